/-
  The library's functions on slices, at the program's types. Printed by genlib.py.
-/
import Derived.Test.YtonmjkmaadgceabGreatOwn2
import Derived.Test.YtonmjkmaadgceabGreatRows
set_option linter.unusedVariables false
set_option linter.defProp false
set_option linter.unusedSimpArgs false
set_option linter.unnecessarySimpa false
set_option maxHeartbeats 4000000
open _root_ renaming DecidableEq->Aa,instDecidableEqProd->Ab,List->Ac,ByteArray->Ah,Array->Am
open Go renaming Value->Ad,World->Ae,Calls->Ag,FuncId->Ai,MemPlace->Al,TypeId->Aq
open List renaming getElem?_eq_none->Aj,take_append_drop->Ak
open Go.DataW renaming trod->Ap
namespace Go.Proofs.YtonmjkmaadgceabGreat
open Go.RowKit _root_.Go.Proofs.Tryz
abbrev ko:=(Ac Ah)
instance decName:Aa ko:=inferInstanceAs (Aa ((Ac Ah)))
def kU:kD ko:=(.slice 9 .str)
def kZ {w:Ae} {cs:Ac Ad} {x:ko} (h:kU.raw w cs x):∃ v0,cs=[v0]/\(kD.slice 9 kD.str).raw w [v0] x:=by
 obtain ⟨_,rfl,bj⟩:=kD.kAc h;exact ⟨_,rfl,bj⟩
abbrev kJ:=ko × Int × Int
instance decMeasurement:Aa kJ:=inferInstanceAs (Aa (ko × Int × Int))
def kL:kD kJ:=.pair kU (.pair .int .int)
def yF {w:Ae} {cs:Ac Ad} {x:kJ} (h:kL.raw w cs x):∃ v0,cs=[v0,.int .i64 x.2.1,.int .i64 x.2.2]/\kU.raw w [v0] x.1/\(kD.slice 9 kD.str).raw w [v0] x.1/\Qi x.2.1/\Qi x.2.2:=by
 exact uK
def yu (x:kJ) (v:Int):kJ:=(x.1,x.2.1,v)
def kEn {x:kJ} (v:Int) (hv:Qi v) {w:Ae} {cs:Ac Ad} {S:Nat->Prop} (h:kL.is true w cs x S):kL.is true w (cs.set 2 (.int .i64 v)) (yu x v) S:=by
 exact uL
abbrev ky:=ko × Int × Int
instance decRoute:Aa ky:=inferInstanceAs (Aa (ko × Int × Int))
def kY:kD ky:=.pair kU (.pair .int .int)
def jM {w:Ae} {cs:Ac Ad} {x:ky} (h:kY.raw w cs x):∃ v0,cs=[v0,.int .i64 x.2.1,.int .i64 x.2.2]/\kU.raw w [v0] x.1/\(kD.slice 9 kD.str).raw w [v0] x.1/\Qi x.2.1/\Qi x.2.2:=by
 exact uK
def kIv (x:ky) (v:Int):ky:=(x.1,x.2.1,v)
def RRoute_set2 {x:ky} (v:Int) (hv:Qi v) {w:Ae} {cs:Ac Ad} {S:Nat->Prop} (h:kY.is true w cs x S):kY.is true w (cs.set 2 (.int .i64 v)) (kIv x v) S:=by
 exact uL
abbrev kW:=Int × Int × Int
instance decRequester:Aa kW:=inferInstanceAs (Aa (Int × Int × Int))
def jA:kD kW:=.pair .int (.pair .int .int)
def yG {w:Ae} {cs:Ac Ad} {x:kW} (h:jA.raw w cs x):cs=[.int .i64 x.1,.int .i64 x.2.1,.int .i64 x.2.2]/\Qi x.1/\Qi x.2.1/\Qi x.2.2:=by
 obtain ⟨_,_,rfl,ad,ag⟩:=kD.yN h;obtain ⟨rfl,bj⟩:=kD.jY ad;obtain ⟨_,_,rfl,a3,F⟩:=kD.yN ag;obtain ⟨rfl,ai⟩:=kD.jY a3;obtain ⟨rfl,bd⟩:=kD.jY F;exact ⟨rfl,bj,ai,bd⟩
abbrev kF:=ko × (Ac kW) × Int
instance decPendingInterest:Aa kF:=inferInstanceAs (Aa (ko × (Ac kW) × Int))
def kH:kD kF:=.pair kU (.pair (.slice 45 jA) .int)
def jQ {w:Ae} {cs:Ac Ad} {x:kF} (h:kH.raw w cs x):∃ v0 v1,cs=[v0,v1,.int .i64 x.2.2]/\kU.raw w [v0] x.1/\(kD.slice 9 kD.str).raw w [v0] x.1/\(kD.slice 45 jA).raw w [v1] x.2.1/\Qi x.2.2:=by
 obtain ⟨_,_,rfl,ad,ag⟩:=kD.yN h;have aj:=kZ ad;obtain ⟨_,rfl,o⟩:=aj;obtain ⟨_,_,rfl,a3,F⟩:=kD.yN ag;obtain ⟨_,rfl,ai⟩:=kD.kAc a3;obtain ⟨rfl,bd⟩:=kD.jY F;exact ⟨_,_,rfl,ad,o,ai,bd⟩
def kAv (x:kF) (v:Int):kF:=(x.1,x.2.1,v)
def kKb {x:kF} (v:Int) (hv:Qi v) {w:Ae} {cs:Ac Ad} {S:Nat->Prop} (h:kH.is true w cs x S):kH.is true w (cs.set 2 (.int .i64 v)) (kAv x v) S:=by
 exact uL
abbrev jH:=ko × Int
instance decSeenNonce:Aa jH:=inferInstanceAs (Aa (ko × Int))
def jG:kD jH:=.pair kU .int
def kEm {w:Ae} {cs:Ac Ad} {x:jH} (h:jG.raw w cs x):∃ v0,cs=[v0,.int .i64 x.2]/\kU.raw w [v0] x.1/\(kD.slice 9 kD.str).raw w [v0] x.1/\Qi x.2:=by
 exact uM
abbrev zh:=ko × Int × Int × Int
instance decInterest:Aa zh:=inferInstanceAs (Aa (ko × Int × Int × Int))
def kLs:kD zh:=.pair kU (.pair .int (.pair .int .int))
def kMw {w:Ae} {cs:Ac Ad} {x:zh} (h:kLs.raw w cs x):∃ v0,cs=[v0,.int .i64 x.2.1,.int .i64 x.2.2.1,.int .i64 x.2.2.2]/\kU.raw w [v0] x.1/\(kD.slice 9 kD.str).raw w [v0] x.1/\Qi x.2.1/\Qi x.2.2.1/\Qi x.2.2.2:=by
 obtain ⟨_,_,rfl,ad,ag⟩:=kD.yN h;have aj:=kZ ad;obtain ⟨_,rfl,o⟩:=aj;obtain ⟨_,_,rfl,a3,F⟩:=kD.yN ag;obtain ⟨rfl,ai⟩:=kD.jY a3;obtain ⟨_,_,rfl,bi,aw⟩:=kD.yN F;obtain ⟨rfl,bd⟩:=kD.jY bi;obtain ⟨rfl,bm⟩:=kD.jY aw;exact ⟨_,rfl,ad,o,ai,bd,bm⟩
abbrev jN:=ko × (Ac UInt8) × ko × Int × Int
instance decData:Aa jN:=(@Ab _ _ (inferInstanceAs (Aa ko)) (@Ab _ _ (inferInstanceAs (Aa (Ac UInt8))) (@Ab _ _ (inferInstanceAs (Aa ko)) (@Ab _ _ (inferInstanceAs (Aa Int)) (inferInstanceAs (Aa Int))))))
def jJ:kD jN:=.pair kU (.pair (.slice 5 .byte) (.pair kU (.pair .int .int)))
def jb {w:Ae} {cs:Ac Ad} {x:jN} (h:jJ.raw w cs x):∃ v0 v1 v2,cs=[v0,v1,v2,.int .i64 x.2.2.2.1,.int .i64 x.2.2.2.2]/\kU.raw w [v0] x.1/\(kD.slice 9 kD.str).raw w [v0] x.1/\(kD.slice 5 kD.byte).raw w [v1] x.2.1/\kU.raw w [v2] x.2.2.1/\(kD.slice 9 kD.str).raw w [v2] x.2.2.1/\Qi x.2.2.2.1/\Qi x.2.2.2.2:=by
 obtain ⟨_,_,rfl,ad,ag⟩:=kD.yN h;have aj:=kZ ad;obtain ⟨_,rfl,o⟩:=aj;obtain ⟨_,_,rfl,a3,F⟩:=kD.yN ag;obtain ⟨_,rfl,ai⟩:=kD.kAc a3;obtain ⟨_,_,rfl,bi,aw⟩:=kD.yN F;have ao:=kZ bi;obtain ⟨_,rfl,D⟩:=ao;obtain ⟨_,_,rfl,a9,bc⟩:=kD.yN aw;obtain ⟨rfl,bm⟩:=kD.jY a9;obtain ⟨rfl,ar⟩:=kD.jY bc;exact ⟨_,_,_,rfl,ad,o,ai,bi,D,bm,ar⟩
def setData_3 (x:jN) (v:Int):jN:=(x.1,x.2.1,x.2.2.1,v,x.2.2.2.2)
def RData_set3 {x:jN} (v:Int) (hv:Qi v) {w:Ae} {cs:Ac Ad} {S:Nat->Prop} (h:jJ.is true w cs x S):jJ.is true w (cs.set 3 (.int .i64 v)) (setData_3 x v) S:=by
 obtain ⟨c0,Y,A0,B0,rfl,Z,X,I,O,J⟩:=h;obtain ⟨c1,N,A1,B1,rfl,L,q1,hA1,H,hd1⟩:=X;obtain ⟨c2,R,A2,U,rfl,p2,q2,hA2,E,aq⟩:=q1;obtain ⟨c3,V,A3,B3,rfl,G,q3,aa,F,ad⟩:=q2;obtain ⟨rfl,_⟩:=G;have l0:=kD.len _ Z;have l1:=kD.len _ L;have l2:=kD.len _ p2;change _=1 at l0;change _=1 at l1;change _=1 at l2;have e:((c0++(c1++(c2++([.int .i64 x.2.2.2.1]++V)))):Ac Ad).set 3 (.int .i64 v)=(c0++(c1++(c2++([.int .i64 v]++V)))):=by
  obtain ⟨o,rfl⟩:∃ o,c0=[o]:=nY;obtain ⟨D,rfl⟩:∃ D,c1=[D]:=nZ;obtain ⟨W,rfl⟩:∃ W,c2=[W]:=pE;rfl
 rw [e];exact ⟨_,_,A0,B0,rfl,Z,⟨_,_,A1,B1,rfl,L,⟨_,_,A2,U,rfl,p2,⟨_,_,A3,B3,rfl,⟨rfl,hv⟩,q3,aa,F,ad⟩,hA2,E,aq⟩,hA1,H,hd1⟩,I,O,J⟩
def setData_4 (x:jN) (v:Int):jN:=(x.1,x.2.1,x.2.2.1,x.2.2.2.1,v)
def RData_set4 {x:jN} (v:Int) (hv:Qi v) {w:Ae} {cs:Ac Ad} {S:Nat->Prop} (h:jJ.is true w cs x S):jJ.is true w (cs.set 4 (.int .i64 v)) (setData_4 x v) S:=by
 obtain ⟨c0,Y,A0,B0,rfl,Z,X,I,O,J⟩:=h;obtain ⟨c1,N,A1,B1,rfl,L,q1,hA1,H,hd1⟩:=X;obtain ⟨c2,R,A2,U,rfl,p2,q2,hA2,E,aq⟩:=q1;obtain ⟨c3,V,A3,B3,rfl,G,q3,aa,F,ad⟩:=q2;obtain ⟨rfl,_⟩:=q3;have l0:=kD.len _ Z;have l1:=kD.len _ L;have l2:=kD.len _ p2;have l3:=kD.len _ G;change _=1 at l0;change _=1 at l1;change _=1 at l2;change _=1 at l3;have e:((c0++(c1++(c2++(c3++[.int .i64 x.2.2.2.2])))):Ac Ad).set 4 (.int .i64 v)=(c0++(c1++(c2++(c3++[.int .i64 v])))):=by
  obtain ⟨o,rfl⟩:∃ o,c0=[o]:=nY;obtain ⟨D,rfl⟩:∃ D,c1=[D]:=nZ;obtain ⟨W,rfl⟩:∃ W,c2=[W]:=pE;obtain ⟨ab,rfl⟩:∃ ab,c3=[ab]:=by match c3,l3 with | [ab],_=>exact ⟨_,rfl⟩
  rfl
 rw [e];exact ⟨_,_,A0,B0,rfl,Z,⟨_,_,A1,B1,rfl,L,⟨_,_,A2,U,rfl,p2,⟨_,_,A3,B3,rfl,G,⟨rfl,hv⟩,aa,F,ad⟩,hA2,E,aq⟩,hA1,H,hd1⟩,I,O,J⟩
abbrev kT:=jN × Int
instance decCacheEntry:Aa kT:=inferInstanceAs (Aa (jN × Int))
def jD:kD kT:=.pair jJ .int
def jq {w:Ae} {cs:Ac Ad} {x:kT} (h:jD.raw w cs x):∃ v0 v1 v2,cs=[v0,v1,v2,.int .i64 x.1.2.2.2.1,.int .i64 x.1.2.2.2.2,.int .i64 x.2]/\jJ.raw w [v0,v1,v2,Qn x.1.2.2.2.1,Qn x.1.2.2.2.2] x.1/\kU.raw w [v0] x.1.1/\(kD.slice 9 kD.str).raw w [v0] x.1.1/\(kD.slice 5 kD.byte).raw w [v1] x.1.2.1/\kU.raw w [v2] x.1.2.2.1/\(kD.slice 9 kD.str).raw w [v2] x.1.2.2.1/\Qi x.1.2.2.2.1/\Qi x.1.2.2.2.2/\Qi x.2:=by
 obtain ⟨_,_,rfl,ad,ag⟩:=kD.yN h;have aj:=jb ad;obtain ⟨_,_,_,rfl,o,I,G,F,H,E,D⟩:=aj;obtain ⟨rfl,ai⟩:=kD.jY ag;exact ⟨_,_,_,rfl,ad,o,I,G,F,H,E,D,ai⟩
def kCc (x:kT) (v:Int):kT:=(x.1,v)
def kQq {x:kT} (v:Int) (hv:Qi v) {w:Ae} {cs:Ac Ad} {S:Nat->Prop} (h:jD.is true w cs x S):jD.is true w (cs.set 5 (.int .i64 v)) (kCc x v) S:=by
 obtain ⟨c0,Y,A0,B0,rfl,Z,X,I,O,J⟩:=h;obtain ⟨rfl,_⟩:=X;have l0:=kD.len _ Z;change _=5 at l0;have e:((c0++[.int .i64 x.2]):Ac Ad).set 5 (.int .i64 v)=(c0++[.int .i64 v]):=by
  obtain ⟨o,F,D,E,G,rfl⟩:∃ o F D E G,c0=[o,F,D,E,G]:=by match c0,l0 with | [o,F,D,E,G],_=>exact ⟨_,_,_,_,_,rfl⟩
  rfl
 rw [e];exact ⟨_,_,A0,B0,rfl,Z,⟨rfl,hv⟩,I,O,J⟩
abbrev kg:=Int × (Ac kT)
instance decContentStore:Aa kg:=inferInstanceAs (Aa (Int × (Ac kT)))
def kN:kD kg:=.pair .int (.slice 111 jD)
def jK {w:Ae} {cs:Ac Ad} {x:kg} (h:kN.raw w cs x):∃ v1,cs=[.int .i64 x.1,v1]/\Qi x.1/\(kD.slice 111 jD).raw w [v1] x.2:=by
 obtain ⟨_,_,rfl,ad,ag⟩:=kD.yN h;obtain ⟨rfl,bj⟩:=kD.jY ad;obtain ⟨_,rfl,ai⟩:=kD.kAc ag;exact ⟨_,rfl,bj,ai⟩
def kOj (x:kg) (v:Int):kg:=(v,x.2)
def kNt {x:kg} (v:Int) (hv:Qi v) {w:Ae} {cs:Ac Ad} {S:Nat->Prop} (h:kN.is true w cs x S):kN.is true w (cs.set 0 (.int .i64 v)) (kOj x v) S:=by
 obtain ⟨c0,Y,A0,B0,rfl,Z,X,I,O,J⟩:=h;obtain ⟨rfl,_⟩:=Z;have e:(([.int .i64 x.1]++Y):Ac Ad).set 0 (.int .i64 v)=([.int .i64 v]++Y):=by
  rfl
 rw [e];exact ⟨_,_,A0,B0,rfl,⟨rfl,hv⟩,X,I,O,J⟩
abbrev yB:=(Ac jN) × kg × (Ac kF) × (Ac jH) × (Ac ky) × (Ac kJ) × Int
instance decNode:Aa yB:=(@Ab _ _ (inferInstanceAs (Aa (Ac jN))) (@Ab _ _ (inferInstanceAs (Aa kg)) (@Ab _ _ (inferInstanceAs (Aa (Ac kF))) (@Ab _ _ (inferInstanceAs (Aa (Ac jH))) (@Ab _ _ (inferInstanceAs (Aa (Ac ky))) (@Ab _ _ (inferInstanceAs (Aa (Ac kJ))) (inferInstanceAs (Aa Int))))))))
def jr:kD yB:=.pair (.slice 68 jJ) (.pair kN (.pair (.slice 43 kH) (.pair (.slice 99 jG) (.pair (.slice 77 kY) (.pair (.slice 108 kL) .int)))))
def yS {w:Ae} {cs:Ac Ad} {x:yB} (h:jr.raw w cs x):∃ v0 v2 v3 v4 v5 v6,cs=[v0,.int .i64 x.2.1.1,v2,v3,v4,v5,v6,.int .i64 x.2.2.2.2.2.2]/\(kD.slice 68 jJ).raw w [v0] x.1/\kN.raw w [Qn x.2.1.1,v2] x.2.1/\Qi x.2.1.1/\(kD.slice 111 jD).raw w [v2] x.2.1.2/\(kD.slice 43 kH).raw w [v3] x.2.2.1/\(kD.slice 99 jG).raw w [v4] x.2.2.2.1/\(kD.slice 77 kY).raw w [v5] x.2.2.2.2.1/\(kD.slice 108 kL).raw w [v6] x.2.2.2.2.2.1/\Qi x.2.2.2.2.2.2:=by
 obtain ⟨_,_,rfl,ad,ag⟩:=kD.yN h;obtain ⟨_,rfl,bj⟩:=kD.kAc ad;obtain ⟨_,_,rfl,a3,F⟩:=kD.yN ag;have ap:=jK a3;obtain ⟨_,rfl,D,o⟩:=ap;obtain ⟨_,_,rfl,bi,aw⟩:=kD.yN F;obtain ⟨_,rfl,bd⟩:=kD.kAc bi;obtain ⟨_,_,rfl,a9,bc⟩:=kD.yN aw;obtain ⟨_,rfl,bm⟩:=kD.kAc a9;obtain ⟨_,_,rfl,az,bn⟩:=kD.yN bc;obtain ⟨_,rfl,ar⟩:=kD.kAc az;obtain ⟨_,_,rfl,ba,bl⟩:=kD.yN bn;obtain ⟨_,rfl,G⟩:=kD.kAc ba;obtain ⟨rfl,E⟩:=kD.jY bl;exact ⟨_,_,_,_,_,_,rfl,bj,a3,D,o,bd,bm,ar,G,E⟩
abbrev kNu:=ko × Int
instance decKey:Aa kNu:=inferInstanceAs (Aa (ko × Int))
def kJg:kD kNu:=.pair kU .int
def kWe {w:Ae} {cs:Ac Ad} {x:kNu} (h:kJg.raw w cs x):∃ v0,cs=[v0,.int .i64 x.2]/\kU.raw w [v0] x.1/\(kD.slice 9 kD.str).raw w [v0] x.1/\Qi x.2:=by
 exact uM
abbrev kBn:=(Ac Ah)
instance decPattern:Aa kBn:=inferInstanceAs (Aa ((Ac Ah)))
def zR:kD kBn:=(.slice 9 .str)
def kFv {w:Ae} {cs:Ac Ad} {x:kBn} (h:zR.raw w cs x):∃ v0,cs=[v0]/\(kD.slice 9 kD.str).raw w [v0] x:=by
 obtain ⟨_,rfl,bj⟩:=kD.kAc h;exact ⟨_,rfl,bj⟩
abbrev kJv:=kBn × kBn
instance decRule:Aa kJv:=inferInstanceAs (Aa (kBn × kBn))
def kLd:kD kJv:=.pair zR zR
def kYu {w:Ae} {cs:Ac Ad} {x:kJv} (h:kLd.raw w cs x):∃ v0 v1,cs=[v0,v1]/\zR.raw w [v0] x.1/\(kD.slice 9 kD.str).raw w [v0] x.1/\zR.raw w [v1] x.2/\(kD.slice 9 kD.str).raw w [v1] x.2:=by
 obtain ⟨_,_,rfl,ad,ag⟩:=kD.yN h;have aj:=kFv ad;obtain ⟨_,rfl,o⟩:=aj;have ap:=kFv ag;obtain ⟨_,rfl,D⟩:=ap;exact ⟨_,_,rfl,ad,o,ag,D⟩
abbrev kCa:=(Ac kNu) × (Ac kJv) × (Ac ko) × (Ac jN)
instance decTrustPolicy:Aa kCa:=inferInstanceAs (Aa ((Ac kNu) × (Ac kJv) × (Ac ko) × (Ac jN)))
def kAz:kD kCa:=.pair (.slice 173 kJg) (.pair (.slice 176 kLd) (.pair (.slice 40 kU) (.slice 68 jJ)))
def kQp {w:Ae} {cs:Ac Ad} {x:kCa} (h:kAz.raw w cs x):∃ v0 v1 v2 v3,cs=[v0,v1,v2,v3]/\(kD.slice 173 kJg).raw w [v0] x.1/\(kD.slice 176 kLd).raw w [v1] x.2.1/\(kD.slice 40 kU).raw w [v2] x.2.2.1/\(kD.slice 68 jJ).raw w [v3] x.2.2.2:=by
 obtain ⟨_,_,rfl,ad,ag⟩:=kD.yN h;obtain ⟨_,rfl,bj⟩:=kD.kAc ad;obtain ⟨_,_,rfl,a3,F⟩:=kD.yN ag;obtain ⟨_,rfl,ai⟩:=kD.kAc a3;obtain ⟨_,_,rfl,bi,aw⟩:=kD.yN F;obtain ⟨_,rfl,bd⟩:=kD.kAc bi;obtain ⟨_,rfl,bm⟩:=kD.kAc aw;exact ⟨_,_,_,_,rfl,bj,ai,bd,bm⟩
end Go.Proofs.YtonmjkmaadgceabGreat
namespace Go.Proofs.YtonmjkmaadgceabGreat
open Go.ChangeShapes Go.WideShapes Go.ChangeAt Go.RowKit Go.Deep _root_.Go.Proofs.Tryz
section
variable {H:Type} {enc:Aq × Ad->H} {P:Program} {w:Ae}
def bridge_byte {T:Aq} (hT:P.underlying T=some (.int .u8)) {fuel:Nat} {cs:Ac Ad} {y:DataW H × Ac Al} (h:Ap enc P w 0 (λ_=>true) true fuel T cs=some y):∃ x,kD.byte.raw w cs x:=by
 obtain ⟨n,rfl,_,hw⟩:=DataW.trod_int hT h;have hn:0<=n/\n<=255:=by simpa [Lit.wf,IntKind.min,IntKind.max,IntKind.signed,IntKind.bits] using hw
 refine ⟨UInt8.ofNat n.toNat,?_⟩;show _=_;have:(UInt8.ofNat n.toNat).toNat=n.toNat:=by rw [UInt8.toNat_ofNat'];omega
 rw [this,Int.toNat_of_nonneg hn.1]
def jAe {α:Type} {r:kD α} {e T E:Aq} (hT:P.underlying T=some (.slice E)) (hn:P.cellsOf E=r.n) (Y:0 < r.n)
    (ih:∀ {fuel:Nat} {cs:Ac Ad} {y:DataW H × Ac Al},Ap enc P w 0 (λ_=>true) true fuel E cs=some y->∃ x,r.raw w cs x)
    {fuel:Nat} {cs:Ac Ad} {y:DataW H × Ac Al} (h:Ap enc P w 0 (λ_=>true) true fuel T cs=some y):∃ xs,(kD.slice e r).raw w cs xs:=by
 rcases open_slice hT h with ⟨rfl,_⟩|⟨a,len,cap,m,n,D,Pl,rfl,_,hl,hm,hmm,_,hx⟩
 · exact ⟨[],none,0,0,rfl,rfl,Nat.le_refl _,Nat.zero_le _,.inl ⟨rfl,by simp⟩⟩
 simp only [if_true] at hmm
 subst hmm
 rw [hn] at hx
 rcases Nat.eq_zero_or_pos len with rfl | hlen
 · exact ⟨[],some a,0,m,rfl,rfl,hl,hm,.inl ⟨rfl,by simp⟩⟩
 have U:∀ i,i < m->∀ j,j < r.n->∃ v,w.cell? ((a.add (i * r.n)).add j)=some v:=by
  intro i hi j I;obtain ⟨cs',h1,h2⟩:=hx i hi;obtain ⟨_,G,hc⟩:=World.cells?_some h1;rw [hc j I,List.getElem?_eq_getElem bC9];exact ⟨_,rfl⟩
 obtain ⟨v0,o⟩:=U 0 bC9 0 Y
 have cg:(a.add (0 * r.n)).add 0=a:=by simp [Addr.add]
 rw [cg] at o
 have L:∃ cur e' fr,w.heap[a.block]?=some (.cells cur e' fr)/\a.spot=none:=by
  unfold World.cell? at o;split at o
  · rename_i c e' fr hb
    refine ⟨c,e',fr,hb,?_⟩;cases hs:a.spot with
    | none=>rfl
    | some s=>simp [hs] at o
  cases o
 obtain ⟨cur,e',fr,hb,hs⟩:=L
 obtain ⟨b,off,O⟩:=a
 simp only at hs hb
 subst hs
 have F:∀ i j,(((⟨b,off,none⟩:Addr).add (i * r.n)).add j)=⟨b,off + i * r.n + j,none⟩:=by
  intro i j;unfold Addr.add;split <;> split <;> simp_all
 have J:∀ i,i < m->∀ j,j < r.n->∃ v,cur[off + i * r.n + j]?=some v:=by
  intro i hi j I;obtain ⟨v,hv⟩:=U i hi j I;rw [F,cell_of_row w b _ cur e' fr hb] at hv;exact ⟨v,hv⟩
 have hsize:off + m * r.n<=cur.size:=by
  obtain ⟨v,hv⟩:=J (m - 1) bC9 (r.n - 1) bC9;have:=(Array.getElem?_eq_some_iff.1 hv).1;have e1:m * r.n=(m - 1) * r.n + r.n:=by
   conv=>lhs;rw [show m=(m - 1) + 1 by omega]
   rw [Nat.add_mul,Nat.one_mul]
  omega
 have hcut:∀ i,i < m->∃ x,r.raw w ((cur.toList.drop (off + i * r.n)).take r.n) x:=by
  intro i hi;obtain ⟨cs',h1,h2⟩:=hx i hi;obtain ⟨_,G,hc⟩:=World.cells?_some h1;have:cs'=(cur.toList.drop (off + i * r.n)).take r.n:=by
   apply List.ext_getElem?;intro j;by_cases I:j < r.n
   · rw [<- hc j I,F,cell_of_row w b _ cur e' fr hb];simp [I,List.getElem?_drop]
   rw [Aj bC9,Aj bC4]
  rw [<- this];exact ih h2
 have hrow:∀ k,k<=len->∃ xs:Ac α,xs.length=k/\kD.row r false w ((cur.toList.drop off).take (k * r.n)) xs (λ_=>True):=by
  intro k;induction k with
  | zero=>intro _;exact ⟨[],rfl,by simp [kD.row]⟩
  | succ k N =>
    intro hk;obtain ⟨xs,b0,hr⟩:=N bC9;obtain ⟨x,ae⟩:=hcut k bC9;refine ⟨xs++[x],by simp [b0],?_⟩;have:(cur.toList.drop off).take ((k + 1) * r.n)=(cur.toList.drop off).take (k * r.n)++(cur.toList.drop (off + k * r.n)).take r.n:=by
      rw [Nat.add_mul,Nat.one_mul,List.take_add,List.drop_drop]
    rw [this];exact kD.kAg hr (kD.kDm ae) (λ_ h=>h) (λ_ h=>h) bD0
 obtain ⟨xs,b0,hr⟩:=hrow len nL
 refine ⟨xs,some ⟨b,off,none⟩,len,m,rfl,b0.symm,hl,hm,.inr ⟨b,off,rfl,cur,e',fr,cur.toList.take off,_,(cur.toList.drop off).drop (len * r.n),hb,?_,?_,hsize,by simp,trivial,kD.yL hr (λ_ _=>⟨trivial,by simp⟩)⟩⟩
 · rw [Ak,Ak]
 simp;omega
def kMh (hl:laidOutB P=true) {W W':Ae} (hb:Qb W W'):∀ {o:Ac Aq} {vs:Ac Ad} {ds:Ac (DataW H)} {ps:Ac Al},(∀ t∈o,P.readableRec t=true/\t < P.types.size) ->
    DataW.TrodAll enc P W 0 (λ_=>true) true o vs ds ps->(∀ x∈ps,x.block < W.heap.size)->DataW.TrodAll enc P W' 0 (λb=>decide (b < W.heap.size)) true o vs ds ps
  | [],[],[],ps,_,h,_=>h
  | t :: o,v :: vs,d :: ds,ps,ht,⟨p,q,h1,h2,h3⟩,hlt=>by
    subst h3;exact ⟨p,q,Below.trod hl (ht t bD0).1 (ht t bD0).2 h1 hb rW,kMh hl hb (λu hu=>ht u (by simp [hu])) h2 rW,rfl⟩
end
def law_own:ownKnob prog.godebug=none:=by kernel_rfl
def law_laidOut:laidOutB prog=true:=by kernel_rfl
def LawPost (w:Ae) (e:Ending) (w':Ae):Prop:=e=.returned (.bool true)/\Qb w w'
def law_post {H:Type} {enc:Aq × Ad->H} {fn:Func} {s:ChangeSpec} {W W':Ae} {args:Am Ad} {ds E:Ac (DataW H)} {o:Ac Al} {tb:Aq}
    (hW:DataW.Whole enc prog fn.params.toList s.vars false W args.toList ds E o) (D:s.vars=[]) (F:fn.resultTypes=#[tb]) (ef:prog.underlying tb=some .bool)
    (X:(s.fn H (ds++E)).results=[.lit (.bool true)]/\(s.fn H (ds++E)).args=ds/\(s.fn H (ds++E)).vars=[])
    (aa:∀ t∈fn.params.toList,prog.readableRec t=true/\t < prog.types.size) (hb:Qb W W') :
    s.post enc prog fn false true false false W args (.bool true) W':=by
 have hlt:∀ p∈o,p.block < W.heap.size:=λp hp=>by simpa using hW.lt p hp
 have G:=hW
 obtain ⟨p,q,hA,hV,rfl,_,_⟩:=hW
 rw [D] at hV
 have I:E=[]/\q=[]:=by
  cases E with
  | nil=>exact ⟨rfl,hV⟩
  | cons g E=>exact hV.elim
 obtain ⟨rfl,rfl⟩:=I
 refine ⟨ds,[],_,[],p,[],G,?_,?_,?_,hb.frame _,λh=>by cases h⟩
 · rw [X.1,F];exact trodAll_cons_mk (shut_bool ef true) trodAll_mk0
 · rw [X.2.1];exact kMh law_laidOut hb aa hA rW
 rw [X.2.2,D]
 rfl
def jAf {H:Type} {enc:Aq × Ad->H} {w:Ae} {fuel:Nat} {cs:Ac Ad} {y:DataW H × Ac Al} (h:Ap enc prog w 0 (λ_=>true) true fuel 22 cs=some y):∃ x,(kD.slice 5 kD.byte).raw w cs x :=
  jAe underlying22 bC3 bC8 (λh=>bridge_byte underlying5 h) h
end Go.Proofs.YtonmjkmaadgceabGreat
namespace Go.Proofs.YtonmjkmaadgceabGreat
open Go.RowKit _root_.Go.Proofs.Tryz
def lawsbig_c {w:Ae} {v:Ad} {O:Ac UInt8} (aw:(kD.slice 5 kD.byte).raw w [v] O) :
    Ag prog 4 #[v] w (bQ w (.bool (decide ((O.length:Int) > 1048576)))):=by
 obtain ⟨ca,cc,rfl,_⟩:=kD.sl aw
 go_enter func4,ntmps4
 go_wp2
 go_ret
 exact ⟨by simp,bR⟩
def idxOf {α:Type} (p:α->Bool) (l:Ac α):Int:=match l.findIdx? p with | some i=>i | none=>-1
def idxOf_hit {α:Type} {p:α->Bool} {x:Ac α} {k:Nat} (hlt:k < x.length) (hp:p x[k]=true) (hno:∀ j,(h:j < k)->(h2:j < x.length)->p x[j]=false):idxOf p x=k:=by
 unfold idxOf;have:x.findIdx? p=some k:=by
  rw [List.findIdx?_eq_some_iff_getElem];exact ⟨hlt,hp,λj I=>by simpa using hno j I bC9⟩
 rw [this]
def idxOf_miss {α:Type} {p:α->Bool} {x:Ac α} {k:Nat} (hlt:¬ k < x.length) (hno:∀ j,(h:j < k)->(h2:j < x.length)->p x[j]=false):idxOf p x=-1:=by
 unfold idxOf;have:x.findIdx? p=none:=by
  rw [List.findIdx?_eq_none_iff];intro y hy;obtain ⟨j,I,rfl⟩:=List.getElem_of_mem hy;simpa using hno j bC9 I
 rw [this]
def kBx {α:Type} {p:α->Bool} {x:Ac α} {k:Nat} (hlt:k < x.length) (hp:p x[k]=false) (hno:∀ j,(h:j < k)->(h2:j < x.length)->p x[j]=false):∀ j,(h:j < k + 1)->(h2:j < x.length)->p x[j]=false:=by
 intro j h h2;by_cases q:j=k
 · subst q;exact hp
 exact hno j bC9 h2
def jI (P:Program) (g:Ai):Prop:=∀ vs W,(callFunc g vs).run P W=.ok (.enter g vs) W
def zQ {P:Program} {g:Ai} {fn:Func} (hf:P.funcs[g]?=some fn) (hn:(fn.name == "runtime.NumGoroutine")=false) (hb:fn.body.isNone=false):jI P g:=by
 intro vs W;have hp:(program:Sem Program).run P W=.ok P W:=rfl;have o:¬ (fn.name = "runtime.NumGoroutine"):=by simpa using hn
 unfold callFunc;simp only [Sem.run_bind,hp,Result.andThen_ok,hf,hn,hb,Bool.false_eq_true,if_false,Sem.run_pure]
def kSx {w:Ae} {va:Ad} {x:Ac Int} {g:Ai} {cp:Am Ad} (p:Int->Bool) (hg:jI prog g) (ha:(kD.slice 3 kD.int).raw w [va] x)
    (ag:∀ wr,Qb w wr->∀ (i:Nat) (h:i < x.length) c,kD.int.raw wr [c] x[i]->Ag prog g (#[c]++cp) wr (λe w'=>e=.returned (.bool (p x[i]))/\Qb wr w')) :
    Ag prog 106 #[va,.func (.func g) #[] cp] w (bQ w (.int .i64 (idxOf p x))):=by
 obtain ⟨aa,al,rfl,la⟩:=kD.sl ha
 have aw:=yD ag;clear ag
 unfold jI at hg
 go_enter func106,ntmps106
 go_wp2
 go_loopw [8] (λi wr=>∃ k:Nat,k<=x.length/\i=.int .i64 k/\(∀ j,(h:j < k)->(h2:j < x.length)->p x[j]=false)/\Qb w wr) (λi _=>x.length - (intOf i).toNat)
 case atStart=>exact ⟨0,Nat.zero_le _,rfl,λ_ h=>by omega,bR⟩
 obtain ⟨k,hk,rfl,hno,o⟩:=hrel
 have HN:=yD hno;clear hno
 by_cases hlt:k < x.length
 · obtain ⟨ba,H,rfl,c0,hr,A0⟩:=kD.kCv (ha.below o) hlt rfl;have C:=aw.out wr o k hlt _ hr;obtain ⟨he,_⟩:=kD.jY hr;exact iX
 exact iY
def kNv {w:Ae} {va:Ad} {x:Ac Ah} {g:Ai} {cp:Am Ad} (p:Ah->Bool) (hg:jI prog g) (ha:(kD.slice 9 kD.str).raw w [va] x)
    (ag:∀ wr,Qb w wr->∀ (i:Nat) (h:i < x.length) c,kD.str.raw wr [c] x[i]->Ag prog g (#[c]++cp) wr (λe w'=>e=.returned (.bool (p x[i]))/\Qb wr w')) :
    Ag prog 153 #[va,.func (.func g) #[] cp] w (bQ w (.int .i64 (idxOf p x))):=by
 obtain ⟨aa,al,rfl,la⟩:=kD.sl ha
 have aw:=yD ag;clear ag
 unfold jI at hg
 go_enter func153,ntmps153
 go_wp2
 go_loopw [8] (λi wr=>∃ k:Nat,k<=x.length/\i=.int .i64 k/\(∀ j,(h:j < k)->(h2:j < x.length)->p x[j]=false)/\Qb w wr) (λi _=>x.length - (intOf i).toNat)
 case atStart=>exact ⟨0,Nat.zero_le _,rfl,λ_ h=>by omega,bR⟩
 obtain ⟨k,hk,rfl,hno,o⟩:=hrel
 have HN:=yD hno;clear hno
 by_cases hlt:k < x.length
 · obtain ⟨ba,H,rfl,c0,hr,A0⟩:=kD.kCv (ha.below o) hlt rfl;have C:=aw.out wr o k hlt _ hr;obtain ⟨he,_⟩:=kD.zi hr;exact iX
 exact iY
def kKd {w:Ae} {va:Ad} {x:Ac Ah} {g:Ai} {cp:Am Ad} (p:Ah->Bool) (hg:jI prog g) (ha:(kD.slice 9 kD.str).raw w [va] x)
    (ag:∀ wr,Qb w wr->∀ (i:Nat) (h:i < x.length) c,kD.str.raw wr [c] x[i]->Ag prog g (#[c]++cp) wr (λe w'=>e=.returned (.bool (p x[i]))/\Qb wr w')) :
    Ag prog 117 #[va,.func (.func g) #[] cp] w (bQ w (.bool (decide (0<=idxOf p x)))):=by
 have aw:=yD ag;clear ag
 go_enter func117,ntmps117
 go_wp2_with fail
 refine (kNv p hg ha aw.out).mono ?_
 rintro e Y ⟨rfl,O⟩
 go_wp2
 go_ret
 exact ⟨rfl,O⟩
def kIn {w:Ae} {va:Ad} {x:Ac kJ} {g:Ai} {cp:Am Ad} (p:kJ->Bool) (hg:jI prog g) (ha:(kD.slice 108 kL).raw w [va] x)
    (ag:∀ wr,Qb w wr->∀ (i:Nat) (h:i < x.length) cs,kL.raw wr cs x[i]->Ag prog g (#[.agg cs.toArray]++cp) wr (λe w'=>e=.returned (.bool (p x[i]))/\Qb wr w')) :
    Ag prog 120 #[va,.func (.func g) #[] cp] w (bQ w (.int .i64 (idxOf p x))):=by
 obtain ⟨aa,al,rfl,la⟩:=kD.sl ha
 have aw:=yD ag;clear ag
 unfold jI at hg
 go_enter func120,ntmps120
 exact iZ
def kGz {w:Ae} {va:Ad} {x:Ac ky} {g:Ai} {cp:Am Ad} (p:ky->Bool) (hg:jI prog g) (ha:(kD.slice 77 kY).raw w [va] x)
    (ag:∀ wr,Qb w wr->∀ (i:Nat) (h:i < x.length) cs,kY.raw wr cs x[i]->Ag prog g (#[.agg cs.toArray]++cp) wr (λe w'=>e=.returned (.bool (p x[i]))/\Qb wr w')) :
    Ag prog 128 #[va,.func (.func g) #[] cp] w (bQ w (.int .i64 (idxOf p x))):=by
 obtain ⟨aa,al,rfl,la⟩:=kD.sl ha
 have aw:=yD ag;clear ag
 unfold jI at hg
 go_enter func128,ntmps128
 exact iZ
def kKc {w:Ae} {va:Ad} {x:Ac kW} {g:Ai} {cp:Am Ad} (p:kW->Bool) (hg:jI prog g) (ha:(kD.slice 45 jA).raw w [va] x)
    (ag:∀ wr,Qb w wr->∀ (i:Nat) (h:i < x.length) cs,jA.raw wr cs x[i]->Ag prog g (#[.agg cs.toArray]++cp) wr (λe w'=>e=.returned (.bool (p x[i]))/\Qb wr w')) :
    Ag prog 101 #[va,.func (.func g) #[] cp] w (bQ w (.int .i64 (idxOf p x))):=by
 obtain ⟨aa,al,rfl,la⟩:=kD.sl ha
 have aw:=yD ag;clear ag
 unfold jI at hg
 go_enter func101,ntmps101
 exact iZ
def kFw {w:Ae} {va:Ad} {x:Ac kF} {g:Ai} {cp:Am Ad} (p:kF->Bool) (hg:jI prog g) (ha:(kD.slice 43 kH).raw w [va] x)
    (ag:∀ wr,Qb w wr->∀ (i:Nat) (h:i < x.length) cs,kH.raw wr cs x[i]->Ag prog g (#[.agg cs.toArray]++cp) wr (λe w'=>e=.returned (.bool (p x[i]))/\Qb wr w')) :
    Ag prog 102 #[va,.func (.func g) #[] cp] w (bQ w (.int .i64 (idxOf p x))):=by
 obtain ⟨aa,al,rfl,la⟩:=kD.sl ha
 have aw:=yD ag;clear ag
 unfold jI at hg
 go_enter func102,ntmps102
 exact iZ
def kQr {w:Ae} {va:Ad} {x:Ac jN} {g:Ai} {cp:Am Ad} (p:jN->Bool) (hg:jI prog g) (ha:(kD.slice 68 jJ).raw w [va] x)
    (ag:∀ wr,Qb w wr->∀ (i:Nat) (h:i < x.length) cs,jJ.raw wr cs x[i]->Ag prog g (#[.agg cs.toArray]++cp) wr (λe w'=>e=.returned (.bool (p x[i]))/\Qb wr w')) :
    Ag prog 84 #[va,.func (.func g) #[] cp] w (bQ w (.int .i64 (idxOf p x))):=by
 obtain ⟨aa,al,rfl,la⟩:=kD.sl ha
 have aw:=yD ag;clear ag
 unfold jI at hg
 go_enter func84,ntmps84
 go_wp2
 go_loopw [8] (λi wr=>∃ k:Nat,k<=x.length/\i=.int .i64 k/\(∀ j,(h:j < k)->(h2:j < x.length)->p x[j]=false)/\Qb w wr) (λi _=>x.length - (intOf i).toNat)
 case atStart=>exact ⟨0,Nat.zero_le _,rfl,λ_ h=>by omega,bR⟩
 obtain ⟨k,hk,rfl,hno,o⟩:=hrel
 have HN:=yD hno;clear hno
 by_cases hlt:k < x.length
 · obtain ⟨ba,H,rfl,c0,c1,c2,c3,c4,hr,A0,A1,A2,A3,A4⟩:=kD.get5 (ha.below o) hlt rfl;exact l5
 exact iY
def kJh {w:Ae} {va:Ad} {x:Ac kT} {g:Ai} {cp:Am Ad} (p:kT->Bool) (hg:jI prog g) (ha:(kD.slice 111 jD).raw w [va] x)
    (ag:∀ wr,Qb w wr->∀ (i:Nat) (h:i < x.length) cs,jD.raw wr cs x[i]->Ag prog g (#[.agg cs.toArray]++cp) wr (λe w'=>e=.returned (.bool (p x[i]))/\Qb wr w')) :
    Ag prog 127 #[va,.func (.func g) #[] cp] w (bQ w (.int .i64 (idxOf p x))):=by
 obtain ⟨aa,al,rfl,la⟩:=kD.sl ha
 have aw:=yD ag;clear ag
 unfold jI at hg
 go_enter func127,ntmps127
 go_wp2
 go_loopw [8] (λi wr=>∃ k:Nat,k<=x.length/\i=.int .i64 k/\(∀ j,(h:j < k)->(h2:j < x.length)->p x[j]=false)/\Qb w wr) (λi _=>x.length - (intOf i).toNat)
 case atStart=>exact ⟨0,Nat.zero_le _,rfl,λ_ h=>by omega,bR⟩
 obtain ⟨k,hk,rfl,hno,o⟩:=hrel
 have HN:=yD hno;clear hno
 by_cases hlt:k < x.length
 · obtain ⟨ba,H,rfl,c0,c1,c2,c3,c4,c5,hr,A0,A1,A2,A3,A4,A5⟩:=kD.get6 (ha.below o) hlt rfl;exact l5
 exact iY
def kGs {w:Ae} {va:Ad} {x:Ac kT} {g:Ai} {cp:Am Ad} (p:kT->Bool) (hg:jI prog g) (ha:(kD.slice 111 jD).raw w [va] x)
    (ag:∀ wr,Qb w wr->∀ (i:Nat) (h:i < x.length) cs,jD.raw wr cs x[i]->Ag prog g (#[.agg cs.toArray]++cp) wr (λe w'=>e=.returned (.bool (p x[i]))/\Qb wr w')) :
    Ag prog 87 #[va,.func (.func g) #[] cp] w (bQ w (.bool (decide (0<=idxOf p x)))):=by
 have aw:=yD ag;clear ag
 go_enter func87,ntmps87
 go_wp2_with fail
 refine (kJh p hg ha aw.out).mono ?_
 rintro e Y ⟨rfl,O⟩
 go_wp2
 go_ret
 exact ⟨rfl,O⟩
end Go.Proofs.YtonmjkmaadgceabGreat

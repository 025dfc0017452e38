/-
  A region that draws its order, walked in the order of its text: operations that only read are taken first; at each other operation it alone may come up. No program in sight.
-/
import Derived.Test.YtjhfdpopkkmigaaGreatOwn2
import Derived.Test.YtjhfdpopkkmigaaGreatRows
set_option linter.unusedVariables false
set_option linter.defProp false
set_option linter.unusedSimpArgs false
set_option linter.unnecessarySimpa false
open _root_ renaming DecidableEq->Aa,List->Ab,instDecidableEqProd->Ad,Array->Ak,decide_eq_true_eq->Am,beq_iff_eq->Bc,ByteArray->Bh
open Go renaming World->Ac,Value->Ah,Oper->Aq,MemPlace->Aw,wpList->Bb,yielded->Be,TypeId->Bi,Program->Bn
open Bool renaming and_eq_true->Ae,false_ne_true->Bd
open Go.Region renaming ready->Ag,Mode->Ai,noSelect->Aj,wanted->Al,chainB->Az,sinkB->Bg,free->Bj,seqB->Bl
open Array renaming replicate->Ap,getElem?_eq_getElem->Ar
open List renaming getElem?_eq_none->Au,take_append_drop->Av
open Go.Code renaming region->Ay
open Go.DataW renaming trod->Ba
open Go.Act renaming put->Bf
namespace Go.Proofs.YtjhfdpopkkmigaaGreat
open Go.RowKit _root_.Go.Proofs.Tryz
abbrev kr:=(Ab Bh)
instance decName:Aa kr:=inferInstanceAs (Aa ((Ab Bh)))
def kW:kD kr:=(.slice 9 .str)
def ko {w:Ac} {cs:Ab Ah} {x:kr} (h:kW.raw w cs x):∃ v0,cs=[v0]/\(kD.slice 9 kD.str).raw w [v0] x:=by
 obtain ⟨_,rfl,bl⟩:=kD.kAd h;exact ⟨_,rfl,bl⟩
abbrev kT:=kr × Int × Int
instance decMeasurement:Aa kT:=inferInstanceAs (Aa (kr × Int × Int))
def kL:kD kT:=.pair kW (.pair .int .int)
def jh {w:Ac} {cs:Ab Ah} {x:kT} (h:kL.raw w cs x):∃ v0,cs=[v0,.int .i64 x.2.1,.int .i64 x.2.2]/\kW.raw w [v0] x.1/\(kD.slice 9 kD.str).raw w [v0] x.1/\Qi x.2.1/\Qi x.2.2:=by
 exact uG
def zg (x:kT) (v:Int):kT:=(x.1,x.2.1,v)
def kHe {x:kT} (v:Int) (hv:Qi v) {w:Ac} {cs:Ab Ah} {S:Nat->Prop} (h:kL.is true w cs x S):kL.is true w (cs.set 2 (.int .i64 v)) (zg x v) S:=by
 exact uH
abbrev kz:=kr × Int × Int
instance decRoute:Aa kz:=inferInstanceAs (Aa (kr × Int × Int))
def kS:kD kz:=.pair kW (.pair .int .int)
def jJ {w:Ac} {cs:Ab Ah} {x:kz} (h:kS.raw w cs x):∃ v0,cs=[v0,.int .i64 x.2.1,.int .i64 x.2.2]/\kW.raw w [v0] x.1/\(kD.slice 9 kD.str).raw w [v0] x.1/\Qi x.2.1/\Qi x.2.2:=by
 exact uG
def kJa (x:kz) (v:Int):kz:=(x.1,x.2.1,v)
def RRoute_set2 {x:kz} (v:Int) (hv:Qi v) {w:Ac} {cs:Ab Ah} {S:Nat->Prop} (h:kS.is true w cs x S):kS.is true w (cs.set 2 (.int .i64 v)) (kJa x v) S:=by
 exact uH
abbrev jA:=Int × Int × Int
instance decRequester:Aa jA:=inferInstanceAs (Aa (Int × Int × Int))
def jN:kD jA:=.pair .int (.pair .int .int)
def yz {w:Ac} {cs:Ab Ah} {x:jA} (h:jN.raw w cs x):cs=[.int .i64 x.1,.int .i64 x.2.1,.int .i64 x.2.2]/\Qi x.1/\Qi x.2.1/\Qi x.2.2:=by
 obtain ⟨_,_,rfl,G,al⟩:=kD.yH h;obtain ⟨rfl,bl⟩:=kD.jb G;obtain ⟨_,_,rfl,aq,aa⟩:=kD.yH al;obtain ⟨rfl,ai⟩:=kD.jb aq;obtain ⟨rfl,bf⟩:=kD.jb aa;exact ⟨rfl,bl,ai,bf⟩
abbrev kI:=kr × (Ab jA) × Int
instance decPendingInterest:Aa kI:=inferInstanceAs (Aa (kr × (Ab jA) × Int))
def kJ:kD kI:=.pair kW (.pair (.slice 147 jN) .int)
def jT {w:Ac} {cs:Ab Ah} {x:kI} (h:kJ.raw w cs x):∃ v0 v1,cs=[v0,v1,.int .i64 x.2.2]/\kW.raw w [v0] x.1/\(kD.slice 9 kD.str).raw w [v0] x.1/\(kD.slice 147 jN).raw w [v1] x.2.1/\Qi x.2.2:=by
 obtain ⟨_,_,rfl,G,al⟩:=kD.yH h;have ag:=ko G;obtain ⟨_,rfl,o⟩:=ag;obtain ⟨_,_,rfl,aq,aa⟩:=kD.yH al;obtain ⟨_,rfl,ai⟩:=kD.kAd aq;obtain ⟨rfl,bf⟩:=kD.jb aa;exact ⟨_,_,rfl,G,o,ai,bf⟩
def kAv (x:kI) (v:Int):kI:=(x.1,x.2.1,v)
def kKc {x:kI} (v:Int) (hv:Qi v) {w:Ac} {cs:Ab Ah} {S:Nat->Prop} (h:kJ.is true w cs x S):kJ.is true w (cs.set 2 (.int .i64 v)) (kAv x v) S:=by
 exact uH
abbrev jK:=kr × Int
instance decSeenNonce:Aa jK:=inferInstanceAs (Aa (kr × Int))
def jE:kD jK:=.pair kW .int
def kAb {w:Ac} {cs:Ab Ah} {x:jK} (h:jE.raw w cs x):∃ v0,cs=[v0,.int .i64 x.2]/\kW.raw w [v0] x.1/\(kD.slice 9 kD.str).raw w [v0] x.1/\Qi x.2:=by
 exact uI
abbrev zh:=kr × Int × Int × Int
instance decInterest:Aa zh:=inferInstanceAs (Aa (kr × Int × Int × Int))
def kLv:kD zh:=.pair kW (.pair .int (.pair .int .int))
def kNa {w:Ac} {cs:Ab Ah} {x:zh} (h:kLv.raw w cs x):∃ v0,cs=[v0,.int .i64 x.2.1,.int .i64 x.2.2.1,.int .i64 x.2.2.2]/\kW.raw w [v0] x.1/\(kD.slice 9 kD.str).raw w [v0] x.1/\Qi x.2.1/\Qi x.2.2.1/\Qi x.2.2.2:=by
 obtain ⟨_,_,rfl,G,al⟩:=kD.yH h;have ag:=ko G;obtain ⟨_,rfl,o⟩:=ag;obtain ⟨_,_,rfl,aq,aa⟩:=kD.yH al;obtain ⟨rfl,ai⟩:=kD.jb aq;obtain ⟨_,_,rfl,ba,bd⟩:=kD.yH aa;obtain ⟨rfl,bf⟩:=kD.jb ba;obtain ⟨rfl,bp⟩:=kD.jb bd;exact ⟨_,rfl,G,o,ai,bf,bp⟩
abbrev jL:=kr × (Ab UInt8) × kr × Int × Int
instance decData:Aa jL:=(@Ad _ _ (inferInstanceAs (Aa kr)) (@Ad _ _ (inferInstanceAs (Aa (Ab UInt8))) (@Ad _ _ (inferInstanceAs (Aa kr)) (@Ad _ _ (inferInstanceAs (Aa Int)) (inferInstanceAs (Aa Int))))))
def jF:kD jL:=.pair kW (.pair (.slice 5 .byte) (.pair kW (.pair .int .int)))
def jM {w:Ac} {cs:Ab Ah} {x:jL} (h:jF.raw w cs x):∃ v0 v1 v2,cs=[v0,v1,v2,.int .i64 x.2.2.2.1,.int .i64 x.2.2.2.2]/\kW.raw w [v0] x.1/\(kD.slice 9 kD.str).raw w [v0] x.1/\(kD.slice 5 kD.byte).raw w [v1] x.2.1/\kW.raw w [v2] x.2.2.1/\(kD.slice 9 kD.str).raw w [v2] x.2.2.1/\Qi x.2.2.2.1/\Qi x.2.2.2.2:=by
 obtain ⟨_,_,rfl,G,al⟩:=kD.yH h;have ag:=ko G;obtain ⟨_,rfl,o⟩:=ag;obtain ⟨_,_,rfl,aq,aa⟩:=kD.yH al;obtain ⟨_,rfl,ai⟩:=kD.kAd aq;obtain ⟨_,_,rfl,ba,bd⟩:=kD.yH aa;have ao:=ko ba;obtain ⟨_,rfl,D⟩:=ao;obtain ⟨_,_,rfl,a3,bo⟩:=kD.yH bd;obtain ⟨rfl,bp⟩:=kD.jb a3;obtain ⟨rfl,ap⟩:=kD.jb bo;exact ⟨_,_,_,rfl,G,o,ai,ba,D,bp,ap⟩
def setData_3 (x:jL) (v:Int):jL:=(x.1,x.2.1,x.2.2.1,v,x.2.2.2.2)
def RData_set3 {x:jL} (v:Int) (hv:Qi v) {w:Ac} {cs:Ab Ah} {S:Nat->Prop} (h:jF.is true w cs x S):jF.is true w (cs.set 3 (.int .i64 v)) (setData_3 x v) S:=by
 obtain ⟨c0,Z,A0,Y,rfl,p0,V,I,N,L⟩:=h;obtain ⟨c1,H,A1,B1,rfl,p1,q1,hA1,F,hd1⟩:=V;obtain ⟨c2,O,A2,B2,rfl,p2,q2,hA2,E,al⟩:=q1;obtain ⟨c3,R,A3,B3,rfl,J,q3,aa,G,an⟩:=q2;obtain ⟨rfl,_⟩:=J;have l0:=kD.len _ p0;have l1:=kD.len _ p1;have l2:=kD.len _ p2;change _=1 at l0;change _=1 at l1;change _=1 at l2;have e:((c0++(c1++(c2++([.int .i64 x.2.2.2.1]++R)))):Ab Ah).set 3 (.int .i64 v)=(c0++(c1++(c2++([.int .i64 v]++R)))):=by
  obtain ⟨o,rfl⟩:∃ o,c0=[o]:=pK;obtain ⟨D,rfl⟩:∃ D,c1=[D]:=pM;obtain ⟨U,rfl⟩:∃ U,c2=[U]:=pQ;rfl
 rw [e];exact ⟨_,_,A0,Y,rfl,p0,⟨_,_,A1,B1,rfl,p1,⟨_,_,A2,B2,rfl,p2,⟨_,_,A3,B3,rfl,⟨rfl,hv⟩,q3,aa,G,an⟩,hA2,E,al⟩,hA1,F,hd1⟩,I,N,L⟩
def setData_4 (x:jL) (v:Int):jL:=(x.1,x.2.1,x.2.2.1,x.2.2.2.1,v)
def RData_set4 {x:jL} (v:Int) (hv:Qi v) {w:Ac} {cs:Ab Ah} {S:Nat->Prop} (h:jF.is true w cs x S):jF.is true w (cs.set 4 (.int .i64 v)) (setData_4 x v) S:=by
 obtain ⟨c0,Z,A0,Y,rfl,p0,V,I,N,L⟩:=h;obtain ⟨c1,H,A1,B1,rfl,p1,q1,hA1,F,hd1⟩:=V;obtain ⟨c2,O,A2,B2,rfl,p2,q2,hA2,E,al⟩:=q1;obtain ⟨c3,R,A3,B3,rfl,J,q3,aa,G,an⟩:=q2;obtain ⟨rfl,_⟩:=q3;have l0:=kD.len _ p0;have l1:=kD.len _ p1;have l2:=kD.len _ p2;have l3:=kD.len _ J;change _=1 at l0;change _=1 at l1;change _=1 at l2;change _=1 at l3;have e:((c0++(c1++(c2++(c3++[.int .i64 x.2.2.2.2])))):Ab Ah).set 4 (.int .i64 v)=(c0++(c1++(c2++(c3++[.int .i64 v])))):=by
  obtain ⟨o,rfl⟩:∃ o,c0=[o]:=pK;obtain ⟨D,rfl⟩:∃ D,c1=[D]:=pM;obtain ⟨U,rfl⟩:∃ U,c2=[U]:=pQ;obtain ⟨W,rfl⟩:∃ W,c3=[W]:=by match c3,l3 with | [W],_=>exact ⟨_,rfl⟩
  rfl
 rw [e];exact ⟨_,_,A0,Y,rfl,p0,⟨_,_,A1,B1,rfl,p1,⟨_,_,A2,B2,rfl,p2,⟨_,_,A3,B3,rfl,J,⟨rfl,hv⟩,aa,G,an⟩,hA2,E,al⟩,hA1,F,hd1⟩,I,N,L⟩
abbrev kZ:=jL × Int
instance decCacheEntry:Aa kZ:=inferInstanceAs (Aa (jL × Int))
def jC:kD kZ:=.pair jF .int
def jV {w:Ac} {cs:Ab Ah} {x:kZ} (h:jC.raw w cs x):∃ v0 v1 v2,cs=[v0,v1,v2,.int .i64 x.1.2.2.2.1,.int .i64 x.1.2.2.2.2,.int .i64 x.2]/\jF.raw w [v0,v1,v2,Qn x.1.2.2.2.1,Qn x.1.2.2.2.2] x.1/\kW.raw w [v0] x.1.1/\(kD.slice 9 kD.str).raw w [v0] x.1.1/\(kD.slice 5 kD.byte).raw w [v1] x.1.2.1/\kW.raw w [v2] x.1.2.2.1/\(kD.slice 9 kD.str).raw w [v2] x.1.2.2.1/\Qi x.1.2.2.2.1/\Qi x.1.2.2.2.2/\Qi x.2:=by
 obtain ⟨_,_,rfl,G,al⟩:=kD.yH h;have ag:=jM G;obtain ⟨_,_,_,rfl,o,J,H,F,I,E,D⟩:=ag;obtain ⟨rfl,ai⟩:=kD.jb al;exact ⟨_,_,_,rfl,G,o,J,H,F,I,E,D,ai⟩
def kBw (x:kZ) (v:Int):kZ:=(x.1,v)
def kQx {x:kZ} (v:Int) (hv:Qi v) {w:Ac} {cs:Ab Ah} {S:Nat->Prop} (h:jC.is true w cs x S):jC.is true w (cs.set 5 (.int .i64 v)) (kBw x v) S:=by
 obtain ⟨c0,Z,A0,Y,rfl,p0,V,I,N,L⟩:=h;obtain ⟨rfl,_⟩:=V;have l0:=kD.len _ p0;change _=5 at l0;have e:((c0++[.int .i64 x.2]):Ab Ah).set 5 (.int .i64 v)=(c0++[.int .i64 v]):=by
  obtain ⟨o,F,D,E,G,rfl⟩:∃ o F D E G,c0=[o,F,D,E,G]:=by match c0,l0 with | [o,F,D,E,G],_=>exact ⟨_,_,_,_,_,rfl⟩
  rfl
 rw [e];exact ⟨_,_,A0,Y,rfl,p0,⟨rfl,hv⟩,I,N,L⟩
abbrev kg:=Int × (Ab kZ)
instance decContentStore:Aa kg:=inferInstanceAs (Aa (Int × (Ab kZ)))
def kP:kD kg:=.pair .int (.slice 122 jC)
def jI {w:Ac} {cs:Ab Ah} {x:kg} (h:kP.raw w cs x):∃ v1,cs=[.int .i64 x.1,v1]/\Qi x.1/\(kD.slice 122 jC).raw w [v1] x.2:=by
 obtain ⟨_,_,rfl,G,al⟩:=kD.yH h;obtain ⟨rfl,bl⟩:=kD.jb G;obtain ⟨_,rfl,ai⟩:=kD.kAd al;exact ⟨_,rfl,bl,ai⟩
def kOs (x:kg) (v:Int):kg:=(v,x.2)
def kOa {x:kg} (v:Int) (hv:Qi v) {w:Ac} {cs:Ab Ah} {S:Nat->Prop} (h:kP.is true w cs x S):kP.is true w (cs.set 0 (.int .i64 v)) (kOs x v) S:=by
 obtain ⟨c0,Z,A0,Y,rfl,p0,V,I,N,L⟩:=h;obtain ⟨rfl,_⟩:=p0;have e:(([.int .i64 x.1]++Z):Ab Ah).set 0 (.int .i64 v)=([.int .i64 v]++Z):=by
  rfl
 rw [e];exact ⟨_,_,A0,Y,rfl,⟨rfl,hv⟩,V,I,N,L⟩
abbrev jq:=(Ab jL) × kg × (Ab kI) × (Ab jK) × (Ab kz) × (Ab kT) × Int
instance decNode:Aa jq:=(@Ad _ _ (inferInstanceAs (Aa (Ab jL))) (@Ad _ _ (inferInstanceAs (Aa kg)) (@Ad _ _ (inferInstanceAs (Aa (Ab kI))) (@Ad _ _ (inferInstanceAs (Aa (Ab jK))) (@Ad _ _ (inferInstanceAs (Aa (Ab kz))) (@Ad _ _ (inferInstanceAs (Aa (Ab kT))) (inferInstanceAs (Aa Int))))))))
def je:kD jq:=.pair (.slice 38 jF) (.pair kP (.pair (.slice 145 kJ) (.pair (.slice 102 jE) (.pair (.slice 131 kS) (.pair (.slice 149 kL) .int)))))
def yB {w:Ac} {cs:Ab Ah} {x:jq} (h:je.raw w cs x):∃ v0 v2 v3 v4 v5 v6,cs=[v0,.int .i64 x.2.1.1,v2,v3,v4,v5,v6,.int .i64 x.2.2.2.2.2.2]/\(kD.slice 38 jF).raw w [v0] x.1/\kP.raw w [Qn x.2.1.1,v2] x.2.1/\Qi x.2.1.1/\(kD.slice 122 jC).raw w [v2] x.2.1.2/\(kD.slice 145 kJ).raw w [v3] x.2.2.1/\(kD.slice 102 jE).raw w [v4] x.2.2.2.1/\(kD.slice 131 kS).raw w [v5] x.2.2.2.2.1/\(kD.slice 149 kL).raw w [v6] x.2.2.2.2.2.1/\Qi x.2.2.2.2.2.2:=by
 obtain ⟨_,_,rfl,G,al⟩:=kD.yH h;obtain ⟨_,rfl,bl⟩:=kD.kAd G;obtain ⟨_,_,rfl,aq,aa⟩:=kD.yH al;have ak:=jI aq;obtain ⟨_,rfl,D,o⟩:=ak;obtain ⟨_,_,rfl,ba,bd⟩:=kD.yH aa;obtain ⟨_,rfl,bf⟩:=kD.kAd ba;obtain ⟨_,_,rfl,a3,bo⟩:=kD.yH bd;obtain ⟨_,rfl,bp⟩:=kD.kAd a3;obtain ⟨_,_,rfl,au,cv⟩:=kD.yH bo;obtain ⟨_,rfl,ap⟩:=kD.kAd au;obtain ⟨_,_,rfl,a4,cm⟩:=kD.yH cv;obtain ⟨_,rfl,F⟩:=kD.kAd a4;obtain ⟨rfl,E⟩:=kD.jb cm;exact ⟨_,_,_,_,_,_,rfl,bl,aq,D,o,bf,bp,ap,F,E⟩
abbrev kOb:=kr × Int
instance decKey:Aa kOb:=inferInstanceAs (Aa (kr × Int))
def kJh:kD kOb:=.pair kW .int
def kWx {w:Ac} {cs:Ab Ah} {x:kOb} (h:kJh.raw w cs x):∃ v0,cs=[v0,.int .i64 x.2]/\kW.raw w [v0] x.1/\(kD.slice 9 kD.str).raw w [v0] x.1/\Qi x.2:=by
 exact uI
abbrev kBn:=(Ab Bh)
instance decPattern:Aa kBn:=inferInstanceAs (Aa ((Ab Bh)))
def zP:kD kBn:=(.slice 9 .str)
def kFy {w:Ac} {cs:Ab Ah} {x:kBn} (h:zP.raw w cs x):∃ v0,cs=[v0]/\(kD.slice 9 kD.str).raw w [v0] x:=by
 obtain ⟨_,rfl,bl⟩:=kD.kAd h;exact ⟨_,rfl,bl⟩
abbrev kJy:=kBn × kBn
instance decRule:Aa kJy:=inferInstanceAs (Aa (kBn × kBn))
def kLc:kD kJy:=.pair zP zP
def kZh {w:Ac} {cs:Ab Ah} {x:kJy} (h:kLc.raw w cs x):∃ v0 v1,cs=[v0,v1]/\zP.raw w [v0] x.1/\(kD.slice 9 kD.str).raw w [v0] x.1/\zP.raw w [v1] x.2/\(kD.slice 9 kD.str).raw w [v1] x.2:=by
 obtain ⟨_,_,rfl,G,al⟩:=kD.yH h;have ag:=kFy G;obtain ⟨_,rfl,o⟩:=ag;have ak:=kFy al;obtain ⟨_,rfl,D⟩:=ak;exact ⟨_,_,rfl,G,o,al,D⟩
abbrev kBu:=(Ab kOb) × (Ab kJy) × (Ab kr) × (Ab jL)
instance decTrustPolicy:Aa kBu:=inferInstanceAs (Aa ((Ab kOb) × (Ab kJy) × (Ab kr) × (Ab jL)))
def kAy:kD kBu:=.pair (.slice 199 kJh) (.pair (.slice 202 kLc) (.pair (.slice 36 kW) (.slice 38 jF)))
def kQw {w:Ac} {cs:Ab Ah} {x:kBu} (h:kAy.raw w cs x):∃ v0 v1 v2 v3,cs=[v0,v1,v2,v3]/\(kD.slice 199 kJh).raw w [v0] x.1/\(kD.slice 202 kLc).raw w [v1] x.2.1/\(kD.slice 36 kW).raw w [v2] x.2.2.1/\(kD.slice 38 jF).raw w [v3] x.2.2.2:=by
 obtain ⟨_,_,rfl,G,al⟩:=kD.yH h;obtain ⟨_,rfl,bl⟩:=kD.kAd G;obtain ⟨_,_,rfl,aq,aa⟩:=kD.yH al;obtain ⟨_,rfl,ai⟩:=kD.kAd aq;obtain ⟨_,_,rfl,ba,bd⟩:=kD.yH aa;obtain ⟨_,rfl,bf⟩:=kD.kAd ba;obtain ⟨_,rfl,bp⟩:=kD.kAd bd;exact ⟨_,_,_,_,rfl,bl,ai,bf,bp⟩
end Go.Proofs.YtjhfdpopkkmigaaGreat
namespace Go.Proofs.YtjhfdpopkkmigaaGreat
open Go.ChangeShapes Go.WideShapes Go.ChangeAt Go.RowKit Go.Deep _root_.Go.Proofs.Tryz
section
variable {H:Type} {enc:Bi × Ah->H} {P:Bn} {w:Ac}
def bridge_byte {T:Bi} (N:P.underlying T=some (.int .u8)) {fuel:Nat} {cs:Ab Ah} {y:DataW H × Ab Aw} (h:Ba enc P w 0 (λ_=>true) true fuel T cs=some y):∃ x,kD.byte.raw w cs x:=by
 obtain ⟨n,rfl,_,hw⟩:=DataW.trod_int N h;have hn:0<=n/\n<=255:=by simpa [Lit.wf,IntKind.min,IntKind.max,IntKind.signed,IntKind.bits] using hw
 refine ⟨UInt8.ofNat n.toNat,?_⟩;show _=_;have:(UInt8.ofNat n.toNat).toNat=n.toNat:=by rw [UInt8.toNat_ofNat'];omega
 rw [this,Int.toNat_of_nonneg hn.1]
def jAt {α:Type} {r:kD α} {e T E:Bi} (N:P.underlying T=some (.slice E)) (hn:P.cellsOf E=r.n) (G:0 < r.n)
    (ih:∀ {fuel:Nat} {cs:Ab Ah} {y:DataW H × Ab Aw},Ba enc P w 0 (λ_=>true) true fuel E cs=some y->∃ x,r.raw w cs x)
    {fuel:Nat} {cs:Ab Ah} {y:DataW H × Ab Aw} (h:Ba enc P w 0 (λ_=>true) true fuel T cs=some y):∃ xs,(kD.slice e r).raw w cs xs:=by
 rcases open_slice N h with ⟨rfl,_⟩|⟨a,len,cap,m,n,D,Pl,rfl,_,hl,hm,hmm,_,hx⟩
 · exact ⟨[],none,0,0,rfl,rfl,Nat.le_refl _,Nat.zero_le _,.inl ⟨rfl,by simp⟩⟩
 simp only [if_true] at hmm
 subst hmm
 rw [hn] at hx
 rcases Nat.eq_zero_or_pos len with rfl | hlen
 · exact ⟨[],some a,0,m,rfl,rfl,hl,hm,.inl ⟨rfl,by simp⟩⟩
 have Y:∀ i,i < m->∀ j,j < r.n->∃ v,w.cell? ((a.add (i * r.n)).add j)=some v:=by
  intro i hi j I;obtain ⟨cs',h1,h2⟩:=hx i hi;obtain ⟨_,O,hc⟩:=World.cells?_some h1;rw [hc j I,List.getElem?_eq_getElem bD1];exact ⟨_,rfl⟩
 obtain ⟨v0,J⟩:=Y 0 bD1 0 G
 have cl:(a.add (0 * r.n)).add 0=a:=by simp [Addr.add]
 rw [cl] at J
 have U:∃ cur e' fr,w.heap[a.block]?=some (.cells cur e' fr)/\a.spot=none:=by
  unfold World.cell? at J;split at J
  · rename_i c e' fr hb
    refine ⟨c,e',fr,hb,?_⟩;cases hs:a.spot with
    | none=>rfl
    | some s=>simp [hs] at J
  cases J
 obtain ⟨cur,e',fr,hb,hs⟩:=U
 obtain ⟨b,off,R⟩:=a
 simp only at hs hb
 subst hs
 have F:∀ i j,(((⟨b,off,none⟩:Addr).add (i * r.n)).add j)=⟨b,off + i * r.n + j,none⟩:=by
  intro i j;unfold Addr.add;split <;> split <;> simp_all
 have o:∀ i,i < m->∀ j,j < r.n->∃ v,cur[off + i * r.n + j]?=some v:=by
  intro i hi j I;obtain ⟨v,hv⟩:=Y i hi j I;rw [F,cell_of_row w b _ cur e' fr hb] at hv;exact ⟨v,hv⟩
 have hsize:off + m * r.n<=cur.size:=by
  obtain ⟨v,hv⟩:=o (m - 1) bD1 (r.n - 1) bD1;have:=(Array.getElem?_eq_some_iff.1 hv).1;have e1:m * r.n=(m - 1) * r.n + r.n:=by
   conv=>lhs;rw [show m=(m - 1) + 1 by omega]
   rw [Nat.add_mul,Nat.one_mul]
  omega
 have hcut:∀ i,i < m->∃ x,r.raw w ((cur.toList.drop (off + i * r.n)).take r.n) x:=by
  intro i hi;obtain ⟨cs',h1,h2⟩:=hx i hi;obtain ⟨_,O,hc⟩:=World.cells?_some h1;have:cs'=(cur.toList.drop (off + i * r.n)).take r.n:=by
   apply List.ext_getElem?;intro j;by_cases I:j < r.n
   · rw [<- hc j I,F,cell_of_row w b _ cur e' fr hb];simp [I,List.getElem?_drop]
   rw [Au bD1,Au bC6]
  rw [<- this];exact ih h2
 have hrow:∀ k,k<=len->∃ xs:Ab α,xs.length=k/\kD.row r false w ((cur.toList.drop off).take (k * r.n)) xs (λ_=>True):=by
  intro k;induction k with
  | zero=>intro _;exact ⟨[],rfl,by simp [kD.row]⟩
  | succ k L =>
    intro hk;obtain ⟨xs,b5,hr⟩:=L bD1;obtain ⟨x,az⟩:=hcut k bD1;refine ⟨xs++[x],by simp [b5],?_⟩;have:(cur.toList.drop off).take ((k + 1) * r.n)=(cur.toList.drop off).take (k * r.n)++(cur.toList.drop (off + k * r.n)).take r.n:=by
      rw [Nat.add_mul,Nat.one_mul,List.take_add,List.drop_drop]
    rw [this];exact kD.kAg hr (kD.kDi az) (λ_ h=>h) (λ_ h=>h) bD2
 obtain ⟨xs,b5,hr⟩:=hrow len nL
 refine ⟨xs,some ⟨b,off,none⟩,len,m,rfl,b5.symm,hl,hm,.inr ⟨b,off,rfl,cur,e',fr,cur.toList.take off,_,(cur.toList.drop off).drop (len * r.n),hb,?_,?_,hsize,by simp,trivial,kD.yK hr (λ_ _=>⟨trivial,by simp⟩)⟩⟩
 · rw [Av,Av]
 simp;omega
def kMi (hl:laidOutB P=true) {W W':Ac} (hb:Qb W W'):∀ {o:Ab Bi} {vs:Ab Ah} {ds:Ab (DataW H)} {Y:Ab Aw},(∀ t∈o,P.readableRec t=true/\t < P.types.size) ->
    DataW.TrodAll enc P W 0 (λ_=>true) true o vs ds Y->(∀ x∈Y,x.block < W.heap.size)->DataW.TrodAll enc P W' 0 (λb=>decide (b < W.heap.size)) true o vs ds Y
  | [],[],[],Y,_,h,_=>h
  | t :: o,v :: vs,d :: ds,Y,ht,⟨p,q,h1,h2,h3⟩,hlt=>by
    subst h3;exact ⟨p,q,Below.trod hl (ht t bD2).1 (ht t bD2).2 h1 hb sG,kMi hl hb (λu hu=>ht u (by simp [hu])) h2 sG,rfl⟩
end
def law_own:ownKnob prog.godebug=none:=by kernel_rfl
def law_laidOut:laidOutB prog=true:=by kernel_rfl
def LawPost (w:Ac) (e:Ending) (w':Ac):Prop:=e=.returned (.bool true)/\Qb w w'
def law_post {H:Type} {enc:Bi × Ah->H} {fn:Func} {s:ChangeSpec} {W W':Ac} {args:Ak Ah} {ds E:Ab (DataW H)} {o:Ab Aw} {tb:Bi}
    (hW:DataW.Whole enc prog fn.params.toList s.vars false W args.toList ds E o) (D:s.vars=[]) (F:fn.resultTypes=#[tb]) (em:prog.underlying tb=some .bool)
    (Y:(s.fn H (ds++E)).results=[.lit (.bool true)]/\(s.fn H (ds++E)).args=ds/\(s.fn H (ds++E)).vars=[])
    (R:∀ t∈fn.params.toList,prog.readableRec t=true/\t < prog.types.size) (hb:Qb W W') :
    s.post enc prog fn false true false false W args (.bool true) W':=by
 have hlt:∀ p∈o,p.block < W.heap.size:=λp hp=>by simpa using hW.lt p hp
 have G:=hW
 obtain ⟨p,q,hA,hV,rfl,_,_⟩:=hW
 rw [D] at hV
 have I:E=[]/\q=[]:=by
  cases E with
  | nil=>exact ⟨rfl,hV⟩
  | cons g E=>exact hV.elim
 obtain ⟨rfl,rfl⟩:=I
 refine ⟨ds,[],_,[],p,[],G,?_,?_,?_,hb.frame _,λh=>by cases h⟩
 · rw [Y.1,F];exact trodAll_cons_mk (shut_bool em true) trodAll_mk0
 · rw [Y.2.1];exact kMi law_laidOut hb R hA sG
 rw [Y.2.2,D]
 rfl
def jAu {H:Type} {enc:Bi × Ah->H} {w:Ac} {fuel:Nat} {cs:Ab Ah} {y:DataW H × Ab Aw} (h:Ba enc prog w 0 (λ_=>true) true fuel 22 cs=some y):∃ x,(kD.slice 5 kD.byte).raw w cs x :=
  jAt underlying22 bC5 bD0 (λh=>bridge_byte underlying5 h) h
end Go.Proofs.YtjhfdpopkkmigaaGreat
namespace Go.Proofs.YtjhfdpopkkmigaaGreat
open Go.RowKit _root_.Go.Proofs.Tryz
def lawsbig_c {w:Ac} {v:Ah} {Z:Ab UInt8} (ad:(kD.slice 5 kD.byte).raw w [v] Z) :
    Calls prog 4 #[v] w (bQ w (.bool (decide ((Z.length:Int) > 1048576)))):=by
 obtain ⟨ca,cc,rfl,_⟩:=kD.sl ad
 go_enter func4,ntmps4
 go_wp2
 go_ret
 exact ⟨by simp,bR⟩
end Go.Proofs.YtjhfdpopkkmigaaGreat
namespace Go.Proofs.YtjhfdpopkkmigaaGreat
open Go Go.RowKit _root_.Go.Proofs.Tryz
def kVb (md:Ai) (ops:Ak Aq):Nat->Ab Bool->Ak Bool->Bool
  | _,[],listed=>(Ag md ops listed).isEmpty
  | k,true :: p,listed=>(Ag md ops listed).contains k && Bj md ops listed k && kVb md ops (k + 1) p (listed.setIfInBounds k true)
  | k,false :: p,listed=>(Ag md ops listed==[k]) && kVb md ops (k + 1) p (listed.setIfInBounds k true)
def softOk (md:Ai) (ops:Ak Aq) (p:Ab Bool):Bool:=Aj ops && (p.length==ops.size && kVb md ops 0 p (Ap ops.size false))
section
variable {P:Bn} {ops:Ak Aq} {S:Ac->Prop} {Q:Exit->Act->Ac->Prop}
def kCi (P:Bn) (ops:Ak Aq) (S:Ac->Prop) (Q:Exit->Act->Ac->Prop):Nat->Ab Aq->Ab Bool->Act->Ac->Prop
  | k,o :: l,true :: p,a,w=>∃ v,YieldsIf P ops S o v a/\kCi P ops S Q (k + 1) l p (a.put o.dst v) w
  | k,o :: l,false :: p,a,w=>if Al o (Be ops a.tmps) then o.wp P a w (λa' w'=>S w'/\kCi P ops S Q (k + 1) l p a' w') Q\/(o.asks P a w/\LetsOut Q) else S w/\kCi P ops S Q (k + 1) l p (a.put o.dst undef) w
  | _,l,_,a,w=>Bb P ops Q l a w
@[irreducible] def soft (P:Bn) (ops:Ak Aq) (S:Ac->Prop) (Q:Exit->Act->Ac->Prop) (k:Nat) (l:Ab Aq) (p:Ab Bool) (a:Act) (w:Ac):Prop:=kCi P ops S Q k l p a w
def kKf (hs:Aj ops=true) (hQ:∀ c a d v w,Q (.panic c) (Bf a d v) w->Q (.panic c) a w):∀ (p:Ab Bool) (l:Ab Aq) (k:Nat) (fuel:Nat) (listed:Ak Bool) (a:Act) (w:Ac),
    l.length=p.length->(∀ j,l[j]?=ops[k + j]?)->p.length<=fuel->kVb .any ops k p listed=true->S w->kCi P ops S Q k l p a w->wpAnyH P .any ops Q S fuel listed a w
  | [],[],k,fuel,listed,a,w,_,_,_,hB,_,h=>wpAnyH_done (by simpa [kVb] using hB) (by simpa [kCi,Bb] using h) fuel
  | [],o :: l,k,fuel,listed,a,w,hl,_,_,hB,_,h=>by simp at hl
  | b :: p,[],k,fuel,listed,a,w,hl,_,_,hB,_,h=>by simp at hl
  | b :: p,o :: l,k,0,listed,a,w,hl,_,hf,hB,_,h=>by simp at hf
  | true :: p,o :: l,k,fuel + 1,listed,a,w,hl,ho,hf,hB,hS,h=>by
    obtain ⟨v,hy,h⟩:=h;simp only [kVb,Ae] at hB;have h0:ops[k]?=some o:=tN;exact wpAnyH_take h0 hs hB.1.2 hB.1.1 (λc a w=>hQ c a _ _ w) hy hS (kKf hs hQ p l (k + 1) fuel _ _ _ wY dO bA8 hB.2 hS h)
  | false :: p,o :: l,k,fuel + 1,listed,a,w,hl,ho,hf,hB,hS,h=>by
    simp only [kVb,Ae,Bc] at hB;have h0:ops[k]?=some o:=tN;refine wpAnyH_all hB.1 bD2 ?_;intro j I;obtain rfl:j=k:=bB6;have go:∀ a' w',S w'/\kCi P ops S Q (j + 1) l p a' w'->S w'/\wpAnyH P .any ops Q S fuel (listed.setIfInBounds j true) a' w':=λa' w' E =>
      ⟨E.1,kKf hs hQ p l (j + 1) fuel _ _ _ wY dP bA8 hB.2 E.1 E.2⟩
    exact o6
def kM {id:Nat} {a:Act} {w:Ac} {l:Ab Aq} (S:Ac->Prop) (p:Ab Bool) (hm:P.follows .mixedOrders=true) (hB:softOk .any l.toArray p=true)
    (hQ:∀ c a d v w,Q (.panic c) (Bf a d v) w->Q (.panic c) a w) (hS:S { w with drawn:=w.drawn + 1 })
    (h:∀ w',S w'->soft P l.toArray S Q 0 l p a w'):(Ay id l.toArray true).wp P Q a w:=by
 simp only [softOk,Ae,Bc] at hB
 have h:=h _ hS
 unfold soft at h
 exact wp_region_held (S:=S) hm (kKf hB.1 hQ p l 0 _ _ a _ (by simpa using hB.2.1.symm) (λj=>by simp) (by rw [hB.2.1];exact Nat.le_refl _) hB.2.2 hS h)
def kBb (P:Bn) (md:Ai) (ops:Ak Aq) (Q:Exit->Act->Ac->Prop) (S:Ac->Prop) (n:Nat) (L:Ak Bool->Act->Ac->Prop):Nat->Ak Bool->Act->Ac->Prop
  | 0,listed,a,w=>L listed a w
  | f + 1,listed,a,w =>
    Ag md ops listed≠[]/\∀ i∈Ag md ops listed,i < n/\wpOp P ops Q i (λa' w'=>S w'/\kBb P md ops Q S n L f (listed.setIfInBounds i true) a' w') a w
def kBf {md:Ai} {n g:Nat} {L:Ak Bool->Act->Ac->Prop} (J:∀ listed a w,L listed a w->wpAny P md ops Q g listed a w) :
    ∀ (f:Nat) (listed:Ak Bool) (a:Act) (w:Ac),kBb P md ops Q S n L f listed a w->wpAny P md ops Q (f + g) listed a w
  | 0,listed,a,w,h=>by rw [Nat.zero_add];exact J _ _ _ h
  | f + 1,listed,a,w,h=>by
    rw [show f + 1 + g=(f + g) + 1 by omega];exact ⟨λh0=>absurd h0 h.1,λi hi=>wpOp_mono (λa' w' E=>kBf J f _ a' w' E.2) (h.2 i hi).2⟩
def kMh {md:Ai} {n i:Nat} {V:Aq} {v:Ah} {L:Ak Bool->Act->Ac->Prop} (hi:ops[i]?=some V) (D:∀ (j:Nat) (o:Aq) cs b,ops[j]?=some o->o.op≠.select cs b)
    (hQ:∀ c a w,Q (.panic c) (a.put V.dst v) w->Q (.panic c) a w)
    (hs:Bg md ops n=true) (hc:Az md ops n=true) (hn:n < ops.size) (X:i < n)
    (Y:∀ listed a w,L listed a w->∀ j∈Ag md ops listed,n<=j) :
    ∀ (f:Nat) (listed:Ak Bool) (a:Act) (w:Ac),HeadInv md ops n listed ->
      (∀ j N,ops[j]?=some N->j≠i->listed.getD j true=false->(∀ e∈N.after,Region.binds md e=true->e.on≠i)->V.apart ops N=true) ->
      i∈Ag md ops listed->YieldsIf P ops S V v a->S w ->
      kBb P md ops Q S n L f (listed.setIfInBounds i true) (a.put V.dst v) w->kBb P md ops Q S n L (f + 1) listed a w:=by
 intro f
 induction f with
 | zero =>
   intro listed a w inv _ hr hy hS H;have E:=(mem_ready.1 hr).1;refine ⟨λh=>vF,λj I=>?_⟩;have ab:j < n:=by
     rcases Nat.lt_or_ge j n with h | h
     · exact h
     · exact absurd I (tail_waits hs hc hn inv _ i rfl X E j h)
   exact o7
 | succ f ih =>
   intro listed a w inv R hr hy hS H;have E:=(mem_ready.1 hr).1;refine ⟨λh=>vF,λj I=>?_⟩;have ab:j < n:=by
     rcases Nat.lt_or_ge j n with h | h
     · exact h
     · exact absurd I (tail_waits hs hc hn inv _ i rfl X E j h)
   exact o8
def kNi (md:Ai) (ops:Ak Aq) (g:Nat):Nat->Ab Bool->Ak Bool->Bool
  | k,[],listed=>Bl md ops g k listed
  | k,true :: p,listed=>(Ag md ops listed).contains k && Bj md ops listed k && kNi md ops g (k + 1) p (listed.setIfInBounds k true)
  | k,false :: p,listed=>(Ag md ops listed==[k]) && kNi md ops g (k + 1) p (listed.setIfInBounds k true)
def softTOk (md:Ai) (ops:Ak Aq) (p:Ab Bool):Bool :=
  Aj ops && (decide (p.length < ops.size) && (Bg md ops p.length && (Az md ops p.length && kNi md ops (ops.size - p.length) 0 p (Ap ops.size false))))
def kIu {n g:Nat} (D:Aj ops=true) (hQ:∀ c a d v w,Q (.panic c) (Bf a d v) w->Q (.panic c) a w)
    (hs:Bg .any ops n=true) (hc:Az .any ops n=true) (hn:n < ops.size):∀ (p:Ab Bool) (l:Ab Aq) (k:Nat) (listed:Ak Bool) (a:Act) (w:Ac),
    k + p.length=n->(∀ j,l[j]?=ops[k + j]?)->HeadInv .any ops n listed->kNi .any ops g k p listed=true->l.length=p.length + g->S w->kCi P ops S Q k l p a w ->
    kBb P .any ops Q S n (λlisted a w=>Bl .any ops g n listed=true/\∃ l,(∀ j,l[j]?=ops[n + j]?)/\l.length=g/\Bb P ops Q l a w) p.length listed a w
  | [],l,k,listed,a,w,hk,ho,inv,hB,hl,hS,h=>by
    obtain rfl:k=n:=bA5;refine ⟨by simpa [kNi] using hB,l,ho,by simpa using hl,?_⟩;cases l <;> exact h
  | b :: p,[],k,listed,a,w,hk,ho,inv,hB,hl,hS,h=>by simp at hl;omega
  | true :: p,o :: l,k,listed,a,w,hk,ho,inv,hB,hl,hS,h=>by
    obtain ⟨v,hy,h⟩:=h;simp only [kNi,Ae] at hB;have h0:ops[k]?=some o:=tN;have hr:k∈Ag .any ops listed:=vY;have b6:k < n:=wR;exact kMh h0 (Region.noSelect_spec D) (λc a w=>hQ c a _ _ w) hs hc hn b6 (λF a' w' J=>seqB_ready J.1) p.length listed a w inv (Region.free_spec h0 hB.1.2) hr hy hS
      (kIu D hQ hs hc hn p l (k + 1) _ _ _ wR dO (inv.set hr b6) hB.2 (by simp at hl;omega) hS h)
  | false :: p,o :: l,k,listed,a,w,hk,ho,inv,hB,hl,hS,h=>by
    simp only [kNi,Ae,Bc] at hB;have h0:ops[k]?=some o:=tN;have hr:k∈Ag .any ops listed:=bB1;have b6:k < n:=wR;refine ⟨by rw [hB.1];simp,λj I=>?_⟩;rw [hB.1] at I;obtain rfl:j=k:=bB6;refine ⟨b6,?_⟩;have go:∀ a' w',S w'/\kCi P ops S Q (j + 1) l p a' w'->S w'/\kBb P .any ops Q S n (λlisted a w=>Bl .any ops g n listed=true/\∃ l,(∀ j,l[j]?=ops[n + j]?)/\l.length=g/\Bb P ops Q l a w) p.length (listed.setIfInBounds j true) a' w':=λa' w' E =>
      ⟨E.1,kIu D hQ hs hc hn p l (j + 1) _ _ _ wR dP (inv.set hr b6) hB.2 (by simp at hl;omega) E.1 E.2⟩
    exact o6
def zX {id:Nat} {a:Act} {w:Ac} {l:Ab Aq} (S:Ac->Prop) (p:Ab Bool) (hm:P.follows .mixedOrders=true) (hB:softTOk .any l.toArray p=true)
    (hQ:∀ c a d v w,Q (.panic c) (Bf a d v) w->Q (.panic c) a w) (hS:S { w with drawn:=w.drawn + 1 })
    (h:∀ w',S w'->soft P l.toArray S Q 0 l p a w'):(Ay id l.toArray true).wp P Q a w:=by
 simp only [softTOk,Ae,Am] at hB
 have h:=h _ hS
 unfold soft at h
 have az:l.toArray.size=l.length:=bD2
 have D:HeadInv .any l.toArray p.length (Ap l.toArray.size false) :=
   ⟨by simp,λj N _ hl=>pI,λt _ ht=>getD_in bA9 (getD_replicate_false _ _)⟩
 have H:=kIu (g:=l.toArray.size - p.length) hB.1 hQ hB.2.2.1 hB.2.2.2.1 hB.2.1 p l 0 _ a _ bD2 (λj=>by simp) D hB.2.2.2.2 (by have:=hB.2.1;omega) hS h
 refine wp_region_any hm ?_
 have:=kBf (Q:=Q) (g:=l.toArray.size - p.length) (λlisted a' w' J=>by
   obtain ⟨hq,o,ho,O,hw⟩:=J;have:=wpAny_of_seq (md:=.any) (Q':=Q) o p.length listed a' w' ho (by rw [O];exact hq) hw;rwa [O] at this) _ _ _ _ H
 rw [show p.length + (l.toArray.size - p.length)=l.toArray.size by have:=hB.2.1;omega] at this
 exact this
def kFr:∀ (p:Ab Bool) (l:Ab Aq) (k:Nat) (a:Act) (w:Ac),S w->kCi P ops S Q k l p a w->Bb P ops Q l a w
  | [],l,k,a,w,_,h=>by cases l <;> exact h
  | b :: p,[],k,a,w,_,h=>by cases b <;> exact h
  | true :: p,o :: l,k,a,w,hS,h=>by
    obtain ⟨v,hy,h⟩:=h;have:=kFr p l (k + 1) _ w hS h;unfold Bb;rcases hy with ⟨hw,hv⟩|⟨hw,rfl⟩
    · rw [if_pos hw];left;unfold Oper.wp;rw [hv w hS,Oper.upon_value];exact this
    · rw [if_neg (by rw [hw];exact Bd)];exact this
  | false :: p,o :: l,k,a,w,hS,h=>by
    unfold Bb;have h:if Al o (Be ops a.tmps) then o.wp P a w (λa' w'=>S w'/\kCi P ops S Q (k + 1) l p a' w') Q\/(o.asks P a w/\LetsOut Q) else S w/\kCi P ops S Q (k + 1) l p (a.put o.dst undef) w:=h
    split at h
    · rename_i hw;rw [if_pos hw];exact h.imp (Oper.wp_mono λa' w' E=>kFr p l (k + 1) a' w' E.1 E.2) id
    · rename_i hw;rw [if_neg hw];exact kFr p l (k + 1) _ w h.1 h.2
def ky {id:Nat} {a:Act} {w:Ac} {l:Ab Aq} (S:Ac->Prop) (p:Ab Bool) (hS:S w)
    (h:∀ w',S w'->soft P l.toArray S Q 0 l p a w'):(Ay id l.toArray false).wp P Q a w:=by
 have h:=h _ hS
 unfold soft at h
 exact wp_region_lit (kFr p l 0 a w hS h)
def kEb (md:Ai) (ops:Ak Aq):Ab (Nat × Bool)->Ak Bool->Bool
  | [],listed=>(Ag md ops listed).isEmpty
  | (k,true) :: p,listed=>(Ag md ops listed).contains k && Bj md ops listed k && kEb md ops p (listed.setIfInBounds k true)
  | (k,false) :: p,listed=>(Ag md ops listed==[k]) && kEb md ops p (listed.setIfInBounds k true)
def jB (l:Ab Aq):Ab (Nat × Bool)->Ab Aq
  | []=>[]
  | (k,_) :: q=>match l[k]? with
    | some o=>o :: jB l q
    | none=>[]
def kTo (md:Ai) (ops:Ak Aq) (q:Ab (Nat × Bool)):Bool:=Aj ops && (decide (q.length<=ops.size) && (q.all (λx=>decide (x.1 < ops.size)) && kEb md ops q (Ap ops.size false)))
def kDu {l:Ab Aq} (hs:Aj l.toArray=true) (hQ:∀ c a d v w,Q (.panic c) (Bf a d v) w->Q (.panic c) a w):∀ (q:Ab (Nat × Bool)) (k:Nat) (fuel:Nat) (listed:Ak Bool) (a:Act) (w:Ac),
    q.all (λx=>decide (x.1 < l.toArray.size))=true->q.length<=fuel->kEb .any l.toArray q listed=true->S w->kCi P l.toArray S Q k (jB l q) (q.map (·.2)) a w->wpAnyH P .any l.toArray Q S fuel listed a w
  | [],k,fuel,listed,a,w,_,_,hB,_,h=>wpAnyH_done (by simpa [kEb] using hB) (by simpa [kCi,Bb,jB] using h) fuel
  | (i,b) :: q,k,0,listed,a,w,_,hf,hB,_,h=>by simp at hf
  | (i,true) :: q,k,fuel + 1,listed,a,w,hi,hf,hB,hS,h=>by
    simp only [List.all_cons,Ae,Am] at hi;have h0:l.toArray[i]?=some l.toArray[i]:=Ar hi.1;have hp:jB l ((i,true) :: q)=l.toArray[i] :: jB l q:=by
      exact o9
    rw [hp] at h;obtain ⟨v,hy,h⟩:=h;simp only [kEb,Ae] at hB;exact wpAnyH_take h0 hs hB.1.2 hB.1.1 (λc a w=>hQ c a _ _ w) hy hS (kDu hs hQ q (k + 1) fuel _ _ _ hi.2 bA8 hB.2 hS h)
  | (i,false) :: q,k,fuel + 1,listed,a,w,hi,hf,hB,hS,h=>by
    simp only [List.all_cons,Ae,Am] at hi;have h0:l.toArray[i]?=some l.toArray[i]:=Ar hi.1;have hp:jB l ((i,false) :: q)=l.toArray[i] :: jB l q:=by
      exact o9
    rw [hp] at h;simp only [kEb,Ae,Bc] at hB;refine wpAnyH_all hB.1 bD2 ?_;intro j I;obtain rfl:j=i:=bB6;have go:∀ a' w',S w'/\kCi P l.toArray S Q (k + 1) (jB l q) (q.map (·.2)) a' w'->S w'/\wpAnyH P .any l.toArray Q S fuel (listed.setIfInBounds j true) a' w':=λa' w' E =>
      ⟨E.1,kDu hs hQ q (k + 1) fuel _ _ _ hi.2 bA8 hB.2 E.1 E.2⟩
    exact o6
def jo {id:Nat} {a:Act} {w:Ac} {l:Ab Aq} (S:Ac->Prop) (q:Ab (Nat × Bool)) (hm:P.follows .mixedOrders=true) (hB:kTo .any l.toArray q=true)
    (hQ:∀ c a d v w,Q (.panic c) (Bf a d v) w->Q (.panic c) a w) (hS:S { w with drawn:=w.drawn + 1 })
    (h:∀ w',S w'->soft P l.toArray S Q 0 (jB l q) (q.map (·.2)) a w'):(Ay id l.toArray true).wp P Q a w:=by
 simp only [kTo,Ae,Am] at hB
 have h:=h _ hS
 unfold soft at h
 exact wp_region_held (S:=S) hm (kDu hB.1 hQ q 0 _ _ a _ hB.2.2.1 hB.2.1 hB.2.2.2 hS h)
def kR {k:Nat} {a:Act} {w:World} (h:Q .normal a w):soft P ops S Q k [] [] a w:=by unfold soft;exact h
def jy {k:Nat} {o:Oper} {l:List Oper} {a:Act} {w:World} (h:wpList P ops Q (o :: l) a w):soft P ops S Q k (o :: l) [] a w:=by unfold soft;exact h
variable {k:Nat} {l:List Oper} {p:List Bool} {a:Act} {w:World} {o:Oper}
def kw {v:Ah} (hg:Al o (Be ops a.tmps)=true)
    (hv:∀ w,S w->(execOp a.eval o).run P w=.ok (.value v) w) (h:soft P ops S Q (k + 1) l p (a.put o.dst v) w):soft P ops S Q k (o :: l) (true :: p) a w:=by
 unfold soft at h ⊢
 exact ⟨v,.inl ⟨hg,hv⟩,h⟩
def kEm {v:Ah} {b:Bool} (hg:Al o (Be ops a.tmps)=true)
    (hv:∀ w,S w->(execOp a.eval o).run P w=.ok (.value v) w) (hb:v=.bool b) (h:∀ c:Bool,b=c->soft P ops S Q (k + 1) l p (a.put o.dst (.bool c)) w):soft P ops S Q k (o :: l) (true :: p) a w :=
  kw hg hv (hb ▸ h b rfl)
def kG {b:Bool} (hg:Al o (Be ops a.tmps)=false)
    (hS:S w) (h:soft P ops S Q (k + 1) l p (a.put o.dst undef) w):soft P ops S Q k (o :: l) (b :: p) a w:=by
 unfold soft at h ⊢
 cases b
 · show if _ then _ else _
   rw [if_neg (by rw [hg];exact Bd)];exact ⟨hS,h⟩
 exact ⟨undef,.inr ⟨hg,rfl⟩,h⟩
def kY (hg:Al o (Be ops a.tmps)=true)
    (h:∀ K:Act->Ac->Prop,(∀ a' w',S w'->soft P ops S Q (k + 1) l p a' w'->K a' w')->o.wp P a w K Q):soft P ops S Q k (o :: l) (false :: p) a w:=by
 unfold soft
 show if _ then _ else _
 rw [if_pos hg]
 exact .inl (h _ (λa' w' h1 h2=>by unfold soft at h2;exact ⟨h1,h2⟩))
end
def kX {p q:Prop} (k:q) (h:Hid q->p:=by intro kq;(first|(refine kG rfl E ?_)|(refine kw (v:=?_) rfl (λW hW=>?_) ?_;rotate_left;(· (try have A:=FX.out W hW);clear hW;go_simp;try with_reducible rfl)));(try simp only [Act.put,zA,zB,zC]);exact kq.out):p:=h (yD k)
def hu2 {P:Prop} (k:Hid (∀ _:Unit,True->P)):P:=k.out () trivial
def hu3 {A P:Prop} (k:Hid (∀ _:Unit,A->P)) (a:A):P:=k.out () a
def pfF {b:Bool} {R:Bool->Prop} (h:b=false->R false) (e:b=false):∀ c,b=c->R c:=λc hc=>by subst hc;rw [e];exact h e
def pfT {b:Bool} {R:Bool->Prop} (h:b=true->R true) (e:b=true):∀ c,b=c->R c:=λc hc=>by subst hc;rw [e];exact h e
def jd {α:Type} {p:Prop} {G q:α->Prop} (k:∀ c,G c->q c) (h:Hid (∀ c,G c->q c)->p:=by intro kq;first|(refine kG rfl E ?_;(try simp only [Act.put,zA,zB,zC]);exact hu2 kq)|(refine kEm (v:=?_) (b:=?_) rfl (λW hW=>?_) ?_ ?_;rotate_left;rotate_left;(· (try have A:=FX.out W hW);clear hW;go_simp;try with_reducible rfl);(· with_reducible rfl);first|(refine pfF (λ_=>?_) (by with_reducible rfl);(try simp only [Act.put,zA,zB,zC]);exact hu2 kq)|(refine pfT (λ_=>?_) (by with_reducible rfl);(try simp only [Act.put,zA,zB,zC]);exact hu2 kq)|(refine pfF (λhx=>?_) rfl;(try simp only [Act.put,zA,zB,zC]);exact hu3 kq hx)|(refine pfT (λhx=>?_) rfl;(try simp only [Act.put,zA,zB,zC]);exact hu3 kq hx)|(intro c hc;(try simp only [Act.put,zA,zB,zC]);exact kq.out c hc))):p:=h (yD k)
def jc:(∀ b:Bool,((!b)=true)=(b=false))/\(∀ b:Bool,((!b)=false)=(b=true))/\(false=true)=False/\(true=false)=False:=⟨λb=>by cases b <;> simp,λb=>by cases b <;> simp,by simp,by simp⟩
def wkB {C p:Prop} {S q:World->Prop} (c:C) (k:∀ W,S W->q W) (h:C->Hid (∀ W,S W->q W)->p:=by intro F kq;first|(refine kG rfl E ?_;(try simp only [Act.put,zA,zB,zC]);exact kq.out _ E)|(refine kY rfl (λK H=>?_);go_simp;refine F.mono ?_;rintro e wS1 ⟨rfl,X⟩;refine H _ _ (tQ E X) ?_;clear H K;(try simp only [Act.put,zA,zB,zC]);exact kq.out _ (tQ E X))):p:=h c (yD k)
def wkC {C p q:Prop} (c:C) (k:q) (h:C->Hid q->p:=by intro F kq;first|(refine kG rfl E ?_;(try simp only [Act.put,zA,zB,zC]);exact kq.out)|(refine kY rfl (λK H=>?_);go_simp;refine F.mono ?_;rintro e wS1 ⟨rfl,o⟩;obtain rfl:=o.symm;refine H _ _ E ?_;clear H K;(try simp only [Act.put,zA,zB,zC]);exact kq.out)):p:=h c (yD k)
def jD {p q:Prop} (k:q) (h:Hid q->p:=by intro kq;(try simp only [Act.put,zA,zB,zC]);exact kq.out):p:=h (yD k)
def jZ {α:Type} {x:List α} {k:Nat} {d:α} (h:k < x.length):x.getD k d=x[k]:=by simp [List.getD,h]
def ym (f:Nat->Bool):Nat->Bool
  | 0=>true
  | n + 1=>ym f n && f n
def kAs {f:Nat->Bool} {n:Nat} (h:ym f n=true) (q:f n=true):ym f (n + 1)=true:=by simp [ym,h,q]
def kCu {f:Nat->Bool} {n j:Nat} (h:j < n) (q:f j=false):ym f n=false:=by
 induction n with
 | zero=>omega
 | succ n ih =>
   by_cases e:j=n
   · subst e;simp [ym,q]
   · simp [ym,ih bD1]
end Go.Proofs.YtjhfdpopkkmigaaGreat

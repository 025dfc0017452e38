/-
  A region that draws its order, walked in the order of its text: operations that only read are taken first; at each other operation it alone may come up. No program in sight.
-/
import Derived.Test.YthocbplmdjkifaaGreatOwn2
import Derived.Test.YthocbplmdjkifaaGreatRows
set_option linter.unusedVariables false
set_option linter.defProp false
set_option linter.unusedSimpArgs false
set_option linter.unnecessarySimpa false
open _root_ renaming DecidableEq->Aa,List->Ac,instDecidableEqProd->Ae,Array->Al,decide_eq_true_eq->Ap,beq_iff_eq->Bd,ByteArray->Bi
open Go renaming World->Ab,Value->Ad,Oper->Ar,MemPlace->Ay,wpList->Bc,yielded->Bf,TypeId->Bj,Program->Bo
open Bool renaming and_eq_true->Ag,false_ne_true->Be
open Go.Region renaming ready->Ah,Mode->Aj,noSelect->Ak,wanted->Am,chainB->Ba,sinkB->Bh,free->Bl,seqB->Bn
open List.cons renaming injEq->Ai
open Array renaming replicate->Aq,getElem?_eq_getElem->Au
open List renaming getElem?_eq_none->Av,take_append_drop->Aw
open Go.Code renaming region->Az
open Go.DataW renaming trod->Bb
open Go.Act renaming put->Bg
namespace Go.Proofs.YthocbplmdjkifaaGreat
open Go.RowKit _root_.Go.Proofs.Tryz
abbrev ko:=(Ac Bi)
instance decName:Aa ko:=inferInstanceAs (Aa ((Ac Bi)))
def kR:kD ko:=(.slice 9 .str)
def kw {w:Ab} {cs:Ac Ad} {x:ko} (h:kR.raw w cs x):∃ v0,cs=[v0]/\(kD.slice 9 kD.str).raw w [v0] x:=by
 obtain ⟨_,rfl,bd⟩:=kD.kAf h;exact ⟨_,rfl,bd⟩
def kJa {w:Ab} {c0:Ad} {x:ko} (h:kR.raw w [c0] x):(kD.slice 9 kD.str).raw w [c0] x:=by
 obtain ⟨v0,he,h2⟩:=kw h;simp only [Ai,and_true] at he;obtain rfl:=he;exact h2
abbrev kW:=ko × Int × Int
instance decMeasurement:Aa kW:=inferInstanceAs (Aa (ko × Int × Int))
def kN:kD kW:=.pair kR (.pair .int .int)
def kDp {w:Ab} {cs:Ac Ad} {x:kW} (h:kN.raw w cs x):∃ v0,cs=[v0,.int .i64 x.2.1,.int .i64 x.2.2]/\kR.raw w [v0] x.1/\(kD.slice 9 kD.str).raw w [v0] x.1/\Qi x.2.1/\Qi x.2.2:=by
 exact rR
def yG {w:Ab} {c0 c1 c2:Ad} {x:kW} (h:kN.raw w [c0,c1,c2] x):c1=.int .i64 x.2.1/\c2=.int .i64 x.2.2/\kR.raw w [c0] x.1/\(kD.slice 9 kD.str).raw w [c0] x.1/\Qi x.2.1/\Qi x.2.2:=by
 obtain ⟨v0,he,h2⟩:=kDp h;exact rT
def kAg (x:kW) (v:Int):kW:=(x.1,x.2.1,v)
def kJt {x:kW} (v:Int) (hv:Qi v) {w:Ab} {cs:Ac Ad} {S:Nat->Prop} (h:kN.is true w cs x S):kN.is true w (cs.set 2 (Qn v)) (kAg x v) S:=by
 exact sM
abbrev jI:=ko × Int × Int
instance decRoute:Aa jI:=inferInstanceAs (Aa (ko × Int × Int))
def jA:kD jI:=.pair kR (.pair .int .int)
def kCl {w:Ab} {cs:Ac Ad} {x:jI} (h:jA.raw w cs x):∃ v0,cs=[v0,.int .i64 x.2.1,.int .i64 x.2.2]/\kR.raw w [v0] x.1/\(kD.slice 9 kD.str).raw w [v0] x.1/\Qi x.2.1/\Qi x.2.2:=by
 exact rR
def yI {w:Ab} {c0 c1 c2:Ad} {x:jI} (h:jA.raw w [c0,c1,c2] x):c1=.int .i64 x.2.1/\c2=.int .i64 x.2.2/\kR.raw w [c0] x.1/\(kD.slice 9 kD.str).raw w [c0] x.1/\Qi x.2.1/\Qi x.2.2:=by
 obtain ⟨v0,he,h2⟩:=kCl h;exact rT
def kMg (x:jI) (v:Int):jI:=(x.1,x.2.1,v)
def RRoute_set2 {x:jI} (v:Int) (hv:Qi v) {w:Ab} {cs:Ac Ad} {S:Nat->Prop} (h:jA.is true w cs x S):jA.is true w (cs.set 2 (Qn v)) (kMg x v) S:=by
 exact sM
abbrev kV:=Int × Int × Int
instance decRequester:Aa kV:=inferInstanceAs (Aa (Int × Int × Int))
def kQ:kD kV:=.pair .int (.pair .int .int)
def kAa {w:Ab} {cs:Ac Ad} {x:kV} (h:kQ.raw w cs x):cs=[.int .i64 x.1,.int .i64 x.2.1,.int .i64 x.2.2]/\Qi x.1/\Qi x.2.1/\Qi x.2.2:=by
 obtain ⟨_,_,rfl,V,ag⟩:=kD.yP h;obtain ⟨rfl,bd⟩:=kD.yX V;obtain ⟨_,_,rfl,a9,el⟩:=kD.yP ag;obtain ⟨rfl,aq⟩:=kD.yX a9;obtain ⟨rfl,a8⟩:=kD.yX el;exact ⟨rfl,bd,aq,a8⟩
def yf {w:Ab} {c0 c1 c2:Ad} {x:kV} (h:kQ.raw w [c0,c1,c2] x):c0=.int .i64 x.1/\c1=.int .i64 x.2.1/\c2=.int .i64 x.2.2/\Qi x.1/\Qi x.2.1/\Qi x.2.2:=by
 obtain ⟨he,h2⟩:=kAa h;simp only [Ai,and_true] at he;obtain ⟨rfl,rfl,rfl⟩:=he;exact ⟨rfl,rfl,rfl,h2⟩
abbrev kF:=ko × (Ac kV) × Int
instance decPendingInterest:Aa kF:=inferInstanceAs (Aa (ko × (Ac kV) × Int))
def kH:kD kF:=.pair kR (.pair (.slice 105 kQ) .int)
def kEp:kH.n=3:=rfl
def kAq {w:Ab} {cs:Ac Ad} {x:kF} (h:kH.raw w cs x):∃ v0 v1,cs=[v0,v1,.int .i64 x.2.2]/\kR.raw w [v0] x.1/\(kD.slice 9 kD.str).raw w [v0] x.1/\(kD.slice 105 kQ).raw w [v1] x.2.1/\Qi x.2.2:=by
 obtain ⟨_,_,rfl,V,ag⟩:=kD.yP h;have ah:=kw V;obtain ⟨_,rfl,o⟩:=ah;obtain ⟨_,_,rfl,a9,el⟩:=kD.yP ag;obtain ⟨_,rfl,aq⟩:=kD.kAf a9;obtain ⟨rfl,a8⟩:=kD.yX el;exact ⟨_,_,rfl,V,o,aq,a8⟩
def jP {w:Ab} {c0 c1 c2:Ad} {x:kF} (h:kH.raw w [c0,c1,c2] x):c2=.int .i64 x.2.2/\kR.raw w [c0] x.1/\(kD.slice 9 kD.str).raw w [c0] x.1/\(kD.slice 105 kQ).raw w [c1] x.2.1/\Qi x.2.2:=by
 obtain ⟨v0,v1,he,h2⟩:=kAq h;simp only [Ai,and_true] at he;obtain ⟨rfl,rfl,rfl⟩:=he;exact ⟨rfl,h2⟩
def zk (x:kF) (v:Int):kF:=(x.1,x.2.1,v)
def kFz {x:kF} (v:Int) (hv:Qi v) {w:Ab} {cs:Ac Ad} {S:Nat->Prop} (h:kH.is true w cs x S):kH.is true w (cs.set 2 (Qn v)) (zk x v) S:=by
 exact sM
abbrev jK:=ko × Int
instance decSeenNonce:Aa jK:=inferInstanceAs (Aa (ko × Int))
def kz:kD jK:=.pair kR .int
def kFt {w:Ab} {cs:Ac Ad} {x:jK} (h:kz.raw w cs x):∃ v0,cs=[v0,.int .i64 x.2]/\kR.raw w [v0] x.1/\(kD.slice 9 kD.str).raw w [v0] x.1/\Qi x.2:=by
 exact tO
def zh {w:Ab} {c0 c1:Ad} {x:jK} (h:kz.raw w [c0,c1] x):c1=.int .i64 x.2/\kR.raw w [c0] x.1/\(kD.slice 9 kD.str).raw w [c0] x.1/\Qi x.2:=by
 obtain ⟨v0,he,h2⟩:=kFt h;simp only [Ai,and_true] at he;obtain ⟨rfl,rfl⟩:=he;exact ⟨rfl,h2⟩
abbrev jE:=ko × Int × Int × Int
instance decInterest:Aa jE:=inferInstanceAs (Aa (ko × Int × Int × Int))
def jM:kD jE:=.pair kR (.pair .int (.pair .int .int))
def jY {w:Ab} {cs:Ac Ad} {x:jE} (h:jM.raw w cs x):∃ v0,cs=[v0,.int .i64 x.2.1,.int .i64 x.2.2.1,.int .i64 x.2.2.2]/\kR.raw w [v0] x.1/\(kD.slice 9 kD.str).raw w [v0] x.1/\Qi x.2.1/\Qi x.2.2.1/\Qi x.2.2.2:=by
 obtain ⟨_,_,rfl,V,ag⟩:=kD.yP h;have ah:=kw V;obtain ⟨_,rfl,o⟩:=ah;obtain ⟨_,_,rfl,a9,el⟩:=kD.yP ag;obtain ⟨rfl,aq⟩:=kD.yX a9;obtain ⟨_,_,rfl,bl,fn⟩:=kD.yP el;obtain ⟨rfl,a8⟩:=kD.yX bl;obtain ⟨rfl,bk⟩:=kD.yX fn;exact ⟨_,rfl,V,o,aq,a8,bk⟩
def kOx {w:Ab} {c0 c1 c2 c3:Ad} {x:jE} (h:jM.raw w [c0,c1,c2,c3] x):c1=.int .i64 x.2.1/\c2=.int .i64 x.2.2.1/\c3=.int .i64 x.2.2.2/\kR.raw w [c0] x.1/\(kD.slice 9 kD.str).raw w [c0] x.1/\Qi x.2.1/\Qi x.2.2.1/\Qi x.2.2.2:=by
 obtain ⟨v0,he,h2⟩:=jY h;simp only [Ai,and_true] at he;obtain ⟨rfl,rfl,rfl,rfl⟩:=he;exact ⟨rfl,rfl,rfl,h2⟩
def kRf (x:jE) (v:Int):jE:=(x.1,x.2.1,v,x.2.2.2)
def jBx {x:jE} (v:Int) (hv:Qi v) {w:Ab} {cs:Ac Ad} {S:Nat->Prop} (h:jM.is true w cs x S):jM.is true w (cs.set 2 (Qn v)) (kRf x v) S:=by
 obtain ⟨c0,d0,A0,B0,rfl,p0,q0,ar,O,J⟩:=h;obtain ⟨c1,d1,A1,B1,rfl,p1,q1,hA1,H,hd1⟩:=q0;obtain ⟨c2,d2,A2,B2,rfl,p2,q2,hA2,E,X⟩:=q1;obtain ⟨rfl,_⟩:=p2;have l0:=kD.len _ p0;have R:=kD.len _ p1;change _=1 at l0;change _=1 at R;have e:((c0++(c1++([.int .i64 x.2.2.1]++d2))):Ac Ad).set 2 (Qn v)=(c0++(c1++([.int .i64 v]++d2))):=by
  obtain ⟨o,rfl⟩:∃ o,c0=[o]:=qI;obtain ⟨D,rfl⟩:∃ D,c1=[D]:=qO;rfl
 rw [e];exact ⟨_,_,A0,B0,rfl,p0,⟨_,_,A1,B1,rfl,p1,⟨_,_,A2,B2,rfl,⟨rfl,hv⟩,q2,hA2,E,X⟩,hA1,H,hd1⟩,ar,O,J⟩
abbrev jQ:=ko × (Ac UInt8) × ko × Int × Int
instance decData:Aa jQ:=(@Ae _ _ (inferInstanceAs (Aa ko)) (@Ae _ _ (inferInstanceAs (Aa (Ac UInt8))) (@Ae _ _ (inferInstanceAs (Aa ko)) (@Ae _ _ (inferInstanceAs (Aa Int)) (inferInstanceAs (Aa Int))))))
def jF:kD jQ:=.pair kR (.pair (.slice 5 .byte) (.pair kR (.pair .int .int)))
def jf {w:Ab} {cs:Ac Ad} {x:jQ} (h:jF.raw w cs x):∃ v0 v1 v2,cs=[v0,v1,v2,.int .i64 x.2.2.2.1,.int .i64 x.2.2.2.2]/\kR.raw w [v0] x.1/\(kD.slice 9 kD.str).raw w [v0] x.1/\(kD.slice 5 kD.byte).raw w [v1] x.2.1/\kR.raw w [v2] x.2.2.1/\(kD.slice 9 kD.str).raw w [v2] x.2.2.1/\Qi x.2.2.2.1/\Qi x.2.2.2.2:=by
 obtain ⟨_,_,rfl,V,ag⟩:=kD.yP h;have ah:=kw V;obtain ⟨_,rfl,o⟩:=ah;obtain ⟨_,_,rfl,a9,el⟩:=kD.yP ag;obtain ⟨_,rfl,aq⟩:=kD.kAf a9;obtain ⟨_,_,rfl,bl,fn⟩:=kD.yP el;have ak:=kw bl;obtain ⟨_,rfl,D⟩:=ak;obtain ⟨_,_,rfl,bi,gu⟩:=kD.yP fn;obtain ⟨rfl,bk⟩:=kD.yX bi;obtain ⟨rfl,br⟩:=kD.yX gu;exact ⟨_,_,_,rfl,V,o,aq,bl,D,bk,br⟩
def kAi {w:Ab} {c0 c1 c2 c3 c4:Ad} {x:jQ} (h:jF.raw w [c0,c1,c2,c3,c4] x):c3=.int .i64 x.2.2.2.1/\c4=.int .i64 x.2.2.2.2/\kR.raw w [c0] x.1/\(kD.slice 9 kD.str).raw w [c0] x.1/\(kD.slice 5 kD.byte).raw w [c1] x.2.1/\kR.raw w [c2] x.2.2.1/\(kD.slice 9 kD.str).raw w [c2] x.2.2.1/\Qi x.2.2.2.1/\Qi x.2.2.2.2:=by
 obtain ⟨v0,v1,v2,he,h2⟩:=jf h;simp only [Ai,and_true] at he;obtain ⟨rfl,rfl,rfl,rfl,rfl⟩:=he;exact ⟨rfl,rfl,h2⟩
def setData_3 (x:jQ) (v:Int):jQ:=(x.1,x.2.1,x.2.2.1,v,x.2.2.2.2)
def RData_set3 {x:jQ} (v:Int) (hv:Qi v) {w:Ab} {cs:Ac Ad} {S:Nat->Prop} (h:jF.is true w cs x S):jF.is true w (cs.set 3 (Qn v)) (setData_3 x v) S:=by
 obtain ⟨c0,d0,A0,B0,rfl,p0,q0,ar,O,J⟩:=h;obtain ⟨c1,d1,A1,B1,rfl,p1,q1,hA1,H,hd1⟩:=q0;obtain ⟨c2,d2,A2,B2,rfl,p2,q2,hA2,E,X⟩:=q1;obtain ⟨c3,d3,A3,B3,rfl,F,q3,W,I,av⟩:=q2;obtain ⟨rfl,_⟩:=F;have l0:=kD.len _ p0;have R:=kD.len _ p1;have l2:=kD.len _ p2;change _=1 at l0;change _=1 at R;change _=1 at l2;have e:((c0++(c1++(c2++([.int .i64 x.2.2.2.1]++d3)))):Ac Ad).set 3 (Qn v)=(c0++(c1++(c2++([.int .i64 v]++d3)))):=by
  obtain ⟨o,rfl⟩:∃ o,c0=[o]:=qI;obtain ⟨D,rfl⟩:∃ D,c1=[D]:=qO;obtain ⟨L,rfl⟩:∃ L,c2=[L]:=qK;rfl
 rw [e];exact ⟨_,_,A0,B0,rfl,p0,⟨_,_,A1,B1,rfl,p1,⟨_,_,A2,B2,rfl,p2,⟨_,_,A3,B3,rfl,⟨rfl,hv⟩,q3,W,I,av⟩,hA2,E,X⟩,hA1,H,hd1⟩,ar,O,J⟩
def setData_4 (x:jQ) (v:Int):jQ:=(x.1,x.2.1,x.2.2.1,x.2.2.2.1,v)
def RData_set4 {x:jQ} (v:Int) (hv:Qi v) {w:Ab} {cs:Ac Ad} {S:Nat->Prop} (h:jF.is true w cs x S):jF.is true w (cs.set 4 (Qn v)) (setData_4 x v) S:=by
 obtain ⟨c0,d0,A0,B0,rfl,p0,q0,ar,O,J⟩:=h;obtain ⟨c1,d1,A1,B1,rfl,p1,q1,hA1,H,hd1⟩:=q0;obtain ⟨c2,d2,A2,B2,rfl,p2,q2,hA2,E,X⟩:=q1;obtain ⟨c3,d3,A3,B3,rfl,F,q3,W,I,av⟩:=q2;obtain ⟨rfl,_⟩:=q3;have l0:=kD.len _ p0;have R:=kD.len _ p1;have l2:=kD.len _ p2;have l3:=kD.len _ F;change _=1 at l0;change _=1 at R;change _=1 at l2;change _=1 at l3;have e:((c0++(c1++(c2++(c3++[.int .i64 x.2.2.2.2])))):Ac Ad).set 4 (Qn v)=(c0++(c1++(c2++(c3++[.int .i64 v])))):=by
  obtain ⟨o,rfl⟩:∃ o,c0=[o]:=qI;obtain ⟨D,rfl⟩:∃ D,c1=[D]:=qO;obtain ⟨L,rfl⟩:∃ L,c2=[L]:=qK;obtain ⟨V,rfl⟩:∃ V,c3=[V]:=qL;rfl
 rw [e];exact ⟨_,_,A0,B0,rfl,p0,⟨_,_,A1,B1,rfl,p1,⟨_,_,A2,B2,rfl,p2,⟨_,_,A3,B3,rfl,F,⟨rfl,hv⟩,W,I,av⟩,hA2,E,X⟩,hA1,H,hd1⟩,ar,O,J⟩
abbrev kr:=jQ × Int
instance decCacheEntry:Aa kr:=inferInstanceAs (Aa (jQ × Int))
def jB:kD kr:=.pair jF .int
def kBq {w:Ab} {cs:Ac Ad} {x:kr} (h:jB.raw w cs x):∃ v0 v1 v2,cs=[v0,v1,v2,.int .i64 x.1.2.2.2.1,.int .i64 x.1.2.2.2.2,.int .i64 x.2]/\jF.raw w [v0,v1,v2,Qn x.1.2.2.2.1,Qn x.1.2.2.2.2] x.1/\kR.raw w [v0] x.1.1/\(kD.slice 9 kD.str).raw w [v0] x.1.1/\(kD.slice 5 kD.byte).raw w [v1] x.1.2.1/\kR.raw w [v2] x.1.2.2.1/\(kD.slice 9 kD.str).raw w [v2] x.1.2.2.1/\Qi x.1.2.2.2.1/\Qi x.1.2.2.2.2/\Qi x.2:=by
 obtain ⟨_,_,rfl,V,ag⟩:=kD.yP h;have ah:=jf V;obtain ⟨_,_,_,rfl,o,J,H,F,I,E,D⟩:=ah;obtain ⟨rfl,aq⟩:=kD.yX ag;exact ⟨_,_,_,rfl,V,o,J,H,F,I,E,D,aq⟩
def jy {w:Ab} {c0 c1 c2 c3 c4 c5:Ad} {x:kr} (h:jB.raw w [c0,c1,c2,c3,c4,c5] x):c3=.int .i64 x.1.2.2.2.1/\c4=.int .i64 x.1.2.2.2.2/\c5=.int .i64 x.2/\jF.raw w [c0,c1,c2,Qn x.1.2.2.2.1,Qn x.1.2.2.2.2] x.1/\kR.raw w [c0] x.1.1/\(kD.slice 9 kD.str).raw w [c0] x.1.1/\(kD.slice 5 kD.byte).raw w [c1] x.1.2.1/\kR.raw w [c2] x.1.2.2.1/\(kD.slice 9 kD.str).raw w [c2] x.1.2.2.1/\Qi x.1.2.2.2.1/\Qi x.1.2.2.2.2/\Qi x.2:=by
 obtain ⟨v0,v1,v2,he,h2⟩:=kBq h;simp only [Ai,and_true] at he;obtain ⟨rfl,rfl,rfl,rfl,rfl,rfl⟩:=he;exact ⟨rfl,rfl,rfl,h2⟩
def kAx (x:kr) (v:Int):kr:=(x.1,v)
def kLt {x:kr} (v:Int) (hv:Qi v) {w:Ab} {cs:Ac Ad} {S:Nat->Prop} (h:jB.is true w cs x S):jB.is true w (cs.set 5 (Qn v)) (kAx x v) S:=by
 obtain ⟨c0,d0,A0,B0,rfl,p0,q0,ar,O,J⟩:=h;obtain ⟨rfl,_⟩:=q0;have l0:=kD.len _ p0;change _=5 at l0;have e:((c0++[.int .i64 x.2]):Ac Ad).set 5 (Qn v)=(c0++[.int .i64 v]):=by
  obtain ⟨o,F,D,E,H,rfl⟩:∃ o F D E H,c0=[o,F,D,E,H]:=by match c0,l0 with | [o,F,D,E,H],_=>exact ⟨_,_,_,_,_,rfl⟩
  rfl
 rw [e];exact ⟨_,_,A0,B0,rfl,p0,⟨rfl,hv⟩,ar,O,J⟩
abbrev kg:=Int × (Ac kr)
instance decContentStore:Aa kg:=inferInstanceAs (Aa (Int × (Ac kr)))
def kP:kD kg:=.pair .int (.slice 144 jB)
def jN {w:Ab} {cs:Ac Ad} {x:kg} (h:kP.raw w cs x):∃ v1,cs=[.int .i64 x.1,v1]/\Qi x.1/\(kD.slice 144 jB).raw w [v1] x.2:=by
 obtain ⟨_,_,rfl,V,ag⟩:=kD.yP h;obtain ⟨rfl,bd⟩:=kD.yX V;obtain ⟨_,rfl,aq⟩:=kD.kAf ag;exact ⟨_,rfl,bd,aq⟩
def kTc (x:kg) (v:Int):kg:=(v,x.2)
def kSn {x:kg} (v:Int) (hv:Qi v) {w:Ab} {cs:Ac Ad} {S:Nat->Prop} (h:kP.is true w cs x S):kP.is true w (cs.set 0 (Qn v)) (kTc x v) S:=by
 obtain ⟨c0,d0,A0,B0,rfl,p0,q0,ar,O,J⟩:=h;obtain ⟨rfl,_⟩:=p0;have e:(([.int .i64 x.1]++d0):Ac Ad).set 0 (Qn v)=([.int .i64 v]++d0):=by
  rfl
 rw [e];exact ⟨_,_,A0,B0,rfl,⟨rfl,hv⟩,q0,ar,O,J⟩
abbrev jX:=(Ac jQ) × kg × (Ac kF) × (Ac jK) × (Ac jI) × (Ac kW) × Int
instance decNode:Aa jX:=(@Ae _ _ (inferInstanceAs (Aa (Ac jQ))) (@Ae _ _ (inferInstanceAs (Aa kg)) (@Ae _ _ (inferInstanceAs (Aa (Ac kF))) (@Ae _ _ (inferInstanceAs (Aa (Ac jK))) (@Ae _ _ (inferInstanceAs (Aa (Ac jI))) (@Ae _ _ (inferInstanceAs (Aa (Ac kW))) (inferInstanceAs (Aa Int))))))))
def jo:kD jX:=.pair (.slice 60 jF) (.pair kP (.pair (.slice 107 kH) (.pair (.slice 140 kz) (.pair (.slice 176 jA) (.pair (.slice 179 kN) .int)))))
def yO {w:Ab} {cs:Ac Ad} {x:jX} (h:jo.raw w cs x):∃ v0 v2 v3 v4 v5 v6,cs=[v0,.int .i64 x.2.1.1,v2,v3,v4,v5,v6,.int .i64 x.2.2.2.2.2.2]/\(kD.slice 60 jF).raw w [v0] x.1/\kP.raw w [Qn x.2.1.1,v2] x.2.1/\Qi x.2.1.1/\(kD.slice 144 jB).raw w [v2] x.2.1.2/\(kD.slice 107 kH).raw w [v3] x.2.2.1/\(kD.slice 140 kz).raw w [v4] x.2.2.2.1/\(kD.slice 176 jA).raw w [v5] x.2.2.2.2.1/\(kD.slice 179 kN).raw w [v6] x.2.2.2.2.2.1/\Qi x.2.2.2.2.2.2:=by
 obtain ⟨_,_,rfl,V,ag⟩:=kD.yP h;obtain ⟨_,rfl,bd⟩:=kD.kAf V;obtain ⟨_,_,rfl,a9,el⟩:=kD.yP ag;have aj:=jN a9;obtain ⟨_,rfl,D,o⟩:=aj;obtain ⟨_,_,rfl,bl,fn⟩:=kD.yP el;obtain ⟨_,rfl,a8⟩:=kD.kAf bl;obtain ⟨_,_,rfl,bi,gu⟩:=kD.yP fn;obtain ⟨_,rfl,bk⟩:=kD.kAf bi;obtain ⟨_,_,rfl,bg,g6⟩:=kD.yP gu;obtain ⟨_,rfl,br⟩:=kD.kAf bg;obtain ⟨_,_,rfl,bo,az⟩:=kD.yP g6;obtain ⟨_,rfl,I⟩:=kD.kAf bo;obtain ⟨rfl,Z⟩:=kD.yX az;exact ⟨_,_,_,_,_,_,rfl,bd,a9,D,o,a8,bk,br,I,Z⟩
def RNode_rawL {w:Ab} {c0 c1 c2 c3 c4 c5 N o:Ad} {x:jX} (h:jo.raw w [c0,c1,c2,c3,c4,c5,N,o] x):c1=.int .i64 x.2.1.1/\o=.int .i64 x.2.2.2.2.2.2/\(kD.slice 60 jF).raw w [c0] x.1/\kP.raw w [Qn x.2.1.1,c2] x.2.1/\Qi x.2.1.1/\(kD.slice 144 jB).raw w [c2] x.2.1.2/\(kD.slice 107 kH).raw w [c3] x.2.2.1/\(kD.slice 140 kz).raw w [c4] x.2.2.2.1/\(kD.slice 176 jA).raw w [c5] x.2.2.2.2.1/\(kD.slice 179 kN).raw w [N] x.2.2.2.2.2.1/\Qi x.2.2.2.2.2.2:=by
 obtain ⟨v0,v2,v3,v4,v5,v6,he,h2⟩:=yO h;simp only [Ai,and_true] at he;obtain ⟨rfl,rfl,rfl,rfl,rfl,rfl,rfl,rfl⟩:=he;exact ⟨rfl,rfl,h2⟩
def jDl (x:jX) (v:Int):jX:=(x.1,x.2.1,x.2.2.1,x.2.2.2.1,x.2.2.2.2.1,x.2.2.2.2.2.1,v)
def RNode_set7 {x:jX} (v:Int) (hv:Qi v) {w:Ab} {cs:Ac Ad} {S:Nat->Prop} (h:jo.is true w cs x S):jo.is true w (cs.set 7 (Qn v)) (jDl x v) S:=by
 obtain ⟨c0,d0,A0,B0,rfl,p0,q0,ar,O,J⟩:=h;obtain ⟨c1,d1,A1,B1,rfl,p1,q1,hA1,H,hd1⟩:=q0;obtain ⟨c2,d2,A2,B2,rfl,p2,q2,hA2,E,X⟩:=q1;obtain ⟨c3,d3,A3,B3,rfl,F,q3,W,I,av⟩:=q2;obtain ⟨c4,d4,A4,B4,rfl,N,q4,ae,Y,ad⟩:=q3;obtain ⟨c5,d5,A5,B5,rfl,U,q5,ag,ac,af⟩:=q4;obtain ⟨rfl,_⟩:=q5;have l0:=kD.len _ p0;have R:=kD.len _ p1;have l2:=kD.len _ p2;have l3:=kD.len _ F;have l4:=kD.len _ N;have l5:=kD.len _ U;change _=1 at l0;change _=2 at R;change _=1 at l2;change _=1 at l3;change _=1 at l4;change _=1 at l5;have e:((c0++(c1++(c2++(c3++(c4++(c5++[.int .i64 x.2.2.2.2.2.2])))))):Ac Ad).set 7 (Qn v)=(c0++(c1++(c2++(c3++(c4++(c5++[.int .i64 v])))))):=by
  obtain ⟨o,rfl⟩:∃ o,c0=[o]:=qI;obtain ⟨D,ab,rfl⟩:∃ D ab,c1=[D,ab]:=by match c1,R with | [D,ab],_=>exact ⟨_,_,rfl⟩
  obtain ⟨L,rfl⟩:∃ L,c2=[L]:=qK;obtain ⟨V,rfl⟩:∃ V,c3=[V]:=qL;obtain ⟨aa,rfl⟩:∃ aa,c4=[aa]:=by match c4,l4 with | [aa],_=>exact ⟨_,rfl⟩
  obtain ⟨Z,rfl⟩:∃ Z,c5=[Z]:=by match c5,l5 with | [Z],_=>exact ⟨_,rfl⟩
  rfl
 rw [e];exact ⟨_,_,A0,B0,rfl,p0,⟨_,_,A1,B1,rfl,p1,⟨_,_,A2,B2,rfl,p2,⟨_,_,A3,B3,rfl,F,⟨_,_,A4,B4,rfl,N,⟨_,_,A5,B5,rfl,U,⟨rfl,hv⟩,ag,ac,af⟩,ae,Y,ad⟩,W,I,av⟩,hA2,E,X⟩,hA1,H,hd1⟩,ar,O,J⟩
abbrev ji:=Int × Bool × jE × jQ
instance decOutgoing:Aa ji:=inferInstanceAs (Aa (Int × Bool × jE × jQ))
def jO:kD ji:=.pair .int (.pair .bool (.pair jM jF))
def kCw {w:Ab} {cs:Ac Ad} {x:ji} (h:jO.raw w cs x):∃ v2 v6 I v8,cs=[.int .i64 x.1,.bool x.2.1,v2,.int .i64 x.2.2.1.2.1,.int .i64 x.2.2.1.2.2.1,.int .i64 x.2.2.1.2.2.2,v6,I,v8,.int .i64 x.2.2.2.2.2.2.1,.int .i64 x.2.2.2.2.2.2.2]/\Qi x.1/\jM.raw w [v2,Qn x.2.2.1.2.1,Qn x.2.2.1.2.2.1,Qn x.2.2.1.2.2.2] x.2.2.1/\kR.raw w [v2] x.2.2.1.1/\(kD.slice 9 kD.str).raw w [v2] x.2.2.1.1/\Qi x.2.2.1.2.1/\Qi x.2.2.1.2.2.1/\Qi x.2.2.1.2.2.2/\jF.raw w [v6,I,v8,Qn x.2.2.2.2.2.2.1,Qn x.2.2.2.2.2.2.2] x.2.2.2/\kR.raw w [v6] x.2.2.2.1/\(kD.slice 9 kD.str).raw w [v6] x.2.2.2.1/\(kD.slice 5 kD.byte).raw w [I] x.2.2.2.2.1/\kR.raw w [v8] x.2.2.2.2.2.1/\(kD.slice 9 kD.str).raw w [v8] x.2.2.2.2.2.1/\Qi x.2.2.2.2.2.2.1/\Qi x.2.2.2.2.2.2.2:=by
 obtain ⟨_,_,rfl,V,ag⟩:=kD.yP h;obtain ⟨rfl,bd⟩:=kD.yX V;obtain ⟨_,_,rfl,a9,el⟩:=kD.yP ag;obtain rfl:=kD.bool_raw a9;obtain ⟨_,_,rfl,bl,fn⟩:=kD.yP el;have ak:=jY bl;obtain ⟨_,rfl,D,L,J,o,U⟩:=ak;have aw:=jf fn;obtain ⟨_,_,_,rfl,O,N,R,W,H,F,E⟩:=aw;exact ⟨_,_,_,_,rfl,bd,bl,D,L,J,o,U,fn,O,N,R,W,H,F,E⟩
def kAr {w:Ab} {c0 c1 c2 c3 c4 c5 N o E c9 D:Ad} {x:ji} (h:jO.raw w [c0,c1,c2,c3,c4,c5,N,o,E,c9,D] x):c0=.int .i64 x.1/\c1=.bool x.2.1/\c3=.int .i64 x.2.2.1.2.1/\c4=.int .i64 x.2.2.1.2.2.1/\c5=.int .i64 x.2.2.1.2.2.2/\c9=.int .i64 x.2.2.2.2.2.2.1/\D=.int .i64 x.2.2.2.2.2.2.2/\Qi x.1/\jM.raw w [c2,Qn x.2.2.1.2.1,Qn x.2.2.1.2.2.1,Qn x.2.2.1.2.2.2] x.2.2.1/\kR.raw w [c2] x.2.2.1.1/\(kD.slice 9 kD.str).raw w [c2] x.2.2.1.1/\Qi x.2.2.1.2.1/\Qi x.2.2.1.2.2.1/\Qi x.2.2.1.2.2.2/\jF.raw w [N,o,E,Qn x.2.2.2.2.2.2.1,Qn x.2.2.2.2.2.2.2] x.2.2.2/\kR.raw w [N] x.2.2.2.1/\(kD.slice 9 kD.str).raw w [N] x.2.2.2.1/\(kD.slice 5 kD.byte).raw w [o] x.2.2.2.2.1/\kR.raw w [E] x.2.2.2.2.2.1/\(kD.slice 9 kD.str).raw w [E] x.2.2.2.2.2.1/\Qi x.2.2.2.2.2.2.1/\Qi x.2.2.2.2.2.2.2:=by
 obtain ⟨v2,v6,I,v8,he,h2⟩:=kCw h;simp only [Ai,and_true] at he;obtain ⟨rfl,rfl,rfl,rfl,rfl,rfl,rfl,rfl,rfl,rfl,rfl⟩:=he;exact ⟨rfl,rfl,rfl,rfl,rfl,rfl,rfl,h2⟩
abbrev kBx:=jX × (Ac ji)
instance decAction:Aa kBx:=inferInstanceAs (Aa (jX × (Ac ji)))
def kDe:kD kBx:=.pair jo (.slice 62 jO)
def kEv {w:Ab} {cs:Ac Ad} {x:kBx} (h:kDe.raw w cs x):∃ v0 v2 v3 v4 v5 v6 v8,cs=[v0,.int .i64 x.1.2.1.1,v2,v3,v4,v5,v6,.int .i64 x.1.2.2.2.2.2.2,v8]/\jo.raw w [v0,Qn x.1.2.1.1,v2,v3,v4,v5,v6,Qn x.1.2.2.2.2.2.2] x.1/\(kD.slice 60 jF).raw w [v0] x.1.1/\kP.raw w [Qn x.1.2.1.1,v2] x.1.2.1/\Qi x.1.2.1.1/\(kD.slice 144 jB).raw w [v2] x.1.2.1.2/\(kD.slice 107 kH).raw w [v3] x.1.2.2.1/\(kD.slice 140 kz).raw w [v4] x.1.2.2.2.1/\(kD.slice 176 jA).raw w [v5] x.1.2.2.2.2.1/\(kD.slice 179 kN).raw w [v6] x.1.2.2.2.2.2.1/\Qi x.1.2.2.2.2.2.2/\(kD.slice 62 jO).raw w [v8] x.2:=by
 obtain ⟨_,_,rfl,V,ag⟩:=kD.yP h;have ah:=yO V;obtain ⟨_,_,_,_,_,_,rfl,o,J,H,F,I,E,D,N,L⟩:=ah;obtain ⟨_,rfl,aq⟩:=kD.kAf ag;exact ⟨_,_,_,_,_,_,_,rfl,V,o,J,H,F,I,E,D,N,L,aq⟩
abbrev kQn:=ko × Int
instance decKey:Aa kQn:=inferInstanceAs (Aa (ko × Int))
def kLs:kD kQn:=.pair kR .int
def RKey_raw {w:Ab} {cs:Ac Ad} {x:kQn} (h:kLs.raw w cs x):∃ v0,cs=[v0,.int .i64 x.2]/\kR.raw w [v0] x.1/\(kD.slice 9 kD.str).raw w [v0] x.1/\Qi x.2:=by
 exact tO
def jEy {w:Ab} {c0 c1:Ad} {x:kQn} (h:kLs.raw w [c0,c1] x):c1=.int .i64 x.2/\kR.raw w [c0] x.1/\(kD.slice 9 kD.str).raw w [c0] x.1/\Qi x.2:=by
 obtain ⟨v0,he,h2⟩:=RKey_raw h;simp only [Ai,and_true] at he;obtain ⟨rfl,rfl⟩:=he;exact ⟨rfl,h2⟩
abbrev kCd:=(Ac Bi)
instance decPattern:Aa kCd:=inferInstanceAs (Aa ((Ac Bi)))
def zu:kD kCd:=(.slice 9 .str)
def kHv {w:Ab} {cs:Ac Ad} {x:kCd} (h:zu.raw w cs x):∃ v0,cs=[v0]/\(kD.slice 9 kD.str).raw w [v0] x:=by
 obtain ⟨_,rfl,bd⟩:=kD.kAf h;exact ⟨_,rfl,bd⟩
abbrev kNm:=kCd × kCd
instance decRule:Aa kNm:=inferInstanceAs (Aa (kCd × kCd))
def kOw:kD kNm:=.pair zu zu
def jEx {w:Ab} {cs:Ac Ad} {x:kNm} (h:kOw.raw w cs x):∃ v0 v1,cs=[v0,v1]/\zu.raw w [v0] x.1/\(kD.slice 9 kD.str).raw w [v0] x.1/\zu.raw w [v1] x.2/\(kD.slice 9 kD.str).raw w [v1] x.2:=by
 obtain ⟨_,_,rfl,V,ag⟩:=kD.yP h;have ah:=kHv V;obtain ⟨_,rfl,o⟩:=ah;have aj:=kHv ag;obtain ⟨_,rfl,D⟩:=aj;exact ⟨_,_,rfl,V,o,ag,D⟩
abbrev kCm:=(Ac kQn) × (Ac kNm) × (Ac ko) × (Ac jQ)
instance decTrustPolicy:Aa kCm:=inferInstanceAs (Aa ((Ac kQn) × (Ac kNm) × (Ac ko) × (Ac jQ)))
def kBt:kD kCm:=.pair (.slice 226 kLs) (.pair (.slice 229 kOw) (.pair (.slice 36 kR) (.slice 60 jF)))
def kVt {w:Ab} {cs:Ac Ad} {x:kCm} (h:kBt.raw w cs x):∃ v0 v1 v2 v3,cs=[v0,v1,v2,v3]/\(kD.slice 226 kLs).raw w [v0] x.1/\(kD.slice 229 kOw).raw w [v1] x.2.1/\(kD.slice 36 kR).raw w [v2] x.2.2.1/\(kD.slice 60 jF).raw w [v3] x.2.2.2:=by
 obtain ⟨_,_,rfl,V,ag⟩:=kD.yP h;obtain ⟨_,rfl,bd⟩:=kD.kAf V;obtain ⟨_,_,rfl,a9,el⟩:=kD.yP ag;obtain ⟨_,rfl,aq⟩:=kD.kAf a9;obtain ⟨_,_,rfl,bl,fn⟩:=kD.yP el;obtain ⟨_,rfl,a8⟩:=kD.kAf bl;obtain ⟨_,rfl,bk⟩:=kD.kAf fn;exact ⟨_,_,_,_,rfl,bd,aq,a8,bk⟩
end Go.Proofs.YthocbplmdjkifaaGreat
namespace Go.Proofs.YthocbplmdjkifaaGreat
open Go.ChangeShapes Go.WideShapes Go.ChangeAt Go.RowKit Go.Deep _root_.Go.Proofs.Tryz
section
variable {H:Type} {enc:Bj × Ad->H} {P:Bo} {w:Ab}
def bridge_byte {T:Bj} (hT:P.underlying T=some (.int .u8)) {fuel:Nat} {cs:Ac Ad} {y:DataW H × Ac Ay} (h:Bb enc P w 0 (λ_=>true) true fuel T cs=some y):∃ x,kD.byte.raw w cs x:=by
 obtain ⟨n,rfl,_,hw⟩:=DataW.trod_int hT h;have hn:0<=n/\n<=255:=by simpa [Lit.wf,IntKind.min,IntKind.max,IntKind.signed,IntKind.bits] using hw
 refine ⟨UInt8.ofNat n.toNat,?_⟩;show _=_;have:(UInt8.ofNat n.toNat).toNat=n.toNat:=by rw [UInt8.toNat_ofNat'];omega
 rw [this,Int.toNat_of_nonneg hn.1]
def jGi {α:Type} {r:kD α} {e T E:Bj} (hT:P.underlying T=some (.slice E)) (hn:P.cellsOf E=r.n) (O:0 < r.n)
    (ih:∀ {fuel:Nat} {cs:Ac Ad} {y:DataW H × Ac Ay},Bb enc P w 0 (λ_=>true) true fuel E cs=some y->∃ x,r.raw w cs x)
    {fuel:Nat} {cs:Ac Ad} {y:DataW H × Ac Ay} (h:Bb enc P w 0 (λ_=>true) true fuel T cs=some y):∃ xs,(kD.slice e r).raw w cs xs:=by
 rcases open_slice hT h with ⟨rfl,_⟩|⟨a,len,cap,m,n,D,Pl,rfl,_,hl,hm,hmm,_,hx⟩
 · exact ⟨[],none,0,0,rfl,rfl,Nat.le_refl _,Nat.zero_le _,.inl ⟨rfl,by simp⟩⟩
 simp only [if_true] at hmm
 subst hmm
 rw [hn] at hx
 rcases Nat.eq_zero_or_pos len with rfl | hlen
 · exact ⟨[],some a,0,m,rfl,rfl,hl,hm,.inl ⟨rfl,by simp⟩⟩
 have U:∀ i,i < m->∀ j,j < r.n->∃ v,w.cell? ((a.add (i * r.n)).add j)=some v:=by
  intro i hi j I;obtain ⟨cs',h1,h2⟩:=hx i hi;obtain ⟨_,J,hc⟩:=World.cells?_some h1;rw [hc j I,List.getElem?_eq_getElem bF2];exact ⟨_,rfl⟩
 obtain ⟨v0,L⟩:=U 0 bF2 0 O
 have d0:(a.add (0 * r.n)).add 0=a:=by simp [Addr.add]
 rw [d0] at L
 have R:∃ cur e' fr,w.heap[a.block]?=some (.cells cur e' fr)/\a.spot=none:=by
  unfold World.cell? at L;split at L
  · rename_i c e' fr hb
    refine ⟨c,e',fr,hb,?_⟩;cases hs:a.spot with
    | none=>rfl
    | some s=>simp [hs] at L
  cases L
 obtain ⟨cur,e',fr,hb,hs⟩:=R
 obtain ⟨b,off,V⟩:=a
 simp only at hs hb
 subst hs
 have F:∀ i j,(((⟨b,off,none⟩:Addr).add (i * r.n)).add j)=⟨b,off + i * r.n + j,none⟩:=by
  intro i j;unfold Addr.add;split <;> split <;> simp_all
 have o:∀ i,i < m->∀ j,j < r.n->∃ v,cur[off + i * r.n + j]?=some v:=by
  intro i hi j I;obtain ⟨v,hv⟩:=U i hi j I;rw [F,cell_of_row w b _ cur e' fr hb] at hv;exact ⟨v,hv⟩
 have hsize:off + m * r.n<=cur.size:=by
  obtain ⟨v,hv⟩:=o (m - 1) bF2 (r.n - 1) bF2;have:=(Array.getElem?_eq_some_iff.1 hv).1;have e1:m * r.n=(m - 1) * r.n + r.n:=by
   conv=>lhs;rw [show m=(m - 1) + 1 by omega]
   rw [Nat.add_mul,Nat.one_mul]
  omega
 have hcut:∀ i,i < m->∃ x,r.raw w ((cur.toList.drop (off + i * r.n)).take r.n) x:=by
  intro i hi;obtain ⟨cs',h1,h2⟩:=hx i hi;obtain ⟨_,J,hc⟩:=World.cells?_some h1;have:cs'=(cur.toList.drop (off + i * r.n)).take r.n:=by
   apply List.ext_getElem?;intro j;by_cases I:j < r.n
   · rw [<- hc j I,F,cell_of_row w b _ cur e' fr hb];simp [I,List.getElem?_drop]
   rw [Av bF2,Av bE6]
  rw [<- this];exact ih h2
 have hrow:∀ k,k<=len->∃ xs:Ac α,xs.length=k/\kD.row r false w ((cur.toList.drop off).take (k * r.n)) xs (λ_=>True):=by
  intro k;induction k with
  | zero=>intro _;exact ⟨[],rfl,by simp [kD.row]⟩
  | succ k N =>
    intro hk;obtain ⟨xs,bi,hr⟩:=N bF2;obtain ⟨x,ak⟩:=hcut k bF2;refine ⟨xs++[x],by simp [bi],?_⟩;have:(cur.toList.drop off).take ((k + 1) * r.n)=(cur.toList.drop off).take (k * r.n)++(cur.toList.drop (off + k * r.n)).take r.n:=by
      rw [Nat.add_mul,Nat.one_mul,List.take_add,List.drop_drop]
    rw [this];exact kD.kAh hr (kD.kDh ak) (λ_ h=>h) (λ_ h=>h) bF3
 obtain ⟨xs,bi,hr⟩:=hrow len nL
 refine ⟨xs,some ⟨b,off,none⟩,len,m,rfl,bi.symm,hl,hm,.inr ⟨b,off,rfl,cur,e',fr,cur.toList.take off,_,(cur.toList.drop off).drop (len * r.n),hb,?_,?_,hsize,by simp,trivial,kD.yU hr (λ_ _=>⟨trivial,by simp⟩)⟩⟩
 · rw [Aw,Aw]
 simp;omega
def kQq (hl:laidOutB P=true) {W W':Ab} (hb:Qb W W'):∀ {o:Ac Bj} {vs:Ac Ad} {ds:Ac (DataW H)} {ps:Ac Ay},(∀ t∈o,P.readableRec t=true/\t < P.types.size) ->
    DataW.TrodAll enc P W 0 (λ_=>true) true o vs ds ps->(∀ x∈ps,x.block < W.heap.size)->DataW.TrodAll enc P W' 0 (λb=>decide (b < W.heap.size)) true o vs ds ps
  | [],[],[],ps,_,h,_=>h
  | t :: o,v :: vs,d :: ds,ps,ht,⟨p,q,h1,h2,h3⟩,hlt=>by
    subst h3;exact ⟨p,q,Below.trod hl (ht t bF3).1 (ht t bF3).2 h1 hb tY,kQq hl hb (λu hu=>ht u (by simp [hu])) h2 tY,rfl⟩
end
def law_own:ownKnob prog.godebug=none:=by kernel_rfl
def law_laidOut:laidOutB prog=true:=by kernel_rfl
def LawPost (w:Ab) (e:Ending) (w':Ab):Prop:=e=.returned (.bool true)/\Qb w w'
def law_post {H:Type} {enc:Bj × Ad->H} {fn:Func} {s:ChangeSpec} {W W':Ab} {args:Al Ad} {ds E:Ac (DataW H)} {o:Ac Ay} {tb:Bj}
    (hW:DataW.Whole enc prog fn.params.toList s.vars false W args.toList ds E o) (D:s.vars=[]) (F:fn.resultTypes=#[tb]) (es:prog.underlying tb=some .bool)
    (aa:(s.fn H (ds++E)).results=[.lit (.bool true)]/\(s.fn H (ds++E)).args=ds/\(s.fn H (ds++E)).vars=[])
    (R:∀ t∈fn.params.toList,prog.readableRec t=true/\t < prog.types.size) (hb:Qb W W') :
    s.post enc prog fn false true false false W args (.bool true) W':=by
 have hlt:∀ p∈o,p.block < W.heap.size:=λp hp=>by simpa using hW.lt p hp
 have I:=hW
 obtain ⟨p,q,hA,hV,rfl,_,_⟩:=hW
 rw [D] at hV
 have J:E=[]/\q=[]:=by
  cases E with
  | nil=>exact ⟨rfl,hV⟩
  | cons g E=>exact hV.elim
 obtain ⟨rfl,rfl⟩:=J
 refine ⟨ds,[],_,[],p,[],I,?_,?_,?_,hb.frame _,λh=>by cases h⟩
 · rw [aa.1,F];exact trodAll_cons_mk (shut_bool es true) trodAll_mk0
 · rw [aa.2.1];exact kQq law_laidOut hb R hA tY
 rw [aa.2.2,D]
 rfl
def jGj {H:Type} {enc:Bj × Ad->H} {w:Ab} {fuel:Nat} {cs:Ac Ad} {y:DataW H × Ac Ay} (h:Bb enc prog w 0 (λ_=>true) true fuel 22 cs=some y):∃ x,(kD.slice 5 kD.byte).raw w cs x :=
  jGi underlying22 bE5 bF1 (λh=>bridge_byte underlying5 h) h
end Go.Proofs.YthocbplmdjkifaaGreat
namespace Go.Proofs.YthocbplmdjkifaaGreat
open Go.RowKit _root_.Go.Proofs.Tryz
def lawsbig_c {w:Ab} {v:Ad} {ah:Ac UInt8} (Y:(kD.slice 5 kD.byte).raw w [v] ah) :
    Calls prog 4 #[v] w (bQ w (.bool (decide ((ah.length:Int) > 1048576)))):=by
 obtain ⟨ca,cc,rfl,_⟩:=kD.sl Y
 go_enter func4,ntmps4
 go_wp2
 go_ret
 exact ⟨by simp,bR⟩
end Go.Proofs.YthocbplmdjkifaaGreat
namespace Go.Proofs.YthocbplmdjkifaaGreat
open Go Go.RowKit _root_.Go.Proofs.Tryz
def kZs (md:Aj) (ops:Al Ar):Nat->Ac Bool->Al Bool->Bool
  | _,[],listed=>(Ah md ops listed).isEmpty
  | k,true :: p,listed=>(Ah md ops listed).contains k && Bl md ops listed k && kZs md ops (k + 1) p (listed.setIfInBounds k true)
  | k,false :: p,listed=>(Ah md ops listed==[k]) && kZs md ops (k + 1) p (listed.setIfInBounds k true)
def softOk (md:Aj) (ops:Al Ar) (p:Ac Bool):Bool:=Ak ops && (p.length==ops.size && kZs md ops 0 p (Aq ops.size false))
section
variable {P:Bo} {ops:Al Ar} {S:Ab->Prop} {Q:Exit->Act->Ab->Prop}
def kDc (P:Bo) (ops:Al Ar) (S:Ab->Prop) (Q:Exit->Act->Ab->Prop):Nat->Ac Ar->Ac Bool->Act->Ab->Prop
  | k,o :: l,true :: p,a,w=>∃ v,YieldsIf P ops S o v a/\kDc P ops S Q (k + 1) l p (a.put o.dst v) w
  | k,o :: l,false :: p,a,w=>if Am o (Bf ops a.tmps) then o.wp P a w (λa' w'=>S w'/\kDc P ops S Q (k + 1) l p a' w') Q\/(o.asks P a w/\LetsOut Q) else S w/\kDc P ops S Q (k + 1) l p (a.put o.dst undef) w
  | _,l,_,a,w=>Bc P ops Q l a w
@[irreducible] def soft (P:Bo) (ops:Al Ar) (S:Ab->Prop) (Q:Exit->Act->Ab->Prop) (k:Nat) (l:Ac Ar) (p:Ac Bool) (a:Act) (w:Ab):Prop:=kDc P ops S Q k l p a w
def kNv (hs:Ak ops=true) (hQ:∀ c a d v w,Q (.panic c) (Bg a d v) w->Q (.panic c) a w):∀ (p:Ac Bool) (l:Ac Ar) (k:Nat) (fuel:Nat) (listed:Al Bool) (a:Act) (w:Ab),
    l.length=p.length->(∀ j,l[j]?=ops[k + j]?)->p.length<=fuel->kZs .any ops k p listed=true->S w->kDc P ops S Q k l p a w->wpAnyH P .any ops Q S fuel listed a w
  | [],[],k,fuel,listed,a,w,_,_,_,hB,_,h=>wpAnyH_done (by simpa [kZs] using hB) (by simpa [kDc,Bc] using h) fuel
  | [],o :: l,k,fuel,listed,a,w,hl,_,_,hB,_,h=>by simp at hl
  | b :: p,[],k,fuel,listed,a,w,hl,_,_,hB,_,h=>by simp at hl
  | b :: p,o :: l,k,0,listed,a,w,hl,_,hf,hB,_,h=>by simp at hf
  | true :: p,o :: l,k,fuel + 1,listed,a,w,hl,ho,hf,hB,hS,h=>by
    obtain ⟨v,hy,h⟩:=h;simp only [kZs,Ag] at hB;have h0:ops[k]?=some o:=vQ;exact wpAnyH_take h0 hs hB.1.2 hB.1.1 (λc a w=>hQ c a _ _ w) hy hS (kNv hs hQ p l (k + 1) fuel _ _ _ bC0 dX bC6 hB.2 hS h)
  | false :: p,o :: l,k,fuel + 1,listed,a,w,hl,ho,hf,hB,hS,h=>by
    simp only [kZs,Ag,Bd] at hB;have h0:ops[k]?=some o:=vQ;refine wpAnyH_all hB.1 bF3 ?_;intro j I;obtain rfl:j=k:=bD7;have go:∀ a' w',S w'/\kDc P ops S Q (j + 1) l p a' w'->S w'/\wpAnyH P .any ops Q S fuel (listed.setIfInBounds j true) a' w':=λa' w' F =>
      ⟨F.1,kNv hs hQ p l (j + 1) fuel _ _ _ bC0 dY bC6 hB.2 F.1 F.2⟩
    exact oL
def kK {id:Nat} {a:Act} {w:Ab} {l:Ac Ar} (S:Ab->Prop) (p:Ac Bool) (hm:P.follows .mixedOrders=true) (hB:softOk .any l.toArray p=true)
    (hQ:∀ c a d v w,Q (.panic c) (Bg a d v) w->Q (.panic c) a w) (hS:S { w with drawn:=w.drawn + 1 })
    (h:∀ w',S w'->soft P l.toArray S Q 0 l p a w'):(Az id l.toArray true).wp P Q a w:=by
 simp only [softOk,Ag,Bd] at hB
 have h:=h _ hS
 unfold soft at h
 exact wp_region_held (S:=S) hm (kNv hB.1 hQ p l 0 _ _ a _ (by simpa using hB.2.1.symm) (λj=>by simp) (by rw [hB.2.1];exact Nat.le_refl _) hB.2.2 hS h)
def kBv (P:Bo) (md:Aj) (ops:Al Ar) (Q:Exit->Act->Ab->Prop) (S:Ab->Prop) (n:Nat) (L:Al Bool->Act->Ab->Prop):Nat->Al Bool->Act->Ab->Prop
  | 0,listed,a,w=>L listed a w
  | f + 1,listed,a,w =>
    Ah md ops listed≠[]/\∀ i∈Ah md ops listed,i < n/\wpOp P ops Q i (λa' w'=>S w'/\kBv P md ops Q S n L f (listed.setIfInBounds i true) a' w') a w
def kBy {md:Aj} {n g:Nat} {L:Al Bool->Act->Ab->Prop} (hL:∀ listed a w,L listed a w->wpAny P md ops Q g listed a w) :
    ∀ (f:Nat) (listed:Al Bool) (a:Act) (w:Ab),kBv P md ops Q S n L f listed a w->wpAny P md ops Q (f + g) listed a w
  | 0,listed,a,w,h=>by rw [Nat.zero_add];exact hL _ _ _ h
  | f + 1,listed,a,w,h=>by
    rw [show f + 1 + g=(f + g) + 1 by omega];exact ⟨λh0=>absurd h0 h.1,λi hi=>wpOp_mono (λa' w' F=>kBy hL f _ a' w' F.2) (h.2 i hi).2⟩
def kQp {md:Aj} {n i:Nat} {W:Ar} {v:Ad} {L:Al Bool->Act->Ab->Prop} (hi:ops[i]?=some W) (E:∀ (j:Nat) (o:Ar) cs b,ops[j]?=some o->o.op≠.select cs b)
    (hQ:∀ c a w,Q (.panic c) (a.put W.dst v) w->Q (.panic c) a w)
    (hs:Bh md ops n=true) (hc:Ba md ops n=true) (hn:n < ops.size) (U:i < n)
    (Y:∀ listed a w,L listed a w->∀ j∈Ah md ops listed,n<=j) :
    ∀ (f:Nat) (listed:Al Bool) (a:Act) (w:Ab),HeadInv md ops n listed ->
      (∀ j oj,ops[j]?=some oj->j≠i->listed.getD j true=false->(∀ e∈oj.after,Region.binds md e=true->e.on≠i)->W.apart ops oj=true) ->
      i∈Ah md ops listed->YieldsIf P ops S W v a->S w ->
      kBv P md ops Q S n L f (listed.setIfInBounds i true) (a.put W.dst v) w->kBv P md ops Q S n L (f + 1) listed a w:=by
 intro f
 induction f with
 | zero =>
   intro listed a w inv _ hr hy hS H;have F:=(mem_ready.1 hr).1;refine ⟨λh=>wB,λj I=>?_⟩;have aa:j < n:=by
     rcases Nat.lt_or_ge j n with h | h
     · exact h
     · exact absurd I (tail_waits hs hc hn inv _ i rfl U F j h)
   exact oM
 | succ f ih =>
   intro listed a w inv R hr hy hS H;have F:=(mem_ready.1 hr).1;refine ⟨λh=>wB,λj I=>?_⟩;have aa:j < n:=by
     rcases Nat.lt_or_ge j n with h | h
     · exact h
     · exact absurd I (tail_waits hs hc hn inv _ i rfl U F j h)
   exact oN
def kRq (md:Aj) (ops:Al Ar) (g:Nat):Nat->Ac Bool->Al Bool->Bool
  | k,[],listed=>Bn md ops g k listed
  | k,true :: p,listed=>(Ah md ops listed).contains k && Bl md ops listed k && kRq md ops g (k + 1) p (listed.setIfInBounds k true)
  | k,false :: p,listed=>(Ah md ops listed==[k]) && kRq md ops g (k + 1) p (listed.setIfInBounds k true)
def softTOk (md:Aj) (ops:Al Ar) (p:Ac Bool):Bool :=
  Ak ops && (decide (p.length < ops.size) && (Bh md ops p.length && (Ba md ops p.length && kRq md ops (ops.size - p.length) 0 p (Aq ops.size false))))
def kLw {n g:Nat} (E:Ak ops=true) (hQ:∀ c a d v w,Q (.panic c) (Bg a d v) w->Q (.panic c) a w)
    (hs:Bh .any ops n=true) (hc:Ba .any ops n=true) (hn:n < ops.size):∀ (p:Ac Bool) (l:Ac Ar) (k:Nat) (listed:Al Bool) (a:Act) (w:Ab),
    k + p.length=n->(∀ j,l[j]?=ops[k + j]?)->HeadInv .any ops n listed->kRq .any ops g k p listed=true->l.length=p.length + g->S w->kDc P ops S Q k l p a w ->
    kBv P .any ops Q S n (λlisted a w=>Bn .any ops g n listed=true/\∃ l,(∀ j,l[j]?=ops[n + j]?)/\l.length=g/\Bc P ops Q l a w) p.length listed a w
  | [],l,k,listed,a,w,hk,ho,inv,hB,hl,hS,h=>by
    obtain rfl:k=n:=bC2;refine ⟨by simpa [kRq] using hB,l,ho,by simpa using hl,?_⟩;cases l <;> exact h
  | b :: p,[],k,listed,a,w,hk,ho,inv,hB,hl,hS,h=>by simp at hl;omega
  | true :: p,o :: l,k,listed,a,w,hk,ho,inv,hB,hl,hS,h=>by
    obtain ⟨v,hy,h⟩:=h;simp only [kRq,Ag] at hB;have h0:ops[k]?=some o:=vQ;have hr:k∈Ah .any ops listed:=bA4;have dq:k < n:=bB4
    exact kQp h0 (Region.noSelect_spec E) (λc a w=>hQ c a _ _ w) hs hc hn dq (λH a' w' hL=>seqB_ready hL.1) p.length listed a w inv (Region.free_spec h0 hB.1.2) hr hy hS
      (kLw E hQ hs hc hn p l (k + 1) _ _ _ bB4 dX (inv.set hr dq) hB.2 (by simp at hl;omega) hS h)
  | false :: p,o :: l,k,listed,a,w,hk,ho,inv,hB,hl,hS,h=>by
    simp only [kRq,Ag,Bd] at hB;have h0:ops[k]?=some o:=vQ;have hr:k∈Ah .any ops listed:=bC9;have dq:k < n:=bB4;refine ⟨by rw [hB.1];simp,λj I=>?_⟩;rw [hB.1] at I;obtain rfl:j=k:=bD7;refine ⟨dq,?_⟩;have go:∀ a' w',S w'/\kDc P ops S Q (j + 1) l p a' w'->S w'/\kBv P .any ops Q S n (λlisted a w=>Bn .any ops g n listed=true/\∃ l,(∀ j,l[j]?=ops[n + j]?)/\l.length=g/\Bc P ops Q l a w) p.length (listed.setIfInBounds j true) a' w':=λa' w' F =>
      ⟨F.1,kLw E hQ hs hc hn p l (j + 1) _ _ _ bB4 dY (inv.set hr dq) hB.2 (by simp at hl;omega) F.1 F.2⟩
    exact oL
def zZ {id:Nat} {a:Act} {w:Ab} {l:Ac Ar} (S:Ab->Prop) (p:Ac Bool) (hm:P.follows .mixedOrders=true) (hB:softTOk .any l.toArray p=true)
    (hQ:∀ c a d v w,Q (.panic c) (Bg a d v) w->Q (.panic c) a w) (hS:S { w with drawn:=w.drawn + 1 })
    (h:∀ w',S w'->soft P l.toArray S Q 0 l p a w'):(Az id l.toArray true).wp P Q a w:=by
 simp only [softTOk,Ag,Ap] at hB
 have h:=h _ hS
 unfold soft at h
 have be:l.toArray.size=l.length:=bF3
 have E:HeadInv .any l.toArray p.length (Aq l.toArray.size false) :=
   ⟨by simp,λj oj _ hl=>qE,λt _ ht=>getD_in bC7 (getD_replicate_false _ _)⟩
 have H:=kLw (g:=l.toArray.size - p.length) hB.1 hQ hB.2.2.1 hB.2.2.2.1 hB.2.1 p l 0 _ a _ bF3 (λj=>by simp) E hB.2.2.2.2 (by have:=hB.2.1;omega) hS h
 refine wp_region_any hm ?_
 have:=kBy (Q:=Q) (g:=l.toArray.size - p.length) (λlisted a' w' hL=>by
   obtain ⟨hq,o,ho,J,hw⟩:=hL;have:=wpAny_of_seq (md:=.any) (Q':=Q) o p.length listed a' w' ho (by rw [J];exact hq) hw;rwa [J] at this) _ _ _ _ H
 rw [show p.length + (l.toArray.size - p.length)=l.toArray.size by have:=hB.2.1;omega] at this
 exact this
def kHp:∀ (p:Ac Bool) (l:Ac Ar) (k:Nat) (a:Act) (w:Ab),S w->kDc P ops S Q k l p a w->Bc P ops Q l a w
  | [],l,k,a,w,_,h=>by cases l <;> exact h
  | b :: p,[],k,a,w,_,h=>by cases b <;> exact h
  | true :: p,o :: l,k,a,w,hS,h=>by
    obtain ⟨v,hy,h⟩:=h;have:=kHp p l (k + 1) _ w hS h;unfold Bc;rcases hy with ⟨hw,hv⟩|⟨hw,rfl⟩
    · rw [if_pos hw];left;unfold Oper.wp;rw [hv w hS,Oper.upon_value];exact this
    · rw [if_neg (by rw [hw];exact Be)];exact this
  | false :: p,o :: l,k,a,w,hS,h=>by
    unfold Bc;have h:if Am o (Bf ops a.tmps) then o.wp P a w (λa' w'=>S w'/\kDc P ops S Q (k + 1) l p a' w') Q\/(o.asks P a w/\LetsOut Q) else S w/\kDc P ops S Q (k + 1) l p (a.put o.dst undef) w:=h
    split at h
    · rename_i hw;rw [if_pos hw];exact h.imp (Oper.wp_mono λa' w' F=>kHp p l (k + 1) a' w' F.1 F.2) id
    · rename_i hw;rw [if_neg hw];exact kHp p l (k + 1) _ w h.1 h.2
def kL {id:Nat} {a:Act} {w:Ab} {l:Ac Ar} (S:Ab->Prop) (p:Ac Bool) (hS:S w)
    (h:∀ w',S w'->soft P l.toArray S Q 0 l p a w'):(Az id l.toArray false).wp P Q a w:=by
 have h:=h _ hS
 unfold soft at h
 exact wp_region_lit (kHp p l 0 a w hS h)
def kFf (md:Aj) (ops:Al Ar):Ac (Nat × Bool)->Al Bool->Bool
  | [],listed=>(Ah md ops listed).isEmpty
  | (k,true) :: p,listed=>(Ah md ops listed).contains k && Bl md ops listed k && kFf md ops p (listed.setIfInBounds k true)
  | (k,false) :: p,listed=>(Ah md ops listed==[k]) && kFf md ops p (listed.setIfInBounds k true)
def jG (l:Ac Ar):Ac (Nat × Bool)->Ac Ar
  | []=>[]
  | (k,_) :: q=>match l[k]? with
    | some o=>o :: jG l q
    | none=>[]
def kYd (md:Aj) (ops:Al Ar) (q:Ac (Nat × Bool)):Bool:=Ak ops && (decide (q.length<=ops.size) && (q.all (λx=>decide (x.1 < ops.size)) && kFf md ops q (Aq ops.size false)))
def kEy {l:Ac Ar} (hs:Ak l.toArray=true) (hQ:∀ c a d v w,Q (.panic c) (Bg a d v) w->Q (.panic c) a w):∀ (q:Ac (Nat × Bool)) (k:Nat) (fuel:Nat) (listed:Al Bool) (a:Act) (w:Ab),
    q.all (λx=>decide (x.1 < l.toArray.size))=true->q.length<=fuel->kFf .any l.toArray q listed=true->S w->kDc P l.toArray S Q k (jG l q) (q.map (·.2)) a w->wpAnyH P .any l.toArray Q S fuel listed a w
  | [],k,fuel,listed,a,w,_,_,hB,_,h=>wpAnyH_done (by simpa [kFf] using hB) (by simpa [kDc,Bc,jG] using h) fuel
  | (i,b) :: q,k,0,listed,a,w,_,hf,hB,_,h=>by simp at hf
  | (i,true) :: q,k,fuel + 1,listed,a,w,hi,hf,hB,hS,h=>by
    simp only [List.all_cons,Ag,Ap] at hi;have h0:l.toArray[i]?=some l.toArray[i]:=Au hi.1;have hp:jG l ((i,true) :: q)=l.toArray[i] :: jG l q:=by
      exact oO
    rw [hp] at h;obtain ⟨v,hy,h⟩:=h;simp only [kFf,Ag] at hB;exact wpAnyH_take h0 hs hB.1.2 hB.1.1 (λc a w=>hQ c a _ _ w) hy hS (kEy hs hQ q (k + 1) fuel _ _ _ hi.2 bC6 hB.2 hS h)
  | (i,false) :: q,k,fuel + 1,listed,a,w,hi,hf,hB,hS,h=>by
    simp only [List.all_cons,Ag,Ap] at hi;have h0:l.toArray[i]?=some l.toArray[i]:=Au hi.1;have hp:jG l ((i,false) :: q)=l.toArray[i] :: jG l q:=by
      exact oO
    rw [hp] at h;simp only [kFf,Ag,Bd] at hB;refine wpAnyH_all hB.1 bF3 ?_;intro j I;obtain rfl:j=i:=bD7;have go:∀ a' w',S w'/\kDc P l.toArray S Q (k + 1) (jG l q) (q.map (·.2)) a' w'->S w'/\wpAnyH P .any l.toArray Q S fuel (listed.setIfInBounds j true) a' w':=λa' w' F =>
      ⟨F.1,kEy hs hQ q (k + 1) fuel _ _ _ hi.2 bC6 hB.2 F.1 F.2⟩
    exact oL
def yT {id:Nat} {a:Act} {w:Ab} {l:Ac Ar} (S:Ab->Prop) (q:Ac (Nat × Bool)) (hm:P.follows .mixedOrders=true) (hB:kYd .any l.toArray q=true)
    (hQ:∀ c a d v w,Q (.panic c) (Bg a d v) w->Q (.panic c) a w) (hS:S { w with drawn:=w.drawn + 1 })
    (h:∀ w',S w'->soft P l.toArray S Q 0 (jG l q) (q.map (·.2)) a w'):(Az id l.toArray true).wp P Q a w:=by
 simp only [kYd,Ag,Ap] at hB
 have h:=h _ hS
 unfold soft at h
 exact wp_region_held (S:=S) hm (kEy hB.1 hQ q 0 _ _ a _ hB.2.2.1 hB.2.1 hB.2.2.2 hS h)
def kM {k:Nat} {a:Act} {w:World} (h:Q .normal a w):soft P ops S Q k [] [] a w:=by unfold soft;exact h
def yt {k:Nat} {o:Oper} {l:List Oper} {a:Act} {w:World} (h:wpList P ops Q (o :: l) a w):soft P ops S Q k (o :: l) [] a w:=by unfold soft;exact h
variable {k:Nat} {l:List Oper} {p:List Bool} {a:Act} {w:World} {o:Oper}
def jC {v:Ad} (hg:Am o (Bf ops a.tmps)=true)
    (hv:∀ w,S w->(execOp a.eval o).run P w=.ok (.value v) w) (h:soft P ops S Q (k + 1) l p (a.put o.dst v) w):soft P ops S Q k (o :: l) (true :: p) a w:=by
 unfold soft at h ⊢
 exact ⟨v,.inl ⟨hg,hv⟩,h⟩
def kGb {v:Ad} {b:Bool} (hg:Am o (Bf ops a.tmps)=true)
    (hv:∀ w,S w->(execOp a.eval o).run P w=.ok (.value v) w) (hb:v=.bool b) (h:∀ c:Bool,b=c->soft P ops S Q (k + 1) l p (a.put o.dst (.bool c)) w):soft P ops S Q k (o :: l) (true :: p) a w :=
  jC hg hv (hb ▸ h b rfl)
def kI {b:Bool} (hg:Am o (Bf ops a.tmps)=false)
    (hS:S w) (h:soft P ops S Q (k + 1) l p (a.put o.dst undef) w):soft P ops S Q k (o :: l) (b :: p) a w:=by
 unfold soft at h ⊢
 cases b
 · show if _ then _ else _
   rw [if_neg (by rw [hg];exact Be)];exact ⟨hS,h⟩
 exact ⟨undef,.inr ⟨hg,rfl⟩,h⟩
def ku (hg:Am o (Bf ops a.tmps)=true)
    (h:∀ K:Act->Ab->Prop,(∀ a' w',S w'->soft P ops S Q (k + 1) l p a' w'->K a' w')->o.wp P a w K Q):soft P ops S Q k (o :: l) (false :: p) a w:=by
 unfold soft
 show if _ then _ else _
 rw [if_pos hg]
 exact .inl (h _ (λa' w' h1 h2=>by unfold soft at h2;exact ⟨h1,h2⟩))
end
def kS {p q:Prop} (k:q) (h:Hid q->p:=by intro kq;(first|(refine kI rfl E ?_)|(refine jC (v:=?_) rfl (λW hW=>?_) ?_;rotate_left;(· (try have A:=FX.out W hW);clear hW;go_simp;try with_reducible rfl)));(try simp only [Act.put,zA,zB,zC]);exact kq.out):p:=h (yD k)
def hu2 {P:Prop} (k:Hid (∀ _:Unit,True->P)):P:=k.out () trivial
def hu3 {A P:Prop} (k:Hid (∀ _:Unit,A->P)) (a:A):P:=k.out () a
def pfF {b:Bool} {R:Bool->Prop} (h:b=false->R false) (e:b=false):∀ c,b=c->R c:=λc hc=>by subst hc;rw [e];exact h e
def dkN (k:Nat):decide ((k:Int) < 0)=false:=rfl
def pfT {b:Bool} {R:Bool->Prop} (h:b=true->R true) (e:b=true):∀ c,b=c->R c:=λc hc=>by subst hc;rw [e];exact h e
def jT {α:Type} {p:Prop} {G q:α->Prop} (k:∀ c,G c->q c) (h:Hid (∀ c,G c->q c)->p:=by intro kq;first|(refine kI rfl E ?_;(try simp only [Act.put,zA,zB,zC]);exact hu2 kq)|(refine kGb (v:=?_) (b:=?_) rfl (λW hW=>?_) ?_ ?_;rotate_left;rotate_left;(· (try have A:=FX.out W hW);clear hW;go_simp;try with_reducible rfl);(· with_reducible rfl);first|(refine pfF (λ_=>?_) (by with_reducible rfl);(try simp only [Act.put,zA,zB,zC]);exact hu2 kq)|(refine pfT (λ_=>?_) (by with_reducible rfl);(try simp only [Act.put,zA,zB,zC]);exact hu2 kq)|(refine pfF (λhx=>?_) (by with_reducible exact dkN _);(try simp only [Act.put,zA,zB,zC]);exact hu3 kq hx)|(intro c hc;(try simp only [Act.put,zA,zB,zC]);exact kq.out c hc))):p:=h (yD k)
def jS:(∀ b:Bool,((!b)=true)=(b=false))/\(∀ b:Bool,((!b)=false)=(b=true))/\(false=true)=False/\(true=false)=False:=⟨λb=>by cases b <;> simp,λb=>by cases b <;> simp,by simp,by simp⟩
def zi {C p:Prop} {S q:World->Prop} (c:C) (k:∀ W,S W->q W) (h:C->Hid (∀ W,S W->q W)->p:=by intro cq kq;first|(refine kI rfl E ?_;(try simp only [Act.put,zA,zB,zC]);exact kq.out _ E)|(refine ku rfl (λK H=>?_);go_simp;refine cq.mono ?_;rintro e wS1 ⟨rfl,V⟩;refine H _ _ (tQ E V) ?_;clear H K;(try simp only [Act.put,zA,zB,zC]);exact kq.out _ (tQ E V))):p:=h c (yD k)
def wkC {C p q:Prop} (c:C) (k:q) (h:C->Hid q->p:=by intro cq kq;first|(refine kI rfl E ?_;(try simp only [Act.put,zA,zB,zC]);exact kq.out)|(refine ku rfl (λK H=>?_);go_simp;refine cq.mono ?_;rintro e wS1 ⟨rfl,o⟩;obtain rfl:=o.symm;refine H _ _ E ?_;clear H K;(try simp only [Act.put,zA,zB,zC]);exact kq.out)):p:=h c (yD k)
def jH {p q:Prop} (k:q) (h:Hid q->p:=by intro kq;(try simp only [Act.put,zA,zB,zC]);exact kq.out):p:=h (yD k)
def jb {α:Type} {x:List α} {k:Nat} {d:α} (h:k < x.length):x.getD k d=x[k]:=by simp [List.getD,h]
def zN (f:Nat->Bool):Nat->Bool
  | 0=>true
  | n + 1=>zN f n && f n
def kBp {f:Nat->Bool} {n:Nat} (h:zN f n=true) (q:f n=true):zN f (n + 1)=true:=by simp [zN,h,q]
def kDl {f:Nat->Bool} {n j:Nat} (h:j < n) (q:f j=false):zN f n=false:=by
 induction n with
 | zero=>omega
 | succ n ih =>
   by_cases e:j=n
   · subst e;simp [zN,q]
   · simp [zN,ih bF2]
end Go.Proofs.YthocbplmdjkifaaGreat

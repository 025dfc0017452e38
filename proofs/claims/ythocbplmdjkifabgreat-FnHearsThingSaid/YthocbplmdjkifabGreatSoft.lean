/-
  A region that draws its order, walked in the order of its text: operations that only read are taken first; at each other operation it alone may come up. No program in sight.
-/
import Derived.Test.YthocbplmdjkifabGreatOwn2
import Derived.Test.YthocbplmdjkifabGreatRows
set_option linter.unusedVariables false
set_option linter.defProp false
set_option linter.unusedSimpArgs false
set_option linter.unnecessarySimpa false
set_option maxRecDepth 100000
open _root_ renaming DecidableEq->Aa,List->Ac,instDecidableEqProd->Ae,Array->Al,and_true->Am,decide_eq_true_eq->Aq,ByteArray->Ar,beq_iff_eq->Bf
open Go renaming World->Ab,Value->Ad,Oper->Av,MemPlace->Ba,wpList->Be,yielded->Bh,TypeId->Bl,Program->Bq
open Bool renaming and_eq_true->Ag,false_ne_true->Bg
open List.cons renaming injEq->Ah
open Go.Region renaming ready->Ai,Mode->Aj,noSelect->Ak,wanted->Ap,chainB->Bc,sinkB->Bj,free->Bo,seqB->Bp
open Array renaming replicate->Au,getElem?_eq_getElem->Aw
open List renaming getElem?_eq_none->Ay,take_append_drop->Az
open Go.Code renaming region->Bb
open Go.DataW renaming trod->Bd
open Go.Act renaming put->Bi
namespace Go.Proofs.YthocbplmdjkifabGreat
open Go.RowKit _root_.Go.Proofs.Tryz
variable {cs:Ac Ad} {w:Ab} {S:Nat->Prop} {c0 c1 c2 c3 c4:Ad}
abbrev kU:=(Ac Ar)
instance decName:Aa kU:=inferInstanceAs (Aa ((Ac Ar)))
def kQ:kD kU:=(.slice 9 .str)
abbrev Cs:=kD.slice 41 kQ
def kT {x:kU} (h:kQ.raw w cs x):∃ v0,cs=[v0]/\Cg.raw w [v0] x:=by
 obtain ⟨_,rfl,ay⟩:=kD.kAx h;exact ⟨_,rfl,ay⟩
def kEx {x:kU} (h:kQ.raw w [c0] x):Cg.raw w [c0] x:=by
 obtain ⟨v0,he,h2⟩:=kT h;simp only [Ah,Am] at he;obtain rfl:=he;exact h2
abbrev kM:=kU × Int × Int
instance decMeasurement:Aa kM:=inferInstanceAs (Aa (kU × Int × Int))
def kL:kD kM:=.pair kQ (.pair .int .int)
abbrev Cf:=kD.slice 142 kL
def kFg {x:kM} (h:kL.raw w cs x):∃ v0,cs=[v0,.int .i64 x.2.1,.int .i64 x.2.2]/\kQ.raw w [v0] x.1/\Cg.raw w [v0] x.1/\Qi x.2.1/\Qi x.2.2:=by
 exact GX
def jy {x:kM} (h:kL.raw w [c0,c1,c2] x):c1=.int .i64 x.2.1/\c2=.int .i64 x.2.2/\kQ.raw w [c0] x.1/\Cg.raw w [c0] x.1/\Qi x.2.1/\Qi x.2.2:=by
 obtain ⟨v0,he,h2⟩:=kFg h;exact VS
def ym (x:kM) (v:Int):kM:=(x.1,x.2.1,v)
def kEn {x:kM} (v:Int) (hv:Qi v) (h:kL.is true w cs x S):kL.is true w (cs.set 2 (Qn v)) (ym x v) S:=by
 exact lZ
abbrev jH:=kU × Int × Int
instance decRoute:Aa jH:=inferInstanceAs (Aa (kU × Int × Int))
def jA:kD jH:=.pair kQ (.pair .int .int)
abbrev Ch:=kD.slice 139 jA
def kDr {x:jH} (h:jA.raw w cs x):∃ v0,cs=[v0,.int .i64 x.2.1,.int .i64 x.2.2]/\kQ.raw w [v0] x.1/\Cg.raw w [v0] x.1/\Qi x.2.1/\Qi x.2.2:=by
 exact GX
def yS {x:jH} (h:jA.raw w [c0,c1,c2] x):c1=.int .i64 x.2.1/\c2=.int .i64 x.2.2/\kQ.raw w [c0] x.1/\Cg.raw w [c0] x.1/\Qi x.2.1/\Qi x.2.2:=by
 obtain ⟨v0,he,h2⟩:=kDr h;exact VS
def kNm (x:jH) (v:Int):jH:=(x.1,x.2.1,v)
def RRoute_set2 {x:jH} (v:Int) (hv:Qi v) (h:jA.is true w cs x S):jA.is true w (cs.set 2 (Qn v)) (kNm x v) S:=by
 exact lZ
abbrev kY:=Int × Int × Int
instance decRequester:Aa kY:=inferInstanceAs (Aa (Int × Int × Int))
def ky:kD kY:=.pair .int (.pair .int .int)
abbrev Ci:=kD.slice 83 ky
def kHf {x:kY} (h:ky.raw w cs x):cs=[.int .i64 x.1,.int .i64 x.2.1,.int .i64 x.2.2]/\Qi x.1/\Qi x.2.1/\Qi x.2.2:=by
 obtain ⟨_,_,rfl,ac,a3⟩:=kD.yV h;obtain ⟨rfl,ay⟩:=kD.yX ac;obtain ⟨_,_,rfl,bc,ek⟩:=kD.yV a3;obtain ⟨rfl,ap⟩:=kD.yX bc;obtain ⟨rfl,bb⟩:=kD.yX ek;exact ⟨rfl,ay,ap,bb⟩
def yJ {x:kY} (h:ky.raw w [c0,c1,c2] x):c0=.int .i64 x.1/\c1=.int .i64 x.2.1/\c2=.int .i64 x.2.2/\Qi x.1/\Qi x.2.1/\Qi x.2.2:=by
 obtain ⟨he,h2⟩:=kHf h;simp only [Ah,Am] at he;obtain ⟨rfl,rfl,rfl⟩:=he;exact ⟨rfl,rfl,rfl,h2⟩
abbrev kF:=kU × (Ac kY) × Int
instance decPendingInterest:Aa kF:=inferInstanceAs (Aa (kU × (Ac kY) × Int))
def kH:kD kF:=.pair kQ (.pair (.slice 83 ky) .int)
abbrev Ce:=kD.slice 106 kH
def kDs:kH.n=3:=rfl
def kAi {x:kF} (h:kH.raw w cs x):∃ v0 v1,cs=[v0,v1,.int .i64 x.2.2]/\kQ.raw w [v0] x.1/\Cg.raw w [v0] x.1/\Ci.raw w [v1] x.2.1/\Qi x.2.2:=by
 obtain ⟨_,_,rfl,ac,a3⟩:=kD.yV h;have au:=kT ac;obtain ⟨_,rfl,D⟩:=au;obtain ⟨_,_,rfl,bc,ek⟩:=kD.yV a3;obtain ⟨_,rfl,ap⟩:=kD.kAx bc;obtain ⟨rfl,bb⟩:=kD.yX ek;exact ⟨_,_,rfl,ac,D,ap,bb⟩
def jV {x:kF} (h:kH.raw w [c0,c1,c2] x):c2=.int .i64 x.2.2/\kQ.raw w [c0] x.1/\Cg.raw w [c0] x.1/\Ci.raw w [c1] x.2.1/\Qi x.2.2:=by
 obtain ⟨v0,v1,he,h2⟩:=kAi h;simp only [Ah,Am] at he;obtain ⟨rfl,rfl,rfl⟩:=he;exact ⟨rfl,h2⟩
def kNu:kD.Sub kH Ci (λx=>x.2.1) (λx y=>(x.1,y,x.2.2)) 1:=kD.Sub.right (kD.Sub.left (kD.Sub.refl Ci) bJ4) rfl
def kCm (x:kF) (v:Int):kF:=(x.1,x.2.1,v)
def kPb {x:kF} (v:Int) (hv:Qi v) (h:kH.is true w cs x S):kH.is true w (cs.set 2 (Qn v)) (kCm x v) S:=by
 exact lZ
abbrev jI:=kU × Int
instance decSeenNonce:Aa jI:=inferInstanceAs (Aa (kU × Int))
def jG:kD jI:=.pair kQ .int
abbrev Cj:=kD.slice 131 jG
def kKf {x:jI} (h:jG.raw w cs x):∃ v0,cs=[v0,.int .i64 x.2]/\kQ.raw w [v0] x.1/\Cg.raw w [v0] x.1/\Qi x.2:=by
 exact KE
def kCj {x:jI} (h:jG.raw w [c0,c1] x):c1=.int .i64 x.2/\kQ.raw w [c0] x.1/\Cg.raw w [c0] x.1/\Qi x.2:=by
 obtain ⟨v0,he,h2⟩:=kKf h;simp only [Ah,Am] at he;obtain ⟨rfl,rfl⟩:=he;exact ⟨rfl,h2⟩
abbrev yw:=kU × Int × Int × Int
instance decInterest:Aa yw:=inferInstanceAs (Aa (kU × Int × Int × Int))
def zh:kD yw:=.pair kQ (.pair .int (.pair .int .int))
def kFt {x:yw} (h:zh.raw w cs x):∃ v0,cs=[v0,.int .i64 x.2.1,.int .i64 x.2.2.1,.int .i64 x.2.2.2]/\kQ.raw w [v0] x.1/\Cg.raw w [v0] x.1/\Qi x.2.1/\Qi x.2.2.1/\Qi x.2.2.2:=by
 obtain ⟨_,_,rfl,ac,a3⟩:=kD.yV h;have au:=kT ac;obtain ⟨_,rfl,D⟩:=au;obtain ⟨_,_,rfl,bc,ek⟩:=kD.yV a3;obtain ⟨rfl,ap⟩:=kD.yX bc;obtain ⟨_,_,rfl,bl,fl⟩:=kD.yV ek;obtain ⟨rfl,bb⟩:=kD.yX bl;obtain ⟨rfl,bt⟩:=kD.yX fl;exact ⟨_,rfl,ac,D,ap,bb,bt⟩
abbrev jK:=kU × (Ac UInt8) × kU × Int × Int
instance decData:Aa jK:=(@Ae _ _ (inferInstanceAs (Aa kU)) (@Ae _ _ (inferInstanceAs (Aa (Ac UInt8))) (@Ae _ _ (inferInstanceAs (Aa kU)) (@Ae _ _ (inferInstanceAs (Aa Int)) (inferInstanceAs (Aa Int))))))
def jC:kD jK:=.pair kQ (.pair (.slice 5 .byte) (.pair kQ (.pair .int .int)))
abbrev Cm:=kD.slice 43 jC
def jT {x:jK} (h:jC.raw w cs x):∃ v0 v1 v2,cs=[v0,v1,v2,.int .i64 x.2.2.2.1,.int .i64 x.2.2.2.2]/\kQ.raw w [v0] x.1/\Cg.raw w [v0] x.1/\Cc.raw w [v1] x.2.1/\kQ.raw w [v2] x.2.2.1/\Cg.raw w [v2] x.2.2.1/\Qi x.2.2.2.1/\Qi x.2.2.2.2:=by
 obtain ⟨_,_,rfl,ac,a3⟩:=kD.yV h;have au:=kT ac;obtain ⟨_,rfl,D⟩:=au;obtain ⟨_,_,rfl,bc,ek⟩:=kD.yV a3;obtain ⟨_,rfl,ap⟩:=kD.kAx bc;obtain ⟨_,_,rfl,bl,fl⟩:=kD.yV ek;have aw:=kT bl;obtain ⟨_,rfl,E⟩:=aw;obtain ⟨_,_,rfl,bj,gj⟩:=kD.yV fl;obtain ⟨rfl,bt⟩:=kD.yX bj;obtain ⟨rfl,aq⟩:=kD.yX gj;exact ⟨_,_,_,rfl,ac,D,ap,bl,E,bt,aq⟩
def kBa {x:jK} (h:jC.raw w [c0,c1,c2,c3,c4] x):c3=.int .i64 x.2.2.2.1/\c4=.int .i64 x.2.2.2.2/\kQ.raw w [c0] x.1/\Cg.raw w [c0] x.1/\Cc.raw w [c1] x.2.1/\kQ.raw w [c2] x.2.2.1/\Cg.raw w [c2] x.2.2.1/\Qi x.2.2.2.1/\Qi x.2.2.2.2:=by
 obtain ⟨v0,v1,v2,he,h2⟩:=jT h;simp only [Ah,Am] at he;obtain ⟨rfl,rfl,rfl,rfl,rfl⟩:=he;exact ⟨rfl,rfl,h2⟩
def setData_3 (x:jK) (v:Int):jK:=(x.1,x.2.1,x.2.2.1,v,x.2.2.2.2)
def RData_set3 {x:jK} (v:Int) (hv:Qi v) (h:jC.is true w cs x S):jC.is true w (cs.set 3 (Qn v)) (setData_3 x v) S:=by
 obtain ⟨c0,d0,A0,B0,rfl,p0,q0,af,U,R⟩:=h;obtain ⟨c1,I,A1,B1,rfl,p1,q1,hA1,H,hd1⟩:=q0;obtain ⟨c2,N,A2,B2,rfl,p2,q2,hA2,F,ab⟩:=q1;obtain ⟨c3,V,A3,B3,rfl,p3,q3,X,G,ac⟩:=q2;obtain ⟨rfl,_⟩:=p3;have l0:=kD.len _ p0;have l1:=kD.len _ p1;have l2:=kD.len _ p2;change _=1 at l0;change _=1 at l1;change _=1 at l2;have e:((c0++(c1++(c2++([.int .i64 x.2.2.2.1]++V)))):Ac Ad).set 3 (Qn v)=(c0++(c1++(c2++([.int .i64 v]++V)))):=by
  obtain ⟨D,rfl⟩:∃ D,c0=[D]:=rH;obtain ⟨E,rfl⟩:∃ E,c1=[E]:=rJ;obtain ⟨J,rfl⟩:∃ J,c2=[J]:=rM;rfl
 rw [e];exact ⟨_,_,A0,B0,rfl,p0,⟨_,_,A1,B1,rfl,p1,⟨_,_,A2,B2,rfl,p2,⟨_,_,A3,B3,rfl,⟨rfl,hv⟩,q3,X,G,ac⟩,hA2,F,ab⟩,hA1,H,hd1⟩,af,U,R⟩
def setData_4 (x:jK) (v:Int):jK:=(x.1,x.2.1,x.2.2.1,x.2.2.2.1,v)
def RData_set4 {x:jK} (v:Int) (hv:Qi v) (h:jC.is true w cs x S):jC.is true w (cs.set 4 (Qn v)) (setData_4 x v) S:=by
 obtain ⟨c0,d0,A0,B0,rfl,p0,q0,af,U,R⟩:=h;obtain ⟨c1,I,A1,B1,rfl,p1,q1,hA1,H,hd1⟩:=q0;obtain ⟨c2,N,A2,B2,rfl,p2,q2,hA2,F,ab⟩:=q1;obtain ⟨c3,V,A3,B3,rfl,p3,q3,X,G,ac⟩:=q2;obtain ⟨rfl,_⟩:=q3;have l0:=kD.len _ p0;have l1:=kD.len _ p1;have l2:=kD.len _ p2;have Y:=kD.len _ p3;change _=1 at l0;change _=1 at l1;change _=1 at l2;change _=1 at Y;have e:((c0++(c1++(c2++(c3++[.int .i64 x.2.2.2.2])))):Ac Ad).set 4 (Qn v)=(c0++(c1++(c2++(c3++[.int .i64 v])))):=by
  obtain ⟨D,rfl⟩:∃ D,c0=[D]:=rH;obtain ⟨E,rfl⟩:∃ E,c1=[E]:=rJ;obtain ⟨J,rfl⟩:∃ J,c2=[J]:=rM;obtain ⟨W,rfl⟩:∃ W,c3=[W]:=rT;rfl
 rw [e];exact ⟨_,_,A0,B0,rfl,p0,⟨_,_,A1,B1,rfl,p1,⟨_,_,A2,B2,rfl,p2,⟨_,_,A3,B3,rfl,p3,⟨rfl,hv⟩,X,G,ac⟩,hA2,F,ab⟩,hA1,H,hd1⟩,af,U,R⟩
abbrev kW:=jK × Int
instance decCacheEntry:Aa kW:=inferInstanceAs (Aa (jK × Int))
def kz:kD kW:=.pair jC .int
abbrev Cn:=kD.slice 135 kz
def kAs {x:kW} (h:kz.raw w cs x):∃ v0 v1 v2,cs=[v0,v1,v2,.int .i64 x.1.2.2.2.1,.int .i64 x.1.2.2.2.2,.int .i64 x.2]/\jC.raw w [v0,v1,v2,Qn x.1.2.2.2.1,Qn x.1.2.2.2.2] x.1/\kQ.raw w [v0] x.1.1/\Cg.raw w [v0] x.1.1/\Cc.raw w [v1] x.1.2.1/\kQ.raw w [v2] x.1.2.2.1/\Cg.raw w [v2] x.1.2.2.1/\Qi x.1.2.2.2.1/\Qi x.1.2.2.2.2/\Qi x.2:=by
 obtain ⟨_,_,rfl,ac,a3⟩:=kD.yV h;have au:=jT ac;obtain ⟨_,_,_,rfl,D,J,H,G,I,F,E⟩:=au;obtain ⟨rfl,ap⟩:=kD.yX a3;exact ⟨_,_,_,rfl,ac,D,J,H,G,I,F,E,ap⟩
def yM {c5:Ad} {x:kW} (h:kz.raw w [c0,c1,c2,c3,c4,c5] x):c3=.int .i64 x.1.2.2.2.1/\c4=.int .i64 x.1.2.2.2.2/\c5=.int .i64 x.2/\jC.raw w [c0,c1,c2,Qn x.1.2.2.2.1,Qn x.1.2.2.2.2] x.1/\kQ.raw w [c0] x.1.1/\Cg.raw w [c0] x.1.1/\Cc.raw w [c1] x.1.2.1/\kQ.raw w [c2] x.1.2.2.1/\Cg.raw w [c2] x.1.2.2.1/\Qi x.1.2.2.2.1/\Qi x.1.2.2.2.2/\Qi x.2:=by
 obtain ⟨v0,v1,v2,he,h2⟩:=kAs h;simp only [Ah,Am] at he;obtain ⟨rfl,rfl,rfl,rfl,rfl,rfl⟩:=he;exact ⟨rfl,rfl,rfl,h2⟩
def kDy (x:kW) (v:Int):kW:=(x.1,v)
def kXi {x:kW} (v:Int) (hv:Qi v) (h:kz.is true w cs x S):kz.is true w (cs.set 5 (Qn v)) (kDy x v) S:=by
 obtain ⟨c0,d0,A0,B0,rfl,p0,q0,af,U,R⟩:=h;obtain ⟨rfl,_⟩:=q0;have l0:=kD.len _ p0;change _=5 at l0;have e:((c0++[.int .i64 x.2]):Ac Ad).set 5 (Qn v)=(c0++[.int .i64 v]):=by
  obtain ⟨D,G,E,F,H,rfl⟩:∃ D G E F H,c0=[D,G,E,F,H]:=by match c0,l0 with | [D,G,E,F,H],_=>exact ⟨_,_,_,_,_,rfl⟩
  rfl
 rw [e];exact ⟨_,_,A0,B0,rfl,p0,⟨rfl,hv⟩,af,U,R⟩
abbrev kr:=Int × (Ac kW)
instance decContentStore:Aa kr:=inferInstanceAs (Aa (Int × (Ac kW)))
def kS:kD kr:=.pair .int (.slice 135 kz)
def jM {x:kr} (h:kS.raw w cs x):∃ v1,cs=[.int .i64 x.1,v1]/\Qi x.1/\Cn.raw w [v1] x.2:=by
 obtain ⟨_,_,rfl,ac,a3⟩:=kD.yV h;obtain ⟨rfl,ay⟩:=kD.yX ac;obtain ⟨_,rfl,ap⟩:=kD.kAx a3;exact ⟨_,rfl,ay,ap⟩
def kUb (x:kr) (v:Int):kr:=(v,x.2)
def kTk {x:kr} (v:Int) (hv:Qi v) (h:kS.is true w cs x S):kS.is true w (cs.set 0 (Qn v)) (kUb x v) S:=by
 obtain ⟨c0,d0,A0,B0,rfl,p0,q0,af,U,R⟩:=h;obtain ⟨rfl,_⟩:=p0;have e:(([.int .i64 x.1]++d0):Ac Ad).set 0 (Qn v)=([.int .i64 v]++d0):=by
  rfl
 rw [e];exact ⟨_,_,A0,B0,rfl,⟨rfl,hv⟩,q0,af,U,R⟩
abbrev ja:=(Ac jK) × kr × (Ac kF) × (Ac jI) × (Ac jH) × (Ac kM) × Int
instance decNode:Aa ja:=(@Ae _ _ (inferInstanceAs (Aa (Ac jK))) (@Ae _ _ (inferInstanceAs (Aa kr)) (@Ae _ _ (inferInstanceAs (Aa (Ac kF))) (@Ae _ _ (inferInstanceAs (Aa (Ac jI))) (@Ae _ _ (inferInstanceAs (Aa (Ac jH))) (@Ae _ _ (inferInstanceAs (Aa (Ac kM))) (inferInstanceAs (Aa Int))))))))
def jc:kD ja:=.pair (.slice 43 jC) (.pair kS (.pair (.slice 106 kH) (.pair (.slice 131 jG) (.pair (.slice 139 jA) (.pair (.slice 142 kL) .int)))))
def yF {x:ja} (h:jc.raw w cs x):∃ v0 v2 v3 v4 v5 v6,cs=[v0,.int .i64 x.2.1.1,v2,v3,v4,v5,v6,.int .i64 x.2.2.2.2.2.2]/\Cm.raw w [v0] x.1/\kS.raw w [Qn x.2.1.1,v2] x.2.1/\Qi x.2.1.1/\Cn.raw w [v2] x.2.1.2/\Ce.raw w [v3] x.2.2.1/\Cj.raw w [v4] x.2.2.2.1/\Ch.raw w [v5] x.2.2.2.2.1/\Cf.raw w [v6] x.2.2.2.2.2.1/\Qi x.2.2.2.2.2.2:=by
 obtain ⟨_,_,rfl,ac,a3⟩:=kD.yV h;obtain ⟨_,rfl,ay⟩:=kD.kAx ac;obtain ⟨_,_,rfl,bc,ek⟩:=kD.yV a3;have az:=jM bc;obtain ⟨_,rfl,E,D⟩:=az;obtain ⟨_,_,rfl,bl,fl⟩:=kD.yV ek;obtain ⟨_,rfl,bb⟩:=kD.kAx bl;obtain ⟨_,_,rfl,bj,gj⟩:=kD.yV fl;obtain ⟨_,rfl,bt⟩:=kD.kAx bj;obtain ⟨_,_,rfl,bf,an⟩:=kD.yV gj;obtain ⟨_,rfl,aq⟩:=kD.kAx bf;obtain ⟨_,_,rfl,bp,al⟩:=kD.yV an;obtain ⟨_,rfl,G⟩:=kD.kAx bp;obtain ⟨rfl,F⟩:=kD.yX al;exact ⟨_,_,_,_,_,_,rfl,ay,bc,E,D,bb,bt,aq,G,F⟩
def kNv {c5 O D:Ad} {x:ja} (h:jc.raw w [c0,c1,c2,c3,c4,c5,O,D] x):c1=.int .i64 x.2.1.1/\D=.int .i64 x.2.2.2.2.2.2/\Cm.raw w [c0] x.1/\kS.raw w [Qn x.2.1.1,c2] x.2.1/\Qi x.2.1.1/\Cn.raw w [c2] x.2.1.2/\Ce.raw w [c3] x.2.2.1/\Cj.raw w [c4] x.2.2.2.1/\Ch.raw w [c5] x.2.2.2.2.1/\Cf.raw w [O] x.2.2.2.2.2.1/\Qi x.2.2.2.2.2.2:=by
 obtain ⟨v0,v2,v3,v4,v5,v6,he,h2⟩:=yF h;simp only [Ah,Am] at he;obtain ⟨rfl,rfl,rfl,rfl,rfl,rfl,rfl,rfl⟩:=he;exact ⟨rfl,rfl,h2⟩
def jFt (x:ja) (v:Int):ja:=(x.1,x.2.1,x.2.2.1,x.2.2.2.1,x.2.2.2.2.1,x.2.2.2.2.2.1,v)
def RNode_set7 {x:ja} (v:Int) (hv:Qi v) (h:jc.is true w cs x S):jc.is true w (cs.set 7 (Qn v)) (jFt x v) S:=by
 obtain ⟨c0,d0,A0,B0,rfl,p0,q0,af,U,R⟩:=h;obtain ⟨c1,I,A1,B1,rfl,p1,q1,hA1,H,hd1⟩:=q0;obtain ⟨c2,N,A2,B2,rfl,p2,q2,hA2,F,ab⟩:=q1;obtain ⟨c3,V,A3,B3,rfl,p3,q3,X,G,ac⟩:=q2;obtain ⟨c4,d4,A4,B4,rfl,L,q4,aj,Z,ai⟩:=q3;obtain ⟨c5,d5,A5,B5,rfl,O,q5,al,ah,ak⟩:=q4;obtain ⟨rfl,_⟩:=q5;have l0:=kD.len _ p0;have l1:=kD.len _ p1;have l2:=kD.len _ p2;have Y:=kD.len _ p3;have l4:=kD.len _ L;have l5:=kD.len _ O;change _=1 at l0;change _=2 at l1;change _=1 at l2;change _=1 at Y;change _=1 at l4;change _=1 at l5;have e:((c0++(c1++(c2++(c3++(c4++(c5++[.int .i64 x.2.2.2.2.2.2])))))):Ac Ad).set 7 (Qn v)=(c0++(c1++(c2++(c3++(c4++(c5++[.int .i64 v])))))):=by
  obtain ⟨D,rfl⟩:∃ D,c0=[D]:=rH;obtain ⟨E,ag,rfl⟩:∃ E ag,c1=[E,ag]:=by match c1,l1 with | [E,ag],_=>exact ⟨_,_,rfl⟩
  obtain ⟨J,rfl⟩:∃ J,c2=[J]:=rM;obtain ⟨W,rfl⟩:∃ W,c3=[W]:=rT;obtain ⟨ae,rfl⟩:∃ ae,c4=[ae]:=by match c4,l4 with | [ae],_=>exact ⟨_,rfl⟩
  obtain ⟨aa,rfl⟩:∃ aa,c5=[aa]:=by match c5,l5 with | [aa],_=>exact ⟨_,rfl⟩
  rfl
 rw [e];exact ⟨_,_,A0,B0,rfl,p0,⟨_,_,A1,B1,rfl,p1,⟨_,_,A2,B2,rfl,p2,⟨_,_,A3,B3,rfl,p3,⟨_,_,A4,B4,rfl,L,⟨_,_,A5,B5,rfl,O,⟨rfl,hv⟩,al,ah,ak⟩,aj,Z,ai⟩,X,G,ac⟩,hA2,F,ab⟩,hA1,H,hd1⟩,af,U,R⟩
abbrev jw:=Int × Bool × yw × jK
instance decOutgoing:Aa jw:=inferInstanceAs (Aa (Int × Bool × yw × jK))
def yj:kD jw:=.pair .int (.pair .bool (.pair zh jC))
abbrev Cq:=kD.slice 70 yj
def kSd {x:jw} (h:yj.raw w cs x):∃ v2 v6 G v8,cs=[.int .i64 x.1,.bool x.2.1,v2,.int .i64 x.2.2.1.2.1,.int .i64 x.2.2.1.2.2.1,.int .i64 x.2.2.1.2.2.2,v6,G,v8,.int .i64 x.2.2.2.2.2.2.1,.int .i64 x.2.2.2.2.2.2.2]/\Qi x.1/\zh.raw w [v2,Qn x.2.2.1.2.1,Qn x.2.2.1.2.2.1,Qn x.2.2.1.2.2.2] x.2.2.1/\kQ.raw w [v2] x.2.2.1.1/\Cg.raw w [v2] x.2.2.1.1/\Qi x.2.2.1.2.1/\Qi x.2.2.1.2.2.1/\Qi x.2.2.1.2.2.2/\jC.raw w [v6,G,v8,Qn x.2.2.2.2.2.2.1,Qn x.2.2.2.2.2.2.2] x.2.2.2/\kQ.raw w [v6] x.2.2.2.1/\Cg.raw w [v6] x.2.2.2.1/\Cc.raw w [G] x.2.2.2.2.1/\kQ.raw w [v8] x.2.2.2.2.2.1/\Cg.raw w [v8] x.2.2.2.2.2.1/\Qi x.2.2.2.2.2.2.1/\Qi x.2.2.2.2.2.2.2:=by
 obtain ⟨_,_,rfl,ac,a3⟩:=kD.yV h;obtain ⟨rfl,ay⟩:=kD.yX ac;obtain ⟨_,_,rfl,bc,ek⟩:=kD.yV a3;obtain rfl:=kD.bool_raw bc;obtain ⟨_,_,rfl,bl,fl⟩:=kD.yV ek;have aw:=kFt bl;obtain ⟨_,rfl,E,L,J,D,U⟩:=aw;have bi:=jT fl;obtain ⟨_,_,_,rfl,O,N,R,V,I,H,F⟩:=bi;exact ⟨_,_,_,_,rfl,ay,bl,E,L,J,D,U,fl,O,N,R,V,I,H,F⟩
def kHg {c5 O D c8 c9 E:Ad} {x:jw} (h:yj.raw w [c0,c1,c2,c3,c4,c5,O,D,c8,c9,E] x):c0=.int .i64 x.1/\c1=.bool x.2.1/\c3=.int .i64 x.2.2.1.2.1/\c4=.int .i64 x.2.2.1.2.2.1/\c5=.int .i64 x.2.2.1.2.2.2/\c9=.int .i64 x.2.2.2.2.2.2.1/\E=.int .i64 x.2.2.2.2.2.2.2/\Qi x.1/\zh.raw w [c2,Qn x.2.2.1.2.1,Qn x.2.2.1.2.2.1,Qn x.2.2.1.2.2.2] x.2.2.1/\kQ.raw w [c2] x.2.2.1.1/\Cg.raw w [c2] x.2.2.1.1/\Qi x.2.2.1.2.1/\Qi x.2.2.1.2.2.1/\Qi x.2.2.1.2.2.2/\jC.raw w [O,D,c8,Qn x.2.2.2.2.2.2.1,Qn x.2.2.2.2.2.2.2] x.2.2.2/\kQ.raw w [O] x.2.2.2.1/\Cg.raw w [O] x.2.2.2.1/\Cc.raw w [D] x.2.2.2.2.1/\kQ.raw w [c8] x.2.2.2.2.2.1/\Cg.raw w [c8] x.2.2.2.2.2.1/\Qi x.2.2.2.2.2.2.1/\Qi x.2.2.2.2.2.2.2:=by
 obtain ⟨v2,v6,G,v8,he,h2⟩:=kSd h;simp only [Ah,Am] at he;obtain ⟨rfl,rfl,rfl,rfl,rfl,rfl,rfl,rfl,rfl,rfl,rfl⟩:=he;exact ⟨rfl,rfl,rfl,rfl,rfl,rfl,rfl,h2⟩
abbrev kDu:=ja × (Ac jw)
instance decAction:Aa kDu:=inferInstanceAs (Aa (ja × (Ac jw)))
def kHh:kD kDu:=.pair jc (.slice 70 yj)
def kLe {x:kDu} (h:kHh.raw w cs x):∃ v0 v2 v3 v4 v5 v6 v8,cs=[v0,.int .i64 x.1.2.1.1,v2,v3,v4,v5,v6,.int .i64 x.1.2.2.2.2.2.2,v8]/\jc.raw w [v0,Qn x.1.2.1.1,v2,v3,v4,v5,v6,Qn x.1.2.2.2.2.2.2] x.1/\Cm.raw w [v0] x.1.1/\kS.raw w [Qn x.1.2.1.1,v2] x.1.2.1/\Qi x.1.2.1.1/\Cn.raw w [v2] x.1.2.1.2/\Ce.raw w [v3] x.1.2.2.1/\Cj.raw w [v4] x.1.2.2.2.1/\Ch.raw w [v5] x.1.2.2.2.2.1/\Cf.raw w [v6] x.1.2.2.2.2.2.1/\Qi x.1.2.2.2.2.2.2/\Cq.raw w [v8] x.2:=by
 obtain ⟨_,_,rfl,ac,a3⟩:=kD.yV h;have au:=yF ac;obtain ⟨_,_,_,_,_,_,rfl,D,J,H,G,I,F,E,N,L⟩:=au;obtain ⟨_,rfl,ap⟩:=kD.kAx a3;exact ⟨_,_,_,_,_,_,_,rfl,ac,D,J,H,G,I,F,E,N,L,ap⟩
abbrev kKn:=kU × Int
instance decKey:Aa kKn:=inferInstanceAs (Aa (kU × Int))
def kIt:kD kKn:=.pair kQ .int
abbrev Co:=kD.slice 241 kIt
def RKey_raw {x:kKn} (h:kIt.raw w cs x):∃ v0,cs=[v0,.int .i64 x.2]/\kQ.raw w [v0] x.1/\Cg.raw w [v0] x.1/\Qi x.2:=by
 exact KE
def kXh {x:kKn} (h:kIt.raw w [c0,c1] x):c1=.int .i64 x.2/\kQ.raw w [c0] x.1/\Cg.raw w [c0] x.1/\Qi x.2:=by
 obtain ⟨v0,he,h2⟩:=RKey_raw h;simp only [Ah,Am] at he;obtain ⟨rfl,rfl⟩:=he;exact ⟨rfl,h2⟩
abbrev kAk:=(Ac Ar)
instance decPattern:Aa kAk:=inferInstanceAs (Aa ((Ac Ar)))
def zZ:kD kAk:=(.slice 9 .str)
def kDt {x:kAk} (h:zZ.raw w cs x):∃ v0,cs=[v0]/\Cg.raw w [v0] x:=by
 obtain ⟨_,rfl,ay⟩:=kD.kAx h;exact ⟨_,rfl,ay⟩
abbrev kDf:=kAk × kAk
instance decRule:Aa kDf:=inferInstanceAs (Aa (kAk × kAk))
def kFi:kD kDf:=.pair zZ zZ
abbrev Cr:=kD.slice 244 kFi
def kHu {x:kDf} (h:kFi.raw w cs x):∃ v0 v1,cs=[v0,v1]/\zZ.raw w [v0] x.1/\Cg.raw w [v0] x.1/\zZ.raw w [v1] x.2/\Cg.raw w [v1] x.2:=by
 obtain ⟨_,_,rfl,ac,a3⟩:=kD.yV h;have au:=kDt ac;obtain ⟨_,rfl,D⟩:=au;have az:=kDt a3;obtain ⟨_,rfl,E⟩:=az;exact ⟨_,_,rfl,ac,D,a3,E⟩
def RRule_rawL {x:kDf} (h:kFi.raw w [c0,c1] x):zZ.raw w [c0] x.1/\Cg.raw w [c0] x.1/\zZ.raw w [c1] x.2/\Cg.raw w [c1] x.2:=by
 obtain ⟨v0,v1,he,h2⟩:=kHu h;simp only [Ah,Am] at he;obtain ⟨rfl,rfl⟩:=he;exact h2
abbrev jQ:=(Ac kKn) × (Ac kDf) × (Ac kU) × (Ac jK)
instance decTrustPolicy:Aa jQ:=inferInstanceAs (Aa ((Ac kKn) × (Ac kDf) × (Ac kU) × (Ac jK)))
def jh:kD jQ:=.pair (.slice 241 kIt) (.pair (.slice 244 kFi) (.pair (.slice 41 kQ) (.slice 43 jC)))
def yt {x:jQ} (h:jh.raw w cs x):∃ v0 v1 v2 v3,cs=[v0,v1,v2,v3]/\Co.raw w [v0] x.1/\Cr.raw w [v1] x.2.1/\Cs.raw w [v2] x.2.2.1/\Cm.raw w [v3] x.2.2.2:=by
 obtain ⟨_,_,rfl,ac,a3⟩:=kD.yV h;obtain ⟨_,rfl,ay⟩:=kD.kAx ac;obtain ⟨_,_,rfl,bc,ek⟩:=kD.yV a3;obtain ⟨_,rfl,ap⟩:=kD.kAx bc;obtain ⟨_,_,rfl,bl,fl⟩:=kD.yV ek;obtain ⟨_,rfl,bb⟩:=kD.kAx bl;obtain ⟨_,rfl,bt⟩:=kD.kAx fl;exact ⟨_,_,_,_,rfl,ay,ap,bb,bt⟩
abbrev zn:=Ar × Ar
instance decBinding:Aa zn:=inferInstanceAs (Aa (Ar × Ar))
def zP:kD zn:=.pair .str .str
abbrev Ct:=kD.slice 283 zP
def kVl {x:zn} (h:zP.raw w cs x):cs=[.string x.1,.string x.2]/\x.1.size<=maxLen/\x.2.size<=maxLen:=by
 obtain ⟨_,_,rfl,ac,a3⟩:=kD.yV h;obtain ⟨rfl,ay⟩:=kD.zQ ac;obtain ⟨rfl,ap⟩:=kD.zQ a3;exact ⟨rfl,ay,ap⟩
def kMa {x:zn} (h:zP.raw w [c0,c1] x):c0=.string x.1/\c1=.string x.2/\x.1.size<=maxLen/\x.2.size<=maxLen:=by
 obtain ⟨he,h2⟩:=kVl h;simp only [Ah,Am] at he;obtain ⟨rfl,rfl⟩:=he;exact ⟨rfl,rfl,h2⟩
end Go.Proofs.YthocbplmdjkifabGreat
namespace Go.Proofs.YthocbplmdjkifabGreat
open Go.ChangeShapes Go.WideShapes Go.ChangeAt Go.RowKit Go.Deep _root_.Go.Proofs.Tryz
variable {fuel:Nat} {cs:Ac Ad} {H:Type} {y:DataW H × Ac Ba} {enc:Bl × Ad->H}
section
variable {H:Type} {enc:Bl × Ad->H} {P:Bq} {w:Ab}
def bridge_byte {T:Bl} (hT:P.underlying T=some (.int .u8)) {y:DataW H × Ac Ba} (h:Bd enc P w 0 (λ_=>true) true fuel T cs=some y):∃ x,kD.byte.raw w cs x:=by
 obtain ⟨n,rfl,_,hw⟩:=DataW.trod_int hT h;have hn:0<=n/\n<=255:=by simpa [Lit.wf,IntKind.min,IntKind.max,IntKind.signed,IntKind.bits] using hw
 refine ⟨UInt8.ofNat n.toNat,?_⟩;show _=_;have:(UInt8.ofNat n.toNat).toNat=n.toNat:=by rw [UInt8.toNat_ofNat'];omega
 rw [this,Int.toNat_of_nonneg hn.1]
def jIu {α:Type} {r:kD α} {e T E:Bl} (hT:P.underlying T=some (.slice E)) (hn:P.cellsOf E=r.n) (Z:0 < r.n)
    (ih:∀ {fuel:Nat} {cs:Ac Ad} {y:DataW H × Ac Ba},Bd enc P w 0 (λ_=>true) true fuel E cs=some y->∃ x,r.raw w cs x)
    {y:DataW H × Ac Ba} (h:Bd enc P w 0 (λ_=>true) true fuel T cs=some y):∃ xs,(kD.slice e r).raw w cs xs:=by
 rcases open_slice hT h with ⟨rfl,_⟩|⟨a,len,cap,m,n,D,Pl,rfl,_,hl,hm,hmm,_,hx⟩;exact ⟨[],none,0,0,rfl,rfl,Nat.le_refl _,Nat.zero_le _,.inl ⟨rfl,by simp⟩⟩;simp only [if_true] at hmm;subst hmm;rw [hn] at hx;rcases Nat.eq_zero_or_pos len with rfl | hlen;exact ⟨[],some a,0,m,rfl,rfl,hl,hm,.inl ⟨rfl,by simp⟩⟩;have ac:∀ i,i < m->∀ j,j < r.n->∃ v,w.cell? ((a.add (i * r.n)).add j)=some v:=by
  intro i hi j J;obtain ⟨cs',h1,h2⟩:=hx i hi;obtain ⟨_,G,hc⟩:=World.cells?_some h1;rw [hc j J,List.getElem?_eq_getElem bJ5];exact ⟨_,rfl⟩
 obtain ⟨v0,I⟩:=ac 0 bJ5 0 Z;have d1:(a.add (0 * r.n)).add 0=a:=by simp [Addr.add]
 rw [d1] at I;have N:∃ cur e' fr,w.heap[a.block]?=some (.cells cur e' fr)/\a.spot=none:=by
  unfold World.cell? at I;split at I
  · rename_i c e' fr hb
    refine ⟨c,e',fr,hb,?_⟩;cases hs:a.spot with
    | none=>rfl
    | some s=>simp [hs] at I
  cases I
 obtain ⟨cur,e',fr,hb,hs⟩:=N;obtain ⟨b,off,R⟩:=a;simp only at hs hb;subst hs;have F:∀ i j,(((⟨b,off,none⟩:Addr).add (i * r.n)).add j)=⟨b,off + i * r.n + j,none⟩:=by
  intro i j;unfold Addr.add;split <;> split <;> simp_all
 have L:∀ i,i < m->∀ j,j < r.n->∃ v,cur[off + i * r.n + j]?=some v:=by
  intro i hi j J;obtain ⟨v,hv⟩:=ac i hi j J;rw [F,cell_of_row w b _ cur e' fr hb] at hv;exact ⟨v,hv⟩
 have hsize:off + m * r.n<=cur.size:=by
  obtain ⟨v,hv⟩:=L (m - 1) bJ5 (r.n - 1) bJ5;have:=(Array.getElem?_eq_some_iff.1 hv).1;have e1:m * r.n=(m - 1) * r.n + r.n:=by
   conv=>lhs;rw [show m=(m - 1) + 1 by omega]
   rw [Nat.add_mul,Nat.one_mul]
  omega
 have hcut:∀ i,i < m->∃ x,r.raw w ((cur.toList.drop (off + i * r.n)).take r.n) x:=by
  intro i hi;obtain ⟨cs',h1,h2⟩:=hx i hi;obtain ⟨_,G,hc⟩:=World.cells?_some h1;have:cs'=(cur.toList.drop (off + i * r.n)).take r.n:=by
   apply List.ext_getElem?;intro j;by_cases J:j < r.n
   · rw [<- hc j J,F,cell_of_row w b _ cur e' fr hb];simp [J,List.getElem?_drop]
   rw [Ay bJ5,Ay bJ0]
  rw [<- this];exact ih h2
 have hrow:∀ k,k<=len->∃ xs:Ac α,xs.length=k/\kD.row r false w ((cur.toList.drop off).take (k * r.n)) xs (λ_=>True):=by
  intro k;induction k with
  | zero=>intro _;exact ⟨[],rfl,by simp [kD.row]⟩
  | succ k O =>
    intro hk;obtain ⟨xs,b4,hr⟩:=O bJ5;obtain ⟨x,ae⟩:=hcut k bJ5;refine ⟨xs++[x],by simp [b4],?_⟩;have:(cur.toList.drop off).take ((k + 1) * r.n)=(cur.toList.drop off).take (k * r.n)++(cur.toList.drop (off + k * r.n)).take r.n:=by
      rw [Nat.add_mul,Nat.one_mul,List.take_add,List.drop_drop]
    rw [this];exact kD.kAy hr (kD.kGc ae) (λ_ h=>h) (λ_ h=>h) bJ6
 obtain ⟨xs,b4,hr⟩:=hrow len nL;refine ⟨xs,some ⟨b,off,none⟩,len,m,rfl,b4.symm,hl,hm,.inr ⟨b,off,rfl,cur,e',fr,cur.toList.take off,_,(cur.toList.drop off).drop (len * r.n),hb,?_,?_,hsize,by simp,trivial,kD.yx hr (λ_ _=>⟨trivial,by simp⟩)⟩⟩;rw [Az,Az];simp;omega
def kRl (hl:laidOutB P=true) {W W':Ab} (hb:Qb W W'):∀ {D:Ac Bl} {vs:Ac Ad} {ds:Ac (DataW H)} {ps:Ac Ba},(∀ t∈D,P.readableRec t=true/\t < P.types.size) ->
    DataW.TrodAll enc P W 0 (λ_=>true) true D vs ds ps->(∀ x∈ps,x.block < W.heap.size)->DataW.TrodAll enc P W' 0 (λb=>decide (b < W.heap.size)) true D vs ds ps
  | [],[],[],ps,_,h,_=>h
  | t :: D,v :: vs,d :: ds,ps,ht,⟨p,q,h1,h2,h3⟩,hlt=>by
    subst h3;exact ⟨p,q,Below.trod hl (ht t bJ6).1 (ht t bJ6).2 h1 hb wG,kRl hl hb (λu hu=>ht u (by simp [hu])) h2 wG,rfl⟩
end
def law_own:ownKnob prog.godebug=none:=by kernel_rfl
def law_laidOut:laidOutB prog=true:=by kernel_rfl
def LawPost (w:Ab) (e:Ending) (w':Ab):Prop:=e=.returned (.bool true)/\Qb w w'
def law_post {fn:Func} {s:ChangeSpec} {W W':Ab} {args:Al Ad} {ds F:Ac (DataW H)} {D:Ac Ba} {tb:Bl}
    (hW:DataW.Whole enc prog fn.params.toList s.vars false W args.toList ds F D) (E:s.vars=[]) (G:fn.resultTypes=#[tb]) (e3:prog.underlying tb=some .bool)
    (Y:(s.fn H (ds++F)).results=[.lit (.bool true)]/\(s.fn H (ds++F)).args=ds/\(s.fn H (ds++F)).vars=[])
    (I:∀ t∈fn.params.toList,prog.readableRec t=true/\t < prog.types.size) (hb:Qb W W') :
    s.post enc prog fn false true false false W args (.bool true) W':=by
 have hlt:∀ p∈D,p.block < W.heap.size:=λp hp=>by simpa using hW.lt p hp
 have J:=hW;obtain ⟨p,q,hA,hV,rfl,_,_⟩:=hW;rw [E] at hV;have L:F=[]/\q=[]:=by
  cases F with
  | nil=>exact ⟨rfl,hV⟩
  | cons g F=>exact hV.elim
 obtain ⟨rfl,rfl⟩:=L;refine ⟨ds,[],_,[],p,[],J,?_,?_,?_,hb.frame _,λh=>by cases h⟩
 · rw [Y.1,G];exact trodAll_cons_mk (shut_bool e3 true) trodAll_mk0
 · rw [Y.2.1];exact kRl law_laidOut hb I hA wG
 rw [Y.2.2,E];rfl
def jIv {w:Ab} (h:Bd enc prog w 0 (λ_=>true) true fuel 22 cs=some y):∃ x,Cc.raw w cs x :=
  jIu underlying22 bI9 bJ4 (λh=>bridge_byte underlying5 h) h
end Go.Proofs.YthocbplmdjkifabGreat
namespace Go.Proofs.YthocbplmdjkifabGreat
open Go.RowKit _root_.Go.Proofs.Tryz
def lawsbig_c {w:Ab} {v:Ad} {ac:Ac UInt8} (X:Cc.raw w [v] ac) :
    Calls prog 4 #[v] w (bQ w (.bool (decide ((ac.length:Int) > 1048576)))):=by
 obtain ⟨ca,cc,rfl,_⟩:=kD.sl X;go_enter func4,ntmps4;go_wp2;go_ret;exact ⟨by simp,bR⟩
end Go.Proofs.YthocbplmdjkifabGreat
namespace Go.Proofs.YthocbplmdjkifabGreat
open Go Go.RowKit _root_.Go.Proofs.Tryz
variable {a:Act} {l:Ac Av} {b:Bool} {R:Bool->Prop} {w:Ab} {f:Nat->Bool} {k n:Nat} {v:Ad} {α:Type} {p:Prop}
def jBu (md:Aj) (ops:Al Av):Nat->Ac Bool->Al Bool->Bool
  | _,[],listed=>(Ai md ops listed).isEmpty
  | k,true :: p,listed=>(Ai md ops listed).contains k && Bo md ops listed k && jBu md ops (k + 1) p (listed.setIfInBounds k true)
  | k,false :: p,listed=>(Ai md ops listed==[k]) && jBu md ops (k + 1) p (listed.setIfInBounds k true)
def softOk (md:Aj) (ops:Al Av) (p:Ac Bool):Bool:=Ak ops && (p.length==ops.size && jBu md ops 0 p (Au ops.size false))
section
variable {P:Bq} {ops:Al Av} {S:Ab->Prop} {Q:Exit->Act->Ab->Prop}
def kEk (P:Bq) (ops:Al Av) (S:Ab->Prop) (Q:Exit->Act->Ab->Prop):Nat->Ac Av->Ac Bool->Act->Ab->Prop
  | k,o :: l,true :: p,a,w=>∃ v,YieldsIf P ops S o v a/\kEk P ops S Q (k + 1) l p (a.put o.dst v) w
  | k,o :: l,false :: p,a,w=>if Ap o (Bh ops a.tmps) then o.wp P a w (λa' w'=>S w'/\kEk P ops S Q (k + 1) l p a' w') Q\/(o.asks P a w/\LetsOut Q) else S w/\kEk P ops S Q (k + 1) l p (a.put o.dst undef) w
  | _,l,_,a,w=>Be P ops Q l a w
@[irreducible] def soft (P:Bq) (ops:Al Av) (S:Ab->Prop) (Q:Exit->Act->Ab->Prop) (k:Nat) (l:Ac Av) (p:Ac Bool) (a:Act) (w:Ab):Prop:=kEk P ops S Q k l p a w
def kPf (hs:Ak ops=true) (hQ:∀ c a d v w,Q (.panic c) (Bi a d v) w->Q (.panic c) a w):∀ (p:Ac Bool) (l:Ac Av) (k:Nat) (fuel:Nat) (listed:Al Bool) (a:Act) (w:Ab),
    l.length=p.length->(∀ j,l[j]?=ops[k + j]?)->p.length<=fuel->jBu .any ops k p listed=true->S w->kEk P ops S Q k l p a w->wpAnyH P .any ops Q S fuel listed a w
  | [],[],k,fuel,listed,a,w,_,_,_,hB,_,h=>wpAnyH_done (by simpa [jBu] using hB) (by simpa [kEk,Be] using h) fuel
  | [],o :: l,k,fuel,listed,a,w,hl,_,_,hB,_,h=>by simp at hl
  | b :: p,[],k,fuel,listed,a,w,hl,_,_,hB,_,h=>by simp at hl
  | b :: p,o :: l,k,0,listed,a,w,hl,_,hf,hB,_,h=>by simp at hf
  | true :: p,o :: l,k,fuel + 1,listed,a,w,hl,ho,hf,hB,hS,h=>by
    obtain ⟨v,hy,h⟩:=h;simp only [jBu,Ag] at hB;have h0:ops[k]?=some o:=bA7;exact wpAnyH_take h0 hs hB.1.2 hB.1.1 (λc a w=>hQ c a _ _ w) hy hS (kPf hs hQ p l (k + 1) fuel _ _ _ bF9 fQ bG7 hB.2 hS h)
  | false :: p,o :: l,k,fuel + 1,listed,a,w,hl,ho,hf,hB,hS,h=>by
    simp only [jBu,Ag,Bf] at hB;have h0:ops[k]?=some o:=bA7;refine wpAnyH_all hB.1 bJ6 ?_;intro j J;obtain rfl:j=k:=bH9;have go:∀ a' w',S w'/\kEk P ops S Q (j + 1) l p a' w'->S w'/\wpAnyH P .any ops Q S fuel (listed.setIfInBounds j true) a' w':=λa' w' G =>
      ⟨G.1,kPf hs hQ p l (j + 1) fuel _ _ _ bF9 fT bG7 hB.2 G.1 G.2⟩
    exact VG
def kN {id:Nat} (S:Ab->Prop) (p:Ac Bool) (hm:P.follows .mixedOrders=true) (hB:softOk .any l.toArray p=true)
    (hQ:∀ c a d v w,Q (.panic c) (Bi a d v) w->Q (.panic c) a w) (hS:S { w with drawn:=w.drawn + 1 })
    (h:∀ w',S w'->soft P l.toArray S Q 0 l p a w'):(Bb id l.toArray true).wp P Q a w:=by
 simp only [softOk,Ag,Bf] at hB;have h:=h _ hS;unfold soft at h;exact wp_region_held (S:=S) hm (kPf hB.1 hQ p l 0 _ _ a _ (by simpa using hB.2.1.symm) (λj=>by simp) (by rw [hB.2.1];exact Nat.le_refl _) hB.2.2 hS h)
def kCs (P:Bq) (md:Aj) (ops:Al Av) (Q:Exit->Act->Ab->Prop) (S:Ab->Prop) (n:Nat) (L:Al Bool->Act->Ab->Prop):Nat->Al Bool->Act->Ab->Prop
  | 0,listed,a,w=>L listed a w
  | f + 1,listed,a,w =>
    Ai md ops listed≠[]/\∀ i∈Ai md ops listed,i < n/\wpOp P ops Q i (λa' w'=>S w'/\kCs P md ops Q S n L f (listed.setIfInBounds i true) a' w') a w
def kCu {md:Aj} {n g:Nat} {L:Al Bool->Act->Ab->Prop} (V:∀ listed a w,L listed a w->wpAny P md ops Q g listed a w) :
    ∀ (f:Nat) (listed:Al Bool) (a:Act) (w:Ab),kCs P md ops Q S n L f listed a w->wpAny P md ops Q (f + g) listed a w
  | 0,listed,a,w,h=>by rw [Nat.zero_add];exact V _ _ _ h
  | f + 1,listed,a,w,h=>by
    rw [show f + 1 + g=(f + g) + 1 by omega];exact ⟨λh0=>absurd h0 h.1,λi hi=>wpOp_mono (λa' w' G=>kCu V f _ a' w' G.2) (h.2 i hi).2⟩
def kRk {md:Aj} {i:Nat} {U:Av} {L:Al Bool->Act->Ab->Prop} (hi:ops[i]?=some U) (E:∀ (j:Nat) (o:Av) cs b,ops[j]?=some o->o.op≠.select cs b)
    (hQ:∀ c a w,Q (.panic c) (a.put U.dst v) w->Q (.panic c) a w)
    (hs:Bj md ops n=true) (hc:Bc md ops n=true) (hn:n < ops.size) (O:i < n)
    (W:∀ listed a w,L listed a w->∀ j∈Ai md ops listed,n<=j) :
    ∀ (f:Nat) (listed:Al Bool) (a:Act) (w:Ab),HeadInv md ops n listed ->
      (∀ j oj,ops[j]?=some oj->j≠i->listed.getD j true=false->(∀ e∈oj.after,Region.binds md e=true->e.on≠i)->U.apart ops oj=true) ->
      i∈Ai md ops listed->YieldsIf P ops S U v a->S w ->
      kCs P md ops Q S n L f (listed.setIfInBounds i true) (a.put U.dst v) w->kCs P md ops Q S n L (f + 1) listed a w:=by
 intro f;induction f with
 | zero =>
   intro listed a w inv _ hr hy hS H;have R:=(mem_ready.1 hr).1;refine ⟨λh=>bB8,λj J=>?_⟩;have X:j < n:=by
     rcases Nat.lt_or_ge j n with h | h;exact h
     · exact absurd J (tail_waits hs hc hn inv _ i rfl O R j h)
   exact VH
 | succ f ih =>
   intro listed a w inv I hr hy hS H;have R:=(mem_ready.1 hr).1;refine ⟨λh=>bB8,λj J=>?_⟩;have X:j < n:=by
     rcases Nat.lt_or_ge j n with h | h;exact h
     · exact absurd J (tail_waits hs hc hn inv _ i rfl O R j h)
   exact VI
def kSo (md:Aj) (ops:Al Av) (g:Nat):Nat->Ac Bool->Al Bool->Bool
  | k,[],listed=>Bp md ops g k listed
  | k,true :: p,listed=>(Ai md ops listed).contains k && Bo md ops listed k && kSo md ops g (k + 1) p (listed.setIfInBounds k true)
  | k,false :: p,listed=>(Ai md ops listed==[k]) && kSo md ops g (k + 1) p (listed.setIfInBounds k true)
def softTOk (md:Aj) (ops:Al Av) (p:Ac Bool):Bool :=
  Ak ops && (decide (p.length < ops.size) && (Bj md ops p.length && (Bc md ops p.length && kSo md ops (ops.size - p.length) 0 p (Au ops.size false))))
def kNg {n g:Nat} (E:Ak ops=true) (hQ:∀ c a d v w,Q (.panic c) (Bi a d v) w->Q (.panic c) a w)
    (hs:Bj .any ops n=true) (hc:Bc .any ops n=true) (hn:n < ops.size):∀ (p:Ac Bool) (l:Ac Av) (k:Nat) (listed:Al Bool) (a:Act) (w:Ab),
    k + p.length=n->(∀ j,l[j]?=ops[k + j]?)->HeadInv .any ops n listed->kSo .any ops g k p listed=true->l.length=p.length + g->S w->kEk P ops S Q k l p a w ->
    kCs P .any ops Q S n (λlisted a w=>Bp .any ops g n listed=true/\∃ l,(∀ j,l[j]?=ops[n + j]?)/\l.length=g/\Be P ops Q l a w) p.length listed a w
  | [],l,k,listed,a,w,hk,ho,inv,hB,hl,hS,h=>by
    obtain rfl:k=n:=bG3;refine ⟨by simpa [kSo] using hB,l,ho,by simpa using hl,?_⟩;cases l <;> exact h
  | b :: p,[],k,listed,a,w,hk,ho,inv,hB,hl,hS,h=>by simp at hl;omega
  | true :: p,o :: l,k,listed,a,w,hk,ho,inv,hB,hl,hS,h=>by
    obtain ⟨v,hy,h⟩:=h;simp only [kSo,Ag] at hB;have h0:ops[k]?=some o:=bA7;have hr:k∈Ai .any ops listed:=bD8;have b4:k < n:=bF1
    exact kRk h0 (Region.noSelect_spec E) (λc a w=>hQ c a _ _ w) hs hc hn b4 (λF a' w' V=>seqB_ready V.1) p.length listed a w inv (Region.free_spec h0 hB.1.2) hr hy hS
      (kNg E hQ hs hc hn p l (k + 1) _ _ _ bF1 fQ (inv.set hr b4) hB.2 (by simp at hl;omega) hS h)
  | false :: p,o :: l,k,listed,a,w,hk,ho,inv,hB,hl,hS,h=>by
    simp only [kSo,Ag,Bf] at hB;have h0:ops[k]?=some o:=bA7;have hr:k∈Ai .any ops listed:=bH0;have b4:k < n:=bF1;refine ⟨by rw [hB.1];simp,λj J=>?_⟩;rw [hB.1] at J;obtain rfl:j=k:=bH9;refine ⟨b4,?_⟩;have go:∀ a' w',S w'/\kEk P ops S Q (j + 1) l p a' w'->S w'/\kCs P .any ops Q S n (λlisted a w=>Bp .any ops g n listed=true/\∃ l,(∀ j,l[j]?=ops[n + j]?)/\l.length=g/\Be P ops Q l a w) p.length (listed.setIfInBounds j true) a' w':=λa' w' G =>
      ⟨G.1,kNg E hQ hs hc hn p l (j + 1) _ _ _ bF1 fT (inv.set hr b4) hB.2 (by simp at hl;omega) G.1 G.2⟩
    exact VG
def jU {id:Nat} (S:Ab->Prop) (p:Ac Bool) (hm:P.follows .mixedOrders=true) (hB:softTOk .any l.toArray p=true)
    (hQ:∀ c a d v w,Q (.panic c) (Bi a d v) w->Q (.panic c) a w) (hS:S { w with drawn:=w.drawn + 1 })
    (h:∀ w',S w'->soft P l.toArray S Q 0 l p a w'):(Bb id l.toArray true).wp P Q a w:=by
 simp only [softTOk,Ag,Aq] at hB;have h:=h _ hS;unfold soft at h;have bn:l.toArray.size=l.length:=bJ6;have F:HeadInv .any l.toArray p.length (Au l.toArray.size false) :=
   ⟨by simp,λj oj _ hl=>rF,λt _ ht=>getD_in bG8 (getD_replicate_false _ _)⟩
 have H:=kNg (g:=l.toArray.size - p.length) hB.1 hQ hB.2.2.1 hB.2.2.2.1 hB.2.1 p l 0 _ a _ bJ6 (λj=>by simp) F hB.2.2.2.2 (by have:=hB.2.1;omega) hS h;refine wp_region_any hm ?_;have:=kCu (Q:=Q) (g:=l.toArray.size - p.length) (λlisted a' w' V=>by
   obtain ⟨hq,I,ho,G,hw⟩:=V;have:=wpAny_of_seq (md:=.any) (Q':=Q) I p.length listed a' w' ho (by rw [G];exact hq) hw;rwa [G] at this) _ _ _ _ H
 rw [show p.length + (l.toArray.size - p.length)=l.toArray.size by have:=hB.2.1;omega] at this;exact this
def kIz:∀ (p:Ac Bool) (l:Ac Av) (k:Nat) (a:Act) (w:Ab),S w->kEk P ops S Q k l p a w->Be P ops Q l a w
  | [],l,k,a,w,_,h=>by cases l <;> exact h
  | b :: p,[],k,a,w,_,h=>by cases b <;> exact h
  | true :: p,o :: l,k,a,w,hS,h=>by
    obtain ⟨v,hy,h⟩:=h;have:=kIz p l (k + 1) _ w hS h;unfold Be;rcases hy with ⟨hw,hv⟩|⟨hw,rfl⟩
    · rw [if_pos hw];left;unfold Oper.wp;rw [hv w hS,Oper.upon_value];exact this
    · rw [if_neg (by rw [hw];exact Bg)];exact this
  | false :: p,o :: l,k,a,w,hS,h=>by
    unfold Be;have h:if Ap o (Bh ops a.tmps) then o.wp P a w (λa' w'=>S w'/\kEk P ops S Q (k + 1) l p a' w') Q\/(o.asks P a w/\LetsOut Q) else S w/\kEk P ops S Q (k + 1) l p (a.put o.dst undef) w:=h
    split at h
    · rename_i hw;rw [if_pos hw];exact h.imp (Oper.wp_mono λa' w' G=>kIz p l (k + 1) a' w' G.1 G.2) id
    · rename_i hw;rw [if_neg hw];exact kIz p l (k + 1) _ w h.1 h.2
def kX {id:Nat} (S:Ab->Prop) (p:Ac Bool) (hS:S w)
    (h:∀ w',S w'->soft P l.toArray S Q 0 l p a w'):(Bb id l.toArray false).wp P Q a w:=by
 have h:=h _ hS;unfold soft at h;exact wp_region_lit (kIz p l 0 a w hS h)
def kGx (md:Aj) (ops:Al Av):Ac (Nat × Bool)->Al Bool->Bool
  | [],listed=>(Ai md ops listed).isEmpty
  | (k,true) :: p,listed=>(Ai md ops listed).contains k && Bo md ops listed k && kGx md ops p (listed.setIfInBounds k true)
  | (k,false) :: p,listed=>(Ai md ops listed==[k]) && kGx md ops p (listed.setIfInBounds k true)
def jE (l:Ac Av):Ac (Nat × Bool)->Ac Av
  | []=>[]
  | (k,_) :: q=>match l[k]? with
    | some o=>o :: jE l q
    | none=>[]
def kZx (md:Aj) (ops:Al Av) (q:Ac (Nat × Bool)):Bool:=Ak ops && (decide (q.length<=ops.size) && (q.all (λx=>decide (x.1 < ops.size)) && kGx md ops q (Au ops.size false)))
def kGr {l:Ac Av} (hs:Ak l.toArray=true) (hQ:∀ c a d v w,Q (.panic c) (Bi a d v) w->Q (.panic c) a w):∀ (q:Ac (Nat × Bool)) (k:Nat) (fuel:Nat) (listed:Al Bool) (a:Act) (w:Ab),
    q.all (λx=>decide (x.1 < l.toArray.size))=true->q.length<=fuel->kGx .any l.toArray q listed=true->S w->kEk P l.toArray S Q k (jE l q) (q.map (·.2)) a w->wpAnyH P .any l.toArray Q S fuel listed a w
  | [],k,fuel,listed,a,w,_,_,hB,_,h=>wpAnyH_done (by simpa [kGx] using hB) (by simpa [kEk,Be,jE] using h) fuel
  | (i,b) :: q,k,0,listed,a,w,_,hf,hB,_,h=>by simp at hf
  | (i,true) :: q,k,fuel + 1,listed,a,w,hi,hf,hB,hS,h=>by
    simp only [List.all_cons,Ag,Aq] at hi;have h0:l.toArray[i]?=some l.toArray[i]:=Aw hi.1;have hp:jE l ((i,true) :: q)=l.toArray[i] :: jE l q:=by
      exact VJ
    rw [hp] at h;obtain ⟨v,hy,h⟩:=h;simp only [kGx,Ag] at hB;exact wpAnyH_take h0 hs hB.1.2 hB.1.1 (λc a w=>hQ c a _ _ w) hy hS (kGr hs hQ q (k + 1) fuel _ _ _ hi.2 bG7 hB.2 hS h)
  | (i,false) :: q,k,fuel + 1,listed,a,w,hi,hf,hB,hS,h=>by
    simp only [List.all_cons,Ag,Aq] at hi;have h0:l.toArray[i]?=some l.toArray[i]:=Aw hi.1;have hp:jE l ((i,false) :: q)=l.toArray[i] :: jE l q:=by
      exact VJ
    rw [hp] at h;simp only [kGx,Ag,Bf] at hB;refine wpAnyH_all hB.1 bJ6 ?_;intro j J;obtain rfl:j=i:=bH9;have go:∀ a' w',S w'/\kEk P l.toArray S Q (k + 1) (jE l q) (q.map (·.2)) a' w'->S w'/\wpAnyH P .any l.toArray Q S fuel (listed.setIfInBounds j true) a' w':=λa' w' G =>
      ⟨G.1,kGr hs hQ q (k + 1) fuel _ _ _ hi.2 bG7 hB.2 G.1 G.2⟩
    exact VG
def jf {id:Nat} (S:Ab->Prop) (q:Ac (Nat × Bool)) (hm:P.follows .mixedOrders=true) (hB:kZx .any l.toArray q=true)
    (hQ:∀ c a d v w,Q (.panic c) (Bi a d v) w->Q (.panic c) a w) (hS:S { w with drawn:=w.drawn + 1 })
    (h:∀ w',S w'->soft P l.toArray S Q 0 (jE l q) (q.map (·.2)) a w'):(Bb id l.toArray true).wp P Q a w:=by
 simp only [kZx,Ag,Aq] at hB;have h:=h _ hS;unfold soft at h;exact wp_region_held (S:=S) hm (kGr hB.1 hQ q 0 _ _ a _ hB.2.2.1 hB.2.1 hB.2.2.2 hS h)
def kR {w:World} (h:Q .normal a w):soft P ops S Q k [] [] a w:=by unfold soft;exact h
def jq {o:Oper} {l:List Oper} {w:World} (h:wpList P ops Q (o :: l) a w):soft P ops S Q k (o :: l) [] a w:=by unfold soft;exact h
variable {k:Nat} {l:List Oper} {p:List Bool} {a:Act} {w:World} {o:Oper}
def jF (hg:Ap o (Bh ops a.tmps)=true)
    (hv:∀ w,S w->(execOp a.eval o).run P w=.ok (.value v) w) (h:soft P ops S Q (k + 1) l p (a.put o.dst v) w):soft P ops S Q k (o :: l) (true :: p) a w:=by
 unfold soft at h ⊢;exact ⟨v,.inl ⟨hg,hv⟩,h⟩
def kHp (hg:Ap o (Bh ops a.tmps)=true)
    (hv:∀ w,S w->(execOp a.eval o).run P w=.ok (.value v) w) (hb:v=.bool b) (h:∀ c:Bool,b=c->soft P ops S Q (k + 1) l p (a.put o.dst (.bool c)) w):soft P ops S Q k (o :: l) (true :: p) a w :=
  jF hg hv (hb ▸ h b rfl)
def kI (hg:Ap o (Bh ops a.tmps)=false)
    (hS:S w) (h:soft P ops S Q (k + 1) l p (a.put o.dst undef) w):soft P ops S Q k (o :: l) (b :: p) a w:=by
 unfold soft at h ⊢;cases b
 · show if _ then _ else _
   rw [if_neg (by rw [hg];exact Bg)];exact ⟨hS,h⟩
 exact ⟨undef,.inr ⟨hg,rfl⟩,h⟩
def ku (hg:Ap o (Bh ops a.tmps)=true)
    (h:∀ K:Act->Ab->Prop,(∀ a' w',S w'->soft P ops S Q (k + 1) l p a' w'->K a' w')->o.wp P a w K Q):soft P ops S Q k (o :: l) (false :: p) a w:=by
 unfold soft;show if _ then _ else _
 rw [if_pos hg];exact .inl (h _ (λa' w' h1 h2=>by unfold soft at h2;exact ⟨h1,h2⟩))
end
def kZ {q:Prop} (k:q) (h:Hid q->p:=by intro kq;(first|(refine kI rfl I ?_)|(refine jF (v:=?_) rfl (λW hW=>?_) ?_;rotate_left;(· (try have A:=FX.out W hW);clear hW;go_simp;try with_reducible rfl)));(try simp only [Act.put,zA,zB,zC]);exact kq.out):p:=h (yD k)
def hu2 {P:Prop} (k:Hid (∀ _:Unit,True->P)):P:=k.out () trivial
def hu3 {A P:Prop} (k:Hid (∀ _:Unit,A->P)) (a:A):P:=k.out () a
def pfF (h:b=false->R false) (e:b=false):∀ c,b=c->R c:=λc hc=>by subst hc;rw [e];exact h e
def dkN (k:Nat):decide ((k:Int) < 0)=false:=rfl
def pfT (h:b=true->R true) (e:b=true):∀ c,b=c->R c:=λc hc=>by subst hc;rw [e];exact h e
def jo {G q:α->Prop} (k:∀ c,G c->q c) (h:Hid (∀ c,G c->q c)->p:=by intro kq;first|(refine kI rfl I ?_;(try simp only [Act.put,zA,zB,zC]);exact hu2 kq)|(refine kHp (v:=?_) (b:=?_) rfl (λW hW=>?_) ?_ ?_;rotate_left;rotate_left;(· (try have A:=FX.out W hW);clear hW;go_simp;try with_reducible rfl);(· with_reducible rfl);first|(refine pfF (λ_=>?_) (by with_reducible rfl);(try simp only [Act.put,zA,zB,zC]);exact hu2 kq)|(refine pfT (λ_=>?_) (by with_reducible rfl);(try simp only [Act.put,zA,zB,zC]);exact hu2 kq)|(refine pfF (λhx=>?_) (by with_reducible exact dkN _);(try simp only [Act.put,zA,zB,zC]);exact hu3 kq hx)|(intro c hc;(try simp only [Act.put,zA,zB,zC]);exact kq.out c hc))):p:=h (yD k)
def jm:(∀ b:Bool,((!b)=true)=(b=false))/\(∀ b:Bool,((!b)=false)=(b=true))/\(false=true)=False/\(true=false)=False:=⟨λb=>by cases b <;> simp,λb=>by cases b <;> simp,by simp,by simp⟩
def wkB {C:Prop} {S q:World->Prop} (c:C) (k:∀ W,S W->q W) (h:C->Hid (∀ W,S W->q W)->p:=by intro cq kq;first|(refine kI rfl I ?_;(try simp only [Act.put,zA,zB,zC]);exact kq.out _ I)|(refine ku rfl (λK E=>?_);go_simp;refine cq.mono ?_;rintro e wS1 ⟨rfl,af⟩;refine E _ _ (tQ I af) ?_;clear E K;(try simp only [Act.put,zA,zB,zC]);exact kq.out _ (tQ I af))):p:=h c (yD k)
def wkC {C q:Prop} (c:C) (k:q) (h:C->Hid q->p:=by intro cq kq;first|(refine kI rfl I ?_;(try simp only [Act.put,zA,zB,zC]);exact kq.out)|(refine ku rfl (λK E=>?_);go_simp;refine cq.mono ?_;rintro e wS1 ⟨rfl,D⟩;obtain rfl:=D.symm;refine E _ _ I ?_;clear E K;(try simp only [Act.put,zA,zB,zC]);exact kq.out)):p:=h c (yD k)
def jD {q:Prop} (k:q) (h:Hid q->p:=by intro kq;(try simp only [Act.put,zA,zB,zC]);exact kq.out):p:=h (yD k)
def jY {x:List α} {d:α} (h:k < x.length):x.getD k d=x[k]:=by simp [List.getD,h]
def zf (f:Nat->Bool):Nat->Bool
  | 0=>true
  | n + 1=>zf f n && f n
def kCi (h:zf f n=true) (q:f n=true):zf f (n + 1)=true:=by simp [zf,h,q]
def kEw {j:Nat} (h:j < n) (q:f j=false):zf f n=false:=by
 induction n with
 | zero=>omega
 | succ n ih =>
   by_cases e:j=n;subst e;simp [zf,q]
   · simp [zf,ih bJ5]
end Go.Proofs.YthocbplmdjkifabGreat

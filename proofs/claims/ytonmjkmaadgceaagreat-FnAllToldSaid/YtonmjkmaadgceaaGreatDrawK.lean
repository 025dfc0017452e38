/-
  Patterns, rules, keys and trust as the reference draws them.
-/
import Derived.Test.YtonmjkmaadgceaaGreatLenN
set_option linter.unusedVariables false
set_option linter.unusedSimpArgs false
set_option linter.unnecessarySimpa false
set_option maxRecDepth 100000
set_option maxHeartbeats 8000000
namespace Go.Proofs.YtonmjkmaadgceaaGreat
open Go.RowKit _root_.Go.Proofs.Tryz
def ParsedPat (w:World) (e:Ending) (w':World):Prop:=∃ a c b ps,e=.returned (.tuple #[.agg #[.slice a ps.length c],.bool b])∧yw.own w' [.slice a ps.length c] ps (jR w.heap.size w'.heap.size)∧ps.length≤64∧Hid (yM ps)∧Below w.heap.size w w'
theorem kFr {w:World} {s:ByteArray} (hs:s.size≤64) :
    Calls prog 174 #[.string s] w (ParsedPat w):=by
 go_enter func174,ntmps174
 cases hq:(s.toList==[47])
 case true =>
  go_wp2
  refine bodyPost_ret (v:=.tuple #[.agg #[.slice none 0 0],.bool true]) (by simp [results,results174,go_sem]) rfl ⟨none,0,true,[],rfl,kE.jf,by simp,yD yM.nil,?_⟩
  exact bI
 go_wp2_with fail
 refine (kLk (by0:=47) hs bB8).mono ?_
 rintro e V ⟨v,rfl,ps,O2,b7,cj,G,ab⟩
 have ah:=yD (G.drop 1)
 clear G
 obtain ⟨b2,c2,rfl,H,bk,bt,U⟩:=kE.kBu O2 b7
 have an:=ab.size
 have L:=yD O2
 clear O2
 have E:(0:Int) < ps.length:=bB9
 have ai:(1:Int)≤ps.length:=bB9
 have af:(ps.length:Int)≤c2:=bB9
 have N:c2≤9223372036854775807:=U
 go_upto_region 5 with fail
 have HD:Hid (1 < ps.length→(kE.slice 9 kE.str).own V [.slice (if c2=1 then some ⟨b2,0,none⟩ else some ⟨b2,1,none⟩) (ps.length - 1) (c2 - 1)] (ps.drop 1) (jR (w.heap.size + 1) V.heap.size)):=yD (by
   intro h1
   have h:=(L.out.own vV).wide (T:=jR (w.heap.size + 1) V.heap.size) nE
   have ag:¬ c2=1:=bB9
   rw [if_neg ag]
   exact kE.kOc h (k:=1) bB9)
 generalize (if c2=1 then some ⟨b2,0,none⟩ else some ⟨b2,1,none⟩:Option Addr)=A at *
 obtain ⟨cb,J,he,c0,cr,bd⟩:=kE.kBo (L.out.raw0) (i:=0) b7 rfl
 simp only [Option.some.injEq,Addr.mk.injEq,and_true] at he
 obtain ⟨rfl,rfl⟩:=he
 have be:[c0]=[.string ps[0]]:=(kE.yY cr).1
 obtain rfl:c0=.string ps[0]:=wK
 clear cr be
 generalize ps[0]=y0 at *
 have D:=yD (show (ps.drop 1).length=ps.length - 1 by simp)
 generalize ps.drop 1=qs at *
 have HM:=yD cj
 generalize F:World.alloc V _=R
 have EC:Below V.heap.size V R:=rX
 have B2:V.heap[w.heap.size]?=some (.cells #[.slice none 0 0] 182 (0,0)):=kD (kG rfl) ab
 have B5:R.heap[V.heap.size]?=some (.cells #[.slice A (ps.length - 1) (c2 - 1)] 182 (0,0)):=tX
 clear F
 obtain ⟨bo,bb,E2,B2,HD,AC,K5⟩:=BO
 clear bd ab H L an
 by_cases h2:(ps.length:Int) < 2
 · have K2:=kF B2 (j:=0) rfl
   have F2:=frozen_of_row R w.heap.size 0 _ _ B2
   clear AC
   exact dR
 cases hy:y0.toList.isEmpty
 case false =>
  have K2:=kF B2 (j:=0) rfl
  have F2:=frozen_of_row R w.heap.size 0 _ _ B2
  exact dR
 replace HD:=yD (HD.out bB9)
 go_wp2_with fail
 refine (kDl (p:=qs) HD.out.rd.1).mono ?_
 rintro e w3 ⟨rfl,Y⟩
 have a7:=Y.size
 replace HD:=yD (HD.out.below Y)
 have E3:=(tQ E2 Y)
 replace K5:=cL Y K5
 replace B2:=kD B2 Y
 have K2:=kF B2 (j:=0) rfl
 have F2:=frozen_of_row w3 w.heap.size 0 _ _ B2
 clear AC
 generalize hv:kDi qs=b
 cases b
 · go_wp2
   refine bodyPost_ret (v:=.tuple #[.agg #[.slice none 0 0],.bool false]) nC rfl ⟨none,0,false,[],rfl,kE.jf,by simp,yD yM.nil,?_⟩
   exact E3.setCell bC0 _
 go_wp2
 refine bodyPost_ret (v:=.tuple #[.agg #[.slice A (ps.length - 1) (c2 - 1)],.bool true]) nC rfl ⟨A,c2 - 1,true,qs,by rw [D.out],?_,by rw [D.out];omega,ah,E3.setCell bC0 _⟩
 rw [D.out]
 exact ((HD.out.touch (kC w3 w.heap.size 0 _) sM).wide fK)
theorem rule_form {w:World} {ds:List Value} {r:kCt} (h:kEo.raw w ds r):∃ a c a2 c2,ds=[.slice a r.1.length c,.slice a2 r.2.length c2]:=by
 obtain ⟨v0,v1,rfl,bw,ba,b3,b5⟩:=kIh h
 obtain ⟨a0,c0,rfl,_⟩:=kE.sl ba
 obtain ⟨a1,c1,rfl,_⟩:=kE.sl b5
 exact ⟨_,_,_,_,rfl⟩
def ParsedRule (w:World) (e:Ending) (w':World):Prop:=∃ ds r b,e=.returned (.tuple #[.agg ds.toArray,.bool b])∧kEo.own w' ds r (jR w.heap.size w'.heap.size)∧Below w.heap.size w w'
theorem list3_get {α:Type} {l:List α} (h:l.length=3):0 < l.length∧1 < l.length∧2 < l.length:=by omega
theorem kQx {w:World} {s:ByteArray} (hs:s.size≤64) :
    Calls prog 139 #[.string s] w (ParsedRule w):=by
 go_enter func139,ntmps139
 go_upto_region 1 with fail
 generalize F:World.alloc w _=w1
 have ak:Below w.heap.size w w1:=rX
 have R:w1.heap[w.heap.size]?=some (.cells #[.slice none 0 0,.slice none 0 0] 184 (0,0)):=tX
 have bn:w.heap.size + 1≤w1.heap.size:=bA3
 clear F
 have X:=ak
 clear ak
 go_wp2_with fail
 refine (kLk (by0:=32) hs bB8).mono ?_
 rintro e V ⟨v,rfl,ps,O2,b7,cj,db,hb⟩
 have bo:=hb.size
 replace R:=kD R hb
 replace X:=(tQ X hb)
 clear hb
 obtain ⟨b2,c2,rfl,H,bk,bt,U⟩:=kE.kBu O2 b7
 have L:=yD O2.raw0
 clear O2 H
 by_cases h3:ps.length=3
 · obtain ⟨g0,g1,g2⟩:=list3_get h3
   have ag:=db _ (List.getElem_mem g0)
   have c4:=db _ (List.getElem_mem g2)
   obtain ⟨cb,J,he,Z,cr,bd⟩:=kE.kBo L.out (i:=0) g0 rfl
   simp only [Option.some.injEq,Addr.mk.injEq,and_true] at he
   obtain ⟨rfl,rfl⟩:=he
   have be:[Z]=[.string ps[0]]:=(kE.yY cr).1
   obtain rfl:Z=.string ps[0]:=wK
   clear cr be
   obtain ⟨cb,J,he,ah,cr,D⟩:=kE.kBo L.out (i:=1) g1 rfl
   simp only [Option.some.injEq,Addr.mk.injEq,and_true] at he
   obtain ⟨rfl,rfl⟩:=he
   have be:[ah]=[.string ps[1]]:=(kE.yY cr).1
   obtain rfl:ah=.string ps[1]:=wK
   clear cr be
   obtain ⟨cb,J,he,ab,cr,E⟩:=kE.kBo L.out (i:=2) g2 rfl
   simp only [Option.some.injEq,Addr.mk.injEq,and_true] at he
   obtain ⟨rfl,rfl⟩:=he
   have be:[ab]=[.string ps[2]]:=(kE.yY cr).1
   obtain rfl:ab=.string ps[2]:=wK
   clear cr be
   simp only [Nat.zero_add] at bd D E
   generalize ps[0]=y0 at *
   generalize ps[1]=y1 at *
   generalize ps[2]=y2 at *
   clear db L b7 cj bk
   have af:(3:Int)≤c2:=bB9
   rw [h3]
   clear h3 g0 g1 g2 bt
   cases hy:(y1.toList==[60])
   · have ac:V.cell? ⟨w.heap.size,0,none⟩=some (.slice none 0 0):=kF R rfl
     have au:V.cell? ⟨w.heap.size,1,none⟩=some (.slice none 0 0):=kF R rfl
     exact dS
   go_wp2_with fail
   refine (kFr ag).mono ?_
   rintro e w3 ⟨pa,pc,aa,P,rfl,hr,fc,ai,hb⟩
   have bp:=hb.size
   replace R:=kD R hb
   replace bd:=cL hb bd
   replace D:=cL hb D
   replace E:=cL hb E
   replace X:=(tQ X hb)
   clear hb
   have HP:=yD (hr)
   clear hr
   go_upto_region 5 with fail
   generalize F:World.alloc w3 _=w4
   have a3:Below w3.heap.size w3 w4:=rX
   have O:w4.heap[w3.heap.size]?=some (.cells #[.slice pa P.length pc] 182 (0,0)):=tX
   have b9:w3.heap.size + 1≤w4.heap.size:=bA3
   clear F
   replace R:=kD R a3
   replace bd:=cL a3 bd
   replace D:=cL a3 D
   replace E:=cL a3 E
   replace HP:=yD (HP.out.below a3)
   replace X:=(tQ X a3)
   clear a3
   go_wp2_with fail
   refine (kFr c4).mono ?_
   rintro e w5 ⟨qa,qc,ae,Q,rfl,hr,bc,G,hb⟩
   have cd:=hb.size
   replace R:=kD R hb
   replace O:=kD O hb
   replace bd:=cL hb bd
   replace D:=cL hb D
   replace E:=cL hb E
   replace HP:=yD (HP.out.below hb)
   replace X:=(tQ X hb)
   clear hb
   have HQ:=yD (hr)
   clear hr
   go_upto_region 6 with fail
   generalize F:World.alloc w5 _=w6
   have ba:Below w5.heap.size w5 w6:=rX
   have BQ:w6.heap[w5.heap.size]?=some (.cells #[.slice qa Q.length qc] 182 (0,0)):=tX
   have c8:w5.heap.size + 1≤w6.heap.size:=bA3
   clear F
   replace R:=kD R ba
   replace O:=kD O ba
   replace bd:=cL ba bd
   replace D:=cL ba D
   replace E:=cL ba E
   replace HP:=yD (HP.out.below ba)
   replace HQ:=yD (HQ.out.below ba)
   replace X:=(tQ X ba)
   clear ba
   have Y:w6.cell? ⟨w3.heap.size,0,none⟩=some (.slice pa P.length pc):=kF O rfl
   have bx:w6.cell? ⟨w5.heap.size,0,none⟩=some (.slice qa Q.length qc):=kF BQ rfl
   go_upto_region 7 with fail
   generalize F:World.alloc w6 _=w7
   have N:Below w6.heap.size w6 w7:=rX
   have BR:w7.heap[w6.heap.size]?=some (.cells #[.slice pa P.length pc,.slice qa Q.length qc] 184 (0,0)):=tX
   have dg:w6.heap.size + 1≤w7.heap.size:=bA3
   clear F
   replace R:=kD R N
   replace O:=kD O N
   replace BQ:=kD BQ N
   replace bd:=cL N bd
   replace D:=cL N D
   replace E:=cL N E
   replace HP:=yD (HP.out.below N)
   replace HQ:=yD (HQ.out.below N)
   replace X:=(tQ X N)
   clear Y bx
   clear N
   cases aa
   · exact dU
   cases ae
   · exact dU
   have ax:w7.cell? ⟨w6.heap.size,0,none⟩=some (.slice pa P.length pc):=kF BR rfl
   have a1:w7.cell? ⟨w6.heap.size,1,none⟩=some (.slice qa Q.length qc):=kF BR rfl
   have W:=yD (kE.ja (r:=yw) (q:=yw) (cs:=[.slice pa P.length pc]) (ds:=[.slice qa Q.length qc]) (S:=fun k=>w.heap.size < k∧k < w7.heap.size) HP.out HQ.out mU mU nY)
   clear HP HQ
   go_wp2_with fail
   refine (kQw (cr:=[.slice pa P.length pc,.slice qa Q.length qc]) (r:=(P,Q)) W.out.raw).mono ?_
   rintro e w8 ⟨rfl,hb⟩
   have eg:=hb.size
   replace R:=kD R hb
   replace O:=kD O hb
   replace BQ:=kD BQ hb
   replace BR:=kD BR hb
   replace bd:=cL hb bd
   replace D:=cL hb D
   replace E:=cL hb E
   replace W:=yD (W.out.below hb)
   replace X:=(tQ X hb)
   clear ax a1
   clear hb
   generalize kJd (P,Q)=vr
   cases vr
   · have ac:w8.cell? ⟨w.heap.size,0,none⟩=some (.slice none 0 0):=kF R rfl
     have au:w8.cell? ⟨w.heap.size,1,none⟩=some (.slice none 0 0):=kF R rfl
     exact dS
   have ax:w8.cell? ⟨w6.heap.size,0,none⟩=some (.slice pa P.length pc):=kF BR rfl
   have a1:w8.cell? ⟨w6.heap.size,1,none⟩=some (.slice qa Q.length qc):=kF BR rfl
   obtain ⟨ac,au⟩:=jc R
   obtain ⟨aq,ar⟩:=kAo R
   go_wp2
   refine bodyPost_ret (v:=.tuple #[.agg #[.slice pa P.length pc,.slice qa Q.length qc],.bool true]) gV rfl ⟨[.slice pa P.length pc,.slice qa Q.length qc],(P,Q),true,rfl,?_,?_⟩
   · exact (W.out.touch ((kC _ _ _ _).trans (kC _ _ _ _)) sK).wide fK
   exact X.trans (Touch.below ((kC _ _ _ _).trans (kC _ _ _ _)) X.size wB)
 have aj:¬ (ps.length:Int)=3:=bB9
 obtain ⟨ac,au⟩:=jc R
 exact dS
theorem kRl {w:World} {cs:List Value} {x:kQ} (h:kM.raw w cs x):∃ a c,cs=[.slice a x.length c]:=by
 obtain ⟨v0,rfl,h0⟩:=kU h
 obtain ⟨a,c,h1,_⟩:=kE.kAx h0
 obtain rfl:v0=_:=by simpa using h1
 exact ⟨a,c,rfl⟩
def SignedW (m:Nat) (w:World) (e:Ending) (w':World):Prop:=∃ ds x ok,e=.returned (.tuple #[.agg ds.toArray,.bool ok])∧jA.own w' ds x (jR w.heap.size w'.heap.size)∧x.2.1.length≤m∧Below w.heap.size w w'
theorem kVv {w:World} {S:Nat→Prop}:jA.own w [.slice none 0 0,.slice none 0 0,.slice none 0 0,.int .i64 0,.int .i64 0] ([],[],[],0,0) S:=⟨jA.is_zero,jA.bdd_zero⟩
theorem kAs {w:World} {vl:Value} {l:List kIi} (hl:(kE.slice 181 kGe).raw w [vl] l) {cb:List Value} {yb:kQ} (hby:kM.rd w cb yb) {cn:List Value} {n:kQ} (hn:kM.rd w cn n) {V:Value} {b_:List UInt8} (Z:(kE.slice 5 kE.byte).rd w [V] b_) (bk:b_.length≤1000) {tl:Int} (ht:-9223372036854775808≤tl∧tl≤9223372036854775807) :
    Calls prog 84 #[vl,.agg cb.toArray,.agg cn.toArray,V,.int .i64 tl] w (SignedW b_.length w):=by
 obtain ⟨la,lc,rfl,_⟩:=kE.sl hl
 obtain ⟨ya,yc,rfl⟩:=kRl hby.1
 obtain ⟨na,nc,rfl⟩:=kRl hn.1
 obtain ⟨ba,bc,rfl,_⟩:=kE.sl Z.1
 have HL:=yD hl
 have HY:=yD hby
 have HN:=yD hn
 have HB:=yD Z
 have aa:=kRk (n:=yb) hl
 clear hl hby hn Z
 go_enter func84,ntmps84
 go_upto_region 1 with fail
 generalize F:World.alloc (World.alloc (World.alloc w _) _) _=w1
 have X:Below w.heap.size w w1:=by rw [← F];exact bI
 have BY:w1.heap[w.heap.size]?=some (.cells #[.slice ya yb.length yc] 41 (0,0)):=rA
 have BN:w1.heap[w.heap.size + 1]?=some (.cells #[.slice na n.length nc] 41 (0,0)):=by rw [← F];exact jC (kG bC0)
 obtain ⟨BR,bn⟩:=BL
 clear F
 go_cut [12] from 13 to 22 (fun ac wc=>∃ (b:Nat) (ae ao am:Option Addr) (ah ai aj:Nat) (sg:Int),ac=.pointer (some ⟨b,0,none⟩)∧wc.heap[b]?=some (.cells #[.slice ae n.length ah,.slice ao b_.length ai,.slice am yb.length aj,.int .i64 tl,.int .i64 sg] 43 (0,0))∧Hid (jA.own wc [.slice ae n.length ah,.slice ao b_.length ai,.slice am yb.length aj,.int .i64 tl,.int .i64 sg] (n,b_,yb,tl,sg) (fun k=>w1.heap.size≤k∧k < wc.heap.size∧k≠b))∧w1.heap.size≤b∧b < wc.heap.size∧Below w1.heap.size w1 wc)
 case first =>
  have FX:=yD (fun (W:World) (hW:Below w1.heap.size w1 W)=>And.intro (kF (kD BY hW) (j:=0) (v:=.slice ya yb.length yc) rfl) (kF (kD BN hW) (j:=0) (v:=.slice na n.length nc) rfl))
  refine kAf (fun W=>Below w1.heap.size w1 W) bB4 (bR.drew) ?_
  intro t E
  have eb:=E.size
  refine jB 0 ?_
  refine kX ?_
  refine jB 1 ?_
  refine kX ?_
  refine jB 3 ?_
  refine kX ?_
  refine jB 4 ?_
  refine kX ?_
  refine jB 5 ?_
  refine kX ?_
  refine jB 6 ?_
  refine kX ?_
  refine jB 7 ?_
  refine kX ?_
  refine kFp ?_
  intro T A Y hA
  have D:∀ (ae:Option Addr),∀ (ah:Nat),∀ (ao:Option Addr),∀ (ai:Nat),∀ (am:Option Addr),∀ (aj:Nat),∀ (sg:Int),∀ (b:Nat),∀ (W:World),Below w1.heap.size w1 W→(Hid (jA.own W [.slice ae n.length ah,.slice ao b_.length ai,.slice am yb.length aj,.int .i64 tl,.int .i64 sg] (n,b_,yb,tl,sg) (fun k=>w1.heap.size≤k∧k < W.heap.size∧k≠b)))→(w1.heap.size≤b∧b < W.heap.size)→(W.heap[b]?=some (.cells #[.slice ae n.length ah,.slice ao b_.length ai,.slice am yb.length aj,.int .i64 tl,.int .i64 sg] 43 (0,0)))→T 0 [true,true,true,true,true,true,true,true,true,true,true] (Act.put (Act.put (Act.put A (some 15) (.int .i64 (zJ l yb))) (some 21) (.agg #[.slice ae n.length ah,.slice ao b_.length ai,.slice am yb.length aj,.int .i64 tl,.int .i64 sg])) (some 12) (.pointer (some ⟨b,0,none⟩))) W:=by
   intro ae ah ao ai am aj sg b W E HQ N BB
   have b6:=E.size
   subst Y
   subst hA
   simp only [Act.put,zA,zB,zC]
   refine yR bB4 ?_
   go_wp2
   go_meet
   exact ⟨b,ae,ao,am,ah,ai,aj,sg,rfl,BB,HQ,N.1,N.2,E⟩
  have G:∀ (ae:Option Addr),∀ (ah:Nat),∀ (ao:Option Addr),∀ (ai:Nat),∀ (am:Option Addr),∀ (aj:Nat),∀ (sg:Int),∀ (b:Nat),∀ (W:World),Below w1.heap.size w1 W→(Hid (jA.own W [.slice ae n.length ah,.slice ao b_.length ai,.slice am yb.length aj,.int .i64 tl,.int .i64 sg] (n,b_,yb,tl,sg) (fun k=>w1.heap.size≤k∧k < W.heap.size∧k≠b)))→(w1.heap.size≤b∧b < W.heap.size)→(W.heap[b]?=some (.cells #[.slice none 0 0,.slice none 0 0,.slice none 0 0,.int .i64 0,.int .i64 0] 43 (0,0)))→T 1 [true,true,true,true,true,true,true,true,true,true,false] (Act.put (Act.put (Act.put A (some 15) (.int .i64 (zJ l yb))) (some 21) (.agg #[.slice ae n.length ah,.slice ao b_.length ai,.slice am yb.length aj,.int .i64 tl,.int .i64 sg])) (some 12) (.pointer (some ⟨b,0,none⟩))) W:=by
   intro ae ah ao ai am aj sg b W E HQ N BB
   have b6:=E.size
   subst Y
   subst hA
   simp only [Act.put,zA,zB,zC]
   refine kY (k:=10) rfl bB4 rfl (fun K J=>?_)
   obtain ⟨dp,du,dx,dv,dj⟩:=jU BB
   obtain ⟨dq,c5,dl,dk,cu⟩:=zh BB
   go_simp
   generalize F:World.setCell (World.setCell (World.setCell (World.setCell (World.setCell W _ _) _ _) _ _) _ _) _ _=v
   have Y:Touch (fun k=>k=b) W v:=(by rw [← F];exact ((((kC _ _ _ _).trans (kC _ _ _ _)).trans (kC _ _ _ _)).trans (kC _ _ _ _)).trans (kC _ _ _ _))
   replace BB:v.heap[b]?=some (.cells #[.slice ae n.length ah,.slice ao b_.length ai,.slice am yb.length aj,.int .i64 tl,.int .i64 sg] 43 (0,0)):=(by rw [← F];exact kH (kH (kH (kH (kH (BB) 0) 1) 2) 3) 4)
   clear F dp dq du c5 dx dl dv dk dj cu
   have zv:=Y.size
   replace HQ:Hid (jA.own v [.slice ae n.length ah,.slice ao b_.length ai,.slice am yb.length aj,.int .i64 tl,.int .i64 sg] (n,b_,yb,tl,sg) (fun k=>w1.heap.size≤k∧k < v.heap.size∧k≠b)):=yD ((HQ.out.touch Y (fun k q h=>q.2.2 h)).wide (fun k q=>⟨q.1,Nat.lt_of_lt_of_le q.2.1 Y.size,q.2.2⟩))
   replace N:w1.heap.size≤b∧b < v.heap.size:=⟨N.1,Nat.lt_of_lt_of_le N.2 Y.size⟩
   replace E:=E.trans (Y.below E.size wB)
   refine J _ _ E ?_
   clear J K
   refine kX ?_
   have h_:=D ae ah ao ai am aj sg b v E HQ N BB
   exact dD
  have ab:∀ (ae:Option Addr),∀ (ah:Nat),∀ (ao:Option Addr),∀ (ai:Nat),∀ (am:Option Addr),∀ (aj:Nat),∀ (sg:Int),∀ (W:World),Below w1.heap.size w1 W→(Hid (jA.own W [.slice ae n.length ah,.slice ao b_.length ai,.slice am yb.length aj,.int .i64 tl,.int .i64 sg] (n,b_,yb,tl,sg) (fun k=>w1.heap.size≤k∧k < W.heap.size∧k≠w.heap.size)))→T 2 [true,true,true,true,true,true,true,true,true,false,false] (Act.put (Act.put A (some 15) (.int .i64 (zJ l yb))) (some 21) (.agg #[.slice ae n.length ah,.slice ao b_.length ai,.slice am yb.length aj,.int .i64 tl,.int .i64 sg])) W:=by
   intro ae ah ao ai am aj sg W E HQ
   have b6:=E.size
   subst Y
   subst hA
   simp only [Act.put,zA,zB,zC]
   refine kY (k:=9) rfl bB4 rfl (fun K J=>?_)
   go_simp
   generalize F:World.alloc W _=v
   obtain ⟨hb,BB,zv⟩:=oN
   clear F
   obtain ⟨b,ay⟩:∃ b_,b_=W.heap.size:=⟨_,rfl⟩
   rw [← ay] at BB ⊢
   replace HQ:Hid (jA.own v [.slice ae n.length ah,.slice ao b_.length ai,.slice am yb.length aj,.int .i64 tl,.int .i64 sg] (n,b_,yb,tl,sg) (fun k=>w1.heap.size≤k∧k < v.heap.size∧k≠b)):=yD ((HQ.out.below hb).wide dK)
   have N:w1.heap.size≤b∧b < v.heap.size:=⟨by omega,by omega⟩
   exact dY
  have L:∀ (b:Nat),∀ (W:World),Below w1.heap.size w1 W→(w1.heap.size≤b∧b < W.heap.size)→(W.heap[b]?=some (.cells #[.slice none 0 0,.slice none 0 0,.slice none 0 0,.int .i64 0,.int .i64 0] 43 (0,0)))→T 2 [true,true,true,true,true,true,true,true,false,true,false] (Act.put (Act.put A (some 15) (.int .i64 (zJ l yb))) (some 12) (.pointer (some ⟨b,0,none⟩))) W:=by
   intro b W E N BB
   have b6:=E.size
   subst Y
   subst hA
   simp only [Act.put,zA,zB,zC]
   refine kY (k:=8) rfl bB4 rfl (fun K J=>?_)
   go_simp
   refine (kFq (s:=zJ l yb) aa (cx:=[.slice na n.length nc,.slice ba b_.length bc,.slice ya yb.length yc,.int .i64 tl,.int .i64 0]) (x:=(n,b_,yb,tl,0)) (kTq (S:=fun _=>True) ((HN.out.below X).below E) ((HB.out.below X).below E) ((HY.out.below X).below E) ht bB9) (by show b_.length≤_;omega)).mono ?_
   rintro e v ⟨sg,ds,rfl,hO,ci,hb⟩
   have zv:=hb.size
   have c6:=N.2
   replace BB:=kD BB hb
   replace N:w1.heap.size≤b∧b < v.heap.size:=⟨N.1,Nat.lt_of_lt_of_le N.2 hb.size⟩
   obtain ⟨ae,ah,ao,ai,am,aj,rfl⟩:=yN hO.raw
   have HQ:Hid (jA.own v [.slice ae n.length ah,.slice ao b_.length ai,.slice am yb.length aj,.int .i64 tl,.int .i64 sg] (n,b_,yb,tl,sg) (fun k=>w1.heap.size≤k∧k < v.heap.size∧k≠b)):=yD (hO.wide gU)
   exact dY
  have R:∀ (W:World),Below w1.heap.size w1 W→T 3 [true,true,true,true,true,true,true,true,false,false,false] (Act.put A (some 15) (.int .i64 (zJ l yb))) W:=by
   intro W E
   have b6:=E.size
   subst Y
   subst hA
   simp only [Act.put,zA,zB,zC]
   refine yG (i:=8) (j:=9) rfl rfl bB4 rfl rfl (fun K J=>?_) (fun K J=>?_)
   · go_simp
     refine (kFq (s:=zJ l yb) aa (cx:=[.slice na n.length nc,.slice ba b_.length bc,.slice ya yb.length yc,.int .i64 tl,.int .i64 0]) (x:=(n,b_,yb,tl,0)) (kTq (S:=fun _=>True) ((HN.out.below X).below E) ((HB.out.below X).below E) ((HY.out.below X).below E) ht bB9) (by show b_.length≤_;omega)).mono ?_
     rintro e v ⟨sg,ds,rfl,hO,ci,hb⟩
     have zv:=hb.size
     obtain ⟨ae,ah,ao,ai,am,aj,rfl⟩:=yN hO.raw
     have HQ:Hid (jA.own v [.slice ae n.length ah,.slice ao b_.length ai,.slice am yb.length aj,.int .i64 tl,.int .i64 sg] (n,b_,yb,tl,sg) (fun k=>w1.heap.size≤k∧k < v.heap.size∧k≠w.heap.size)):=yD (hO.wide gU)
     replace E:=(tQ E hb)
     refine J _ _ E ?_
     clear J K
     refine kX ?_
     have h_:=ab ae ah ao ai am aj sg v E HQ
     exact dD
   go_simp
   generalize F:World.alloc W _=v
   obtain ⟨hb,BB,zv⟩:=oN
   clear F
   obtain ⟨b,ay⟩:∃ b_,b_=W.heap.size:=⟨_,rfl⟩
   rw [← ay] at BB ⊢
   have N:w1.heap.size≤b∧b < v.heap.size:=⟨by omega,by omega⟩
   exact dZ
  have T9:∀ (b:Nat),∀ (W:World),Below w1.heap.size w1 W→(w1.heap.size≤b∧b < W.heap.size)→(W.heap[b]?=some (.cells #[.slice none 0 0,.slice none 0 0,.slice none 0 0,.int .i64 0,.int .i64 0] 43 (0,0)))→T 3 [true,true,false,true,true,true,true,true,false,true,false] (Act.put A (some 12) (.pointer (some ⟨b,0,none⟩))) W:=by
   intro b W E N BB
   have b6:=E.size
   subst Y
   subst hA
   simp only [Act.put,zA,zB,zC]
   refine kY (k:=2) rfl bB4 rfl (fun K J=>?_)
   go_simp
   refine (kEc ((HL.out.below X).below E) (cn:=[.slice ya yb.length yc]) ((HY.out.1.below X).below E)).mono ?_
   rintro e v ⟨rfl,hb⟩
   have zv:=hb.size
   have c6:=N.2
   replace BB:=kD BB hb
   replace N:w1.heap.size≤b∧b < v.heap.size:=⟨N.1,Nat.lt_of_lt_of_le N.2 hb.size⟩
   exact dZ
  subst Y
  subst hA
  refine yG (i:=2) (j:=9) rfl rfl bB4 rfl rfl (fun K J=>?_) (fun K J=>?_)
  · go_simp
    refine (kEc ((HL.out.below X).below E) (cn:=[.slice ya yb.length yc]) ((HY.out.1.below X).below E)).mono ?_
    rintro e v ⟨rfl,hb⟩
    have zv:=hb.size
    replace E:=(tQ E hb)
    refine J _ _ E ?_
    clear J K
    refine kX ?_
    have h_:=R v E
    exact dD
  go_simp
  generalize F:World.alloc t _=v
  obtain ⟨hb,BB,zv⟩:=p8
  clear F
  obtain ⟨b,ay⟩:∃ b_,b_=t.heap.size:=⟨_,rfl⟩
  rw [← ay] at BB ⊢
  have N:w1.heap.size≤b∧b < v.heap.size:=⟨by omega,by omega⟩
  exact eB
 obtain ⟨b,ae,ao,am,ah,ai,aj,sg,rfl,BQ,HQ,dc,O,c2⟩:=hcut
 have zc:=c2.size
 replace BY:=kD BY c2
 replace BR:=kD BR c2
 replace X:=(tQ X c2)
 have H:=HL
 replace HL:=yD (H.out.below X)
 have U:=HY
 replace HY:=yD (U.out.below X)
 clear H U HN HB BN c2
 have be:wc.cell? ⟨w.heap.size,0,none⟩=some (.slice ya yb.length yc):=kF BY rfl
 go_wp2_with fail
 refine (kEc HL.out (cn:=[.slice ya yb.length yc]) HY.out.1).mono ?_
 rintro e w4 ⟨rfl,hb⟩
 have b9:=hb.size
 replace BY:=kD BY hb
 replace BR:=kD BR hb
 replace BQ:=kD BQ hb
 replace HQ:=yD (HQ.out.below hb)
 replace HL:=yD (HL.out.below hb)
 replace HY:=yD (HY.out.below hb)
 replace X:=(tQ X hb)
 clear be
 clear hb
 by_cases dt:zJ l yb=0
 · have ax:w4.cell? ⟨w.heap.size + 2,0,none⟩=some (.slice none 0 0):=kF BR rfl
   have a1:w4.cell? ⟨w.heap.size + 2,1,none⟩=some (.slice none 0 0):=kF BR rfl
   have cq:w4.cell? ⟨w.heap.size + 2,2,none⟩=some (.slice none 0 0):=kF BR rfl
   have ck:w4.cell? ⟨w.heap.size + 2,3,none⟩=some (.int .i64 0):=kF BR rfl
   have cw:w4.cell? ⟨w.heap.size + 2,4,none⟩=some (.int .i64 0):=kF BR rfl
   exact eD
 have bx:w4.cell? ⟨b,0,none⟩=some (.slice ae n.length ah):=kF BQ rfl
 have b5:w4.cell? ⟨b,1,none⟩=some (.slice ao b_.length ai):=kF BQ rfl
 have b8:w4.cell? ⟨b,2,none⟩=some (.slice am yb.length aj):=kF BQ rfl
 have bg:w4.cell? ⟨b,3,none⟩=some (.int .i64 tl):=kF BQ rfl
 have ch:w4.cell? ⟨b,4,none⟩=some (.int .i64 sg):=kF BQ rfl
 go_wp2_with fail
 refine (kDa (x:=(n,b_,yb,tl,sg)) HQ.out.raw).mono ?_
 rintro e w5 ⟨rfl,hb⟩
 have cd:=hb.size
 replace BY:=kD BY hb
 replace BR:=kD BR hb
 replace BQ:=kD BQ hb
 replace HQ:=yD (HQ.out.below hb)
 replace HL:=yD (HL.out.below hb)
 replace HY:=yD (HY.out.below hb)
 replace X:=(tQ X hb)
 clear bx b5 b8 bg ch
 clear hb
 generalize kBc (n,b_,yb,tl,sg)=ok
 cases ok
 · have ax:w5.cell? ⟨w.heap.size + 2,0,none⟩=some (.slice none 0 0):=kF BR rfl
   obtain ⟨a1,cq,ck,cw⟩:=xP
   exact eD
 have ax:w5.cell? ⟨w.heap.size + 2,0,none⟩=some (.slice none 0 0):=kF BR rfl
 obtain ⟨a1,cq,ck,cw⟩:=xP
 obtain ⟨bx,b5,b8,bg,ch⟩:=jU BQ
 obtain ⟨ar,aq,cj,co,cv⟩:=zh BR
 go_wp2
 refine bodyPost_ret (v:=.tuple #[.agg #[.slice ae n.length ah,.slice ao b_.length ai,.slice am yb.length aj,.int .i64 tl,.int .i64 sg],.bool true]) fQ rfl ⟨[.slice ae n.length ah,.slice ao b_.length ai,.slice am yb.length aj,.int .i64 tl,.int .i64 sg],(n,b_,yb,tl,sg),true,rfl,?_,?_,?_⟩
 · exact (HQ.out.touch (((((kC _ _ _ _).trans (kC _ _ _ _)).trans (kC _ _ _ _)).trans (kC _ _ _ _)).trans (kC _ _ _ _)) sK).wide fF
 · simp
 exact X.trans (Touch.below (((((kC _ _ _ _).trans (kC _ _ _ _)).trans (kC _ _ _ _)).trans (kC _ _ _ _)).trans (kC _ _ _ _)) X.size wB)
theorem kEd {w:World} {vl:Value} {l:List kIi} (hl:(kE.slice 181 kGe).raw w [vl] l) {cn:List Value} {n:kQ} (hn:kM.rd w cn n) {cb:List Value} {yb:kQ} (hby:kM.rd w cb yb) {tl:Int} (ht:-9223372036854775808≤tl∧tl≤9223372036854775807) :
    Calls prog 140 #[vl,.agg cn.toArray,.agg cb.toArray,.int .i64 tl] w (SignedW 64 w):=by
 obtain ⟨la,lc,rfl,_⟩:=kE.sl hl
 obtain ⟨ya,yc,rfl⟩:=kRl hby.1
 obtain ⟨na,nc,rfl⟩:=kRl hn.1
 have a2:=kTf (l:=l) (n:=n)
 go_enter func140,ntmps140
 go_upto_region 1 with fail
 generalize F:World.alloc (World.alloc (World.alloc w _) _) _=w1
 have X:Below w.heap.size w w1:=by rw [← F];exact bI
 have HL:=yD (hl.below X)
 have HY:=yD (hby.below X)
 have HN:=yD (hn.below X)
 clear hl hby hn
 have BN:w1.heap[w.heap.size]?=some (.cells #[.slice na n.length nc] 41 (0,0)):=rA
 have BY:w1.heap[w.heap.size + 1]?=some (.cells #[.slice ya yb.length yc] 41 (0,0)):=by rw [← F];exact jC (kG bC0)
 obtain ⟨BR,bn⟩:=BL
 clear F
 have bb:w1.cell? ⟨w.heap.size,0,none⟩=some (.slice na n.length nc):=kF BN rfl
 have be:w1.cell? ⟨w.heap.size + 1,0,none⟩=some (.slice ya yb.length yc):=kF BY rfl
 have FX:=yD (fun (W:World) (hW:Below w1.heap.size w1 W)=>cLs2 hW bb be)
 refine jO (fun W=>Below w1.heap.size w1 W) [(0,true),(1,true),(2,true),(3,true),(4,true),(6,true),(5,false),(7,false),(8,true),(9,true)] bB4 bB4 qD (bR.drew) ?_
 intro wS E
 simp only [jD,List.length_cons,List.length_nil,List.getElem?_cons_succ,List.getElem?_cons_zero,List.map_cons,List.map_nil,List.cons_append,List.nil_append,List.drop_succ_cons,List.drop_zero]
 iterate 6
  all_goals refine kS ?_
 all_goals first|(refine kK rfl E ?_)|(refine ko rfl (fun K J=>?_);go_simp;refine (kQz (HL.out.below E) (HN.out.1.below E) (cn:=[.slice na n.length nc])).mono ?_;rintro e wS1 ⟨vg,rfl,OG,af⟩;obtain ⟨ag,ng,cg,Y,aw⟩:=OG.parts;obtain rfl:=Y;have RG:=yD ((OG.own vV).rd);clear OG;replace E:=(tQ E af);refine J _ _ E ?_;clear J K af)
 all_goals refine kX ?_
 all_goals first|(refine kK rfl E ?_)|(refine ko rfl (fun K J=>?_);go_simp;refine (kAs (l:=l) (HL.out.below E) (cb:=[.slice ya yb.length yc]) (HY.out.below E) (cn:=[.slice na n.length nc]) (HN.out.below E) RG.out bB9 ht).mono ?_;rintro e bj ⟨ds,x,ok,rfl,hO,ci,af⟩;have HQ:=yD hO;have D:=af.size;have H:=E.size;obtain ⟨ae,ah,ao,ai,am,aj,rfl⟩:=yN hO.raw;clear hO;replace E:=(tQ E af);refine J _ _ E ?_;clear J K af)
 all_goals refine kX ?_
 all_goals refine kS ?_
 all_goals refine kS ?_
 all_goals refine jq ?_
 replace BR:=kD BR E
 have G:=E.size
 have E2:=(tQ X E)
 obtain ⟨ac,au,bi,bm,bv⟩:=jU BR
 obtain ⟨aq,ar,bh,bl,bu⟩:=zh BR
 go_wp2
 refine bodyPost_ret (v:=.tuple #[.agg #[.slice ae x.1.length ah,.slice ao x.2.1.length ai,.slice am x.2.2.1.length aj,.int .i64 x.2.2.2.1,.int .i64 x.2.2.2.2],.bool ok]) (by simp [results,results140,go_sem,ac,aq,au,ar,bi,bh,bm,bl,bv,bu]) rfl ⟨[.slice ae x.1.length ah,.slice ao x.2.1.length ai,.slice am x.2.2.1.length aj,.int .i64 x.2.2.2.1,.int .i64 x.2.2.2.2],x,ok,rfl,?_,by omega,?_⟩
 · exact (HQ.out.touch (((((kC _ _ _ _).trans (kC _ _ _ _)).trans (kC _ _ _ _)).trans (kC _ _ _ _)).trans (kC _ _ _ _)) sK).wide fK
 exact E2.trans (Touch.below (((((kC _ _ _ _).trans (kC _ _ _ _)).trans (kC _ _ _ _)).trans (kC _ _ _ _)).trans (kC _ _ _ _)) E2.size wB)
theorem lit_rdB {α:Type} {r:kE α} {e:TypeId} {w:World} {b:Nat} {cs:List Value} {xs:List α} {S:Nat→Prop} (hb:w.heap[b]?=some (.cells cs.toArray e (0,0))) (hr:kE.row r false w cs xs S) (hd:∀ x∈xs,r.bdd Big x) (hl:xs.length≤64):(kE.slice e r).jY w [.slice (some ⟨b,0,none⟩) xs.length xs.length] xs (fun k=>S k∨k=b):=by
 refine ⟨⟨_,_,xs.length,rfl,rfl,Nat.le_refl _,by unfold maxLen;omega,.inr ⟨b,0,rfl,cs.toArray,e,(0,0),[],cs,[],hb,by simp,rfl,?_,(fun h=>by cases h),.inr rfl,?_⟩⟩,by unfold Big;omega,hd⟩
 · have:=kE.zH hr;simp;omega
 exact kE.yH hr (fun k hk=>⟨.inl hk,fun h=>by cases h⟩)
theorem kNi {α:Type} {r:kE α} {w:World} {c d:List Value} {y:α} {ys:List α} {S:Nat→Prop} (h:r.jY w c y S) (k:kE.row r false w d ys S):kE.row r false w (c++d) (y :: ys) S:=⟨c,d,S,S,rfl,h.1,k,fun _ h=>h,fun _ h=>h,fun h=>by cases h⟩
theorem kRm {w:World} {v:Value} {n:kQ} {s:Int} {S:Nat→Prop} (h:kM.jY w [v] n S) (hs:-9223372036854775808≤s∧s≤9223372036854775807):kGe.jY w [v,.int .i64 s] (n,s) S :=
  kE.kAi (r:=kM) (q:=.int) (z:=(n,s)) h (kE.flat.jY (kE.ky hs))
theorem Touch.jZ {S U:Nat→Prop} {w w1 V:World} (h:Touch S w w1) (t:Touch U w1 V) (hb:∀ k,U k→S k∨w.heap.size≤k):Touch S w V:=by
 refine ⟨t.os.trans h.os,t.tape.trans h.tape,t.output.trans h.output,Nat.le_trans h.size t.size,fun k hk hn=>?_⟩
 exact (t.block k (Nat.lt_of_lt_of_le hk h.size) (fun q=>by rcases hb k q with q | q;exact hn q;omega)).trans (h.block k hk hn)
theorem trust_rdB {w:World} {v0 v1 v2 v3:Value} {x0:List kIi} {x1:List kCt} {x2:List kQ} {x3:List jG} {S:Nat→Prop} (h0:(kE.slice 181 kGe).jY w [v0] x0 S) (h1:(kE.slice 184 kEo).jY w [v1] x1 S) (h2:(kE.slice 41 kM).jY w [v2] x2 S) (h3:(kE.slice 43 jA).jY w [v3] x3 S):je.jY w [v0,v1,v2,v3] (x0,x1,x2,x3) S :=
  kE.kAi (r:=(kE.slice 181 kGe)) (q:=.pair (kE.slice 184 kEo) (.pair (kE.slice 41 kM) (kE.slice 43 jA))) (z:=(x0,x1,x2,x3)) h0 (kE.kAi (r:=(kE.slice 184 kEo)) (q:=.pair (kE.slice 41 kM) (kE.slice 43 jA)) (z:=(x1,x2,x3)) h1 (kE.kAi (r:=(kE.slice 41 kM)) (q:=(kE.slice 43 jA)) (z:=(x2,x3)) h2 h3))
def DrawnT (w0 w:World) (p:Nat) (e:Ending) (w':World):Prop:=∃ ds t,e=.returned (.agg ds.toArray)∧je.jY w' ds t (jR w.heap.size w'.heap.size)∧lenT t∧yK w0 w' p∧Touch (fun k=>k=p) w w'
theorem kSh {w0 w:World} {p:Nat} (hc:yK w0 w p) :
    Calls prog 104 #[.pointer (some ⟨p,0,none⟩)] w fun e w'=>DrawnT w0 w p e w':=by
 go_enter func104,ntmps104
 obtain ⟨b7,cj⟩:=hc.lt
 go_upto_region 1 with fail
 generalize F:World.alloc w _=w1
 have ak:Below w.heap.size w w1:=rX
 have R:w1.heap[w.heap.size]?=some (.cells #[.slice none 0 0,.slice none 0 0,.slice none 0 0,.slice none 0 0] 38 (0,0)):=tX
 have bn:w.heap.size + 1≤w1.heap.size:=bA3
 clear F
 obtain ⟨hc,H⟩:=q8
 clear ak
 go_wp2_with fail
 refine (yP (s:={ data:=#[47,107,101,121,47,97] }) bB8).mono ?_
 rintro e V ⟨a0,c0,k0,rfl,hr,da,dt,hb⟩
 have bo:=hb.size
 replace R:=kD R hb
 obtain ⟨hc,H⟩:=oP
 clear hb
 have H0:=yD (hr)
 clear hr da dt
 go_wp2_with fail
 refine (yP (s:={ data:=#[47,97,47,107,101,121] }) bB8).mono ?_
 rintro e w3 ⟨a1,c1,k1,rfl,hr,fc,b3,hb⟩
 have bp:=hb.size
 replace R:=kD R hb
 replace H0:=yD (H0.out.below hb)
 obtain ⟨hc,H⟩:=oP
 clear hb
 have H1:=yD (hr)
 clear hr fc b3
 go_wp2_with fail
 refine (yP (s:={ data:=#[47,98,47,107,101,121] }) bB8).mono ?_
 rintro e w4 ⟨a2,c2,k2,rfl,hr,bc,c7,hb⟩
 have b9:=hb.size
 replace R:=kD R hb
 replace H0:=yD (H0.out.below hb)
 replace H1:=yD (H1.out.below hb)
 obtain ⟨hc,H⟩:=oP
 clear hb
 have H2:=yD (hr)
 clear hr bc c7
 go_wp2_with fail
 refine (yP (s:={ data:=#[47,98,97,100,47,107,101,121] }) bB8).mono ?_
 rintro e w5 ⟨a3,c3,k3,rfl,hr,fe,d5,hb⟩
 have cd:=hb.size
 replace R:=kD R hb
 replace H0:=yD (H0.out.below hb)
 replace H1:=yD (H1.out.below hb)
 replace H2:=yD (H2.out.below hb)
 obtain ⟨hc,H⟩:=oP
 clear hb
 have H3:=yD (hr)
 clear hr fe d5
 go_wp2_with fail
 generalize F:World.alloc w5 _=w6
 have ba:Below w5.heap.size w5 w6:=rX
 have BK:w6.heap[w5.heap.size]?=some (.cells #[.slice a0 k0.length c0,.int .i64 100,.slice a1 k1.length c1,.int .i64 101,.slice a2 k2.length c2,.int .i64 102,.slice a3 k3.length c3,.int .i64 103] 181 (0,0)):=tX
 have c8:w5.heap.size + 1≤w6.heap.size:=bA3
 clear F
 replace R:=kD R ba
 replace H0:=yD (H0.out.below ba)
 replace H1:=yD (H1.out.below ba)
 replace H2:=yD (H2.out.below ba)
 replace H3:=yD (H3.out.below ba)
 replace hc:=hc.below ba
 replace H:=H.trans (Touch.of_below ba)
 clear ba
 refine (yP (s:={ data:=#[47,107,101,121,47,97] }) bB8).mono ?_
 rintro e w7 ⟨a4,c4,k4,rfl,hr,el,d6,hb⟩
 have dg:=hb.size
 replace R:=kD R hb
 replace BK:=kD BK hb
 replace H0:=yD (H0.out.below hb)
 replace H1:=yD (H1.out.below hb)
 replace H2:=yD (H2.out.below hb)
 replace H3:=yD (H3.out.below hb)
 obtain ⟨hc,H⟩:=oP
 clear hb
 have H4:=yD (hr)
 clear hr el d6
 go_upto_region 2 with fail
 generalize F:World.alloc (World.alloc w7 _) _=w8
 have E_:Below w7.heap.size w7 w8:=by rw [← F];exact (bR.alloc nL _).alloc bC0 _
 have BA:w8.heap[w7.heap.size]?=some (.cells #[.slice a4 k4.length c4] 41 (0,0)):=sO
 have BT:w8.heap[w7.heap.size + 1]?=some (.cells #[.slice (some ⟨w5.heap.size,0,none⟩) 4 4,.slice none 0 0,.slice (some ⟨w7.heap.size,0,none⟩) 1 1,.slice none 0 0] 38 (0,0)):=by rw [← F];exact kG bC0
 have eg:w7.heap.size + 2≤w8.heap.size:=bA3
 clear F
 replace R:=kD R E_
 replace BK:=kD BK E_
 replace H0:=yD (H0.out.below E_)
 replace H1:=yD (H1.out.below E_)
 replace H2:=yD (H2.out.below E_)
 replace H3:=yD (H3.out.below E_)
 replace H4:=yD (H4.out.below E_)
 replace hc:=hc.below E_
 replace H:=H.trans (Touch.of_below E_)
 clear E_
 obtain ⟨aw,dy⟩:∃ b_,b_=w7.heap.size + 1:=⟨_,rfl⟩
 rw [← dy] at BT ⊢
 have eu:=Nat.le_of_eq dy
 have eq:=Nat.le_of_eq dy.symm
 clear dy
 have HK:Hid ((kE.slice 181 kGe).jY w8 [.slice (some ⟨w5.heap.size,0,none⟩) 4 4] [(k0,100),(k1,101),(k2,102),(k3,103)] (fun k=>w.heap.size < k∧k < aw∧k≠p)):=yD ((lit_rdB (r:=kGe) (xs:=[(k0,100),(k1,101),(k2,102),(k3,103)]) (S:=(fun k=>w.heap.size < k∧k < aw∧k≠p)) BK (kNi (c:=[.slice a0 k0.length c0,.int .i64 100]) (kRm (H0.out.jY.wide fU) bB9) (kNi (c:=[.slice a1 k1.length c1,.int .i64 101]) (kRm (H1.out.jY.wide fU) bB9) (kNi (c:=[.slice a2 k2.length c2,.int .i64 102]) (kRm (H2.out.jY.wide fU) bB9) (kNi (c:=[.slice a3 k3.length c3,.int .i64 103]) (kRm (H3.out.jY.wide fU) bB9) (rfl))))) (by intro x hx;simp only [List.mem_cons,List.not_mem_nil,or_false] at hx;rcases hx with rfl | rfl | rfl | rfl;exact ⟨H0.out.jY.2,trivial⟩;exact ⟨H1.out.jY.2,trivial⟩;exact ⟨H2.out.jY.2,trivial⟩;exact ⟨H3.out.jY.2,trivial⟩) bC0).wide fC)
 have HA:Hid ((kE.slice 41 kM).jY w8 [.slice (some ⟨w7.heap.size,0,none⟩) 1 1] [k4] (fun k=>w.heap.size < k∧k < aw∧k≠p)):=yD ((lit_rdB (r:=kM) (xs:=[k4]) (S:=(fun k=>w.heap.size < k∧k < aw∧k≠p)) BA (kNi (c:=[.slice a4 k4.length c4]) (H4.out.jY.wide fU) rfl) (by intro x hx;rw [List.mem_singleton.1 hx];exact H4.out.jY.2) bC0).wide fC)
 clear H0 H1 H2 H3 H4 BK BA
 obtain ⟨kb,b2⟩:∃ b_,b_=w5.heap.size:=⟨_,rfl⟩
 obtain ⟨ab,cw⟩:∃ b_,b_=w7.heap.size:=⟨_,rfl⟩
 rw [← b2] at HK BT
 clear b2
 rw [← cw] at HA BT
 clear cw
 generalize aa:[(k0,(100:Int)),(k1,101),(k2,102),(k3,103)]=kl at HK
 clear aa
 have e1:aw < w8.heap.size∧w.heap.size < aw:=⟨by omega,by omega⟩
 have e5:w.heap.size < aw∧p < aw:=⟨by omega,by omega⟩
 go_wp2
 have dn:Hid ((kE.slice 9 kE.str).own (World.alloc w8 (.cells #[.string { data:=#[47,63,120,47,107,101,121,32,60,32,47,107,101,121,47,97] },.string { data:=#[47,63,120,47,42,42,32,60,32,47,63,120,47,107,101,121] }] 9)) [.slice (some ⟨w8.heap.size,0,none⟩) 2 2] [{ data:=#[47,63,120,47,107,101,121,32,60,32,47,107,101,121,47,97] },{ data:=#[47,63,120,47,42,42,32,60,32,47,63,120,47,107,101,121] }] (fun k=>k=w8.heap.size)):=yD (kE.kAw w8 [{ data:=#[47,63,120,47,107,101,121,32,60,32,47,107,101,121,47,97] },{ data:=#[47,63,120,47,42,42,32,60,32,47,63,120,47,107,101,121] }] bB8 bB8)
 generalize F:World.alloc w8 _=w9 at dn ⊢
 have E_:Below w8.heap.size w8 w9:=rX
 have dm:w8.heap.size + 1≤w9.heap.size:=bA3
 have eo:w9.heap.size≤w8.heap.size + 1:=bA3
 clear F
 replace R:=kD R E_
 replace BT:=kD BT E_
 replace HK:=yD (HK.out.below E_)
 replace HA:=yD (HA.out.below E_)
 replace hc:=hc.below E_
 replace H:=H.trans (Touch.of_below E_)
 clear E_
 obtain ⟨lb,bj⟩:∃ b_,b_=w8.heap.size:=⟨_,rfl⟩
 rw [← bj] at dn ⊢
 have ed:=Nat.le_of_eq bj
 have ec:=Nat.le_of_eq bj.symm
 clear bj
 generalize hlt:([{ data:=#[47,63,120,47,107,101,121,32,60,32,47,107,101,121,47,97] },{ data:=#[47,63,120,47,42,42,32,60,32,47,63,120,47,107,101,121] }]:List ByteArray)=lt at dn
 have bk:lt.length=2:=by rw [← hlt];rfl
 have em:=yD (show ∀ y∈lt,y.size≤64 from fun y hy=>kE.kBz bB8 (hlt ▸ hy))
 clear hlt
 go_loopw [26] (fun i wr=>∃ (j:Nat) (ra:Option Addr) (rc:Nat) (rl:List kCt),i=.int .i64 j∧j≤2∧Hid (rl.length=j)∧wr.heap[aw]?=some (.cells #[.slice (some ⟨kb,0,none⟩) 4 4,.slice ra rl.length rc,.slice (some ⟨ab,0,none⟩) 1 1,.slice none 0 0] 38 (0,0))∧Hid ((kE.slice 184 kEo).own wr [.slice ra rl.length rc] rl (fun k=>lb < k∧k < wr.heap.size))∧w9.heap.size≤wr.heap.size∧Touch (fun k=>k=aw) w9 wr) (fun i _=>2 - (intOf i).toNat)
 case atStart=>exact ⟨0,none,0,[],rfl,by omega,yD rfl,BT,yD kE.jf,Nat.le_refl _,Touch.of_below bR⟩
 obtain ⟨j,ra,rc,rl,rfl,I,ef,cz,HR,dh,X⟩:=hrel
 clear BT
 have BT:=cz
 clear cz
 by_cases hlt:j < 2
 · have cg:(j:Int) < 2:=bB9
   have bq:j < lt.length:=bB9
   obtain ⟨sb,so,he,c0,cr,bd⟩:=kE.kBo (dn.out.touch X vX).raw (i:=j) bq rfl
   simp only [Option.some.injEq,Addr.mk.injEq,and_true] at he
   obtain ⟨rfl,rfl⟩:=he
   have be:[c0]=[.string lt[j]]:=(kE.yY cr).1
   obtain rfl:c0=.string lt[j]:=wK
   clear cr be
   have dr:=em.out _ (List.getElem_mem bq)
   generalize lt[j]=y at *
   simp only [Nat.zero_add] at bd
   go_wp2_with fail
   refine (kQx dr).mono ?_
   rintro e cf ⟨ds,r,b,rfl,hr,hb⟩
   have de:=hb.size
   replace X:=X.trans (Touch.of_below hb)
   replace BT:=kD BT hb
   replace HR:=yD (HR.out.below hb)
   clear hb
   obtain ⟨pa,pc,qa,qc,rfl⟩:=rule_form hr.raw
   have HU:=yD hr
   clear hr bd
   go_upto_region 6 with fail
   generalize F:World.alloc cf _=bu
   have hb:Below cf.heap.size cf bu:=rX
   have BU:bu.heap[cf.heap.size]?=some (.cells #[.slice pa r.1.length pc,.slice qa r.2.length qc] 184 (0,0)):=tX
   have dz:cf.heap.size + 1≤bu.heap.size:=bA3
   clear F
   have cq:=hb.size
   replace X:=X.trans (Touch.of_below hb)
   replace BT:=kD BT hb
   replace HR:=yD (HR.out.below hb)
   replace HU:=yD (HU.out.below hb)
   clear hb
   obtain ⟨a8,az,a7,a6⟩:=kAh BT
   obtain ⟨d1,d4⟩:=jc BU
   obtain ⟨bv,bz,ax,bw⟩:=kNk BT
   go_wp2_with (at_builtin;refine kE.zO rfl _ _ 35 rfl (r:=kEo) (e:=184) underlying35 infRule rfl bB8 bB8 (w:=bu) HR.out bR HU.out bC1 bC1 nW (by have:=ef.out;omega) ?_)
   intro v9 w9 a5 an
   have dm:=an.size
   have db:=yD (show (rl++[r]).length=j + 1 by simp [ef.out])
   generalize rl++[r]=q at *
   obtain ⟨a9,c9,bb,_⟩:=kE.kAx a5.raw
   obtain rfl:v9=_:=by simpa using bb
   have br:=yD (a5.wide (T:=fun k=>lb < k∧k < w9.heap.size) bL)
   have Y:Touch (fun k=>lb < k∧k < bu.heap.size) bu w9:=an.wide (fun k q=>⟨q.1.1,q.2⟩)
   clear a5 an bb HR HU a8 az a7 a6 d1 d4 bv bz ax bw
   replace BT:=Y.kD BT bB9
   clear BU
   replace X:=X.jZ Y wG
   clear Y
   obtain ⟨a8,az,a7,a6⟩:=kAh BT
   obtain ⟨bv,bz,ax,bw⟩:=kNk BT
   go_upto_region 7 with fail
   generalize F:World.setCell w9 _ _=dw
   have Y:Touch (fun k=>k=aw) w9 dw:=by rw [← F];exact kC w9 (aw) 1 _
   replace BT:dw.heap[aw]?=some (.cells #[.slice (some ⟨kb,0,none⟩) 4 4,.slice a9 q.length c9,.slice (some ⟨ab,0,none⟩) 1 1,.slice none 0 0] 38 (0,0)):=by rw [← F];exact kH BT 1
   have d8:=Y.size
   clear F a8 az a7 a6 bv bz ax bw
   replace br:=yD (br.out.touch Y pE)
   replace X:=X.jZ Y wG
   clear Y
   go_wp2
   go_roundw
   case rel=>exact ⟨j + 1,a9,c9,q,by go_num,by omega,db,BT,yD (br.out.wide rO),by omega,X⟩
   simp [intOf];omega
 obtain rfl:j=2:=bB9
 have cg:¬ ((2:Nat):Int) < 2:=bB9
 replace HK:=yD (HK.out.touch X (fun k q h=>by have:=q.2.1;omega))
 replace HA:=yD (HA.out.touch X (fun k q h=>by have:=q.2.1;omega))
 replace R:=X.kD R bB9
 replace hc:=hc.touch X bB9 wB
 replace H:=H.jJ X bB9
 clear X
 go_wp2
 have df:Hid ((kE.slice 9 kE.str).own (World.alloc wr (.cells #[.string { data:=#[47,97,47,107,101,121] },.string { data:=#[47,98,47,107,101,121] }] 9)) [.slice (some ⟨wr.heap.size,0,none⟩) 2 2] [{ data:=#[47,97,47,107,101,121] },{ data:=#[47,98,47,107,101,121] }] (fun k=>k=wr.heap.size)):=yD (kE.kAw wr [{ data:=#[47,97,47,107,101,121] },{ data:=#[47,98,47,107,101,121] }] bB8 bB8)
 generalize F:World.alloc wr _=wL at df ⊢
 have hb:Below wr.heap.size wr wL:=rX
 have ea:wr.heap.size + 1≤wL.heap.size:=bA3
 have d2:wL.heap.size≤wr.heap.size + 1:=bA3
 clear F
 replace HK:=yD (HK.out.below hb)
 replace HA:=yD (HA.out.below hb)
 replace HR:=yD (HR.out.below hb)
 replace R:=kD R hb
 replace BT:=kD BT hb
 obtain ⟨hc,H⟩:=oP
 clear hb
 obtain ⟨mb,di⟩:∃ b_,b_=wr.heap.size:=⟨_,rfl⟩
 rw [← di] at df ea d2 HR dh ⊢
 have es:=Nat.le_of_eq di
 have ev:=Nat.le_of_eq di.symm
 clear di
 generalize d7:([{ data:=#[47,97,47,107,101,121] },{ data:=#[47,98,47,107,101,121] }]:List ByteArray)=lu at df
 have ew:lu.length=2:=by rw [← d7];rfl
 have en:=yD (show ∀ y∈lu,y.size≤64 from fun y hy=>kE.kBz bB8 (d7 ▸ hy))
 clear d7
 go_loopw [44] (fun i wq=>∃ (j:Nat) (ca:Option Addr) (cc:Nat) (cl:List jG),i=.int .i64 j∧j≤2∧Hid (cl.length≤j)∧Hid (∀ x∈cl,x.2.1.length≤64)∧wq.heap[aw]?=some (.cells #[.slice (some ⟨kb,0,none⟩) 4 4,.slice ra rl.length rc,.slice (some ⟨ab,0,none⟩) 1 1,.slice ca cl.length cc] 38 (0,0))∧Hid ((kE.slice 43 jA).own wq [.slice ca cl.length cc] cl (fun k=>mb < k∧k < wq.heap.size))∧yK w0 wq p∧wL.heap.size≤wq.heap.size∧Touch (fun k=>k=aw∨k=p) wL wq) (fun i _=>2 - (intOf i).toNat)
 case atStart=>exact ⟨0,none,0,[],rfl,by omega,yD bC0,yD (fun x h=>by simp at h),BT,yD kE.jf,hc,Nat.le_refl _,Touch.of_below bR⟩
 obtain ⟨j,ca,cc,cl,rfl,bq,bf,co,cz,HC,bt,et,X⟩:=hrel
 clear BT hc
 have BT:=cz
 have hc:=bt
 clear cz bt
 have e3:=X.size
 by_cases er:j < 2
 · have cg:(j:Int) < 2:=bB9
   have ee:j < lu.length:=bB9
   obtain ⟨sb,so,he,c0,cr,bd⟩:=kE.kBo (df.out.touch X vX).raw (i:=j) ee rfl
   simp only [Option.some.injEq,Addr.mk.injEq,and_true] at he
   obtain ⟨rfl,rfl⟩:=he
   have be:[c0]=[.string lu[j]]:=(kE.yY cr).1
   obtain rfl:c0=.string lu[j]:=wK
   clear cr be
   have dr:=en.out _ (List.getElem_mem ee)
   generalize lu[j]=y at *
   simp only [Nat.zero_add] at bd
   have d3:=yD (HK.out.touch X mP)
   go_upto_region 11 with fail
   clear bd
   go_cut [10,11] from 48 to 57 (fun ej ei wc=>∃ (b:Nat) (ae:Option Addr) (ah:Nat) (ao:Option Addr) (ai:Nat) (am:Option Addr) (aj:Nat) (x:jG) (ok:Bool),ej=.pointer (some ⟨b,0,none⟩)∧ei=.bool ok∧wc.heap[b]?=some (.cells #[.slice ae x.1.length ah,.slice ao x.2.1.length ai,.slice am x.2.2.1.length aj,.int .i64 x.2.2.2.1,.int .i64 x.2.2.2.2] 43 (0,0))∧Hid (jA.own wc [.slice ae x.1.length ah,.slice ao x.2.1.length ai,.slice am x.2.2.1.length aj,.int .i64 x.2.2.2.1,.int .i64 x.2.2.2.2] x (fun k=>wr.heap.size≤k∧k < wc.heap.size∧k≠b))∧x.2.1.length≤64∧wr.heap.size≤b∧b < wc.heap.size∧Below wr.heap.size wr wc)
   case first =>
    have FX:=yD (fun (W:World) (hW:Below wr.heap.size wr W)=>kF (kD BT hW) (j:=0) (v:=.slice (some ⟨kb,0,none⟩) 4 4) rfl)
    refine kAf (fun W=>Below wr.heap.size wr W) bB4 (bR.drew) ?_
    intro t E
    have eb:=E.size
    refine jB 0 ?_
    refine kX ?_
    refine jB 1 ?_
    refine kX ?_
    refine jB 2 ?_
    refine kX ?_
    refine kFp ?_
    intro T A Y hA
    have b4:∀ (Z:Option Addr),∀ (af:Nat),∀ (L:kQ),∀ (ap:Option Addr),∀ (av:Nat),∀ (n2:kQ),∀ (ae:Option Addr),∀ (ah:Nat),∀ (ao:Option Addr),∀ (ai:Nat),∀ (am:Option Addr),∀ (aj:Nat),∀ (x:jG),∀ (ok:Bool),∀ (b:Nat),∀ (W:World),Below wr.heap.size wr W→(Hid (kM.jY W [.slice Z L.length af] L (fun k=>wr.heap.size≤k∧k < W.heap.size∧k≠b)))→(Hid (kM.jY W [.slice ap n2.length av] n2 (fun k=>wr.heap.size≤k∧k < W.heap.size∧k≠b)))→(x.2.1.length≤64)→(Hid (jA.own W [.slice ae x.1.length ah,.slice ao x.2.1.length ai,.slice am x.2.2.1.length aj,.int .i64 x.2.2.2.1,.int .i64 x.2.2.2.2] x (fun k=>wr.heap.size≤k∧k < W.heap.size∧k≠b)))→(wr.heap.size≤b∧b < W.heap.size)→(W.heap[b]?=some (.cells #[.slice ae x.1.length ah,.slice ao x.2.1.length ai,.slice am x.2.2.1.length aj,.int .i64 x.2.2.2.1,.int .i64 x.2.2.2.2] 43 (0,0)))→T 0 [true,true,true,true,true,true,true,true,true,true,true,true] (Act.put (Act.put (Act.put (Act.put (Act.put (Act.put (Act.put (Act.put A (some 52) (.agg #[.slice Z L.length af])) (some 53) (.agg #[.slice ap n2.length av])) (some 54) (.tuple #[.agg #[.slice ae x.1.length ah,.slice ao x.2.1.length ai,.slice am x.2.2.1.length aj,.int .i64 x.2.2.2.1,.int .i64 x.2.2.2.2],.bool ok])) (some 48) (.tuple #[.agg #[.slice ae x.1.length ah,.slice ao x.2.1.length ai,.slice am x.2.2.1.length aj,.int .i64 x.2.2.2.1,.int .i64 x.2.2.2.2],.bool ok])) (some 55) (.agg #[.slice ae x.1.length ah,.slice ao x.2.1.length ai,.slice am x.2.2.1.length aj,.int .i64 x.2.2.2.1,.int .i64 x.2.2.2.2])) (some 56) (.bool ok)) (some 10) (.pointer (some ⟨b,0,none⟩))) (some 11) (.bool ok)) W:=by
     intro Z af L ap av n2 ae ah ao ai am aj x ok b W E ag al ci HQ N BB
     have b6:=E.size
     subst Y
     subst hA
     simp only [Act.put,zA,zB,zC]
     refine yR bB4 ?_
     go_wp2
     go_meet
     exact ⟨b,ae,ah,ao,ai,am,aj,x,ok,rfl,rfl,BB,HQ,ci,N.1,N.2,E⟩
    have b0:∀ (Z:Option Addr),∀ (af:Nat),∀ (L:kQ),∀ (ap:Option Addr),∀ (av:Nat),∀ (n2:kQ),∀ (ae:Option Addr),∀ (ah:Nat),∀ (ao:Option Addr),∀ (ai:Nat),∀ (am:Option Addr),∀ (aj:Nat),∀ (x:jG),∀ (ok:Bool),∀ (b:Nat),∀ (W:World),Below wr.heap.size wr W→(Hid (kM.jY W [.slice Z L.length af] L (fun k=>wr.heap.size≤k∧k < W.heap.size∧k≠b)))→(Hid (kM.jY W [.slice ap n2.length av] n2 (fun k=>wr.heap.size≤k∧k < W.heap.size∧k≠b)))→(x.2.1.length≤64)→(Hid (jA.own W [.slice ae x.1.length ah,.slice ao x.2.1.length ai,.slice am x.2.2.1.length aj,.int .i64 x.2.2.2.1,.int .i64 x.2.2.2.2] x (fun k=>wr.heap.size≤k∧k < W.heap.size∧k≠b)))→(wr.heap.size≤b∧b < W.heap.size)→(W.heap[b]?=some (.cells #[.slice none 0 0,.slice none 0 0,.slice none 0 0,.int .i64 0,.int .i64 0] 43 (0,0)))→T 2 [true,true,true,true,true,true,true,true,true,true,false,false] (Act.put (Act.put (Act.put (Act.put (Act.put (Act.put (Act.put A (some 52) (.agg #[.slice Z L.length af])) (some 53) (.agg #[.slice ap n2.length av])) (some 54) (.tuple #[.agg #[.slice ae x.1.length ah,.slice ao x.2.1.length ai,.slice am x.2.2.1.length aj,.int .i64 x.2.2.2.1,.int .i64 x.2.2.2.2],.bool ok])) (some 48) (.tuple #[.agg #[.slice ae x.1.length ah,.slice ao x.2.1.length ai,.slice am x.2.2.1.length aj,.int .i64 x.2.2.2.1,.int .i64 x.2.2.2.2],.bool ok])) (some 55) (.agg #[.slice ae x.1.length ah,.slice ao x.2.1.length ai,.slice am x.2.2.1.length aj,.int .i64 x.2.2.2.1,.int .i64 x.2.2.2.2])) (some 56) (.bool ok)) (some 10) (.pointer (some ⟨b,0,none⟩))) W:=by
     intro Z af L ap av n2 ae ah ao ai am aj x ok b W E ag al ci HQ N BB
     have b6:=E.size
     subst Y
     subst hA
     simp only [Act.put,zA,zB,zC]
     refine kY (k:=10) rfl bB4 rfl (fun K J=>?_)
     obtain ⟨dp,du,dx,dv,dj⟩:=jU BB
     obtain ⟨dq,c5,dl,dk,cu⟩:=zh BB
     go_simp
     generalize F:World.setCell (World.setCell (World.setCell (World.setCell (World.setCell W _ _) _ _) _ _) _ _) _ _=v
     obtain ⟨Y,BB⟩:=vB
     clear F dp dq du c5 dx dl dv dk dj cu
     have zv:=Y.size
     replace ag:Hid (kM.jY v [.slice Z L.length af] L (fun k=>wr.heap.size≤k∧k < v.heap.size∧k≠b)):=yD ((ag.out.touch Y (fun k q h=>q.2.2 h)).wide (fun k q=>⟨q.1,Nat.lt_of_lt_of_le q.2.1 Y.size,q.2.2⟩))
     replace al:Hid (kM.jY v [.slice ap n2.length av] n2 (fun k=>wr.heap.size≤k∧k < v.heap.size∧k≠b)):=yD ((al.out.touch Y (fun k q h=>q.2.2 h)).wide (fun k q=>⟨q.1,Nat.lt_of_lt_of_le q.2.1 Y.size,q.2.2⟩))
     replace HQ:Hid (jA.own v [.slice ae x.1.length ah,.slice ao x.2.1.length ai,.slice am x.2.2.1.length aj,.int .i64 x.2.2.2.1,.int .i64 x.2.2.2.2] x (fun k=>wr.heap.size≤k∧k < v.heap.size∧k≠b)):=yD ((HQ.out.touch Y (fun k q h=>q.2.2 h)).wide (fun k q=>⟨q.1,Nat.lt_of_lt_of_le q.2.1 Y.size,q.2.2⟩))
     replace N:wr.heap.size≤b∧b < v.heap.size:=⟨N.1,Nat.lt_of_lt_of_le N.2 Y.size⟩
     replace E:=E.trans (Y.below E.size wB)
     refine J _ _ E ?_
     clear J K
     refine kX ?_
     refine jB 11 ?_
     refine kX ?_
     have h_:=b4 Z af L ap av n2 ae ah ao ai am aj x ok b v E ag al ci HQ N BB
     exact dD
    have dd:∀ (Z:Option Addr),∀ (af:Nat),∀ (L:kQ),∀ (ap:Option Addr),∀ (av:Nat),∀ (n2:kQ),∀ (ae:Option Addr),∀ (ah:Nat),∀ (ao:Option Addr),∀ (ai:Nat),∀ (am:Option Addr),∀ (aj:Nat),∀ (x:jG),∀ (ok:Bool),∀ (W:World),Below wr.heap.size wr W→(Hid (kM.jY W [.slice Z L.length af] L (fun k=>wr.heap.size≤k∧k < W.heap.size∧k≠aw)))→(Hid (kM.jY W [.slice ap n2.length av] n2 (fun k=>wr.heap.size≤k∧k < W.heap.size∧k≠aw)))→(x.2.1.length≤64)→(Hid (jA.own W [.slice ae x.1.length ah,.slice ao x.2.1.length ai,.slice am x.2.2.1.length aj,.int .i64 x.2.2.2.1,.int .i64 x.2.2.2.2] x (fun k=>wr.heap.size≤k∧k < W.heap.size∧k≠aw)))→T 3 [true,true,true,true,true,true,true,true,true,false,false,false] (Act.put (Act.put (Act.put (Act.put (Act.put (Act.put A (some 52) (.agg #[.slice Z L.length af])) (some 53) (.agg #[.slice ap n2.length av])) (some 54) (.tuple #[.agg #[.slice ae x.1.length ah,.slice ao x.2.1.length ai,.slice am x.2.2.1.length aj,.int .i64 x.2.2.2.1,.int .i64 x.2.2.2.2],.bool ok])) (some 48) (.tuple #[.agg #[.slice ae x.1.length ah,.slice ao x.2.1.length ai,.slice am x.2.2.1.length aj,.int .i64 x.2.2.2.1,.int .i64 x.2.2.2.2],.bool ok])) (some 55) (.agg #[.slice ae x.1.length ah,.slice ao x.2.1.length ai,.slice am x.2.2.1.length aj,.int .i64 x.2.2.2.1,.int .i64 x.2.2.2.2])) (some 56) (.bool ok)) W:=by
     intro Z af L ap av n2 ae ah ao ai am aj x ok W E ag al ci HQ
     have b6:=E.size
     subst Y
     subst hA
     simp only [Act.put,zA,zB,zC]
     refine kY (k:=9) rfl bB4 rfl (fun K J=>?_)
     go_simp
     generalize F:World.alloc W _=v
     obtain ⟨hb,BB,zv⟩:=oN
     clear F
     obtain ⟨b,ay⟩:∃ b_,b_=W.heap.size:=⟨_,rfl⟩
     rw [← ay] at BB ⊢
     obtain ⟨ag,al⟩:=xS
     replace HQ:Hid (jA.own v [.slice ae x.1.length ah,.slice ao x.2.1.length ai,.slice am x.2.2.1.length aj,.int .i64 x.2.2.2.1,.int .i64 x.2.2.2.2] x (fun k=>wr.heap.size≤k∧k < v.heap.size∧k≠b)):=yD ((HQ.out.below hb).wide dK)
     have N:wr.heap.size≤b∧b < v.heap.size:=⟨by omega,by omega⟩
     replace E:=(tQ E hb)
     refine J _ _ E ?_
     clear J K
     exact eF
    have ck:∀ (Z:Option Addr),∀ (af:Nat),∀ (L:kQ),∀ (ap:Option Addr),∀ (av:Nat),∀ (n2:kQ),∀ (b:Nat),∀ (W:World),Below wr.heap.size wr W→(Hid (kM.jY W [.slice Z L.length af] L (fun k=>wr.heap.size≤k∧k < W.heap.size∧k≠b)))→(Hid (kM.jY W [.slice ap n2.length av] n2 (fun k=>wr.heap.size≤k∧k < W.heap.size∧k≠b)))→(wr.heap.size≤b∧b < W.heap.size)→(W.heap[b]?=some (.cells #[.slice none 0 0,.slice none 0 0,.slice none 0 0,.int .i64 0,.int .i64 0] 43 (0,0)))→T 6 [true,true,true,true,true,false,false,false,false,true,false,false] (Act.put (Act.put (Act.put A (some 52) (.agg #[.slice Z L.length af])) (some 53) (.agg #[.slice ap n2.length av])) (some 10) (.pointer (some ⟨b,0,none⟩))) W:=by
     intro Z af L ap av n2 b W E ag al N BB
     have b6:=E.size
     subst Y
     subst hA
     simp only [Act.put,zA,zB,zC]
     refine kY (k:=5) rfl bB4 rfl (fun K J=>?_)
     go_simp
     refine (kEd (l:=kl) (d3.out.rd.below E).1 (cn:=[.slice Z L.length af]) ag.out.rd (cb:=[.slice ap n2.length av]) al.out.rd (tl:=5000) bB8).mono ?_
     rintro e v ⟨ds,x,ok,rfl,hO,ci,hb⟩
     obtain ⟨zv,c6,ag⟩:=BG
     replace al:Hid (kM.jY v [.slice ap n2.length av] n2 (fun k=>wr.heap.size≤k∧k < v.heap.size∧k≠b)):=yD ((al.out.below hb).wide (fun k q=>⟨q.1,Nat.lt_of_lt_of_le q.2.1 hb.size,q.2.2⟩))
     obtain ⟨BB,N⟩:=BP
     obtain ⟨ae,ah,ao,ai,am,aj,rfl⟩:=yN hO.raw
     have HQ:Hid (jA.own v [.slice ae x.1.length ah,.slice ao x.2.1.length ai,.slice am x.2.2.1.length aj,.int .i64 x.2.2.2.1,.int .i64 x.2.2.2.2] x (fun k=>wr.heap.size≤k∧k < v.heap.size∧k≠b)):=yD (hO.wide gU)
     replace E:=(tQ E hb)
     refine J _ _ E ?_
     clear J K
     refine kX ?_
     refine jB 6 ?_
     refine kX ?_
     refine jB 7 ?_
     refine kX ?_
     refine jB 8 ?_
     exact eF
    have cv:∀ (Z:Option Addr),∀ (af:Nat),∀ (L:kQ),∀ (ap:Option Addr),∀ (av:Nat),∀ (n2:kQ),∀ (W:World),Below wr.heap.size wr W→(Hid (kM.jY W [.slice Z L.length af] L (fun k=>wr.heap.size≤k∧k < W.heap.size∧k≠aw)))→(Hid (kM.jY W [.slice ap n2.length av] n2 (fun k=>wr.heap.size≤k∧k < W.heap.size∧k≠aw)))→T 7 [true,true,true,true,true,false,false,false,false,false,false,false] (Act.put (Act.put A (some 52) (.agg #[.slice Z L.length af])) (some 53) (.agg #[.slice ap n2.length av])) W:=by
     intro Z af L ap av n2 W E ag al
     have b6:=E.size
     subst Y
     subst hA
     simp only [Act.put,zA,zB,zC]
     refine yG (i:=5) (j:=9) rfl rfl bB4 rfl rfl (fun K J=>?_) (fun K J=>?_)
     · go_simp
       refine (kEd (l:=kl) (d3.out.rd.below E).1 (cn:=[.slice Z L.length af]) ag.out.rd (cb:=[.slice ap n2.length av]) al.out.rd (tl:=5000) bB8).mono ?_
       rintro e v ⟨ds,x,ok,rfl,hO,ci,hb⟩
       obtain ⟨zv,ag⟩:=BF
       replace al:Hid (kM.jY v [.slice ap n2.length av] n2 (fun k=>wr.heap.size≤k∧k < v.heap.size∧k≠aw)):=yD ((al.out.below hb).wide (fun k q=>⟨q.1,Nat.lt_of_lt_of_le q.2.1 hb.size,q.2.2⟩))
       obtain ⟨ae,ah,ao,ai,am,aj,rfl⟩:=yN hO.raw
       have HQ:Hid (jA.own v [.slice ae x.1.length ah,.slice ao x.2.1.length ai,.slice am x.2.2.1.length aj,.int .i64 x.2.2.2.1,.int .i64 x.2.2.2.2] x (fun k=>wr.heap.size≤k∧k < v.heap.size∧k≠aw)):=yD (hO.wide gU)
       replace E:=(tQ E hb)
       refine J _ _ E ?_
       clear J K
       refine kX ?_
       refine jB 6 ?_
       refine kX ?_
       refine jB 7 ?_
       refine kX ?_
       refine jB 8 ?_
       refine kX ?_
       have h_:=dd Z af L ap av n2 ae ah ao ai am aj x ok v E ag al ci HQ
       exact dD
     go_simp
     generalize F:World.alloc W _=v
     obtain ⟨hb,BB,zv⟩:=oN
     clear F
     obtain ⟨b,ay⟩:∃ b_,b_=W.heap.size:=⟨_,rfl⟩
     rw [← ay] at BB ⊢
     obtain ⟨ag,al⟩:=xS
     have N:wr.heap.size≤b∧b < v.heap.size:=⟨by omega,by omega⟩
     exact eG
    have d0:∀ (Z:Option Addr),∀ (af:Nat),∀ (L:kQ),∀ (b:Nat),∀ (W:World),Below wr.heap.size wr W→(Hid (kM.jY W [.slice Z L.length af] L (fun k=>wr.heap.size≤k∧k < W.heap.size∧k≠b)))→(wr.heap.size≤b∧b < W.heap.size)→(W.heap[b]?=some (.cells #[.slice none 0 0,.slice none 0 0,.slice none 0 0,.int .i64 0,.int .i64 0] 43 (0,0)))→T 7 [true,true,true,true,false,false,false,false,false,true,false,false] (Act.put (Act.put A (some 52) (.agg #[.slice Z L.length af])) (some 10) (.pointer (some ⟨b,0,none⟩))) W:=by
     intro Z af L b W E ag N BB
     have b6:=E.size
     subst Y
     subst hA
     simp only [Act.put,zA,zB,zC]
     refine kY (k:=4) rfl bB4 rfl (fun K J=>?_)
     go_simp
     refine (yP (s:={ data:=#[47,107,101,121,47,97] }) bB8).mono ?_
     rintro e v ⟨ap,av,n2,rfl,hO,bc,c7,hb⟩
     obtain ⟨zv,c6,ag⟩:=BG
     obtain ⟨BB,N⟩:=BP
     have al:Hid (kM.jY v [.slice ap n2.length av] n2 (fun k=>wr.heap.size≤k∧k < v.heap.size∧k≠b)):=yD (hO.jY.wide gU)
     exact eG
    have T3:∀ (Z:Option Addr),∀ (af:Nat),∀ (L:kQ),∀ (W:World),Below wr.heap.size wr W→(Hid (kM.jY W [.slice Z L.length af] L (fun k=>wr.heap.size≤k∧k < W.heap.size∧k≠aw)))→T 8 [true,true,true,true,false,false,false,false,false,false,false,false] (Act.put A (some 52) (.agg #[.slice Z L.length af])) W:=by
     intro Z af L W E ag
     have b6:=E.size
     subst Y
     subst hA
     simp only [Act.put,zA,zB,zC]
     refine yG (i:=4) (j:=9) rfl rfl bB4 rfl rfl (fun K J=>?_) (fun K J=>?_)
     · go_simp
       refine (yP (s:={ data:=#[47,107,101,121,47,97] }) bB8).mono ?_
       rintro e v ⟨ap,av,n2,rfl,hO,bc,c7,hb⟩
       obtain ⟨zv,ag⟩:=BF
       have al:Hid (kM.jY v [.slice ap n2.length av] n2 (fun k=>wr.heap.size≤k∧k < v.heap.size∧k≠aw)):=yD (hO.jY.wide gU)
       replace E:=(tQ E hb)
       refine J _ _ E ?_
       clear J K
       refine kX ?_
       have h_:=cv Z af L ap av n2 v E ag al
       exact dD
     go_simp
     generalize F:World.alloc W _=v
     obtain ⟨hb,BB,zv⟩:=oN
     clear F
     obtain ⟨b,ay⟩:∃ b_,b_=W.heap.size:=⟨_,rfl⟩
     rw [← ay] at BB ⊢
     replace ag:Hid (kM.jY v [.slice Z L.length af] L (fun k=>wr.heap.size≤k∧k < v.heap.size∧k≠b)):=yD ((ag.out.below hb).wide dK)
     have N:wr.heap.size≤b∧b < v.heap.size:=⟨by omega,by omega⟩
     exact eH
    have T9:∀ (b:Nat),∀ (W:World),Below wr.heap.size wr W→(wr.heap.size≤b∧b < W.heap.size)→(W.heap[b]?=some (.cells #[.slice none 0 0,.slice none 0 0,.slice none 0 0,.int .i64 0,.int .i64 0] 43 (0,0)))→T 8 [true,true,true,false,false,false,false,false,false,true,false,false] (Act.put A (some 10) (.pointer (some ⟨b,0,none⟩))) W:=by
     intro b W E N BB
     have b6:=E.size
     subst Y
     subst hA
     simp only [Act.put,zA,zB,zC]
     refine kY (k:=3) rfl bB4 rfl (fun K J=>?_)
     go_simp
     refine (yP dr).mono ?_
     rintro e v ⟨Z,af,L,rfl,hO,fc,b3,hb⟩
     have zv:=hb.size
     have c6:=N.2
     obtain ⟨BB,N⟩:=BP
     have ag:Hid (kM.jY v [.slice Z L.length af] L (fun k=>wr.heap.size≤k∧k < v.heap.size∧k≠b)):=yD (hO.jY.wide gU)
     exact eH
    subst Y
    subst hA
    refine yG (i:=3) (j:=9) rfl rfl bB4 rfl rfl (fun K J=>?_) (fun K J=>?_)
    · go_simp
      refine (yP dr).mono ?_
      rintro e v ⟨Z,af,L,rfl,hO,fc,b3,hb⟩
      have zv:=hb.size
      have ag:Hid (kM.jY v [.slice Z L.length af] L (fun k=>wr.heap.size≤k∧k < v.heap.size∧k≠aw)):=yD (hO.jY.wide gU)
      replace E:=(tQ E hb)
      refine J _ _ E ?_
      clear J K
      refine kX ?_
      have h_:=T3 Z af L v E ag
      exact dD
    go_simp
    generalize F:World.alloc t _=v
    obtain ⟨hb,BB,zv⟩:=p8
    clear F
    obtain ⟨b,ay⟩:∃ b_,b_=t.heap.size:=⟨_,rfl⟩
    rw [← ay] at BB ⊢
    have N:wr.heap.size≤b∧b < v.heap.size:=⟨by omega,by omega⟩
    exact eB
   obtain ⟨b,ae,ah,ao,ai,am,aj,x,ok,rfl,rfl,BQ,HQ,ci,dc,O,hb⟩:=hcut
   have ep:=hb.size
   replace X:=X.trans (Touch.of_below hb)
   replace BT:=kD BT hb
   replace HC:=yD (HC.out.below hb)
   replace hc:=hc.below hb
   clear hb d3
   have ex:mb < wr.heap.size:=bB9
   cases ok
   · exact eO
   go_wp2_with fail
   refine (zk (n:=8) hc bB8).mono ?_
   rintro e wo ⟨b1,rfl,G,D⟩
   have ey:=D.size
   replace X:=X.trans (D.wide (fun k q=>.inr q))
   replace BT:=D.kD BT bB9
   replace BQ:=D.kD BQ bB9
   replace HC:=yD (HC.out.touch D sK)
   replace HQ:=yD (HQ.out.touch D sK)
   clear hc D
   have hc:=G
   clear G
   cases b1
   · have a8:wo.cell? ⟨aw,0,none⟩=some (.slice (some ⟨kb,0,none⟩) 4 4):=kF BT rfl
     have az:wo.cell? ⟨aw,1,none⟩=some (.slice ra rl.length rc):=kF BT rfl
     have a7:wo.cell? ⟨aw,2,none⟩=some (.slice (some ⟨ab,0,none⟩) 1 1):=kF BT rfl
     have a6:wo.cell? ⟨aw,3,none⟩=some (.slice ca cl.length cc):=kF BT rfl
     obtain ⟨bx,b5,b8,bg,ch⟩:=jU BQ
     obtain ⟨bv,bz,ax,bw⟩:=kNk BT
     go_wp2_with (at_builtin;refine kE.zO rfl _ _ 24 rfl (r:=jA) (e:=43) underlying24 kKv rfl bB8 bB8 (w:=wo) HC.out bR HQ.out bC1 bC1 nW vS ?_)
     intro v9 w9 a5 an
     have dm:=an.size
     have db:=yD (show (cl++[x]).length≤j + 1 by have:=bf.out;simp;omega)
     have ce:=yD (show ∀ z∈cl++[x],z.2.1.length≤64 from fun z hz=>by rcases List.mem_append.1 hz with hz | hz;exact co.out z hz;rw [List.mem_singleton.1 hz];exact ci)
     generalize cl++[x]=q at *
     obtain ⟨a9,c9,bb,_⟩:=kE.kAx a5.raw
     obtain rfl:v9=_:=by simpa using bb
     have br:=yD (a5.wide (T:=fun k=>mb < k∧k < w9.heap.size) bL)
     have Y:Touch (fun k=>mb < k∧k < wo.heap.size) wo w9:=an.wide (fun k q=>⟨q.1.1,q.2⟩)
     clear a5 an bb HC HQ a8 az a7 a6 bx b5 b8 bg ch bv bz ax bw
     replace BT:=Y.kD BT bB9
     clear BQ
     replace hc:=hc.touch Y bB1 wG
     replace X:=X.jZ Y wG
     clear Y
     obtain ⟨a8,az,a7,a6⟩:=kAh BT
     obtain ⟨bv,bz,ax,bw⟩:=kNk BT
     go_upto_region 14 with fail
     generalize F:World.setCell w9 _ _=d9
     have Y:Touch (fun k=>k=aw) w9 d9:=by rw [← F];exact kC w9 (aw) 3 _
     replace BT:d9.heap[aw]?=some (.cells #[.slice (some ⟨kb,0,none⟩) 4 4,.slice ra rl.length rc,.slice (some ⟨ab,0,none⟩) 1 1,.slice a9 q.length c9] 38 (0,0)):=by rw [← F];exact kH BT 3
     have ek:=Y.size
     clear F a8 az a7 a6 bv bz ax bw
     replace br:=yD (br.out.touch Y pE)
     obtain ⟨hc,X⟩:=uU
     clear Y
     go_wp2
     go_roundw
     case rel=>exact ⟨j + 1,a9,c9,q,by go_num,by omega,db,ce,BT,yD (br.out.wide rO),hc,by omega,X⟩
     simp [intOf];omega
   exact eO
 have cg:¬ (j:Int) < 2:=bB9
 replace HK:=yD (HK.out.touch X mP)
 replace HA:=yD (HA.out.touch X mP)
 replace HR:=yD (HR.out.touch X (fun k q h=>by have h1:=q.1;omega))
 replace R:=X.kD R bB9
 replace H:=H.jZ X wG
 obtain ⟨ez,e4,eh,e0⟩:=kAh BT
 obtain ⟨ac,au,bi,bm⟩:=kAh R
 obtain ⟨aq,ar,bh,bl⟩:=kNk R
 have U:=yD (trust_rdB (S:=(fun k=>w.heap.size < k∧k < wr.heap.size∧k≠p)) (HK.out.wide gK) (HR.out.jY.wide fU) (HA.out.wide gK) (HC.out.jY.wide fU))
 go_wp2
 refine bodyPost_ret (v:=.agg #[.slice (some ⟨kb,0,none⟩) 4 4,.slice ra rl.length rc,.slice (some ⟨ab,0,none⟩) 1 1,.slice ca cl.length cc]) (by simp [results,results104,go_sem,ac,aq,au,ar,bi,bh,bm,bl]) rfl ⟨[.slice (some ⟨kb,0,none⟩) 4 4,.slice ra rl.length rc,.slice (some ⟨ab,0,none⟩) 1 1,.slice ca cl.length cc],(kl,rl,[k4],cl),rfl,?_,?_,hc.touch ((((kC _ _ _ _).trans (kC _ _ _ _)).trans (kC _ _ _ _)).trans (kC _ _ _ _)) bB9 wB,H.jJ ((((kC _ _ _ _).trans (kC _ _ _ _)).trans (kC _ _ _ _)).trans (kC _ _ _ _)) bB9⟩
 · exact (U.out.touch ((((kC _ _ _ _).trans (kC _ _ _ _)).trans (kC _ _ _ _)).trans (kC _ _ _ _)) sK).wide (T:=jR w.heap.size _) fF
 exact fun k h=>by have:=co.out _ (List.getElem_mem h);omega
end Go.Proofs.YtonmjkmaadgceaaGreat

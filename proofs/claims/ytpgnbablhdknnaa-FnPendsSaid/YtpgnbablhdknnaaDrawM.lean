/-
  Names as the reference draws them.
-/
import Derived.Test.YtpgnbablhdknnaaDrawB
import Derived.Test.YtpgnbablhdknnaaSoft4
set_option linter.unusedVariables false
set_option linter.unusedSimpArgs false
set_option linter.unnecessarySimpa false
set_option maxRecDepth 100000
set_option maxHeartbeats 4000000
namespace Go.Proofs.Ytpgnbablhdknnaa
open Go.RowKit
theorem kBj {w:World} {ca:List Value} {x:kw} (ha:kZ.rd w ca x):Calls Try.prog 48 #[.agg ca.toArray] w fun e w'=>∃ a n c,e=.returned (.agg #[.slice a n c])∧Rep.kT 9 Rep.str w' (.slice a n c) x (Btw w.heap.size w'.heap.size)∧Below w.heap.size w w':=by
 have HA:=yD ha
 obtain ⟨av,rfl,a_0⟩:=kY ha.1
 obtain ⟨aa,capa,rfl,la⟩:=Rep.sl a_0
 have hb:x.length≤16777216:=ha.2.1
 clear ha
 go_enter Try.func48,Try.ntmps48
 have O0:Rep.kT 9 Rep.str (((w.alloc (.cells #[.slice aa x.length capa] 27)).alloc (.cells #[.slice none 0 0] 27)).alloc (.cells #[] 9)) (.slice (some ⟨w.heap.size + 1 + 1,0,none⟩) 0 0) [] (fun k=>k=w.heap.size + 1 + 1):=by
  have h:=Rep.jf (e:=9) (r:=Rep.str) (w:=(w.alloc (.cells #[.slice aa x.length capa] 27)).alloc (.cells #[.slice none 0 0] 27)) (cs:=[]) (xs:=[]) (T:=fun _=>False) (S:=fun k=>k=w.heap.size + 1 + 1) gW gW rfl (fun _ h=>h.elim) gW
  simpa using h
 go_wp2_with (at_builtin;refine Rep.jv rfl _ _ 25 rfl (r:=Rep.str) (e:=9) Try.underlying25 yM rfl gU gU Rep.yz (B:=w.heap.size + 1 + 1) O0 gX gX (HA.out.below bB) dG gW gQ ?_)
 intro v2 w2 hown hbel hz
 obtain ⟨a2,c2,hv⟩:=hown.zO
 obtain rfl:=hv
 replace hown:=hown.cast (List.nil_append _)
 have HO:=yD hown
 have EG:Below w.heap.size w w2:=Below.trans bB (hbel.mono dO)
 clear hown O0
 have R0:w2.cell? ⟨w.heap.size + 1,0,none⟩=some (.slice none 0 0):=(hbel.cell (p:=⟨w.heap.size + 1,0,none⟩) gW).trans gM
 have F0:w2.frozen? ⟨w.heap.size + 1,0,none⟩=false:=(hbel.frozen (p:=⟨w.heap.size + 1,0,none⟩) gW).trans gM
 clear hbel
 go_wp2
 refine bodyPost_ret (v:=.agg #[.slice a2 x.length c2]) (by simp [results,Try.results48,go_sem,R0,F0]) rfl ⟨_,_,_,rfl,?_,?_⟩
 · exact (HO.out.setCell bG).wide bI
 exact EG.setCell gW _
theorem kAx {w:World} {cn:List Value} {n:kw} (hn:kZ.rd w cn n) (hnl:n.length≤1000) {s:ByteArray} (hs:s.size≤Big) :
    Calls Try.prog 72 #[.agg cn.toArray,.string s] w fun e w'=>∃ a m c b,e=.returned (.tuple #[.agg #[.slice a m c],.bool b])∧b=yX (n++[s])∧Rep.kT 9 Rep.str w' (.slice a m c) (if b then n++[s] else n) (Btw w.heap.size w'.heap.size)∧Below w.heap.size w w':=by
 have HN:=yD hn
 obtain ⟨av,rfl,a_0⟩:=kY hn.1
 obtain ⟨aa,capa,rfl,la⟩:=Rep.sl a_0
 clear hn a_0
 have HS:=yD hs
 clear hs
 go_enter Try.func72,Try.ntmps72
 go_upto_region 1 with fail
 generalize hwB:World.alloc (World.alloc w _) _=wB
 have EB:Below w.heap.size w wB:=by rw [← hwB];exact bB
 have hzB:w.heap.size + 2≤wB.heap.size:=fV
 have B0:wB.heap[w.heap.size]?=some (.cells #[.slice aa n.length capa] 27 (0,0)):=by rw [← hwB];exact heap_keep (kU rfl)
 have B1:wB.heap[w.heap.size + 1]?=some (.cells #[.slice none 0 0] 27 (0,0)):=by rw [← hwB];exact kU gW
 have K0:=cL (Rep.jB wB (.cells #[] 9)) (kL B0 (j:=0) rfl)
 clear hwB
 have O0:Rep.kT 9 Rep.str (wB.alloc (.cells #[] 9)) (.slice (some ⟨wB.heap.size,0,none⟩) 0 0) [] (fun k=>k=wB.heap.size):=Rep.kT.void
 go_wp2_with (at_builtin;refine Rep.jv rfl _ _ 25 rfl (r:=Rep.str) (e:=9) Try.underlying25 yM rfl gU gU Rep.yz (B:=wB.heap.size) O0 gX gX ((HN.out.below EB).below (bR.alloc nL _)) dG gW gQ ?_)
 intro v2 w2 hown hbel hz
 have HO:=yD (hown.cast (List.nil_append _))
 obtain ⟨a2,n2,c2,hv,HN2⟩:=HO.out.parts;obtain rfl:=hv
 have E2B:Below wB.heap.size wB w2:=Below.trans (bR.alloc nL _) hbel
 have E2:Below w.heap.size w w2:=EB.trans (E2B.mono gV)
 have hz2:=E2B.size
 clear hown O0 hbel
 go_wp2_with (at_builtin;refine Rep.jH rfl _ _ 25 rfl (r:=Rep.str) (e:=9) Try.underlying25 yM rfl gU gU (B:=wB.heap.size) HO.out gX gX rfl (Rep.flat.own (S:=fun _=>False) (Rep.zy HS.out)) rfl (fun _ _ h=>h) dC (fun _ h=>h.elim) gV dW ?_)
 intro v3 w3 ho3 hb3 hz3
 have HO3:=yD ho3
 obtain ⟨a3,n3,c3,hv,HN3⟩:=HO3.out.parts;obtain rfl:=hv
 have E3:=E2.trans (hb3.mono gV)
 have E3B:=E2B.trans hb3
 clear ho3 hb3
 go_upto_region 2 with fail
 generalize hwC:World.alloc w3 _=wC
 have EC:Below w3.heap.size w3 wC:=dI
 have B6:wC.heap[w3.heap.size]?=some (.cells #[.slice a3 n3 c3] 27 (0,0)):=by rw [← hwC];exact kU rfl
 have K6:=kL B6 (j:=0) rfl
 clear hwC
 have hz3:=E3B.size
 have hzC:=EC.size
 have ECB:=E3B.trans (EC.mono hz3)
 have E4:=(tQ E3 EC)
 replace B0:=kI B0 ECB
 replace B1:=kI B1 ECB
 clear K0
 have K0:=kL B0 (j:=0) rfl
 have HOC:=yD (HO3.out.below EC)
 clear HO HO3
 go_wp2_with fail
 refine (yQ (n:=n++[s]) HOC.out.raw0).mono ?_
 rintro e w4 ⟨rfl,hb4⟩
 have hz4:=hb4.size
 have HO4:=yD (HOC.out.below hb4)
 have E5:=(tQ E4 hb4)
 replace K0:=cL hb4 K0
 replace K6:=cL hb4 K6
 replace B1:=kI B1 hb4
 have K1:=kL B1 (j:=0) rfl
 have F1:=frozen_of_row w4 (w.heap.size + 1) 0 _ _ B1
 clear HOC B0 B6 hb4
 generalize hv:yX (n++[s])=b
 cases b
 · go_wp2_with fail
   refine (kBj (HN.out.below E5)).mono ?_
   rintro e w5 ⟨a5,n5,c5,rfl,O5,hb5⟩
   have hz5:=hb5.size
   have HO5:=yD O5
   have E6:=(tQ E5 hb5)
   have R1:=cL hb5 K1
   have F2:=frozen_of_row w5 (w.heap.size + 1) 0 _ _ (kI B1 hb5)
   clear O5 hb5 K1 F1
   go_wp2
   refine bodyPost_ret (v:=.tuple #[.agg #[.slice a5 n5 c5],.bool false]) (by simp [results,Try.results72,go_sem,R1,F2]) rfl ⟨_,_,_,_,rfl,hv.symm,?_,?_⟩
   · exact (HO5.out.setCell (fun q=>by have:=q.1;simp at this;omega)).wide bI
   exact E6.setCell gW _
 go_wp2
 refine bodyPost_ret (v:=.tuple #[.agg #[.slice a3 n3 c3],.bool true]) (by simp [results,Try.results72,go_sem,K1,F1]) rfl ⟨_,_,_,_,rfl,hv.symm,?_,?_⟩
 · exact (HO4.out.setCell (fun q=>by have:=q.1;simp at this;omega)).wide bF
 exact E5.setCell gW _
def ParsedName (w:World) (e:Ending) (w':World):Prop:=∃ a c b ps,e=.returned (.tuple #[.agg #[.slice a ps.length c],.bool b])∧kZ.own w' [.slice a ps.length c] ps (Btw w.heap.size w'.heap.size)∧ps.length≤64∧Below w.heap.size w w'
theorem kGd {w:World} {s:ByteArray} (hs:s.size≤64) :
    Calls Try.prog 94 #[.string s] w (ParsedName w):=by
 go_enter Try.func94,Try.ntmps94
 cases hq:(s.toList==[47])
 case true =>
  go_wp2
  refine bodyPost_ret (v:=.tuple #[.agg #[.slice none 0 0],.bool true]) (by simp [results,Try.results94,go_sem]) rfl ⟨none,0,true,[],rfl,Rep.jd,by simp,?_⟩
  exact bB
 go_wp2_with fail
 refine (kHw (by0:=47) hs gU).mono ?_
 rintro e w2 ⟨v,rfl,ps,O2,hp0,hp1,hb2⟩
 obtain ⟨b2,c2,rfl,hS2,hlt2,hc2,hc3⟩:=Rep.yx O2 hp0
 have hz2:=hb2.size
 have HO:=yD O2
 clear O2
 have hp0I:(0:Int) < ps.length:=gV
 have h1I:(1:Int)≤ps.length:=gV
 have hcI:(ps.length:Int)≤c2:=gV
 have hcb:c2≤9223372036854775807:=hc3
 go_upto_region 5 with fail
 have HD:Hid (1 < ps.length→(Rep.slice 9 Rep.str).own w2 [.slice (if c2=1 then some ⟨b2,0,none⟩ else some ⟨b2,1,none⟩) (ps.length - 1) (c2 - 1)] (ps.drop 1) (Btw (w.heap.size + 1) w2.heap.size)):=yD (by
   intro h1
   have h:=(HO.out.own fQ).wide (T:=Btw (w.heap.size + 1) w2.heap.size) (fun j hj=>⟨by have:=hj.1;simp at this;omega,hj.2⟩)
   have hc1:¬ c2=1:=gV
   rw [if_neg hc1]
   exact Rep.drop_own h (k:=1) gV)
 generalize (if c2=1 then some ⟨b2,0,none⟩ else some ⟨b2,1,none⟩:Option Addr)=A at *
 obtain ⟨cb,co,he,c0,cr,AC0⟩:=Rep.get1 (HO.out.raw0) (i:=0) hp0 rfl
 simp only [Option.some.injEq,Addr.mk.injEq,and_true] at he
 obtain ⟨rfl,rfl⟩:=he
 have cr2:[c0]=[.string ps[0]]:=(Rep.yY cr).1
 obtain rfl:c0=.string ps[0]:=by simpa using cr2
 clear cr cr2
 generalize ps[0]=y0 at *
 have HPL:=yD (show (ps.drop 1).length=ps.length - 1 by simp)
 generalize ps.drop 1=qs at *
 have HM:=yD hp1
 generalize hwC:World.alloc w2 _=wC
 have EC:Below w2.heap.size w2 wC:=dI
 have B2:w2.heap[w.heap.size]?=some (.cells #[.slice none 0 0] 27 (0,0)):=kI (kU rfl) hb2
 have B5:wC.heap[w2.heap.size]?=some (.cells #[.slice A (ps.length - 1) (c2 - 1)] 27 (0,0)):=by rw [← hwC];exact kU rfl
 clear hwC
 have hzC:=EC.size
 have hz0:w.heap.size + 1≤w2.heap.size:=by simpa using hz2
 have E2:Below w.heap.size w wC:=Below.trans (bR.alloc nL _) ((hb2.trans (EC.mono hz2)).mono gW)
 replace B2:=kI B2 EC
 replace HD:=yD (fun q=>(HD.out q).below EC)
 have AC:=cL EC AC0
 have K5:=kL B5 (j:=0) rfl
 clear AC0 hb2 hS2 HO hz2
 by_cases h2:(ps.length:Int) < 2
 · have K2:=kL B2 (j:=0) rfl
   have F2:=frozen_of_row wC w.heap.size 0 _ _ B2
   clear AC
   go_wp2
   refine bodyPost_ret (v:=.tuple #[.agg #[.slice none 0 0],.bool false]) bO rfl ⟨none,0,false,[],rfl,Rep.jd,by simp,?_⟩
   exact E2.setCell gW _
 cases hy:y0.toList.isEmpty
 case false =>
  have K2:=kL B2 (j:=0) rfl
  have F2:=frozen_of_row wC w.heap.size 0 _ _ B2
  go_wp2
  refine bodyPost_ret (v:=.tuple #[.agg #[.slice none 0 0],.bool false]) bO rfl ⟨none,0,false,[],rfl,Rep.jd,by simp,?_⟩
  exact E2.setCell gW _
 replace HD:=yD (HD.out gV)
 go_wp2_with fail
 refine (yQ (n:=qs) HD.out.rd.1).mono ?_
 rintro e w3 ⟨rfl,hb3⟩
 have hz3:=hb3.size
 replace HD:=yD (HD.out.below hb3)
 have E3:=(tQ E2 hb3)
 replace K5:=cL hb3 K5
 replace B2:=kI B2 hb3
 have K2:=kL B2 (j:=0) rfl
 have F2:=frozen_of_row w3 w.heap.size 0 _ _ B2
 clear AC
 generalize hv:yX qs=b
 cases b
 · go_wp2
   refine bodyPost_ret (v:=.tuple #[.agg #[.slice none 0 0],.bool false]) bO rfl ⟨none,0,false,[],rfl,Rep.jd,by simp,?_⟩
   exact E3.setCell gW _
 go_wp2
 refine bodyPost_ret (v:=.tuple #[.agg #[.slice A (ps.length - 1) (c2 - 1)],.bool true]) bO rfl ⟨A,c2 - 1,true,qs,by rw [HPL.out],?_,by rw [HPL.out];omega,E3.setCell gW _⟩
 rw [HPL.out]
 exact ((HD.out.touch (kC w3 w.heap.size 0 _) dV).wide bF)
theorem kDn {w:World} {s:ByteArray} (hs:s.size≤64) :
    Calls Try.prog 71 #[.string s] w fun e w'=>∃ a c ps,e=.returned (.agg #[.slice a ps.length c])∧kZ.own w' [.slice a ps.length c] ps (Btw w.heap.size w'.heap.size)∧ps.length≤64∧Below w.heap.size w w':=by
 go_enter Try.func71,Try.ntmps71
 go_upto_region 1 with fail
 generalize hw_:World.alloc w _=w1
 have E_w1:Below w.heap.size w w1:=dH
 have R:w1.heap[w.heap.size]?=some (.cells #[.slice none 0 0] 27 (0,0)):=fC
 have z_w1:w.heap.size + 1≤w1.heap.size:=fU
 clear hw_
 have EE:=E_w1
 clear E_w1
 go_wp2_with fail
 refine (kGd hs).mono ?_
 rintro e w2 ⟨a,c,b,ps,rfl,hr,hl,hb⟩
 have z_w2:=hb.size
 replace R:=kI R hb
 replace EE:=(tQ EE hb)
 clear hb
 have HR:=yD (hr.wide (T:=Btw (w.heap.size + 1) w2.heap.size) dD)
 clear hr
 go_upto_region 2 with fail
 generalize hw_:World.alloc w2 _=w3
 have E_w3:Below w2.heap.size w2 w3:=dH
 have B:w3.heap[w2.heap.size]?=some (.cells #[.slice a ps.length c] 27 (0,0)):=fC
 have z_w3:w2.heap.size + 1≤w3.heap.size:=fU
 clear hw_
 replace R:=kI R E_w3
 replace HR:=yD (HR.out.below E_w3)
 replace EE:=(tQ EE E_w3)
 clear E_w3
 have KR_0:w3.cell? ⟨w.heap.size,0,none⟩=some (.slice none 0 0):=kL R rfl
 have KB_0:w3.cell? ⟨w2.heap.size,0,none⟩=some (.slice a ps.length c):=kL B rfl
 have FR_0:w3.frozen? ⟨w.heap.size,0,none⟩=false:=frozen_of_row w3 (w.heap.size) 0 _ _ R
 go_wp2
 refine bodyPost_ret (v:=.agg #[.slice a ps.length c]) (by simp [results,Try.results71,go_sem,KR_0,FR_0]) rfl ⟨_,_,ps,rfl,?_,hl,EE.setCell gW _⟩
 exact (HR.out.touch (kC w3 w.heap.size 0 _) dV).wide bF
theorem kEe {w0 w:World} {p:Nat} (hc:Cur w0 w p) :
    Calls Try.prog 92 #[.pointer (some ⟨p,0,none⟩)] w fun e w'=>∃ a n c ps,e=.returned (.agg #[.slice a n c])∧Rep.kT 9 Rep.str w' (.slice a n c) ps (Btw w.heap.size w'.heap.size)∧ps.length≤3∧Cur w0 w' p∧Touch (fun k=>k=p) w w':=by
 go_enter Try.func92,Try.ntmps92
 obtain ⟨hp0,hp1⟩:=hc.lt
 go_upto_region 1 with fail
 generalize hw_:World.alloc w _=w1
 have E_w1:Below w.heap.size w w1:=dH
 have R:w1.heap[w.heap.size]?=some (.cells #[.slice none 0 0] 27 (0,0)):=fC
 have z_w1:w.heap.size + 1≤w1.heap.size:=fU
 clear hw_
 replace hc:=hc.below E_w1
 have TE:Touch (fun k=>k=p) w w1:=Touch.of_below E_w1
 clear E_w1
 go_upto_region 2 with fail
 generalize hw_:World.alloc w1 _=w2
 have E_w2:Below w1.heap.size w1 w2:=dH
 have B:w2.heap[w1.heap.size]?=some (.cells #[.slice none 0 0] 27 (0,0)):=fC
 have z_w2:w1.heap.size + 1≤w2.heap.size:=fU
 clear hw_
 replace R:=kI R E_w2
 replace hc:=hc.below E_w2
 replace TE:=TE.trans (Touch.of_below E_w2)
 clear E_w2
 go_wp2_with fail
 refine (kX (n:=4) hc gU).mono ?_
 rintro e w3 ⟨m,hm0,hm1,hm2,rfl,hcN,htN⟩
 have z_w3:=htN.size
 replace R:=htN.kI R gV
 replace B:=htN.kI B gV
 replace TE:=TE.trans htN
 clear hc htN
 have hc:=hcN
 clear hcN
 replace hm1:=hm1 gU
 clear hm2
 obtain ⟨m,rfl⟩:=Int.eq_ofNat_of_zero_le hm0
 go_wp2
 go_loopw [4] (fun i wr=>∃ (j:Nat) (a:Option Addr) (n c:Nat) (ps:List ByteArray),i=.int .i64 j∧ps.length + j≤3∧Hid (Rep.kT 9 Rep.str wr (.slice a n c) ps (Btw w2.heap.size wr.heap.size))∧wr.heap[w.heap.size]?=some (.cells #[.slice none 0 0] 27 (0,0))∧wr.heap[w1.heap.size]?=some (.cells #[.slice a n c] 27 (0,0))∧w2.heap.size≤wr.heap.size∧Cur w0 wr p∧Touch (fun k=>k=p) w wr) (fun i _=>(intOf i).toNat)
 case atStart=>exact ⟨m,none,0,0,[],rfl,by simp;omega,yD Rep.kT.void,R,B,z_w3,hc,TE⟩
 clear hc TE R B
 obtain ⟨j,a,n,c,ps,rfl,hj,HO,R,B,hzr,hc,TE⟩:=hrel
 cases j with
 | zero =>
   have KR_0:wr.cell? ⟨w.heap.size,0,none⟩=some (.slice none 0 0):=kL R rfl
   have KB_0:wr.cell? ⟨w1.heap.size,0,none⟩=some (.slice a n c):=kL B rfl
   have FR_0:wr.frozen? ⟨w.heap.size,0,none⟩=false:=frozen_of_row wr (w.heap.size) 0 _ _ R
   go_wp2
   refine bodyPost_ret (v:=.agg #[.slice a n c]) (by simp [results,Try.results92,go_sem,KR_0,FR_0]) rfl ⟨_,_,_,ps,rfl,?_,by omega,hc.touch (kC wr w.heap.size 0 _) gV fT,TE.ku (kC wr w.heap.size 0 _) gV⟩
   exact (HO.out.touch (kC wr w.heap.size 0 _) dV).wide bF
 | succ j =>
   have hjI:(0:Int) < (j:Int) + 1:=gV
   go_upto_region 5 with fail
   refine kBw (fun W=>Touch (fun k=>k=p) wr W∧Cur w0 W p) (fun _=>True) [] [(0,true),(1,true),(2,false),(3,false),(4,false)] [(5,true),(6,true),(7,true),(8,false)] gP gP bX (⟨Touch.of_below bR.drew,hc.below bR.drew⟩) ?_
   intro wS HS
   simp only [kg,kAi,List.getElem?_cons_succ,List.getElem?_cons_zero,List.map_cons,List.map_nil]
   refine pre_nil ?_
   refine zw (v:=?_) rfl (fun W hW=>?_) ?_;rotate_left;(· have A_0:=kL (hW.1.kI B gV) (j:=0) (v:=.slice a n c) rfl;clear hW;go_simp;try with_reducible rfl)
   refine wkP ?_
   refine zw (v:=?_) rfl (fun W hW=>?_) ?_;rotate_left;(· go_simp;try with_reducible rfl)
   refine wkP ?_
   refine kAy rfl (fun K hK=>?_);go_simp;refine hK _ _ ⟨HS.1.trans (Touch.of_below (bR.alloc nL _)),HS.2.below (bR.alloc nL _)⟩ ?_;clear hK K
   refine wkP ?_
   refine kAy rfl (fun K hK=>?_);go_simp;refine (kFv (HS.2.below (bR.alloc nL _)) (Rep.lit_str _ [{ data:=#[97] },{ data:=#[98] },{ data:=#[110,101,119,115] },{ data:=#[120,45,49] },{ data:=#[49] },{ data:=#[107,101,121] }] gU gU) fK gU gU).mono ?_;rintro e wS1 ⟨y,hyM,hyR,rfl,hcS,htS⟩;replace HS:=And.intro ((HS.1.trans (Touch.of_below (bR.alloc nL _))).trans htS) hcS;clear hcS htS;refine hK _ _ HS ?_;clear hK K
   refine wkP ?_
   refine kAy rfl (fun K hK=>?_);go_simp;have hzA:=HS.1.size;refine (kAx ((HO.out.touch HS.1 dV).own fQ).rd gV (by have:=Rep.mem_str gU hyM;unfold Big;omega)).mono ?_;rintro e wS2 ⟨a2,n2,c2,b2,rfl,hb2,hO2,hbS⟩;replace HS:=And.intro (HS.1.trans (Touch.of_below hbS)) (HS.2.below hbS);refine hK _ _ HS ?_;clear hK K
   refine wkP ?_
   have hz4:=HS.1.size
   have hz5:=hbS.size
   have R4:=HS.1.kI R gV
   have B4:=HS.1.kI B gV
   have TE4:=TE.trans HS.1
   have hc4:=HS.2
   have hlq:(if b2 then ps++[y] else ps).length≤ps.length + 1:=by split <;> simp
   generalize (if b2 then ps++[y] else ps)=qs at *
   have HO4:=yD (hO2.wide (T:=Btw w2.heap.size wS2.heap.size) (fun k hk=>⟨by have:=hk.1;omega,hk.2⟩))
   clear hO2 HO R B TE hc HS hbS
   have K4:wS2.cell? ⟨w1.heap.size,0,none⟩=some (.slice a n c):=kL B4 rfl
   have F4:wS2.frozen? ⟨w1.heap.size,0,none⟩=false:=frozen_of_row wS2 w1.heap.size 0 _ _ B4
   refine kEg trivial ?_
   refine wkR ?_
   refine wkR ?_
   refine wkR ?_
   refine kQ rfl (fun K hK=>?_);go_simp;refine hK _ _ trivial ?_;clear hK K
   refine wkP ?_
   refine kN ?_
   generalize hw_:World.setCell wS2 _ _=w5
   have T5:Touch (fun k=>k=w1.heap.size) wS2 w5:=by rw [← hw_];exact kC _ _ _ _
   have B5:w5.heap[w1.heap.size]?=some (.cells #[.slice a2 n2 c2] 27 (0,0)):=by rw [← hw_];exact jJ B4 0
   have hz5:w5.heap.size=wS2.heap.size:=by rw [← hw_];simp [World.setCell]
   clear hw_ K4 F4
   have HO5:=yD ((HO4.out.touch T5 dV).wide (T:=Btw w2.heap.size w5.heap.size) (fun k hk=>⟨hk.1,by have:=hk.2;omega⟩))
   have H5:=yD hz5
   clear hz5
   go_wp2
   go_roundw
   case rel=>exact ⟨j,a2,n2,c2,qs,by go_num,by omega,HO5,T5.kI R4 gV,B5,by have:=H5.out;omega,hc4.touch T5 gV fT,TE4.ku T5 gV⟩
   case measure=>simp [intOf]
theorem kFu {w0 w:World} {p:Nat} (hc:Cur w0 w p) :
    Calls Try.prog 69 #[.pointer (some ⟨p,0,none⟩)] w fun e w'=>∃ a c ps,e=.returned (.agg #[.slice a ps.length c])∧kZ.own w' [.slice a ps.length c] ps (Btw w.heap.size w'.heap.size)∧ps.length≤8∧Cur w0 w' p∧Touch (fun k=>k=p) w w':=by
 go_enter Try.func69,Try.ntmps69
 obtain ⟨hp0,hp1⟩:=hc.lt
 go_upto_region 1 with fail
 generalize hw_:World.alloc w _=w1
 have E_w1:Below w.heap.size w w1:=dH
 have R:w1.heap[w.heap.size]?=some (.cells #[.slice none 0 0] 27 (0,0)):=fC
 have z_w1:w.heap.size + 1≤w1.heap.size:=fU
 clear hw_
 replace hc:=hc.below E_w1
 have TE:Touch (fun k=>k=p) w w1:=Touch.of_below E_w1
 clear E_w1
 go_wp2_with fail
 refine (kEe hc).mono ?_
 rintro e w2 ⟨a,n,c,ps,rfl,hO,hps,hcN,htN⟩
 have z_w2:=htN.size
 replace R:=htN.kI R gV
 replace TE:=TE.trans htN
 clear hc htN
 have hc:=hcN
 clear hcN
 have HO:=yD (hO.wide (T:=Btw w1.heap.size w2.heap.size) (fun _ h=>h))
 clear hO
 go_upto_region 2 with fail
 generalize hw_:World.alloc w2 _=w3
 have E_w3:Below w2.heap.size w2 w3:=dH
 have B:w3.heap[w2.heap.size]?=some (.cells #[.slice a n c] 27 (0,0)):=fC
 have z_w3:w2.heap.size + 1≤w3.heap.size:=fU
 clear hw_
 replace R:=kI R E_w3
 replace HO:=yD (HO.out.below E_w3)
 replace hc:=hc.below E_w3
 replace TE:=TE.trans (Touch.of_below E_w3)
 clear E_w3
 go_wp2_with fail
 refine (kX (n:=8) hc gU).mono ?_
 rintro e w4 ⟨x,hx0,hx1,hx2,rfl,hcN,htN⟩
 have z_w4:=htN.size
 replace R:=htN.kI R gV
 replace B:=htN.kI B gV
 replace HO:=yD (HO.out.touch htN bW)
 replace TE:=TE.trans htN
 clear hc htN
 have hc:=hcN
 clear hcN
 replace hx1:=hx1 gU
 clear hx2
 obtain ⟨m,rfl⟩:=Int.eq_ofNat_of_zero_le hx0
 by_cases hm0:m=0
 · subst hm0
   go_upto_region 4 with fail
   refine kBw (fun W=>Touch (fun k=>k=p) w4 W∧Cur w0 W p) (fun _=>True) [] [(0,true),(1,true),(2,true),(3,false),(4,false),(5,false)] [(6,false),(7,true),(8,false)] gP gP bX (⟨Touch.of_below bR.drew,hc.below bR.drew⟩) ?_
   intro wS HS
   simp only [kg,kAi,List.getElem?_cons_succ,List.getElem?_cons_zero,List.map_cons,List.map_nil]
   refine pre_nil ?_
   refine zw (v:=?_) rfl (fun W hW=>?_) ?_;rotate_left;(· go_simp;try with_reducible rfl)
   refine wkP ?_
   refine zw (v:=?_) rfl (fun W hW=>?_) ?_;rotate_left;(· have A_0:=kL (hW.1.kI B gV) (j:=0) (v:=.slice a n c) rfl;clear hW;go_simp;try with_reducible rfl)
   refine wkP ?_
   refine zw (v:=?_) rfl (fun W hW=>?_) ?_;rotate_left;(· go_simp;try with_reducible rfl)
   refine wkP ?_
   refine kAy rfl (fun K hK=>?_);go_simp;refine hK _ _ ⟨HS.1.trans (Touch.of_below (bR.alloc nL _)),HS.2.below (bR.alloc nL _)⟩ ?_;clear hK K
   refine wkP ?_
   refine kAy rfl (fun K hK=>?_);go_simp;refine (kFv (HS.2.below (bR.alloc nL _)) (Rep.lit_str _ [{ data:=#[] },{ data:=#[65] },{ data:=#[116,111,111,108,111,110,103,120,120] },{ data:=#[97,47,98] },{ data:=#[32] },{ data:=#[101,105,103,104,116,56,56,56] }] gU gU) fK gU gU).mono ?_;rintro e wS1 ⟨y,hyM,hyR,rfl,hcS,htS⟩;replace HS:=And.intro ((HS.1.trans (Touch.of_below (bR.alloc nL _))).trans htS) hcS;clear hcS htS;refine hK _ _ HS ?_;clear hK K
   refine wkP ?_
   refine kAy rfl (fun K hK=>?_);go_simp;have HLit:=yD (Rep.kEo (e:=9) wS1 (Rep.zy (s:=y) (by have:=Rep.mem_str gU hyM;unfold Big;omega)));have HS5:Touch (fun k=>k=p) w4 (World.alloc wS1 (Obj.cells #[Value.string y] 9))∧Cur w0 (World.alloc wS1 (Obj.cells #[Value.string y] 9)) p:=⟨HS.1.trans (Touch.of_below (bR.alloc nL _)),HS.2.below (bR.alloc nL _)⟩;generalize hwU:World.alloc wS1 (Obj.cells #[Value.string y] 9)=wU at HLit HS5 ⊢;clear hwU;refine hK _ _ HS5 ?_;clear hK K HS
   refine wkP ?_
   have hz5:=HS5.1.size
   have R5:=HS5.1.kI R gV
   have B5:=HS5.1.kI B gV
   have TE5:=TE.trans HS5.1
   have hc5:=HS5.2
   replace HO:=yD (HO.out.touch HS5.1 bW)
   clear R B TE hc
   obtain ⟨v3,u3,hr3,ho3,ht3⟩:=Rep.kIm (P:=Try.prog) (t:=25) (ty:=25) (r:=Rep.str) (e:=9) (v:=.slice a n c) (xs:=ps) Try.underlying25 yM rfl gU gU Rep.yz HO.out (HLit.out.own gT).rd gQ
   have hz6:=ht3.size
   have B6:=ht3.kI B5 (fun q=>by have:=q.2;omega)
   have R6:=ht3.kI R5 fH
   have TE6:=TE5.kBh ht3 dV
   have hc6:=hc5.touch ht3 fH dV
   obtain ⟨a3,n3,c3,hv3,HN3⟩:=ho3.parts
   obtain rfl:=hv3
   have HO6:=yD ho3
   generalize hqs:ps++[y]=qs at *
   have hql:qs.length≤4:=by rw [← hqs];simp;omega
   have K6:u3.cell? ⟨w2.heap.size,0,none⟩=some (.slice a n c):=kL B6 rfl
   have F6:u3.frozen? ⟨w2.heap.size,0,none⟩=false:=frozen_of_row u3 w2.heap.size 0 _ _ B6
   clear hqs ho3 HO HLit B5 R5 TE5 hc5 HS5 ht3
   refine kEg trivial ?_
   refine kQ rfl (fun K hK=>?_);refine Rep.jW _ _ _ rfl gX gX hr3 ?_;refine hK _ _ trivial ?_;clear hK K
   refine wkP ?_
   refine wkR ?_
   refine kQ rfl (fun K hK=>?_);go_simp;refine hK _ _ trivial ?_;clear hK K
   refine wkP ?_
   refine kN ?_
   generalize hw_:World.setCell u3 _ _=w7
   have T7:Touch (fun k=>k=w2.heap.size) u3 w7:=by rw [← hw_];exact kC _ _ _ _
   have B7:w7.heap[w2.heap.size]?=some (.cells #[.slice a3 n3 c3] 27 (0,0)):=by rw [← hw_];exact jJ B6 0
   have z7:=T7.size
   clear hw_ K6 F6
   have HO7:=yD (HO6.out.touch T7 (fun k hk=>by rcases hk with hk | hk;(have:=hk.2;omega);omega))
   have R7:=T7.kI R6 gV
   have hc7:=hc6.touch T7 gV fT
   have TE7:=TE6.ku T7 gV
   clear HO6 R6 hc6 TE6 T7
   have KR:w7.cell? ⟨w.heap.size,0,none⟩=some (.slice none 0 0):=kL R7 rfl
   have KB:=kL B7 (j:=0) (v:=.slice a3 n3 c3) rfl
   have FR:w7.frozen? ⟨w.heap.size,0,none⟩=false:=frozen_of_row w7 w.heap.size 0 _ _ R7
   obtain ⟨_,_,_,hpe,HPN⟩:=HO7.out.parts
   simp only [Value.slice.injEq] at hpe
   have hnl:=yD (hpe.2.1.trans HPN.out)
   clear hpe HPN
   go_wp2
   refine bodyPost_ret (v:=.agg #[.slice a3 n3 c3]) bP rfl ⟨_,_,qs,by rw [hnl.out],?_,by omega,hc7.touch (kC w7 w.heap.size 0 _) gV fT,TE7.ku (kC w7 w.heap.size 0 _) gV⟩
   have hq:=(HO7.out.touch (kC w7 w.heap.size 0 (.slice a3 n3 c3)) (fun k hk=>by rcases hk with hk | hk;(have:=hk.1;omega);omega)).own fQ
   rw [hnl.out] at hq ⊢
   exact hq.wide (fun j hj=>⟨by rcases hj with hj | hj;(have:=hj.1;omega);omega,by rcases hj with hj | hj;(have:=hj.2;simp [World.setCell];omega);(simp [World.setCell];omega)⟩)
 have hm0I:¬ (m:Int)=0:=gV
 by_cases hm1:m=1
 · subst hm1
   go_wp2
   go_loopw [] (fun wr=>∃ (a:Option Addr) (n c:Nat) (ps:List ByteArray),ps.length≤8∧Hid (n=ps.length)∧Hid (Rep.kT 9 Rep.str wr (.slice a n c) ps (fun k=>(w1.heap.size≤k∧k < w2.heap.size)∨(w4.heap.size≤k∧k < wr.heap.size)))∧wr.heap[w.heap.size]?=some (.cells #[.slice none 0 0] 27 (0,0))∧wr.heap[w2.heap.size]?=some (.cells #[.slice a n c] 27 (0,0))∧w4.heap.size≤wr.heap.size∧Cur w0 wr p∧Touch (fun k=>k=p) w wr) (fun wr=>match wr.cell? ⟨w2.heap.size,0,none⟩ with | some (.slice _ n _)=>9 - n | _=>0)
   case atStart =>
    obtain ⟨_,_,_,hpe,HPN⟩:=HO.out.parts
    simp only [Value.slice.injEq] at hpe
    exact ⟨a,n,c,ps,by omega,yD (hpe.2.1.trans HPN.out),yD (HO.out.wide (fun k hk=>.inl hk)),R,B,Nat.le_refl _,hc,TE⟩
   clear hc TE R B HO hps
   obtain ⟨a,n,c,ps,hps,HN,HO,R,B,hzr,hc,TE⟩:=hrel
   have KM:=yD (show wr.cell? ⟨w2.heap.size,0,none⟩=some (.slice a n c) from kL B rfl)
   have hnI:(n:Int)=ps.length:=by rw [HN.out]
   have HNI:=yD hnI
   clear hnI
   go_upto_region 6 with fail
   have FX:=yD (fun (W:World) (hW:Touch (fun k=>k=p) wr W∧Cur w0 W p)=>kL (hW.1.kI B gV) (j:=0) (v:=.slice a n c) rfl)
   refine kK (fun W=>Touch (fun k=>k=p) wr W∧Cur w0 W p) [true,true,true,true,false,true,true] gP gP bX (⟨Touch.of_below bR.drew,hc.below bR.drew⟩) ?_
   intro wS HS
   iterate 4
    all_goals refine wkR ?_
   all_goals first|(refine kG rfl HS ?_)|(refine kQ rfl (fun K hK=>?_);go_simp;refine (kX (n:=3) HS.2 gU).mono ?_;rintro e wS1 ⟨x,hx0,hx1,hx2,rfl,hcS,htS⟩;replace hx1:=hx1 gU;clear hx2;replace HS:=And.intro (HS.1.trans htS) hcS;clear hcS htS;have hw:IntKind.i64.wrap (5 + x)=5 + x:=IntWalk.i64_in _ gV;refine hK _ _ HS ?_;clear hK K)
   all_goals refine wkP ?_
   all_goals refine wkR ?_
   all_goals (have hg6:=True.intro;first|(refine wkG (fun b hg6=>?_);cases b;all_goals first | exact Bool.noConfusion hg6 | simp only [zU,zV] at hg6 | skip) | refine wkR ?_)
   all_goals refine wkP ?_
   all_goals refine kN ?_
   all_goals have hzs:=HS.1.size
   all_goals replace R:=HS.1.kI R gV
   all_goals replace B:=HS.1.kI B gV
   all_goals replace TE:=TE.trans HS.1
   all_goals have hc5:=HS.2
   all_goals replace HO:=yD (HO.out.touch HS.1 (fun k hk=>by rcases hk with hk | hk <;> omega))
   all_goals clear hc HS
   · clear hg6
     have KR:wS1.cell? ⟨w.heap.size,0,none⟩=some (.slice none 0 0):=kL R rfl
     have KB:=kL B (j:=0) (v:=.slice a n c) rfl
     have FR:wS1.frozen? ⟨w.heap.size,0,none⟩=false:=frozen_of_row wS1 w.heap.size 0 _ _ R
     obtain ⟨_,_,_,hpe,HPN⟩:=HO.out.parts
     simp only [Value.slice.injEq] at hpe
     have hnl:=yD (hpe.2.1.trans HPN.out)
     clear hpe HPN
     go_wp2
     refine bodyPost_ret (v:=.agg #[.slice a n c]) bP rfl ⟨_,_,ps,by rw [hnl.out],?_,by omega,hc5.touch (kC wS1 w.heap.size 0 _) gV fT,TE.ku (kC wS1 w.heap.size 0 _) gV⟩
     have hq:=(HO.out.touch (kC wS1 w.heap.size 0 (.slice a n c)) (fun k hk=>by rcases hk with hk | hk <;> omega)).own fQ
     rw [hnl.out] at hq ⊢
     exact hq.wide (fun j hj=>⟨by rcases hj with hj | hj <;> omega,by rcases hj with hj | hj <;> (simp [World.setCell];omega)⟩)
   have hlt:(n:Int) < 5 + x:=by simpa using hg6
   have hnl:=HN.out
   have KB:wS1.cell? ⟨w2.heap.size,0,none⟩=some (.slice a n c):=kL B rfl
   have KB2:=cL (Rep.jB wS1 (.cells #[.string { data:=#[109] }] 9)) KB
   clear hg6 hnl
   go_wp2_with (at_builtin;refine Rep.kIy rfl _ _ 25 rfl (r:=Rep.str) (e:=9) Try.underlying25 yM rfl gU gU Rep.yz (HO.out.below (Rep.jB wS1 (.cells #[.string { data:=#[109] }] 9))) gX gX ((Rep.kEo (e:=9) wS1 (Rep.zy (s:={ data:=#[109] }) gU)).own gT).rd gQ ?_)
   intro v6 w6 ho6 ht6
   have T6:=(Touch.of_below (S:=fun k=>(w1.heap.size≤k∧k < w2.heap.size)∨(w4.heap.size≤k∧k < wr.heap.size)) (Rep.jB wS1 (.cells #[.string { data:=#[109] }] 9))).trans ht6
   have z6:=T6.size
   have zA:wS1.heap.size + 1≤w6.heap.size:=by have:=ht6.size;simpa using this
   have R6:=T6.kI R bZ
   have B6:=T6.kI B bZ
   have TE6:=TE.kBh T6 bV
   have hc6:=hc5.touch T6 bZ bV
   have HO6:=yD (ho6.wide (T:=fun k=>(w1.heap.size≤k∧k < w2.heap.size)∨(w4.heap.size≤k∧k < w6.heap.size)) (fun k q=>by rcases q with (q | q) | q;exact .inl q;exact .inr ⟨q.1,by omega⟩;exact .inr ⟨by have:=q.1;omega,q.2⟩))
   obtain ⟨a6,n6,c6,hv6,HN6⟩:=ho6.parts
   obtain rfl:=hv6
   have hql:(ps++[({ data:=#[109] }:ByteArray)]).length=ps.length + 1:=gW
   generalize ps++[({ data:=#[109] }:ByteArray)]=qs at *
   have HQL:=yD hql
   clear hql ho6 ht6 T6 R B TE hc5 HO KB KB2
   have K6:w6.cell? ⟨w2.heap.size,0,none⟩=some (.slice a n c):=kL B6 rfl
   have F6:w6.frozen? ⟨w2.heap.size,0,none⟩=false:=frozen_of_row w6 w2.heap.size 0 _ _ B6
   go_wp2
   generalize hw_:World.setCell w6 _ _=w7
   have T7:Touch (fun k=>k=w2.heap.size) w6 w7:=by rw [← hw_];exact kC _ _ _ _
   have B7:w7.heap[w2.heap.size]?=some (.cells #[.slice a6 n6 c6] 27 (0,0)):=by rw [← hw_];exact jJ B6 0
   have z7:=T7.size
   clear hw_ K6 F6
   have HO7:=yD ((HO6.out.touch T7 bV).wide (T:=fun k=>(w1.heap.size≤k∧k < w2.heap.size)∨(w4.heap.size≤k∧k < w7.heap.size)) (fun k q=>by rcases q with q | q;exact .inl q;exact .inr ⟨q.1,by omega⟩))
   go_roundw
   case rel=>exact ⟨a6,n6,c6,qs,by have:=HQL.out;have:=HNI.out;omega,yD HN6.out,HO7,T7.kI R6 gV,B7,by omega,hc6.touch T7 gV fT,TE6.ku T7 gV⟩
   simp only [KM.out,kL B7 (j:=0) (v:=.slice a6 n6 c6) rfl];have h1:=HQL.out;have h2:=HN6.out;have h3:=HNI.out;omega
 have hm1I:¬ (m:Int)=1:=gV
 have KR:w4.cell? ⟨w.heap.size,0,none⟩=some (.slice none 0 0):=kL R rfl
 have KB:=kL B (j:=0) (v:=.slice a n c) rfl
 have FR:w4.frozen? ⟨w.heap.size,0,none⟩=false:=frozen_of_row w4 w.heap.size 0 _ _ R
 obtain ⟨_,_,_,hpe,HPN⟩:=HO.out.parts
 simp only [Value.slice.injEq] at hpe
 have hnl:=yD (hpe.2.1.trans HPN.out)
 clear hpe HPN
 go_wp2
 refine bodyPost_ret (v:=.agg #[.slice a n c]) bP rfl ⟨_,_,ps,by rw [hnl.out],?_,by omega,hc.touch (kC w4 w.heap.size 0 _) gV fT,TE.ku (kC w4 w.heap.size 0 _) gV⟩
 have hq:=(HO.out.touch (kC w4 w.heap.size 0 (.slice a n c)) dV).own fQ
 rw [hnl.out] at hq ⊢
 exact hq.wide bF
end Go.Proofs.Ytpgnbablhdknnaa

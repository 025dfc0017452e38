/-
  Names as the reference draws them.
-/
import Derived.Test.YthpgoddjglnoiaaGreatDoorDrawB
import Derived.Test.YthpgoddjglnoiaaGreatDoorCut
import Derived.Test.YthpgoddjglnoiaaGreatDoorSoft4
set_option linter.unusedVariables false
set_option linter.unusedSimpArgs false
set_option linter.unnecessarySimpa false
set_option maxRecDepth 100000
set_option maxHeartbeats 4000000
namespace Go.Proofs.YthpgoddjglnoiaaGreatDoor
open Go.RowKit
theorem kIt {w:World} {ca:List Value} {x:kR} (ha:kV.rd w ca x):Calls Tryz.prog 38 #[.agg ca.toArray] w fun e w'=>∃ a n c,e=.returned (.agg #[.slice a n c])∧Rep.kH 9 Rep.str w' (.slice a n c) x (Btw w.heap.size w'.heap.size)∧Below w.heap.size w w':=by
 have HA:=yD ha
 obtain ⟨av,rfl,a_0⟩:=kN ha.1
 obtain ⟨aa,capa,rfl,la⟩:=Rep.sl a_0
 have hb:x.length≤16777216:=ha.2.1
 clear ha
 go_enter Tryz.func38,Tryz.ntmps38
 have O0:Rep.kH 9 Rep.str (((w.alloc (.cells #[.slice aa x.length capa] 27)).alloc (.cells #[.slice none 0 0] 27)).alloc (.cells #[] 9)) (.slice (some ⟨w.heap.size + 1 + 1,0,none⟩) 0 0) [] (fun k=>k=w.heap.size + 1 + 1):=by
  have h:=Rep.je (e:=9) (r:=Rep.str) (w:=(w.alloc (.cells #[.slice aa x.length capa] 27)).alloc (.cells #[.slice none 0 0] 27)) (cs:=[]) (xs:=[]) (T:=fun _=>False) (S:=fun k=>k=w.heap.size + 1 + 1) fZ fZ rfl (fun _ h=>h.elim) fZ
  simpa using h
 go_wp2_with (at_builtin;refine Rep.yP rfl _ _ 25 rfl (r:=Rep.str) (e:=9) Tryz.underlying25 jW rfl fU fU Rep.yL (B:=w.heap.size + 1 + 1) O0 gB gB (HA.out.below bB) dB fZ fQ ?_)
 intro v2 w2 hown hbel hz
 obtain ⟨a2,c2,hv⟩:=hown.zG
 obtain rfl:=hv
 replace hown:=hown.cast (List.nil_append _)
 have HO:=yD hown
 have EG:Below w.heap.size w w2:=Below.trans bB (hbel.mono dF)
 clear hown O0
 have R0:w2.cell? ⟨w.heap.size + 1,0,none⟩=some (.slice none 0 0):=(hbel.cell (p:=⟨w.heap.size + 1,0,none⟩) fZ).trans fO
 have F0:w2.frozen? ⟨w.heap.size + 1,0,none⟩=false:=(hbel.frozen (p:=⟨w.heap.size + 1,0,none⟩) fZ).trans fO
 clear hbel
 go_wp2
 refine bodyPost_ret (v:=.agg #[.slice a2 x.length c2]) (by simp [results,Tryz.results38,go_sem,R0,F0]) rfl ⟨_,_,_,rfl,?_,?_⟩
 · exact (HO.out.setCell bF).wide bG
 exact EG.setCell fZ _
theorem kEh {w:World} {cn:List Value} {n:kR} (hn:kV.rd w cn n) (hnl:n.length≤1000) {s:ByteArray} (hs:s.size≤Big) :
    Calls Tryz.prog 95 #[.agg cn.toArray,.string s] w fun e w'=>∃ a m c b,e=.returned (.tuple #[.agg #[.slice a m c],.bool b])∧b=kAh (n++[s])∧Rep.kH 9 Rep.str w' (.slice a m c) (if b then n++[s] else n) (Btw w.heap.size w'.heap.size)∧Below w.heap.size w w':=by
 have HN:=yD hn
 obtain ⟨av,rfl,a_0⟩:=kN hn.1
 obtain ⟨aa,capa,rfl,la⟩:=Rep.sl a_0
 clear hn a_0
 have HS:=yD hs
 clear hs
 go_enter Tryz.func95,Tryz.ntmps95
 go_upto_region 1 with fail
 generalize hwB:World.alloc (World.alloc w _) _=wB
 have EB:Below w.heap.size w wB:=by rw [← hwB];exact bB
 have hzB:w.heap.size + 2≤wB.heap.size:=fB
 have B0:wB.heap[w.heap.size]?=some (.cells #[.slice aa n.length capa] 27 (0,0)):=by rw [← hwB];exact heap_keep (kX rfl)
 have B1:wB.heap[w.heap.size + 1]?=some (.cells #[.slice none 0 0] 27 (0,0)):=by rw [← hwB];exact kX fZ
 have K0:=cL (Rep.jm wB (.cells #[] 9)) (kT B0 (j:=0) rfl)
 clear hwB
 have O0:Rep.kH 9 Rep.str (wB.alloc (.cells #[] 9)) (.slice (some ⟨wB.heap.size,0,none⟩) 0 0) [] (fun k=>k=wB.heap.size):=Rep.kH.void
 go_wp2_with (at_builtin;refine Rep.yP rfl _ _ 25 rfl (r:=Rep.str) (e:=9) Tryz.underlying25 jW rfl fU fU Rep.yL (B:=wB.heap.size) O0 gB gB ((HN.out.below EB).below (bR.alloc nL _)) dB fZ fQ ?_)
 intro v2 w2 hown hbel hz
 have HO:=yD (hown.cast (List.nil_append _))
 obtain ⟨a2,n2,c2,hv,HN2⟩:=HO.out.parts;obtain rfl:=hv
 have E2B:Below wB.heap.size wB w2:=Below.trans (bR.alloc nL _) hbel
 have E2:Below w.heap.size w w2:=EB.trans (E2B.mono fV)
 have hz2:=E2B.size
 clear hown O0 hbel
 go_wp2_with (at_builtin;refine Rep.ky rfl _ _ 25 rfl (r:=Rep.str) (e:=9) Tryz.underlying25 jW rfl fU fU (B:=wB.heap.size) HO.out gB gB rfl (Rep.flat.own (S:=fun _=>False) (Rep.kAr HS.out)) rfl (fun _ _ h=>h) cK (fun _ h=>h.elim) fV dJ ?_)
 intro v3 w3 ho3 hb3 hz3
 have HO3:=yD ho3
 obtain ⟨a3,n3,c3,hv,HN3⟩:=HO3.out.parts;obtain rfl:=hv
 have E3:=E2.trans (hb3.mono fV)
 have E3B:=E2B.trans hb3
 clear ho3 hb3
 go_upto_region 2 with fail
 generalize hwC:World.alloc w3 _=wC
 have EC:Below w3.heap.size w3 wC:=dD
 have B6:wC.heap[w3.heap.size]?=some (.cells #[.slice a3 n3 c3] 27 (0,0)):=by rw [← hwC];exact kX rfl
 have K6:=kT B6 (j:=0) rfl
 clear hwC
 have hz3:=E3B.size
 have hzC:=EC.size
 have ECB:=E3B.trans (EC.mono hz3)
 have E4:=(tQ E3 EC)
 replace B0:=kC B0 ECB
 replace B1:=kC B1 ECB
 clear K0
 have K0:=kT B0 (j:=0) rfl
 have HOC:=yD (HO3.out.below EC)
 clear HO HO3
 go_wp2_with fail
 refine (zI (n:=n++[s]) HOC.out.zQ).mono ?_
 rintro e w4 ⟨rfl,hb4⟩
 have hz4:=hb4.size
 have HO4:=yD (HOC.out.below hb4)
 have E5:=(tQ E4 hb4)
 replace K0:=cL hb4 K0
 replace K6:=cL hb4 K6
 replace B1:=kC B1 hb4
 have K1:=kT B1 (j:=0) rfl
 have F1:=frozen_of_row w4 (w.heap.size + 1) 0 _ _ B1
 clear HOC B0 B6 hb4
 generalize hv:kAh (n++[s])=b
 cases b
 · go_wp2_with fail
   refine (kIt (HN.out.below E5)).mono ?_
   rintro e w5 ⟨a5,n5,c5,rfl,O5,hb5⟩
   have hz5:=hb5.size
   have HO5:=yD O5
   have E6:=(tQ E5 hb5)
   have R1:=cL hb5 K1
   have F2:=frozen_of_row w5 (w.heap.size + 1) 0 _ _ (kC B1 hb5)
   clear O5 hb5 K1 F1
   go_wp2
   refine bodyPost_ret (v:=.tuple #[.agg #[.slice a5 n5 c5],.bool false]) (by simp [results,Tryz.results95,go_sem,R1,F2]) rfl ⟨_,_,_,_,rfl,hv.symm,?_,?_⟩
   · exact (HO5.out.setCell (fun q=>by have:=q.1;simp at this;omega)).wide bG
   exact E6.setCell fZ _
 go_wp2
 refine bodyPost_ret (v:=.tuple #[.agg #[.slice a3 n3 c3],.bool true]) (by simp [results,Tryz.results95,go_sem,K1,F1]) rfl ⟨_,_,_,_,rfl,hv.symm,?_,?_⟩
 · exact (HO4.out.setCell (fun q=>by have:=q.1;simp at this;omega)).wide bE
 exact E5.setCell fZ _
def ParsedName (w:World) (e:Ending) (w':World):Prop:=∃ a c b ps,e=.returned (.tuple #[.agg #[.slice a ps.length c],.bool b])∧kV.own w' [.slice a ps.length c] ps (Btw w.heap.size w'.heap.size)∧ps.length≤64∧Hid (kz ps)∧Below w.heap.size w w'
theorem kFs {w:World} {s:ByteArray} (hs:s.size≤64) :
    Calls Tryz.prog 84 #[.string s] w (ParsedName w):=by
 go_enter Tryz.func84,Tryz.ntmps84
 cases hq:(s.toList==[47])
 case true =>
  go_wp2
  refine bodyPost_ret (v:=.tuple #[.agg #[.slice none 0 0],.bool true]) (by simp [results,Tryz.results84,go_sem]) rfl ⟨none,0,true,[],rfl,Rep.yt,by simp,yD kz.nil,?_⟩
  exact bB
 go_wp2_with fail
 refine (kHj (by0:=47) hs fU).mono ?_
 rintro e w2 ⟨v,rfl,ps,O2,hp0,hp1,hsm2,hb2⟩
 have HSM:=yD (hsm2.drop 1)
 clear hsm2
 obtain ⟨b2,c2,rfl,hS2,hlt2,hc2,hc3⟩:=Rep.kAn O2 hp0
 have hz2:=hb2.size
 have HO:=yD O2
 clear O2
 have hp0I:(0:Int) < ps.length:=fV
 have h1I:(1:Int)≤ps.length:=fV
 have hcI:(ps.length:Int)≤c2:=fV
 have hcb:c2≤9223372036854775807:=hc3
 go_upto_region 5 with fail
 have HD:Hid (1 < ps.length→(Rep.slice 9 Rep.str).own w2 [.slice (if c2=1 then some ⟨b2,0,none⟩ else some ⟨b2,1,none⟩) (ps.length - 1) (c2 - 1)] (ps.drop 1) (Btw (w.heap.size + 1) w2.heap.size)):=yD (by
   intro h1
   have h:=(HO.out.own dY).wide (T:=Btw (w.heap.size + 1) w2.heap.size) (fun j hj=>⟨by have:=hj.1;simp at this;omega,hj.2⟩)
   have hc1:¬ c2=1:=fV
   rw [if_neg hc1]
   exact Rep.drop_own h (k:=1) fV)
 generalize (if c2=1 then some ⟨b2,0,none⟩ else some ⟨b2,1,none⟩:Option Addr)=A at *
 obtain ⟨cb,co,he,c0,cr,AC0⟩:=Rep.kAd (HO.out.zQ) (i:=0) hp0 rfl
 simp only [Option.some.injEq,Addr.mk.injEq,and_true] at he
 obtain ⟨rfl,rfl⟩:=he
 have cr2:[c0]=[.string ps[0]]:=(Rep.jv cr).1
 obtain rfl:c0=.string ps[0]:=by simpa using cr2
 clear cr cr2
 generalize ps[0]=y0 at *
 have HPL:=yD (show (ps.drop 1).length=ps.length - 1 by simp)
 generalize ps.drop 1=qs at *
 have HM:=yD hp1
 generalize hwC:World.alloc w2 _=wC
 have EC:Below w2.heap.size w2 wC:=dD
 have B2:w2.heap[w.heap.size]?=some (.cells #[.slice none 0 0] 27 (0,0)):=kC (kX rfl) hb2
 have B5:wC.heap[w2.heap.size]?=some (.cells #[.slice A (ps.length - 1) (c2 - 1)] 27 (0,0)):=by rw [← hwC];exact kX rfl
 clear hwC
 have hzC:=EC.size
 have hz0:w.heap.size + 1≤w2.heap.size:=by simpa using hz2
 have E2:Below w.heap.size w wC:=Below.trans (bR.alloc nL _) ((hb2.trans (EC.mono hz2)).mono fZ)
 replace B2:=kC B2 EC
 replace HD:=yD (fun q=>(HD.out q).below EC)
 have AC:=cL EC AC0
 have K5:=kT B5 (j:=0) rfl
 clear AC0 hb2 hS2 HO hz2
 by_cases h2:(ps.length:Int) < 2
 · have K2:=kT B2 (j:=0) rfl
   have F2:=frozen_of_row wC w.heap.size 0 _ _ B2
   clear AC
   go_wp2
   refine bodyPost_ret (v:=.tuple #[.agg #[.slice none 0 0],.bool false]) bO rfl ⟨none,0,false,[],rfl,Rep.yt,by simp,yD kz.nil,?_⟩
   exact E2.setCell fZ _
 cases hy:y0.toList.isEmpty
 case false =>
  have K2:=kT B2 (j:=0) rfl
  have F2:=frozen_of_row wC w.heap.size 0 _ _ B2
  go_wp2
  refine bodyPost_ret (v:=.tuple #[.agg #[.slice none 0 0],.bool false]) bO rfl ⟨none,0,false,[],rfl,Rep.yt,by simp,yD kz.nil,?_⟩
  exact E2.setCell fZ _
 replace HD:=yD (HD.out fV)
 go_wp2_with fail
 refine (zI (n:=qs) HD.out.rd.1).mono ?_
 rintro e w3 ⟨rfl,hb3⟩
 have hz3:=hb3.size
 replace HD:=yD (HD.out.below hb3)
 have E3:=(tQ E2 hb3)
 replace K5:=cL hb3 K5
 replace B2:=kC B2 hb3
 have K2:=kT B2 (j:=0) rfl
 have F2:=frozen_of_row w3 w.heap.size 0 _ _ B2
 clear AC
 generalize hv:kAh qs=b
 cases b
 · go_wp2
   refine bodyPost_ret (v:=.tuple #[.agg #[.slice none 0 0],.bool false]) bO rfl ⟨none,0,false,[],rfl,Rep.yt,by simp,yD kz.nil,?_⟩
   exact E3.setCell fZ _
 go_wp2
 refine bodyPost_ret (v:=.tuple #[.agg #[.slice A (ps.length - 1) (c2 - 1)],.bool true]) bO rfl ⟨A,c2 - 1,true,qs,by rw [HPL.out],?_,by rw [HPL.out];omega,HSM,E3.setCell fZ _⟩
 rw [HPL.out]
 exact ((HD.out.touch (kF w3 w.heap.size 0 _) dI).wide bE)
theorem kGi {w:World} {s:ByteArray} (hs:s.size≤64) :
    Calls Tryz.prog 66 #[.string s] w fun e w'=>∃ a c ps,e=.returned (.agg #[.slice a ps.length c])∧kV.own w' [.slice a ps.length c] ps (Btw w.heap.size w'.heap.size)∧ps.length≤64∧kz ps∧Below w.heap.size w w':=by
 go_enter Tryz.func66,Tryz.ntmps66
 go_upto_region 1 with fail
 generalize hw_:World.alloc w _=w1
 have E_w1:Below w.heap.size w w1:=dC
 have R:w1.heap[w.heap.size]?=some (.cells #[.slice none 0 0] 27 (0,0)):=dN
 have z_w1:w.heap.size + 1≤w1.heap.size:=fA
 clear hw_
 have EE:=E_w1
 clear E_w1
 go_wp2_with fail
 refine (kFs hs).mono ?_
 rintro e w2 ⟨a,c,b,ps,rfl,hr,hl,HSM,hb⟩
 have z_w2:=hb.size
 replace R:=kC R hb
 replace EE:=(tQ EE hb)
 clear hb
 have HR:=yD (hr.wide (T:=Btw (w.heap.size + 1) w2.heap.size) cO)
 clear hr
 go_upto_region 2 with fail
 generalize hw_:World.alloc w2 _=w3
 have E_w3:Below w2.heap.size w2 w3:=dC
 have B:w3.heap[w2.heap.size]?=some (.cells #[.slice a ps.length c] 27 (0,0)):=dN
 have z_w3:w2.heap.size + 1≤w3.heap.size:=fA
 clear hw_
 replace R:=kC R E_w3
 replace HR:=yD (HR.out.below E_w3)
 replace EE:=(tQ EE E_w3)
 clear E_w3
 have KR_0:w3.cell? ⟨w.heap.size,0,none⟩=some (.slice none 0 0):=kT R rfl
 have KB_0:w3.cell? ⟨w2.heap.size,0,none⟩=some (.slice a ps.length c):=kT B rfl
 have FR_0:w3.frozen? ⟨w.heap.size,0,none⟩=false:=frozen_of_row w3 (w.heap.size) 0 _ _ R
 go_wp2
 refine bodyPost_ret (v:=.agg #[.slice a ps.length c]) (by simp [results,Tryz.results66,go_sem,KR_0,FR_0]) rfl ⟨_,_,ps,rfl,?_,hl,HSM.out,EE.setCell fZ _⟩
 exact (HR.out.touch (kF w3 w.heap.size 0 _) dI).wide bE
theorem kIs {w0 w:World} {p:Nat} (hc:Cur w0 w p) :
    Calls Tryz.prog 83 #[.pointer (some ⟨p,0,none⟩)] w fun e w'=>∃ a n c ps,e=.returned (.agg #[.slice a n c])∧Rep.kH 9 Rep.str w' (.slice a n c) ps (Btw w.heap.size w'.heap.size)∧ps.length≤3∧kz ps∧Cur w0 w' p∧Touch (fun k=>k=p) w w':=by
 go_enter Tryz.func83,Tryz.ntmps83
 obtain ⟨hp0,hp1⟩:=hc.lt
 go_upto_region 1 with fail
 generalize hw_:World.alloc w _=w1
 have E_w1:Below w.heap.size w w1:=dC
 have R:w1.heap[w.heap.size]?=some (.cells #[.slice none 0 0] 27 (0,0)):=dN
 have z_w1:w.heap.size + 1≤w1.heap.size:=fA
 clear hw_
 replace hc:=hc.below E_w1
 have TE:Touch (fun k=>k=p) w w1:=Touch.of_below E_w1
 clear E_w1
 go_upto_region 2 with fail
 generalize hw_:World.alloc w1 _=w2
 have E_w2:Below w1.heap.size w1 w2:=dC
 have B:w2.heap[w1.heap.size]?=some (.cells #[.slice none 0 0] 27 (0,0)):=dN
 have z_w2:w1.heap.size + 1≤w2.heap.size:=fA
 clear hw_
 replace R:=kC R E_w2
 replace hc:=hc.below E_w2
 replace TE:=TE.trans (Touch.of_below E_w2)
 clear E_w2
 go_wp2_with fail
 refine (kv (n:=4) hc fU).mono ?_
 rintro e w3 ⟨m,hm0,hm1,hm2,rfl,hcN,htN⟩
 have z_w3:=htN.size
 replace R:=htN.kC R fV
 replace B:=htN.kC B fV
 replace TE:=TE.trans htN
 clear hc htN
 have hc:=hcN
 clear hcN
 replace hm1:=hm1 fU
 clear hm2
 obtain ⟨m,rfl⟩:=Int.eq_ofNat_of_zero_le hm0
 go_wp2
 go_loopw [4] (fun i wr=>∃ (j:Nat) (a:Option Addr) (n c:Nat) (ps:List ByteArray),i=.int .i64 j∧ps.length + j≤3∧Hid (kz ps)∧Hid (Rep.kH 9 Rep.str wr (.slice a n c) ps (Btw w2.heap.size wr.heap.size))∧wr.heap[w.heap.size]?=some (.cells #[.slice none 0 0] 27 (0,0))∧wr.heap[w1.heap.size]?=some (.cells #[.slice a n c] 27 (0,0))∧w2.heap.size≤wr.heap.size∧Cur w0 wr p∧Touch (fun k=>k=p) w wr) (fun i _=>(intOf i).toNat)
 case atStart=>exact ⟨m,none,0,0,[],rfl,by simp;omega,yD kz.nil,yD Rep.kH.void,R,B,z_w3,hc,TE⟩
 clear hc TE R B
 obtain ⟨j,a,n,c,ps,rfl,hj,HSM,HO,R,B,hzr,hc,TE⟩:=hrel
 cases j with
 | zero =>
   have KR_0:wr.cell? ⟨w.heap.size,0,none⟩=some (.slice none 0 0):=kT R rfl
   have KB_0:wr.cell? ⟨w1.heap.size,0,none⟩=some (.slice a n c):=kT B rfl
   have FR_0:wr.frozen? ⟨w.heap.size,0,none⟩=false:=frozen_of_row wr (w.heap.size) 0 _ _ R
   go_wp2
   refine bodyPost_ret (v:=.agg #[.slice a n c]) (by simp [results,Tryz.results83,go_sem,KR_0,FR_0]) rfl ⟨_,_,_,ps,rfl,?_,by omega,HSM.out,hc.touch (kF wr w.heap.size 0 _) fV dZ,TE.jU (kF wr w.heap.size 0 _) fV⟩
   exact (HO.out.touch (kF wr w.heap.size 0 _) dI).wide bE
 | succ j =>
   have hjI:(0:Int) < (j:Int) + 1:=fV
   go_upto_region 5 with fail
   refine kBj (fun W=>Touch (fun k=>k=p) wr W∧Cur w0 W p) (fun _=>True) [] [(0,true),(1,true),(2,false),(3,false),(4,false)] [(5,true),(6,true),(7,true),(8,false)] fP fP bW (⟨Touch.of_below bR.drew,hc.below bR.drew⟩) ?_
   intro wS HS
   simp only [kK,jy,List.getElem?_cons_succ,List.getElem?_cons_zero,List.map_cons,List.map_nil]
   refine pre_nil ?_
   refine zZ (v:=?_) rfl (fun W hW=>?_) ?_;rotate_left;(· have A_0:=kT (hW.1.kC B fV) (j:=0) (v:=.slice a n c) rfl;clear hW;go_simp;try with_reducible rfl)
   refine wkP ?_
   refine zZ (v:=?_) rfl (fun W hW=>?_) ?_;rotate_left;(· go_simp;try with_reducible rfl)
   refine wkP ?_
   refine kAk rfl (fun K hK=>?_);go_simp;refine hK _ _ ⟨HS.1.trans (Touch.of_below (bR.alloc nL _)),HS.2.below (bR.alloc nL _)⟩ ?_;clear hK K
   refine wkP ?_
   refine kAk rfl (fun K hK=>?_);go_simp;refine (zq (HS.2.below (bR.alloc nL _)) (Rep.kGb _ [{ data:=#[97] },{ data:=#[98] },{ data:=#[110,101,119,115] },{ data:=#[120,45,49] },{ data:=#[49] },{ data:=#[107,101,121] }] fU fU) (by have:=HS.1.size;omega) fU fU).mono ?_;rintro e wS1 ⟨y,hyM,hyR,rfl,hcS,htS⟩;replace HS:=And.intro ((HS.1.trans (Touch.of_below (bR.alloc nL _))).trans htS) hcS;clear hcS htS;refine hK _ _ HS ?_;clear hK K
   refine wkP ?_
   refine kAk rfl (fun K hK=>?_);go_simp;have hzA:=HS.1.size;refine (kEh ((HO.out.touch HS.1 dI).own dY).rd fV (by have:=Rep.kCf fU hyM;unfold Big;omega)).mono ?_;rintro e wS2 ⟨a2,n2,c2,b2,rfl,hb2,hO2,hbS⟩;replace HS:=And.intro (HS.1.trans (Touch.of_below hbS)) (HS.2.below hbS);refine hK _ _ HS ?_;clear hK K
   refine wkP ?_
   have hz4:=HS.1.size
   have hz5:=hbS.size
   have R4:=HS.1.kC R fV
   have B4:=HS.1.kC B fV
   have TE4:=TE.trans HS.1
   have hc4:=HS.2
   have hlq:(if b2 then ps++[y] else ps).length≤ps.length + 1:=by split <;> simp
   have HSM2:=yD (show kz (if b2 then ps++[y] else ps) by split;exact HSM.out.snoc (Rep.kCf fU hyM);exact HSM.out)
   generalize (if b2 then ps++[y] else ps)=qs at *
   have HO4:=yD (hO2.wide (T:=Btw w2.heap.size wS2.heap.size) (fun k hk=>⟨by have:=hk.1;omega,hk.2⟩))
   clear hO2 HO R B TE hc HS hbS
   have K4:wS2.cell? ⟨w1.heap.size,0,none⟩=some (.slice a n c):=kT B4 rfl
   have F4:wS2.frozen? ⟨w1.heap.size,0,none⟩=false:=frozen_of_row wS2 w1.heap.size 0 _ _ B4
   refine kDo trivial ?_
   refine wkR ?_
   refine wkR ?_
   refine wkR ?_
   refine jF rfl (fun K hK=>?_);go_simp;refine hK _ _ trivial ?_;clear hK K
   refine wkP ?_
   refine kQ ?_
   generalize hw_:World.setCell wS2 _ _=w5
   have T5:Touch (fun k=>k=w1.heap.size) wS2 w5:=by rw [← hw_];exact kF _ _ _ _
   have B5:w5.heap[w1.heap.size]?=some (.cells #[.slice a2 n2 c2] 27 (0,0)):=by rw [← hw_];exact zu B4 0
   have hz5:w5.heap.size=wS2.heap.size:=by rw [← hw_];simp [World.setCell]
   clear hw_ K4 F4
   have HO5:=yD ((HO4.out.touch T5 dI).wide (T:=Btw w2.heap.size w5.heap.size) (fun k hk=>⟨hk.1,by have:=hk.2;omega⟩))
   have H5:=yD hz5
   clear hz5
   go_wp2
   go_roundw
   case rel=>exact ⟨j,a2,n2,c2,qs,by go_num,by omega,HSM2,HO5,T5.kC R4 fV,B5,by have:=H5.out;omega,hc4.touch T5 fV dZ,TE4.jU T5 fV⟩
   case measure=>simp [intOf]
theorem specl4Any_s {w0 w:World} {p:Nat} (hc:Cur w0 w p) :
    Calls Tryz.prog 65 #[.pointer (some ⟨p,0,none⟩)] w fun e w'=>∃ a c ps,e=.returned (.agg #[.slice a ps.length c])∧kV.own w' [.slice a ps.length c] ps (Btw w.heap.size w'.heap.size)∧ps.length≤8∧kz ps∧Cur w0 w' p∧Touch (fun k=>k=p) w w':=by
 go_enter Tryz.func65,Tryz.ntmps65
 obtain ⟨hp0,hp1⟩:=hc.lt
 go_upto_region 1 with fail
 generalize hw_:World.alloc w _=w1
 have E_w1:Below w.heap.size w w1:=dC
 have R:w1.heap[w.heap.size]?=some (.cells #[.slice none 0 0] 27 (0,0)):=dN
 have z_w1:w.heap.size + 1≤w1.heap.size:=fA
 clear hw_
 replace hc:=hc.below E_w1
 have TE:Touch (fun k=>k=p) w w1:=Touch.of_below E_w1
 clear E_w1
 go_wp2_with fail
 refine (kIs hc).mono ?_
 rintro e w2 ⟨a,n,c,ps,rfl,hO,hps,hsm_,hcN,htN⟩
 have z_w2:=htN.size
 replace R:=htN.kC R fV
 replace TE:=TE.trans htN
 clear hc htN
 have hc:=hcN
 clear hcN
 have HSM:=yD hsm_
 clear hsm_
 have HO:=yD (hO.wide (T:=Btw w1.heap.size w2.heap.size) (fun _ h=>h))
 clear hO
 go_upto_region 2 with fail
 generalize hw_:World.alloc w2 _=w3
 have E_w3:Below w2.heap.size w2 w3:=dC
 have B:w3.heap[w2.heap.size]?=some (.cells #[.slice a n c] 27 (0,0)):=dN
 have z_w3:w2.heap.size + 1≤w3.heap.size:=fA
 clear hw_
 replace R:=kC R E_w3
 replace HO:=yD (HO.out.below E_w3)
 replace hc:=hc.below E_w3
 replace TE:=TE.trans (Touch.of_below E_w3)
 clear E_w3
 go_wp2_with fail
 refine (kv (n:=8) hc fU).mono ?_
 rintro e w4 ⟨x,hx0,hx1,hx2,rfl,hcN,htN⟩
 have z_w4:=htN.size
 replace R:=htN.kC R fV
 replace B:=htN.kC B fV
 replace HO:=yD (HO.out.touch htN bT)
 replace TE:=TE.trans htN
 clear hc htN
 have hc:=hcN
 clear hcN
 replace hx1:=hx1 fU
 clear hx2
 obtain ⟨m,rfl⟩:=Int.eq_ofNat_of_zero_le hx0
 by_cases hm0:m=0
 · subst hm0
   go_upto_region 4 with fail
   refine kBj (fun W=>Touch (fun k=>k=p) w4 W∧Cur w0 W p) (fun _=>True) [] [(0,true),(1,true),(2,true),(3,false),(4,false),(5,false)] [(6,false),(7,true),(8,false)] fP fP bW (⟨Touch.of_below bR.drew,hc.below bR.drew⟩) ?_
   intro wS HS
   simp only [kK,jy,List.getElem?_cons_succ,List.getElem?_cons_zero,List.map_cons,List.map_nil]
   refine pre_nil ?_
   refine zZ (v:=?_) rfl (fun W hW=>?_) ?_;rotate_left;(· go_simp;try with_reducible rfl)
   refine wkP ?_
   refine zZ (v:=?_) rfl (fun W hW=>?_) ?_;rotate_left;(· have A_0:=kT (hW.1.kC B fV) (j:=0) (v:=.slice a n c) rfl;clear hW;go_simp;try with_reducible rfl)
   refine wkP ?_
   refine zZ (v:=?_) rfl (fun W hW=>?_) ?_;rotate_left;(· go_simp;try with_reducible rfl)
   refine wkP ?_
   refine kAk rfl (fun K hK=>?_);go_simp;refine hK _ _ ⟨HS.1.trans (Touch.of_below (bR.alloc nL _)),HS.2.below (bR.alloc nL _)⟩ ?_;clear hK K
   refine wkP ?_
   refine kAk rfl (fun K hK=>?_);go_simp;refine (zq (HS.2.below (bR.alloc nL _)) (Rep.kGb _ [{ data:=#[] },{ data:=#[65] },{ data:=#[116,111,111,108,111,110,103,120,120] },{ data:=#[97,47,98] },{ data:=#[32] },{ data:=#[101,105,103,104,116,56,56,56] }] fU fU) (by have:=HS.1.size;omega) fU fU).mono ?_;rintro e wS1 ⟨y,hyM,hyR,rfl,hcS,htS⟩;replace HS:=And.intro ((HS.1.trans (Touch.of_below (bR.alloc nL _))).trans htS) hcS;clear hcS htS;refine hK _ _ HS ?_;clear hK K
   refine wkP ?_
   refine kAk rfl (fun K hK=>?_);go_simp;have HLit:=yD (Rep.lit_one (e:=9) wS1 (Rep.kAr (s:=y) (by have:=Rep.kCf fU hyM;unfold Big;omega)));have HS5:Touch (fun k=>k=p) w4 (World.alloc wS1 (Obj.cells #[Value.string y] 9))∧Cur w0 (World.alloc wS1 (Obj.cells #[Value.string y] 9)) p:=⟨HS.1.trans (Touch.of_below (bR.alloc nL _)),HS.2.below (bR.alloc nL _)⟩;generalize hwU:World.alloc wS1 (Obj.cells #[Value.string y] 9)=wU at HLit HS5 ⊢;clear hwU;refine hK _ _ HS5 ?_;clear hK K HS
   refine wkP ?_
   have hz5:=HS5.1.size
   have R5:=HS5.1.kC R fV
   have B5:=HS5.1.kC B fV
   have TE5:=TE.trans HS5.1
   have hc5:=HS5.2
   replace HO:=yD (HO.out.touch HS5.1 bT)
   clear R B TE hc
   obtain ⟨v3,u3,hr3,ho3,ht3⟩:=Rep.kHy (P:=Tryz.prog) (t:=25) (ty:=25) (r:=Rep.str) (e:=9) (v:=.slice a n c) (xs:=ps) Tryz.underlying25 jW rfl fU fU Rep.yL HO.out (HLit.out.own (by simp [Big])).rd fQ
   have hz6:=ht3.size
   have B6:=ht3.kC B5 (fun q=>by have:=q.2;omega)
   have R6:=ht3.kC R5 (fun q=>by have:=q.1;omega)
   have TE6:=TE5.kFz ht3 dI
   have hc6:=hc5.touch ht3 (fun q=>by have:=q.1;omega) dI
   obtain ⟨a3,n3,c3,hv3,HN3⟩:=ho3.parts
   obtain rfl:=hv3
   have HO6:=yD ho3
   have HSMq:=yD (HSM.out.snoc (Rep.kCf fU hyM))
   generalize hqs:ps++[y]=qs at *
   have hql:qs.length≤4:=by rw [← hqs];simp;omega
   have K6:u3.cell? ⟨w2.heap.size,0,none⟩=some (.slice a n c):=kT B6 rfl
   have F6:u3.frozen? ⟨w2.heap.size,0,none⟩=false:=frozen_of_row u3 w2.heap.size 0 _ _ B6
   clear hqs ho3 HO HLit B5 R5 TE5 hc5 HS5 ht3
   refine kDo trivial ?_
   refine jF rfl (fun K hK=>?_);refine Rep.kM _ _ _ rfl gB gB hr3 ?_;refine hK _ _ trivial ?_;clear hK K
   refine wkP ?_
   refine wkR ?_
   refine jF rfl (fun K hK=>?_);go_simp;refine hK _ _ trivial ?_;clear hK K
   refine wkP ?_
   refine kQ ?_
   generalize hw_:World.setCell u3 _ _=w7
   have T7:Touch (fun k=>k=w2.heap.size) u3 w7:=by rw [← hw_];exact kF _ _ _ _
   have B7:w7.heap[w2.heap.size]?=some (.cells #[.slice a3 n3 c3] 27 (0,0)):=by rw [← hw_];exact zu B6 0
   have z7:=T7.size
   clear hw_ K6 F6
   have HO7:=yD (HO6.out.touch T7 (fun k hk=>by rcases hk with hk | hk;(have:=hk.2;omega);omega))
   have R7:=T7.kC R6 fV
   have hc7:=hc6.touch T7 fV dZ
   have TE7:=TE6.jU T7 fV
   clear HO6 R6 hc6 TE6 T7
   have KR:w7.cell? ⟨w.heap.size,0,none⟩=some (.slice none 0 0):=kT R7 rfl
   have KB:=kT B7 (j:=0) (v:=.slice a3 n3 c3) rfl
   have FR:w7.frozen? ⟨w.heap.size,0,none⟩=false:=frozen_of_row w7 w.heap.size 0 _ _ R7
   obtain ⟨_,_,_,hpe,HPN⟩:=HO7.out.parts
   simp only [Value.slice.injEq] at hpe
   have hnl:=yD (hpe.2.1.trans HPN.out)
   clear hpe HPN
   go_wp2
   refine bodyPost_ret (v:=.agg #[.slice a3 n3 c3]) bP rfl ⟨_,_,qs,by rw [hnl.out],?_,by omega,HSMq.out,hc7.touch (kF w7 w.heap.size 0 _) fV dZ,TE7.jU (kF w7 w.heap.size 0 _) fV⟩
   have hq:=(HO7.out.touch (kF w7 w.heap.size 0 (.slice a3 n3 c3)) (fun k hk=>by rcases hk with hk | hk;(have:=hk.1;omega);omega)).own dY
   rw [hnl.out] at hq ⊢
   exact hq.wide (fun j hj=>⟨by rcases hj with hj | hj;(have:=hj.1;omega);omega,by rcases hj with hj | hj;(have:=hj.2;simp [World.setCell];omega);(simp [World.setCell];omega)⟩)
 have hm0I:¬ (m:Int)=0:=fV
 by_cases hm1:m=1
 · subst hm1
   go_wp2
   go_loopw [] (fun wr=>∃ (a:Option Addr) (n c:Nat) (ps:List ByteArray),ps.length≤8∧Hid (kz ps)∧Hid (n=ps.length)∧Hid (Rep.kH 9 Rep.str wr (.slice a n c) ps (fun k=>(w1.heap.size≤k∧k < w2.heap.size)∨(w4.heap.size≤k∧k < wr.heap.size)))∧wr.heap[w.heap.size]?=some (.cells #[.slice none 0 0] 27 (0,0))∧wr.heap[w2.heap.size]?=some (.cells #[.slice a n c] 27 (0,0))∧w4.heap.size≤wr.heap.size∧Cur w0 wr p∧Touch (fun k=>k=p) w wr) (fun wr=>match wr.cell? ⟨w2.heap.size,0,none⟩ with | some (.slice _ n _)=>9 - n | _=>0)
   case atStart =>
    obtain ⟨_,_,_,hpe,HPN⟩:=HO.out.parts
    simp only [Value.slice.injEq] at hpe
    exact ⟨a,n,c,ps,by omega,HSM,yD (hpe.2.1.trans HPN.out),yD (HO.out.wide (fun k hk=>.inl hk)),R,B,Nat.le_refl _,hc,TE⟩
   clear hc TE R B HO hps HSM
   obtain ⟨a,n,c,ps,hps,HSM,HN,HO,R,B,hzr,hc,TE⟩:=hrel
   have KM:=yD (show wr.cell? ⟨w2.heap.size,0,none⟩=some (.slice a n c) from kT B rfl)
   have hnI:(n:Int)=ps.length:=by rw [HN.out]
   have HNI:=yD hnI
   clear hnI
   go_upto_region 6 with fail
   have FX:=yD (fun (W:World) (hW:Touch (fun k=>k=p) wr W∧Cur w0 W p)=>kT (hW.1.kC B fV) (j:=0) (v:=.slice a n c) rfl)
   refine kI (fun W=>Touch (fun k=>k=p) wr W∧Cur w0 W p) [true,true,true,true,false,true,true] fP fP bW (⟨Touch.of_below bR.drew,hc.below bR.drew⟩) ?_
   intro wS HS
   iterate 4
    all_goals refine wkR ?_
   all_goals first|(refine kJ rfl HS ?_)|(refine jF rfl (fun K hK=>?_);go_simp;refine (kv (n:=3) HS.2 fU).mono ?_;rintro e wS1 ⟨x,hx0,hx1,hx2,rfl,hcS,htS⟩;replace hx1:=hx1 fU;clear hx2;replace HS:=And.intro (HS.1.trans htS) hcS;clear hcS htS;have hw:IntKind.i64.wrap (5 + x)=5 + x:=IntWalk.i64_in _ fV;refine hK _ _ HS ?_;clear hK K)
   all_goals refine wkP ?_
   all_goals refine wkR ?_
   all_goals (have hg6:=True.intro;first|(refine wkG (fun b hg6=>?_);cases b;all_goals first | exact Bool.noConfusion hg6 | simp only [zU,zV] at hg6 | skip) | refine wkR ?_)
   all_goals refine wkP ?_
   all_goals refine kQ ?_
   all_goals have hzs:=HS.1.size
   all_goals replace R:=HS.1.kC R fV
   all_goals replace B:=HS.1.kC B fV
   all_goals replace TE:=TE.trans HS.1
   all_goals have hc5:=HS.2
   all_goals replace HO:=yD (HO.out.touch HS.1 (fun k hk=>by rcases hk with hk | hk <;> omega))
   all_goals clear hc HS
   · clear hg6
     have KR:wS1.cell? ⟨w.heap.size,0,none⟩=some (.slice none 0 0):=kT R rfl
     have KB:=kT B (j:=0) (v:=.slice a n c) rfl
     have FR:wS1.frozen? ⟨w.heap.size,0,none⟩=false:=frozen_of_row wS1 w.heap.size 0 _ _ R
     obtain ⟨_,_,_,hpe,HPN⟩:=HO.out.parts
     simp only [Value.slice.injEq] at hpe
     have hnl:=yD (hpe.2.1.trans HPN.out)
     clear hpe HPN
     go_wp2
     refine bodyPost_ret (v:=.agg #[.slice a n c]) bP rfl ⟨_,_,ps,by rw [hnl.out],?_,by omega,HSM.out,hc5.touch (kF wS1 w.heap.size 0 _) fV dZ,TE.jU (kF wS1 w.heap.size 0 _) fV⟩
     have hq:=(HO.out.touch (kF wS1 w.heap.size 0 (.slice a n c)) (fun k hk=>by rcases hk with hk | hk <;> omega)).own dY
     rw [hnl.out] at hq ⊢
     exact hq.wide (fun j hj=>⟨by rcases hj with hj | hj <;> omega,by rcases hj with hj | hj <;> (simp [World.setCell];omega)⟩)
   have hlt:(n:Int) < 5 + x:=by simpa using hg6
   have hnl:=HN.out
   have KB:wS1.cell? ⟨w2.heap.size,0,none⟩=some (.slice a n c):=kT B rfl
   have KB2:=cL (Rep.jm wS1 (.cells #[.string { data:=#[109] }] 9)) KB
   clear hg6 hnl
   go_wp2_with (at_builtin;refine Rep.kIl rfl _ _ 25 rfl (r:=Rep.str) (e:=9) Tryz.underlying25 jW rfl fU fU Rep.yL (HO.out.below (Rep.jm wS1 (.cells #[.string { data:=#[109] }] 9))) gB gB ((Rep.lit_one (e:=9) wS1 (Rep.kAr (s:={ data:=#[109] }) fU)).own (by simp [Big])).rd fQ ?_)
   intro v6 w6 ho6 ht6
   have T6:=(Touch.of_below (S:=fun k=>(w1.heap.size≤k∧k < w2.heap.size)∨(w4.heap.size≤k∧k < wr.heap.size)) (Rep.jm wS1 (.cells #[.string { data:=#[109] }] 9))).trans ht6
   have z6:=T6.size
   have zA:wS1.heap.size + 1≤w6.heap.size:=by have:=ht6.size;simpa using this
   have R6:=T6.kC R bX
   have B6:=T6.kC B bX
   have TE6:=TE.kFz T6 bS
   have hc6:=hc5.touch T6 bX bS
   have HO6:=yD (ho6.wide (T:=fun k=>(w1.heap.size≤k∧k < w2.heap.size)∨(w4.heap.size≤k∧k < w6.heap.size)) (fun k q=>by rcases q with (q | q) | q;exact .inl q;exact .inr ⟨q.1,by omega⟩;exact .inr ⟨by have:=q.1;omega,q.2⟩))
   obtain ⟨a6,n6,c6,hv6,HN6⟩:=ho6.parts
   obtain rfl:=hv6
   have hql:(ps++[({ data:=#[109] }:ByteArray)]).length=ps.length + 1:=fZ
   have HSM6:=yD (HSM.out.snoc (y:={ data:=#[109] }) fU)
   generalize ps++[({ data:=#[109] }:ByteArray)]=qs at *
   have HQL:=yD hql
   clear hql ho6 ht6 T6 R B TE hc5 HO KB KB2
   have K6:w6.cell? ⟨w2.heap.size,0,none⟩=some (.slice a n c):=kT B6 rfl
   have F6:w6.frozen? ⟨w2.heap.size,0,none⟩=false:=frozen_of_row w6 w2.heap.size 0 _ _ B6
   go_wp2
   generalize hw_:World.setCell w6 _ _=w7
   have T7:Touch (fun k=>k=w2.heap.size) w6 w7:=by rw [← hw_];exact kF _ _ _ _
   have B7:w7.heap[w2.heap.size]?=some (.cells #[.slice a6 n6 c6] 27 (0,0)):=by rw [← hw_];exact zu B6 0
   have z7:=T7.size
   clear hw_ K6 F6
   have HO7:=yD ((HO6.out.touch T7 bS).wide (T:=fun k=>(w1.heap.size≤k∧k < w2.heap.size)∨(w4.heap.size≤k∧k < w7.heap.size)) (fun k q=>by rcases q with q | q;exact .inl q;exact .inr ⟨q.1,by omega⟩))
   go_roundw
   case rel=>exact ⟨a6,n6,c6,qs,by have:=HQL.out;have:=HNI.out;omega,HSM6,yD HN6.out,HO7,T7.kC R6 fV,B7,by omega,hc6.touch T7 fV dZ,TE6.jU T7 fV⟩
   simp only [KM.out,kT B7 (j:=0) (v:=.slice a6 n6 c6) rfl];have h1:=HQL.out;have h2:=HN6.out;have h3:=HNI.out;omega
 have hm1I:¬ (m:Int)=1:=fV
 have KR:w4.cell? ⟨w.heap.size,0,none⟩=some (.slice none 0 0):=kT R rfl
 have KB:=kT B (j:=0) (v:=.slice a n c) rfl
 have FR:w4.frozen? ⟨w.heap.size,0,none⟩=false:=frozen_of_row w4 w.heap.size 0 _ _ R
 obtain ⟨_,_,_,hpe,HPN⟩:=HO.out.parts
 simp only [Value.slice.injEq] at hpe
 have hnl:=yD (hpe.2.1.trans HPN.out)
 clear hpe HPN
 go_wp2
 refine bodyPost_ret (v:=.agg #[.slice a n c]) bP rfl ⟨_,_,ps,by rw [hnl.out],?_,by omega,HSM.out,hc.touch (kF w4 w.heap.size 0 _) fV dZ,TE.jU (kF w4 w.heap.size 0 _) fV⟩
 have hq:=(HO.out.touch (kF w4 w.heap.size 0 (.slice a n c)) dI).own dY
 rw [hnl.out] at hq ⊢
 exact hq.wide bE
end Go.Proofs.YthpgoddjglnoiaaGreatDoor

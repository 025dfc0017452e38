/-
  Data found by a node.
  Retransmissions.
  A sending marked.
  What an interest brings about: the answer.
-/
import Derived.Test.YtomdenfcfbkfbaaGreatAddQ
set_option linter.unusedVariables false
set_option linter.unusedSimpArgs false
set_option linter.unnecessarySimpa false
set_option maxRecDepth 100000
set_option maxHeartbeats 4000000
namespace Go.Proofs.YtomdenfcfbkfbaaGreat
open Go.RowKit
def fdD (n:ky) (t:Int) (x:yZ):yX:=if idxOf (isD n) x.1 < 0 then lkD n t x.2.1.2 else x.1.getD (idxOf (isD n) x.1).toNat voidD
def fdOk (n:ky) (t:Int) (x:yZ):Bool:=if idxOf (isD n) x.1 < 0 then lkOk n t x.2.1.2 else true
theorem fd_no {n:ky} {t:Int} {x:yZ} (h:idxOf (isD n) x.1 < 0):fdOk n t x=lkOk n t x.2.1.2∧fdD n t x=lkD n t x.2.1.2:=by simp [fdOk,fdD,h]
theorem fd_yes {n:ky} {t:Int} {x:yZ} {j:Nat} (hj:j < x.1.length) (h:idxOf (isD n) x.1=j):fdOk n t x=true∧fdD n t x=x.1[j]:=by
 unfold fdOk fdD
 rw [h,Int.toNat_natCast,zL hj,if_neg rJ,if_neg rJ]
 exact ⟨rfl,rfl⟩
theorem kVe {α:Type} {p:α→Bool} {x:List α} (h:¬ idxOf p x < 0):∃ k:Nat,k < x.length∧idxOf p x=k:=by
 unfold idxOf at *
 cases e:x.findIdx? p with
 | none=>rw [e] at h;simp at h
 | some i=>exact ⟨i,(List.findIdx?_eq_some_iff_getElem.1 e).1,rfl⟩
theorem kRd {w:World} {cx:List Value} {x:yZ} (hx:jM.rd w cx x) {cn:List Value} {n:ky} (hn:kZ.rd w cn n) {t:Int} (ht:-9223372036854775808≤t∧t≤9223372036854775807) :
    Calls Tryz.prog 72 #[.agg cx.toArray,.agg cn.toArray,.int .i64 t] w fun e w'=>∃ ds,e=.returned (.tuple #[.agg ds.toArray,.bool (fdOk n t x)])∧kg.own w' ds (fdD n t x) (Btw w.heap.size w'.heap.size)∧Below w.heap.size w w':=by
 clear ht
 have HN:=yD hn
 obtain ⟨q1,q2,q3⟩:=hx.2
 obtain ⟨av0,av2,av3,av4,av5,av6,rfl,a_0,a_1,a_2,a_3,a_4,a_5,a_6,a_7,a_8⟩:=jm hx.1
 obtain ⟨aa0,ap0,rfl,_⟩:=Rep.sl a_0
 obtain ⟨aa2,ap2,rfl,_⟩:=Rep.sl a_3
 obtain ⟨aa3,ap3,rfl,_⟩:=Rep.sl a_4
 obtain ⟨aa4,ap4,rfl,_⟩:=Rep.sl a_5
 obtain ⟨aa5,ap5,rfl,_⟩:=Rep.sl a_6
 obtain ⟨aa6,ap6,rfl,_⟩:=Rep.sl a_7
 have RA:Hid ((Rep.slice 113 kg).rd w [.slice aa0 x.1.length ap0] x.1):=yD ⟨a_0,q1⟩
 have RC:Hid (kH.rd w [.int .i64 x.2.1.1,.slice aa2 x.2.1.2.length ap2] x.2.1):=yD ⟨a_1,q2⟩
 clear hx q1 q2 q3 a_0 a_1 a_2 a_3 a_4 a_5 a_6 a_7 a_8
 obtain ⟨nv,rfl,n_0⟩:=kR hn.1
 obtain ⟨an,capn,rfl,_⟩:=Rep.sl n_0
 clear hn n_0
 go_enter Tryz.func72,Tryz.ntmps72
 go_upto_region 1 with fail
 generalize hwB:World.alloc (World.alloc (World.alloc w _) _) _=wB
 have EB:Below w.heap.size w wB:=by rw [← hwB];exact bD
 have hsz:wB.heap.size=w.heap.size + 3:=qF
 have K0:wB.cell? ⟨w.heap.size,0,none⟩=some (.slice aa0 x.1.length ap0):=nJ
 have K1:wB.cell? ⟨w.heap.size,1,none⟩=some (.int .i64 x.2.1.1):=nJ
 have K2:wB.cell? ⟨w.heap.size,2,none⟩=some (.slice aa2 x.2.1.2.length ap2):=nJ
 have N0:wB.cell? ⟨w.heap.size + 1,0,none⟩=some (.slice an n.length capn):=nJ
 have XR:Hid (wB.heap[w.heap.size + 2]?=some (.cells #[.slice none 0 0,.slice none 0 0,.slice none 0 0,.int .i64 0,.int .i64 0] 113 (0,0))):=yD mQ
 clear hwB
 go_wp2_with fail
 refine (kTk (RA.out.1.below EB) (HN.out.1.below EB)).mono ?_
 rintro e w1 ⟨rfl,hb1⟩
 have E1:=(tQ EB hb1)
 have hz1:=hb1.size
 replace K0:=cL hb1 K0
 replace K1:=cL hb1 K1
 replace K2:=cL hb1 K2
 replace N0:=cL hb1 N0
 replace XR:=yD (kE XR.out hb1)
 clear hb1 EB
 by_cases hk:idxOf (isD n) x.1 < 0
 · have HT:=yD (fd_no (t:=t) hk)
   have hk2:¬ (0≤idxOf (isD n) x.1):=rJ
   generalize hq:idxOf (isD n) x.1=q at *
   clear hq
   go_wp2_with fail
   refine (kLr (RC.out.below (E1.trans (Below.mono bD E1.size))) (HN.out.below (E1.trans (Below.mono bD E1.size))) (t:=t)).mono ?_
   rintro e w2 ⟨cd,rfl,O2,hb2⟩
   generalize hD:lkD n t x.2.1.2=D at *
   have HD:=yD (HT.out.2);clear hD
   obtain ⟨v0,v1,v2,rfl,d_0,d_1,d_2,d_3,d_4,d_5,d_6⟩:=jS O2.raw
   obtain ⟨a0,p0,rfl,_⟩:=Rep.sl d_1
   obtain ⟨a1,p1,rfl,_⟩:=Rep.sl d_2
   obtain ⟨a2,p2,rfl,_⟩:=Rep.sl d_4
   clear d_0 d_1 d_2 d_3 d_4 d_5 d_6
   have EF:Below w.heap.size w w2:=E1.trans (Below.mono (Below.trans bD hb2) E1.size)
   have HO:=yD O2
   have hgz:=E1.size
   have X1:=kE XR.out (Below.trans bD hb2)
   clear O2 hb2 E1 K0 K1 K2 N0 XR
   have R0:=kN (b:=w.heap.size + 2) X1 (j:=0) rfl
   have F0:=frozen_of_row w2 (w.heap.size + 2) 0 _ _ X1
   have R1:=kN (b:=w.heap.size + 2) X1 (j:=1) rfl
   have F1:=frozen_of_row w2 (w.heap.size + 2) 1 _ _ X1
   have R2:=kN (b:=w.heap.size + 2) X1 (j:=2) rfl
   have F2:=frozen_of_row w2 (w.heap.size + 2) 2 _ _ X1
   have R3:=kN (b:=w.heap.size + 2) X1 (j:=3) rfl
   have F3:=frozen_of_row w2 (w.heap.size + 2) 3 _ _ X1
   have R4:=kN (b:=w.heap.size + 2) X1 (j:=4) rfl
   have F4:=frozen_of_row w2 (w.heap.size + 2) 4 _ _ X1
   go_wp2
   refine bodyPost_ret (v:=.tuple #[.agg #[.slice a0 D.1.length p0,.slice a1 D.2.1.length p1,.slice a2 D.2.2.1.length p2,.int .i64 D.2.2.2.1,.int .i64 D.2.2.2.2],.bool (lkOk n t x.2.1.2)]) (by simp [results,Tryz.results72,go_sem,R0,F0,R1,F1,R2,F2,R3,F3,R4,F4]) rfl ⟨[_,_,_,_,_],by rw [HT.out.1],?_,?_⟩
   · rw [HD.out]
     exact (Rep.own.out HO.out cB).wide dB
   repeat (first|(with_reducible exact EF) | refine Below.setCell ?_ mH _)
 obtain ⟨k,hkl,hki⟩:=kVe hk
 have HT:=yD (fd_yes (t:=t) hkl hki)
 rw [hki]
 clear hk hki
 have hk0:=Int.natCast_nonneg k
 have hk2:=Int.ofNat_lt.2 hkl
 obtain ⟨qb,qo,rfl,qc0,qc1,qc2,qc3,qc4,qr,Aq0,Aq1,Aq2,Aq3,Aq4⟩:=Rep.get5 (RA.out.1.below E1) hkl rfl
 have qbd:=Rep.jq RA.out hkl
 clear RA
 generalize x.1[k]=D at *
 have HD:=yD HT.out.2
 obtain ⟨qv0,qv1,qv2,qhe,q_0,q_1,q_2,q_3,q_4,q_5,q_6⟩:=jS qr
 simp only [List.cons.injEq,and_true] at qhe
 obtain ⟨rfl,rfl,rfl,rfl,rfl⟩:=qhe
 have HR:=yD (show kg.rd w1 _ D from ⟨qr,qbd⟩)
 clear qr qbd q_0 q_1 q_2 q_3 q_4 q_5 q_6
 go_wp2_with fail
 refine (kDw (HR.out.below bD)).mono ?_
 rintro e w2 ⟨cd,rfl,O2,hb2⟩
 clear HR Aq0 Aq1 Aq2 Aq3 Aq4
 obtain ⟨v0,v1,v2,rfl,d_0,d_1,d_2,d_3,d_4,d_5,d_6⟩:=jS O2.raw
 obtain ⟨a0,p0,rfl,_⟩:=Rep.sl d_1
 obtain ⟨a1,p1,rfl,_⟩:=Rep.sl d_2
 obtain ⟨a2,p2,rfl,_⟩:=Rep.sl d_4
 clear d_0 d_1 d_2 d_3 d_4 d_5 d_6
 have EF:Below w.heap.size w w2:=E1.trans (Below.mono (Below.trans bD hb2) E1.size)
 have HO:=yD O2
 have hgz:=E1.size
 have X1:=kE XR.out (Below.trans bD hb2)
 clear O2 hb2 E1 K0 K1 K2 N0 XR
 have R0:=kN (b:=w.heap.size + 2) X1 (j:=0) rfl
 have F0:=frozen_of_row w2 (w.heap.size + 2) 0 _ _ X1
 have R1:=kN (b:=w.heap.size + 2) X1 (j:=1) rfl
 have F1:=frozen_of_row w2 (w.heap.size + 2) 1 _ _ X1
 have R2:=kN (b:=w.heap.size + 2) X1 (j:=2) rfl
 have F2:=frozen_of_row w2 (w.heap.size + 2) 2 _ _ X1
 have R3:=kN (b:=w.heap.size + 2) X1 (j:=3) rfl
 have F3:=frozen_of_row w2 (w.heap.size + 2) 3 _ _ X1
 have R4:=kN (b:=w.heap.size + 2) X1 (j:=4) rfl
 have F4:=frozen_of_row w2 (w.heap.size + 2) 4 _ _ X1
 go_wp2
 refine bodyPost_ret (v:=.tuple #[.agg #[.slice a0 D.1.length p0,.slice a1 D.2.1.length p1,.slice a2 D.2.2.1.length p2,.int .i64 D.2.2.2.1,.int .i64 D.2.2.2.2],.bool true]) (by simp [results,Tryz.results72,go_sem,R0,F0,R1,F1,R2,F2,R3,F3,R4,F4]) rfl ⟨[_,_,_,_,_],by rw [HT.out.1],?_,?_⟩
 · rw [HD.out]
   exact (Rep.own.out HO.out cB).wide dB
 repeat (first|(with_reducible exact EF) | refine Below.setCell ?_ mH _)
theorem kSg {w:World} {cx:List Value} {x:yZ} (hx:jM.rd w cx x) {cn:List Value} {n:ky} (hn:kZ.rd w cn n) {t:Int} (ht:-9223372036854775808≤t∧t≤9223372036854775807) :
    Calls Tryz.prog 84 #[.agg cx.toArray,.agg cn.toArray,.int .i64 t] w fun e w'=>∃ ds,e=.returned (.tuple #[.agg ds.toArray,.bool (fdOk n t x)])∧kg.own w' ds (fdD n t x) (Btw w.heap.size w'.heap.size)∧Below w.heap.size w w':=by
 clear ht
 have HN:=yD hn
 obtain ⟨q1,q2,q3⟩:=hx.2
 obtain ⟨av0,av2,av3,av4,av5,av6,rfl,a_0,a_1,a_2,a_3,a_4,a_5,a_6,a_7,a_8⟩:=jm hx.1
 obtain ⟨aa0,ap0,rfl,_⟩:=Rep.sl a_0
 obtain ⟨aa2,ap2,rfl,_⟩:=Rep.sl a_3
 obtain ⟨aa3,ap3,rfl,_⟩:=Rep.sl a_4
 obtain ⟨aa4,ap4,rfl,_⟩:=Rep.sl a_5
 obtain ⟨aa5,ap5,rfl,_⟩:=Rep.sl a_6
 obtain ⟨aa6,ap6,rfl,_⟩:=Rep.sl a_7
 have RA:Hid ((Rep.slice 113 kg).rd w [.slice aa0 x.1.length ap0] x.1):=yD ⟨a_0,q1⟩
 have RC:Hid (kH.rd w [.int .i64 x.2.1.1,.slice aa2 x.2.1.2.length ap2] x.2.1):=yD ⟨a_1,q2⟩
 clear hx q1 q2 q3 a_0 a_1 a_2 a_3 a_4 a_5 a_6 a_7 a_8
 obtain ⟨nv,rfl,n_0⟩:=kR hn.1
 obtain ⟨an,capn,rfl,_⟩:=Rep.sl n_0
 clear hn n_0
 go_enter Tryz.func84,Tryz.ntmps84
 go_upto_region 1 with fail
 generalize hwB:World.alloc (World.alloc (World.alloc w _) _) _=wB
 have EB:Below w.heap.size w wB:=by rw [← hwB];exact bD
 have hsz:wB.heap.size=w.heap.size + 3:=qF
 have K0:wB.cell? ⟨w.heap.size,0,none⟩=some (.slice aa0 x.1.length ap0):=nJ
 have K1:wB.cell? ⟨w.heap.size,1,none⟩=some (.int .i64 x.2.1.1):=nJ
 have K2:wB.cell? ⟨w.heap.size,2,none⟩=some (.slice aa2 x.2.1.2.length ap2):=nJ
 have N0:wB.cell? ⟨w.heap.size + 1,0,none⟩=some (.slice an n.length capn):=nJ
 have XR:Hid (wB.heap[w.heap.size + 2]?=some (.cells #[.slice none 0 0,.slice none 0 0,.slice none 0 0,.int .i64 0,.int .i64 0] 113 (0,0))):=yD mQ
 clear hwB
 go_wp2_with fail
 refine (kTu (RA.out.1.below EB) (HN.out.1.below EB)).mono ?_
 rintro e w1 ⟨rfl,hb1⟩
 have E1:=(tQ EB hb1)
 have hz1:=hb1.size
 replace K0:=cL hb1 K0
 replace K1:=cL hb1 K1
 replace K2:=cL hb1 K2
 replace N0:=cL hb1 N0
 replace XR:=yD (kE XR.out hb1)
 clear hb1 EB
 by_cases hk:idxOf (isD n) x.1 < 0
 · have HT:=yD (fd_no (t:=t) hk)
   have hk2:¬ (0≤idxOf (isD n) x.1):=rJ
   generalize hq:idxOf (isD n) x.1=q at *
   clear hq
   go_wp2_with fail
   refine (kMg (RC.out.below (E1.trans (Below.mono bD E1.size))) (HN.out.below (E1.trans (Below.mono bD E1.size))) (t:=t)).mono ?_
   rintro e w2 ⟨cd,rfl,O2,hb2⟩
   generalize hD:lkD n t x.2.1.2=D at *
   have HD:=yD (HT.out.2);clear hD
   obtain ⟨v0,v1,v2,rfl,d_0,d_1,d_2,d_3,d_4,d_5,d_6⟩:=jS O2.raw
   obtain ⟨a0,p0,rfl,_⟩:=Rep.sl d_1
   obtain ⟨a1,p1,rfl,_⟩:=Rep.sl d_2
   obtain ⟨a2,p2,rfl,_⟩:=Rep.sl d_4
   clear d_0 d_1 d_2 d_3 d_4 d_5 d_6
   have EF:Below w.heap.size w w2:=E1.trans (Below.mono (Below.trans bD hb2) E1.size)
   have HO:=yD O2
   have hgz:=E1.size
   have X1:=kE XR.out (Below.trans bD hb2)
   clear O2 hb2 E1 K0 K1 K2 N0 XR
   have R0:=kN (b:=w.heap.size + 2) X1 (j:=0) rfl
   have F0:=frozen_of_row w2 (w.heap.size + 2) 0 _ _ X1
   have R1:=kN (b:=w.heap.size + 2) X1 (j:=1) rfl
   have F1:=frozen_of_row w2 (w.heap.size + 2) 1 _ _ X1
   have R2:=kN (b:=w.heap.size + 2) X1 (j:=2) rfl
   have F2:=frozen_of_row w2 (w.heap.size + 2) 2 _ _ X1
   have R3:=kN (b:=w.heap.size + 2) X1 (j:=3) rfl
   have F3:=frozen_of_row w2 (w.heap.size + 2) 3 _ _ X1
   have R4:=kN (b:=w.heap.size + 2) X1 (j:=4) rfl
   have F4:=frozen_of_row w2 (w.heap.size + 2) 4 _ _ X1
   go_wp2
   refine bodyPost_ret (v:=.tuple #[.agg #[.slice a0 D.1.length p0,.slice a1 D.2.1.length p1,.slice a2 D.2.2.1.length p2,.int .i64 D.2.2.2.1,.int .i64 D.2.2.2.2],.bool (lkOk n t x.2.1.2)]) (by simp [results,Tryz.results84,go_sem,R0,F0,R1,F1,R2,F2,R3,F3,R4,F4]) rfl ⟨[_,_,_,_,_],by rw [HT.out.1],?_,?_⟩
   · rw [HD.out]
     exact (Rep.own.out HO.out cB).wide dB
   repeat (first|(with_reducible exact EF) | refine Below.setCell ?_ mH _)
 obtain ⟨k,hkl,hki⟩:=kVe hk
 have HT:=yD (fd_yes (t:=t) hkl hki)
 rw [hki]
 clear hk hki
 have hk0:=Int.natCast_nonneg k
 have hk2:=Int.ofNat_lt.2 hkl
 obtain ⟨qb,qo,rfl,qc0,qc1,qc2,qc3,qc4,qr,Aq0,Aq1,Aq2,Aq3,Aq4⟩:=Rep.get5 (RA.out.1.below E1) hkl rfl
 have qbd:=Rep.jq RA.out hkl
 clear RA
 generalize x.1[k]=D at *
 have HD:=yD HT.out.2
 obtain ⟨qv0,qv1,qv2,qhe,q_0,q_1,q_2,q_3,q_4,q_5,q_6⟩:=jS qr
 simp only [List.cons.injEq,and_true] at qhe
 obtain ⟨rfl,rfl,rfl,rfl,rfl⟩:=qhe
 have HR:=yD (show kg.rd w1 _ D from ⟨qr,qbd⟩)
 clear qr qbd q_0 q_1 q_2 q_3 q_4 q_5 q_6
 go_wp2_with fail
 refine (kCr (HR.out.below bD)).mono ?_
 rintro e w2 ⟨cd,rfl,O2,hb2⟩
 clear HR Aq0 Aq1 Aq2 Aq3 Aq4
 obtain ⟨v0,v1,v2,rfl,d_0,d_1,d_2,d_3,d_4,d_5,d_6⟩:=jS O2.raw
 obtain ⟨a0,p0,rfl,_⟩:=Rep.sl d_1
 obtain ⟨a1,p1,rfl,_⟩:=Rep.sl d_2
 obtain ⟨a2,p2,rfl,_⟩:=Rep.sl d_4
 clear d_0 d_1 d_2 d_3 d_4 d_5 d_6
 have EF:Below w.heap.size w w2:=E1.trans (Below.mono (Below.trans bD hb2) E1.size)
 have HO:=yD O2
 have hgz:=E1.size
 have X1:=kE XR.out (Below.trans bD hb2)
 clear O2 hb2 E1 K0 K1 K2 N0 XR
 have R0:=kN (b:=w.heap.size + 2) X1 (j:=0) rfl
 have F0:=frozen_of_row w2 (w.heap.size + 2) 0 _ _ X1
 have R1:=kN (b:=w.heap.size + 2) X1 (j:=1) rfl
 have F1:=frozen_of_row w2 (w.heap.size + 2) 1 _ _ X1
 have R2:=kN (b:=w.heap.size + 2) X1 (j:=2) rfl
 have F2:=frozen_of_row w2 (w.heap.size + 2) 2 _ _ X1
 have R3:=kN (b:=w.heap.size + 2) X1 (j:=3) rfl
 have F3:=frozen_of_row w2 (w.heap.size + 2) 3 _ _ X1
 have R4:=kN (b:=w.heap.size + 2) X1 (j:=4) rfl
 have F4:=frozen_of_row w2 (w.heap.size + 2) 4 _ _ X1
 go_wp2
 refine bodyPost_ret (v:=.tuple #[.agg #[.slice a0 D.1.length p0,.slice a1 D.2.1.length p1,.slice a2 D.2.2.1.length p2,.int .i64 D.2.2.2.1,.int .i64 D.2.2.2.2],.bool true]) (by simp [results,Tryz.results84,go_sem,R0,F0,R1,F1,R2,F2,R3,F3,R4,F4]) rfl ⟨[_,_,_,_,_],by rw [HT.out.1],?_,?_⟩
 · rw [HD.out]
   exact (Rep.own.out HO.out cB).wide dB
 repeat (first|(with_reducible exact EF) | refine Below.setCell ?_ mH _)
def kIe (f:Int) (r:kS):Bool:=r.1==f
def retr (l:List kJ) (n:ky) (f:Int):Bool:=if idxOf (jT n) l < 0 then false else decide (0≤idxOf (kIe f) (l.getD (idxOf (jT n) l).toNat ([],[],0)).2.1)
theorem retr_no {l:List kJ} {n:ky} {f:Int} (h:idxOf (jT n) l < 0):retr l n f=false:=by unfold retr;rw [if_pos h]
theorem retr_yes {l:List kJ} {n:ky} {f:Int} {k:Nat} (hk:k < l.length) (h:idxOf (jT n) l=k):retr l n f=decide (0≤idxOf (kIe f) l[k].2.1):=by
 unfold retr;rw [h,if_neg rJ,Int.toNat_natCast,zL hk]
theorem kFu {w:World} {cr:List Value} {r:kS} (hr:kF.raw w cr r) {f:Int} {Bf:Nat} (Af0:w.cell? ⟨Bf,0,none⟩=some (.int .i64 f)) :
    Calls Tryz.prog 178 (#[.agg cr.toArray]++#[.pointer (some ⟨Bf,0,none⟩)]) w fun e w'=>e=.returned (.bool (kIe f r))∧Below w.heap.size w w':=by
 have Hr:=yD hr
 obtain ⟨rfl,fr_0,fr_1,fr_2⟩:=yA hr
 show Calls Tryz.prog 178 #[_,_] w _
 go_enter Tryz.func178,Tryz.ntmps178
 go_upto_region 1 with fail
 generalize hwB:World.alloc w _=wB
 have EB:Below w.heap.size w wB:=by rw [← hwB];exact bD
 have K2_0:wB.cell? ⟨w.heap.size,0,none⟩=some (.int .i64 r.1):=nJ
 have K2_1:wB.cell? ⟨w.heap.size,1,none⟩=some (.int .i64 r.2.1):=nJ
 have K2_2:wB.cell? ⟨w.heap.size,2,none⟩=some (.int .i64 r.2.2):=nJ
 clear hwB
 replace Af0:=cL EB Af0
 have FX:=yD (fun (W:World) (hW:Below wB.heap.size wB W)=>kDa hW K2_0 K2_1 K2_2 Af0)
 refine ku (fun W=>Below wB.heap.size wB W) [true,true,true,true,true] bR ?_
 intro wS HS
 iterate 4
  all_goals refine wkR ?_
 all_goals (have hg4:=True.intro;first|(refine wkG (fun b hg4=>?_);cases b;all_goals first | exact Bool.noConfusion hg4 | simp only [zU,zV] at hg4 | skip) | refine wkR ?_)
 all_goals refine wkP ?_
 all_goals refine ko ?_
 all_goals have EG:=(tQ EB HS)
 all_goals first
   | (have HT:=yD (show (kIe f r)=false by simp only [kIe,Bool.not_true,Bool.not_false,Bool.and_true,Bool.true_and,Bool.and_false,Bool.false_and,Bool.or_true,Bool.true_or,Bool.or_false,Bool.false_or,Bool.not_not,hg4]);go_wp2;go_ret;exact ⟨kP HT.out.symm,EG⟩)
   | (have HT:=yD (show (kIe f r)=true by simp only [kIe,Bool.not_true,Bool.not_false,Bool.and_true,Bool.true_and,Bool.and_false,Bool.false_and,Bool.or_true,Bool.true_or,Bool.or_false,Bool.false_or,Bool.not_not,hg4]);go_wp2;go_ret;exact ⟨kP HT.out.symm,EG⟩)
theorem kCx:jB Tryz.prog 178:=yh Tryz.func178 rA rA
theorem kGk {w:World} {vl:Value} {l:List kJ} (hl:(Rep.slice 77 kD).raw w [vl] l) {cn:List Value} {n:ky} (hn:kZ.raw w cn n) {f:Int} :
    Calls Tryz.prog 90 #[vl,.agg cn.toArray,.int .i64 f] w fun e w'=>e=.returned (.bool (retr l n f))∧Below w.heap.size w w':=by
 have HN:=yD hn
 have HL:=yD hl
 obtain ⟨av,rfl,_⟩:=kR hn
 obtain ⟨aa,capa,rfl,la⟩:=Rep.sl hl
 clear hn hl
 go_enter Tryz.func90,Tryz.ntmps90
 go_wp2_with fail
 refine (kAv (HL.out.below bD) (HN.out.below bD)).mono ?_
 rintro e w1 ⟨rfl,hb1⟩
 have EF:Below w.heap.size w w1:=Below.trans bD (hb1.mono qI)
 have K5:w1.cell? ⟨w.heap.size + 1,0,none⟩=some (.int .i64 f):=(hb1.cell (p:=⟨w.heap.size + 1,0,none⟩) rM).trans qY
 clear hb1
 by_cases h:idxOf (jT n) l < 0
 · have HT:=yD (retr_no (f:=f) h)
   have hd:decide (0≤idxOf (jT n) l)=false:=qX
   go_wp2
   go_ret
   exact ⟨kP HT.out.symm,EF⟩
 obtain ⟨k,hk,hi⟩:=kCs h
 have HT:=yD (retr_yes (f:=f) hk hi)
 rw [hi] at h ⊢
 clear hi
 obtain ⟨ba,offa,rfl,c0,c1,c2,hr,A0,A1,A2⟩:=Rep.zT (HL.out.below EF) hk rfl
 obtain ⟨v0,v1,he,p0,p1,p2,p3⟩:=kz hr
 simp only [List.cons.injEq,and_true] at he
 obtain ⟨rfl,rfl,rfl⟩:=he
 clear hr p0 p1 p3
 generalize l[k]=y at *
 obtain ⟨ra,rc,rfl,lr⟩:=Rep.sl p2
 have hk2:=Int.ofNat_lt.2 hk
 have hk0:=Int.natCast_nonneg k
 have hd:decide ((0:Int)≤(k:Int))=true:=rM
 go_wp2_with fail
 refine (kBz (kIe f) kCx p2 ?_).mono ?_
 · intro wr hb i h cs hr
   exact kFu hr (cL hb K5)
 rintro e w2 ⟨rfl,hb2⟩
 have EG:=(tQ EF hb2)
 clear hb2
 go_wp2
 go_ret
 exact ⟨kP HT.out.symm,EG⟩
theorem kGc {w:World} {vl:Value} {l:List kJ} (hl:(Rep.slice 77 kD).raw w [vl] l) {cn:List Value} {n:ky} (hn:kZ.raw w cn n) {f:Int} :
    Calls Tryz.prog 75 #[vl,.agg cn.toArray,.int .i64 f] w fun e w'=>e=.returned (.bool (retr l n f))∧Below w.heap.size w w':=by
 have HN:=yD hn
 have HL:=yD hl
 obtain ⟨av,rfl,_⟩:=kR hn
 obtain ⟨aa,capa,rfl,la⟩:=Rep.sl hl
 clear hn hl
 go_enter Tryz.func75,Tryz.ntmps75
 go_wp2_with fail
 refine (kBu (HL.out.below bD) (HN.out.below bD)).mono ?_
 rintro e w1 ⟨rfl,hb1⟩
 have EF:Below w.heap.size w w1:=Below.trans bD (hb1.mono qI)
 clear hb1
 by_cases h:idxOf (jT n) l < 0
 · have HT:=yD (retr_no (f:=f) h)
   have hd:decide (0≤idxOf (jT n) l)=false:=qX
   go_wp2
   go_loop [8] (fun i=>i=.int .i64 0) (fun _=>0)
   case atStart=>rfl
   obtain rfl:=hrel
   go_wp2
   go_ret
   exact ⟨kP HT.out.symm,EF⟩
 obtain ⟨k,hk,hi⟩:=kCs h
 have HT:=yD (retr_yes (f:=f) hk hi)
 rw [hi] at h ⊢
 clear hi
 obtain ⟨ba,offa,rfl,c0,c1,c2,hr,A0,A1,A2⟩:=Rep.zT (HL.out.below EF) hk rfl
 obtain ⟨v0,v1,he,p0,p1,p2,p3⟩:=kz hr
 simp only [List.cons.injEq,and_true] at he
 obtain ⟨rfl,rfl,rfl⟩:=he
 clear hr p0 p1 p3
 generalize l[k]=y at *
 obtain ⟨ra,rc,rfl,lr⟩:=Rep.sl p2
 have hk2:=Int.ofNat_lt.2 hk
 have hk0:=Int.natCast_nonneg k
 have hd:decide ((0:Int)≤(k:Int))=true:=rM
 generalize hR:y.2.1=R at *
 clear hR
 go_wp2
 go_loop [8] (fun i=>∃ j:Nat,j≤R.length∧i=.int .i64 j∧Hid (∀ m,(h:m < j)→(h2:m < R.length)→kIe f R[m]=false)) (fun i=>R.length - (intOf i).toNat)
 case atStart=>exact ⟨0,Nat.zero_le _,rfl,yD (fun _ h=>by omega)⟩
 obtain ⟨j,hj,rfl,HNO⟩:=hrel
 by_cases hlt:j < R.length
 · obtain ⟨bb,offb,rfl,d0,d1,d2,hr,B0,B1,B2⟩:=Rep.zT p2 hlt rfl
   obtain ⟨he,_⟩:=yA hr
   simp only [List.cons.injEq,and_true] at he
   obtain ⟨rfl,rfl,rfl⟩:=he
   clear hr
   have hh:=fun q=>idxOf_hit hlt q HNO.out
   have hm:=fun q=>kAl hlt q HNO.out
   generalize R[j]=z at *
   have HH:=yD hh;have HM:=yD hm;clear hh hm
   cases hq:(z.1==f)
   · have HU:=yD (HM.out hq)
     clear HH HM
     go_wp2
     go_round
     case rel=>exact ⟨j + 1,by omega,by go_num,HU⟩
     simp [intOf];omega
   have HU:=yD (HT.out.trans (show decide (0≤idxOf (kIe f) R)=true by rw [HH.out hq];simp))
   clear HH HM
   go_wp2
   go_ret
   exact ⟨kP HU.out.symm,EF⟩
 have HU:=yD (HT.out.trans (show decide (0≤idxOf (kIe f) R)=false by rw [idxOf_miss hlt HNO.out];simp))
 go_wp2
 go_ret
 exact ⟨kP HU.out.symm,EF⟩
theorem kGd {w:World} {vl:Value} {l:(List kJ)} (hl:(Rep.slice 77 kD).rd w [vl] l) {cn:List Value} {n:ky} (hn:kZ.rd w cn n) {f:Int} (hf:-9223372036854775808≤f∧f≤9223372036854775807) :
    Calls Tryz.prog 75 #[vl,.agg cn.toArray,.int .i64 f] w fun e w'=>e=.returned (.bool (retr l n f))∧Below w.heap.size w w':=kGc hl.1 hn.1
theorem kGl {w:World} {vl:Value} {l:(List kJ)} (hl:(Rep.slice 77 kD).rd w [vl] l) {cn:List Value} {n:ky} (hn:kZ.rd w cn n) {f:Int} (hf:-9223372036854775808≤f∧f≤9223372036854775807) :
    Calls Tryz.prog 90 #[vl,.agg cn.toArray,.int .i64 f] w fun e w'=>e=.returned (.bool (retr l n f))∧Below w.heap.size w w':=kGk hl.1 hn.1
def kJy (n:ky) (t:Int) (l:List kJ):List kJ :=
  if idxOf (jT n) l < 0 then l else l.set (idxOf (jT n) l).toNat (ji (l.getD (idxOf (jT n) l).toNat ([],[],0)) t)
theorem sentP_no {n:ky} {t:Int} {l:List kJ} (h:idxOf (jT n) l < 0):kJy n t l=l:=by unfold kJy;rw [if_pos h]
theorem kUn {n:ky} {t:Int} {l:List kJ} {k:Nat} (h:idxOf (jT n) l=k) (hk:k < l.length):kJy n t l=l.set k (ji l[k] t):=by
 unfold kJy
 simp only [h,Int.toNat_natCast,zL hk]
 rw [if_neg rJ]
theorem kRc {w:World} {vl:Value} {l:List kJ} (hl:(Rep.slice 77 kD).rd w [vl] l) {cn:List Value} {n:ky} (hn:kZ.rd w cn n) {t:Int} (ht:-9223372036854775808≤t∧t≤9223372036854775807) :
    Calls Tryz.prog 78 #[vl,.agg cn.toArray,.int .i64 t] w (yf (Rep.slice 77 kD) (kJy n t l) w):=by
 have HL:=yD hl
 have HN:=yD hn
 have hlb:l.length≤16777216:=hl.2.1
 obtain ⟨nv,rfl,n_0⟩:=kR hn.1
 obtain ⟨na,np,rfl,_⟩:=Rep.sl n_0
 obtain ⟨va,vp,rfl,hvll⟩:=Rep.sl hl.1
 clear n_0 hl hn
 go_enter Tryz.func78,Tryz.ntmps78
 go_wp2_with fail
 generalize hwB:World.alloc w _=wB
 have EB:Below w.heap.size w wB:=by rw [← hwB];exact bR.alloc nL _
 have K0:wB.cell? ⟨w.heap.size,0,none⟩=some (.slice na n.length np):=nJ
 have hzB:wB.heap.size=w.heap.size + 1:=qF
 clear hwB
 refine (kFg (HL.out.below EB)).mono ?_
 rintro e w1 ⟨v1,rfl,O1,hb1⟩
 replace K0:=cL hb1 K0
 have E1:=(tQ EB hb1)
 have hz1:=hb1.size
 have HO:=yD (O1.wide (T:=Btw w.heap.size w1.heap.size) gQ)
 obtain ⟨oa,on,oc,ho,HON⟩:=O1.parts;obtain rfl:=ho
 clear O1 hb1 EB
 have HF:=yD ht
 clear ht
 go_wp2_with fail
 refine (kBu (HL.out.1.below E1) (HN.out.1.below E1)).mono ?_
 rintro e w4 ⟨rfl,hb4⟩
 replace K0:=cL hb4 K0
 have E4:=(tQ E1 hb4)
 have hz4:=hb4.size
 replace HO:=yD ((HO.out.below hb4).wide (T:=Btw w.heap.size w4.heap.size) gP)
 clear hb4 E1
 by_cases hk:idxOf (jT n) l < 0
 · have HT:=yD (sentP_no (t:=t) hk)
   have hk2:¬ (0≤idxOf (jT n) l):=rJ
   generalize hq:idxOf (jT n) l=q at *
   clear hq
   go_wp2
   go_ret
   exact ⟨_,rfl,(HO.out.cast HT.out.symm).own (by rw [HT.out];exact hlb),E4⟩
 obtain ⟨k,hkl,hki⟩:=kCs hk
 have HKI:=yD hki
 rw [hki]
 clear hk hki
 obtain ⟨b,cap,hv,hbS,hbl,hcap2,hcap3⟩:=Rep.kCj HO.out hkl
 simp only [Value.slice.injEq] at hv
 obtain ⟨rfl,hon,rfl⟩:=hv
 have hkon:k < on:=rJ
 have hkI:(0:Int)≤k:=rJ
 have hkI2:(k:Int) < on:=rJ
 have HRD:=yD (HO.out.own hlb)
 obtain ⟨c0,c1,c2,hr,A0,A1,A2⟩:=Rep.at3 HRD.out.raw hkl rfl
 clear hr
 have hfz:=Rep.kHu HO.out rJ (k * 3 + 2)
 have HT:=yD (kUn (t:=t) HKI.out hkl)
 obtain ⟨s1,s2⟩:=Rep.kLv (i:=k) (j:=2) (p:=k * 3 + 2) (u:=.int .i64 t) HO.out hlb hkl rG (fun h=>kBc _ HF.out h) (show kD.bdd Big (ji l[k] t) from Rep.jq HRD.out.rd hkl) rfl
 have HS1:=yD (s1.cast HT.out.symm);clear s1 s2 hon
 go_wp2
 go_ret
 exact ⟨_,rfl,(HS1.out.own (by rw [HT.out];simp;unfold Big;omega)).wide dL,E4.setCell hbS.1 _⟩
theorem kSf {w:World} {vl:Value} {l:List kJ} (hl:(Rep.slice 77 kD).rd w [vl] l) {cn:List Value} {n:ky} (hn:kZ.rd w cn n) {t:Int} (ht:-9223372036854775808≤t∧t≤9223372036854775807) :
    Calls Tryz.prog 89 #[vl,.agg cn.toArray,.int .i64 t] w (yf (Rep.slice 77 kD) (kJy n t l) w):=by
 have HL:=yD hl
 have HN:=yD hn
 have hlb:l.length≤16777216:=hl.2.1
 obtain ⟨nv,rfl,n_0⟩:=kR hn.1
 obtain ⟨na,np,rfl,_⟩:=Rep.sl n_0
 obtain ⟨va,vp,rfl,hvll⟩:=Rep.sl hl.1
 clear n_0 hl hn
 go_enter Tryz.func89,Tryz.ntmps89
 go_wp2_with fail
 generalize hwB:World.alloc w _=wB
 have EB:Below w.heap.size w wB:=by rw [← hwB];exact bR.alloc nL _
 have K0:wB.cell? ⟨w.heap.size,0,none⟩=some (.slice na n.length np):=nJ
 have hzB:wB.heap.size=w.heap.size + 1:=qF
 clear hwB
 refine (kFa (HL.out.below EB)).mono ?_
 rintro e w1 ⟨v1,rfl,O1,hb1⟩
 replace K0:=cL hb1 K0
 have E1:=(tQ EB hb1)
 have hz1:=hb1.size
 have HO:=yD (O1.wide (T:=Btw w.heap.size w1.heap.size) gQ)
 obtain ⟨oa,on,oc,ho,HON⟩:=O1.parts;obtain rfl:=ho
 clear O1 hb1 EB
 have HF:=yD ht
 clear ht
 go_wp2_with fail
 refine (kAv (HL.out.1.below E1) (HN.out.1.below E1)).mono ?_
 rintro e w4 ⟨rfl,hb4⟩
 replace K0:=cL hb4 K0
 have E4:=(tQ E1 hb4)
 have hz4:=hb4.size
 replace HO:=yD ((HO.out.below hb4).wide (T:=Btw w.heap.size w4.heap.size) gP)
 clear hb4 E1
 by_cases hk:idxOf (jT n) l < 0
 · have HT:=yD (sentP_no (t:=t) hk)
   have hk2:¬ (0≤idxOf (jT n) l):=rJ
   generalize hq:idxOf (jT n) l=q at *
   clear hq
   go_wp2
   go_ret
   exact ⟨_,rfl,(HO.out.cast HT.out.symm).own (by rw [HT.out];exact hlb),E4⟩
 obtain ⟨k,hkl,hki⟩:=kCs hk
 have HKI:=yD hki
 rw [hki]
 clear hk hki
 obtain ⟨b,cap,hv,hbS,hbl,hcap2,hcap3⟩:=Rep.kCj HO.out hkl
 simp only [Value.slice.injEq] at hv
 obtain ⟨rfl,hon,rfl⟩:=hv
 have hkon:k < on:=rJ
 have hkI:(0:Int)≤k:=rJ
 have hkI2:(k:Int) < on:=rJ
 have HRD:=yD (HO.out.own hlb)
 obtain ⟨c0,c1,c2,hr,A0,A1,A2⟩:=Rep.at3 HRD.out.raw hkl rfl
 clear hr
 have hfz:=Rep.kHu HO.out rJ (k * 3 + 2)
 have HT:=yD (kUn (t:=t) HKI.out hkl)
 obtain ⟨s1,s2⟩:=Rep.kLv (i:=k) (j:=2) (p:=k * 3 + 2) (u:=.int .i64 t) HO.out hlb hkl rG (fun h=>kBc _ HF.out h) (show kD.bdd Big (ji l[k] t) from Rep.jq HRD.out.rd hkl) rfl
 have HS1:=yD (s1.cast HT.out.symm);clear s1 s2 hon
 go_wp2
 go_ret
 exact ⟨_,rfl,(HS1.out.own (by rw [HT.out];simp;unfold Big;omega)).wide dL,E4.setCell hbS.1 _⟩
def zI:jF:=([],0,0,0)
def kIj (x:yZ):yZ:=kUm x (wrap64 (x.2.2.2.2.2.2 + 1))
def kBf (x:yZ) (f:Int) (q:jF):Bool:=(!kDo q || !inR f 0 6) || kOr q x.2.2.1 x.2.2.2.1
def zt (x:yZ) (f:Int) (q:jF) (t:Int):Bool:=((decide (0≤idxOf (jT q.1) x.2.2.1) && decide (t≤kKr x.2.2.1 q.1)) || !kFv q) || (((kFh x q.1 f).length:Int)==0)
def kEf (x:yZ) (f:Int) (q:jF):List Int:=if retr x.2.2.1 q.1 f then kFh x q.1 f else (kFh x q.1 f).take 1
def kHs (y:jF) (g:Int):jQ:=(g,true,y,voidD)
def kFr (x:yZ) (f:Int) (q:jF) (t:Int):kGv :=
  if kBf x f q then (kIj x,[]) else
  if fdOk q.1 t x then ((x.1,kFe q.1 t x.2.1,x.2.2.1,kBh x.2.2.2.1 q.1 q.2.1,x.2.2.2.2),[(f,false,zI,fdD q.1 t x)]) else
  if yV q f x.2.2.1 then
    if zt x f q t then ((x.1,x.2.1,kEx q f t x.2.2.1,x.2.2.2),[]) else
    ((x.1,x.2.1,kJy q.1 t (kEx q f t x.2.2.1),x.2.2.2),(kEf x f q).map (kHs (kMm q)))
  else (kIj x,[])
section
variable {x:yZ} {f t:Int} {q:jF}
theorem proc_bad (h:kBf x f q=true):kFr x f q t=(kIj x,[]):=by unfold kFr;rw [h];rfl
theorem kRj (h:kBf x f q=false) (h2:fdOk q.1 t x=true):kFr x f q t=((x.1,kFe q.1 t x.2.1,x.2.2.1,kBh x.2.2.2.1 q.1 q.2.1,x.2.2.2.2),[(f,false,zI,fdD q.1 t x)]):=by unfold kFr;rw [h,h2];rfl
theorem kUr (h:kBf x f q=false) (h2:fdOk q.1 t x=false) (h3:yV q f x.2.2.1=false):kFr x f q t=(kIj x,[]):=by unfold kFr;rw [h,h2,h3];rfl
theorem kRi (h:kBf x f q=false) (h2:fdOk q.1 t x=false) (h3:yV q f x.2.2.1=true) (h4:zt x f q t=true):kFr x f q t=((x.1,x.2.1,kEx q f t x.2.2.1,x.2.2.2),[]):=by unfold kFr;rw [h,h2,h3,h4];rfl
theorem kUq (h:kBf x f q=false) (h2:fdOk q.1 t x=false) (h3:yV q f x.2.2.1=true) (h4:zt x f q t=false):kFr x f q t=((x.1,x.2.1,kJy q.1 t (kEx q f t x.2.2.1),x.2.2.2),(kEf x f q).map (kHs (kMm q))):=by unfold kFr;rw [h,h2,h3,h4];rfl
end
theorem kUk {x:yZ} {f t:Int} {q:jF} (h:zt x f q t=false):0 < (kFh x q.1 f).length:=by
 unfold zt at h
 simp only [Bool.or_eq_false_iff,beq_eq_false_iff_ne] at h
 omega
theorem faces_lt {F fs:List Int} {kn:Bool} {k:Nat} (h:F=if kn then fs else fs.take 1):(decide (k < fs.length) && (kn || ((k:Int)==0)))=decide (k < F.length):=by
 subst h
 cases kn
 · rw [Bool.eq_iff_iff];simp;omega
 rw [Bool.eq_iff_iff];simp
theorem kVj {w:World} {a:Option Addr} {c:Nat} {F fs:List Int} {kn:Bool} (h:F=if kn then fs else fs.take 1) (hp:0 < fs.length) (r:(Rep.slice 3 Rep.int).raw w [.slice a fs.length c] fs):∃ m,(Rep.slice 3 Rep.int).raw w [.slice a m c] F:=by
 subst h
 cases kn
 · exact ⟨1,Rep.kQu r hp⟩
 exact ⟨_,r⟩
theorem kVl {F fs:List Int} {kn:Bool} (h:F=if kn then fs else fs.take 1):F.length≤fs.length:=by
 subst h
 cases kn
 · simp;omega
 simp
theorem kVk {F fs:List Int} (h:F=if false then fs else fs.take 1) (hp:0 < fs.length):F.length=1:=by subst h;simp;omega
theorem kIi {x0:List yX} {x1:jH} {x2:List kJ} {x3:List jL} {x4:List jD} {x5:List kv} {x6:Int}:kIj (x0,x1,x2,x3,x4,x5,x6)=(x0,x1,x2,x3,x4,x5,wrap64 (x6 + 1)):=rfl
theorem zI_own {w:World} {S:Nat→Prop}:kw.own w [.slice none 0 0,.int .i64 0,.int .i64 0,.int .i64 0] zI S :=
  kIv (Rep.kCu (cs:=[.int .i64 0]) (Rep.kr rJ) (Rep.kCu (cs:=[.int .i64 0]) (Rep.kr rJ) (Rep.flat.own (Rep.kr rJ))))
theorem out1_own {w:World} {f:Int} {dc:List Value} {D:yX} {S:Nat→Prop} (hf:-9223372036854775808≤f∧f≤9223372036854775807) (h:kg.own w dc D S) :
    kU.own w ([.int .i64 f,.bool false,.slice none 0 0,.int .i64 0,.int .i64 0,.int .i64 0]++dc) (f,false,zI,D) S :=
  Rep.kCu (r:=Rep.int) (q:=Rep.pair Rep.bool (Rep.pair kw kg)) (cs:=[.int .i64 f]) (Rep.kr hf) (Rep.kCu (r:=Rep.bool) (q:=Rep.pair kw kg) (cs:=[.bool false]) (Rep.kVh false)
    (Rep.jZ (r:=kw) (q:=kg) (cs:=[.slice none 0 0,.int .i64 0,.int .i64 0,.int .i64 0]) (A:=fun _=>False) (B:=S) zI_own h (fun _ h=>h.elim) (fun _ h=>h) (fun _ h _=>h)))
theorem out2_own {w:World} {g:Int} {c0 c1 c2 c3:Value} {y:jF} {S:Nat→Prop} (hg:-9223372036854775808≤g∧g≤9223372036854775807) (h:kw.own w [c0,c1,c2,c3] y S) :
    kU.own w [.int .i64 g,.bool true,c0,c1,c2,c3,.slice none 0 0,.slice none 0 0,.slice none 0 0,.int .i64 0,.int .i64 0] (kHs y g) S :=
  Rep.kCu (r:=Rep.int) (q:=Rep.pair Rep.bool (Rep.pair kw kg)) (cs:=[.int .i64 g]) (Rep.kr hg) (Rep.kCu (r:=Rep.bool) (q:=Rep.pair kw kg) (cs:=[.bool true]) (Rep.kVh true)
    (Rep.jZ (r:=kw) (q:=kg) (cs:=[c0,c1,c2,c3]) (A:=S) (B:=fun _=>False) h kNa (fun _ h=>h) (fun _ h=>h.elim) (fun _ _ h=>h)))
theorem kGt {w:World} {c0 c1 c2 c3 c4 c5 c6 c7 v:Value} {x:yZ} {l:List jQ} {A B S:Nat→Prop} (h:jM.own w [c0,c1,c2,c3,c4,c5,c6,c7] x A) (k:(Rep.slice 117 kU).own w [v] l B) (hA:∀ j,A j→S j) (hB:∀ j,B j→S j) (hd:∀ j,A j→B j→False) :
    yP.own w [c0,c1,c2,c3,c4,c5,c6,c7,v] (x,l) S:=Rep.jZ (r:=jM) (q:=(Rep.slice 117 kU)) (cs:=[c0,c1,c2,c3,c4,c5,c6,c7]) (ds:=[v]) h k hA hB hd
theorem own0_box {α:Type} {r:Rep α} {w:World} {e:TypeId} {b:Nat} {cs:List Value} {y:α} {T:Nat→Prop} (hw:w.heap[b]?=some (.cells cs.toArray e (0,0))) (h:r.own w cs y T) (hT:¬ T b):Rep.kQ e r w (.slice (some ⟨b,0,none⟩) 1 1) [y] (fun k=>T k∨k=b):=by
 have hl:=r.len h.1
 refine ⟨fun x hx=>by rw [List.mem_singleton.1 hx];exact h.2,.inr ⟨b,1,cs.toArray,cs,[],rfl,by simp,by decide,hw,by simp,by simpa using hl,.inr rfl,?_⟩⟩
 exact Rep.kDd (r.wide h.1 (fun k hk=>⟨.inl hk,fun e=>hT (e ▸ hk)⟩))
theorem kGg {w:World} {c0 c1 c2 c3 c4 c5 c6 c7:Value} {x0:List yX} {x1:jH} {x2:List kJ} {x3:List jL} {x4:List jD} {x5:List kv} {x6 y:Int} {S:Nat→Prop} (h:jM.own w [c0,c1,c2,c3,c4,c5,c6,c7] (x0,x1,x2,x3,x4,x5,x6) S) (hy:-9223372036854775808≤y∧y≤9223372036854775807) :
    jM.own w [c0,c1,c2,c3,c4,c5,c6,.int .i64 y] (x0,x1,x2,x3,x4,x5,y) S:=⟨RNode_set7 y hy h.1,h.2⟩
theorem kRt {w:World} {c0 c1 c2 c3 c4 c5 c6 c7:Value} {x0:List yX} {x1:jH} {x2:List kJ} {x3:List jL} {x4:List jD} {x5:List kv} {x6:Int} (h:jM.rd w [c0,c1,c2,c3,c4,c5,c6,c7] (x0,x1,x2,x3,x4,x5,x6)):(Rep.slice 77 kD).rd w [c3] x2:=⟨node_pend h.1,h.2.2.2.1⟩
theorem kJt {w:World} {cx:List Value} {x:yZ} (hx:jM.rd w cx x) :
    Calls Tryz.prog 71 #[.agg cx.toArray] w (yK yP (kIj x,[]) w):=by
 obtain ⟨x0,⟨xc,xe⟩,x2,x3,x4,x5,x6⟩:=x
 have HX:=yD hx
 obtain ⟨av0,av2,av3,av4,av5,av6,rfl,a_0,a_1,a_2,a_3,a_4,a_5,a_6,a_7,a_8⟩:=jm hx.1
 obtain ⟨aa0,ap0,rfl,al0⟩:=Rep.sl a_0
 obtain ⟨aa2,ap2,rfl,al2⟩:=Rep.sl a_3
 obtain ⟨aa3,ap3,rfl,al3⟩:=Rep.sl a_4
 obtain ⟨aa4,ap4,rfl,al4⟩:=Rep.sl a_5
 obtain ⟨aa5,ap5,rfl,al5⟩:=Rep.sl a_6
 obtain ⟨aa6,ap6,rfl,al6⟩:=Rep.sl a_7
 clear hx
 clear a_0 a_1 a_2 a_3 a_4 a_5 a_6 a_7 a_8
 go_enter Tryz.func71,Tryz.ntmps71
 go_upto_region 1 with fail
 generalize hw_:World.alloc (World.alloc w _) _=w1
 have EE:Below w.heap.size w w1:=by rw [← hw_];exact bD
 have BX:w1.heap[w.heap.size]?=some (.cells #[.slice aa0 x0.length ap0,.int .i64 xc,.slice aa2 xe.length ap2,.slice aa3 x2.length ap3,.slice aa4 x3.length ap4,.slice aa5 x4.length ap5,.slice aa6 x5.length ap6,.int .i64 x6] 42 (0,0)):=mV
 have BR:w1.heap[w.heap.size + 1]?=some (.cells #[.slice none 0 0,.int .i64 0,.slice none 0 0,.slice none 0 0,.slice none 0 0,.slice none 0 0,.slice none 0 0,.int .i64 0,.slice none 0 0] 56 (0,0)):=by rw [← hw_];exact kW rM
 have z_w1:w.heap.size + 2≤w1.heap.size:=qE
 clear hw_
 obtain ⟨KBX_0,KBX_1,KBX_2,KBX_3,KBX_4,KBX_5,KBX_6,KBX_7⟩:=kAa BX
 go_wp2_with fail
 refine (kHo (HX.out.below EE)).mono ?_
 rintro e w2 ⟨cs,rfl,O,hb⟩
 have z_w2:=hb.size
 replace BX:=kE BX hb
 replace BR:=kE BR hb
 replace EE:=(tQ EE hb)
 clear KBX_0 KBX_1 KBX_2 KBX_3 KBX_4 KBX_5 KBX_6 KBX_7
 clear hb
 obtain ⟨ov0,ov2,ov3,ov4,ov5,ov6,rfl,o_0,o_1,o_2,o_3,o_4,o_5,o_6,o_7,o_8⟩:=jm O.raw
 obtain ⟨oa0,op0,rfl,ol0⟩:=Rep.sl o_0
 obtain ⟨oa2,op2,rfl,ol2⟩:=Rep.sl o_3
 obtain ⟨oa3,op3,rfl,ol3⟩:=Rep.sl o_4
 obtain ⟨oa4,op4,rfl,ol4⟩:=Rep.sl o_5
 obtain ⟨oa5,op5,rfl,ol5⟩:=Rep.sl o_6
 obtain ⟨oa6,op6,rfl,ol6⟩:=Rep.sl o_7
 clear o_0 o_1 o_2 o_3 o_4 o_5 o_6 o_7 o_8
 go_upto_region 2 with fail
 have HO:=yD O
 clear O
 replace HO:=yD (HO.out.wide (T:=(fun j=>w.heap.size + 2≤j∧j < w2.heap.size∧j≠w2.heap.size)) dC)
 generalize hw_:World.alloc w2 _=w3
 have E_w3:Below w2.heap.size w2 w3:=mI
 have BO:w3.heap[w2.heap.size]?=some (.cells #[.slice oa0 x0.length op0,.int .i64 xc,.slice oa2 xe.length op2,.slice oa3 x2.length op3,.slice oa4 x3.length op4,.slice oa5 x4.length op5,.slice oa6 x5.length op6,.int .i64 x6] 42 (0,0)):=nT
 have z_w3:w2.heap.size + 1≤w3.heap.size:=qE
 clear hw_
 replace BX:=kE BX E_w3
 replace BR:=kE BR E_w3
 replace HO:=yD (HO.out.below E_w3)
 replace EE:=(tQ EE E_w3)
 clear E_w3
 obtain ⟨KBO_0,KBO_1,KBO_2,KBO_3,KBO_4,KBO_5,KBO_6,KBO_7⟩:=kAa BO
 obtain ⟨FBO_0,FBO_1,FBO_2,FBO_3,FBO_4,FBO_5,FBO_6,FBO_7⟩:=rowF8 BO
 go_upto_region 3 with fail
 generalize hy6:wrap64 (x6 + 1)=y6
 have HY6:Hid (-9223372036854775808≤y6∧y6≤9223372036854775807):=yD (by rw [← hy6];exact kCb _)
 have HD:=yD (show kIj (x0,(xc,xe),x2,x3,x4,x5,x6)=(x0,(xc,xe),x2,x3,x4,x5,y6) by rw [kIi,hy6])
 clear hy6
 generalize hw_:World.setCell w3 _ _=w4
 have T_w4:Touch (fun k=>k=w2.heap.size) w3 w4:=by rw [← hw_];exact kC w3 (w2.heap.size) 7 _
 replace BO:w4.heap[w2.heap.size]?=some (.cells #[.slice oa0 x0.length op0,.int .i64 xc,.slice oa2 xe.length op2,.slice oa3 x2.length op3,.slice oa4 x3.length op4,.slice oa5 x4.length op5,.slice oa6 x5.length op6,.int .i64 y6] 42 (0,0)):=by rw [← hw_];exact jy BO 7
 have z_w4:=T_w4.size
 clear hw_
 replace BX:=T_w4.kE BX rJ
 replace BR:=T_w4.kE BR rJ
 replace HO:=yD (HO.out.touch T_w4 fT)
 replace EE:=EE.trans (T_w4.below EE.size qD)
 clear KBO_0 KBO_1 KBO_2 KBO_3 KBO_4 KBO_5 KBO_6 KBO_7 FBO_0 FBO_1 FBO_2 FBO_3 FBO_4 FBO_5 FBO_6 FBO_7
 clear T_w4
 replace HO:=yD (kGg HO.out HY6.out)
 obtain ⟨KBO_0,KBO_1,KBO_2,KBO_3,KBO_4,KBO_5,KBO_6,KBO_7⟩:=kAa BO
 obtain ⟨KBR_0,KBR_1,KBR_2,KBR_3,KBR_4,KBR_5,KBR_6,KBR_7,KBR_8⟩:=yH BR
 obtain ⟨FBR_0,FBR_1,FBR_2,FBR_3,FBR_4,FBR_5,FBR_6,FBR_7,FBR_8⟩:=zg BR
 have GBR_0:(World.alloc w4 (.cells #[] 117)).frozen? ⟨w.heap.size + 1,0,none⟩=false:=(frozen?_alloc_cells _ _ _ _).trans FBR_0
 have HBR_0:(World.alloc w4 (.cells #[] 117)).cell? ⟨w.heap.size + 1,0,none⟩=some (.slice none 0 0):=kN (kE BR (bR.alloc nL _)) rfl
 have GBR_1:(World.alloc w4 (.cells #[] 117)).frozen? ⟨w.heap.size + 1,1,none⟩=false:=(frozen?_alloc_cells _ _ _ _).trans FBR_1
 have HBR_1:(World.alloc w4 (.cells #[] 117)).cell? ⟨w.heap.size + 1,1,none⟩=some (.int .i64 0):=kN (kE BR (bR.alloc nL _)) rfl
 have GBR_2:(World.alloc w4 (.cells #[] 117)).frozen? ⟨w.heap.size + 1,2,none⟩=false:=(frozen?_alloc_cells _ _ _ _).trans FBR_2
 have HBR_2:(World.alloc w4 (.cells #[] 117)).cell? ⟨w.heap.size + 1,2,none⟩=some (.slice none 0 0):=kN (kE BR (bR.alloc nL _)) rfl
 have GBR_3:(World.alloc w4 (.cells #[] 117)).frozen? ⟨w.heap.size + 1,3,none⟩=false:=(frozen?_alloc_cells _ _ _ _).trans FBR_3
 have HBR_3:(World.alloc w4 (.cells #[] 117)).cell? ⟨w.heap.size + 1,3,none⟩=some (.slice none 0 0):=kN (kE BR (bR.alloc nL _)) rfl
 have GBR_4:(World.alloc w4 (.cells #[] 117)).frozen? ⟨w.heap.size + 1,4,none⟩=false:=(frozen?_alloc_cells _ _ _ _).trans FBR_4
 have HBR_4:(World.alloc w4 (.cells #[] 117)).cell? ⟨w.heap.size + 1,4,none⟩=some (.slice none 0 0):=kN (kE BR (bR.alloc nL _)) rfl
 have GBR_5:(World.alloc w4 (.cells #[] 117)).frozen? ⟨w.heap.size + 1,5,none⟩=false:=(frozen?_alloc_cells _ _ _ _).trans FBR_5
 have HBR_5:(World.alloc w4 (.cells #[] 117)).cell? ⟨w.heap.size + 1,5,none⟩=some (.slice none 0 0):=kN (kE BR (bR.alloc nL _)) rfl
 have GBR_6:(World.alloc w4 (.cells #[] 117)).frozen? ⟨w.heap.size + 1,6,none⟩=false:=(frozen?_alloc_cells _ _ _ _).trans FBR_6
 have HBR_6:(World.alloc w4 (.cells #[] 117)).cell? ⟨w.heap.size + 1,6,none⟩=some (.slice none 0 0):=kN (kE BR (bR.alloc nL _)) rfl
 have GBR_7:(World.alloc w4 (.cells #[] 117)).frozen? ⟨w.heap.size + 1,7,none⟩=false:=(frozen?_alloc_cells _ _ _ _).trans FBR_7
 have HBR_7:(World.alloc w4 (.cells #[] 117)).cell? ⟨w.heap.size + 1,7,none⟩=some (.int .i64 0):=kN (kE BR (bR.alloc nL _)) rfl
 have GBR_8:(World.alloc w4 (.cells #[] 117)).frozen? ⟨w.heap.size + 1,8,none⟩=false:=(frozen?_alloc_cells _ _ _ _).trans FBR_8
 have HBR_8:(World.alloc w4 (.cells #[] 117)).cell? ⟨w.heap.size + 1,8,none⟩=some (.slice none 0 0):=kN (kE BR (bR.alloc nL _)) rfl
 go_wp2
 refine bodyPost_ret (v:=.agg #[.slice oa0 x0.length op0,.int .i64 xc,.slice oa2 xe.length op2,.slice oa3 x2.length op3,.slice oa4 x3.length op4,.slice oa5 x4.length op5,.slice oa6 x5.length op6,.int .i64 y6,.slice (some ⟨w4.heap.size,0,none⟩) 0 0]) (by simp [results,Tryz.results71,go_sem,HBR_0,GBR_0,HBR_1,GBR_1,HBR_2,GBR_2,HBR_3,GBR_3,HBR_4,GBR_4,HBR_5,GBR_5,HBR_6,GBR_6,HBR_7,GBR_7,HBR_8,GBR_8]) rfl ⟨[.slice oa0 x0.length op0,.int .i64 xc,.slice oa2 xe.length op2,.slice oa3 x2.length op3,.slice oa4 x3.length op4,.slice oa5 x4.length op5,.slice oa6 x5.length op6,.int .i64 y6,.slice (some ⟨w4.heap.size,0,none⟩) 0 0],rfl,?_,?_⟩
 · rw [HD.out];exact kGt (A:=fun j=>w.heap.size + 2≤j∧j < w4.heap.size∧j≠w2.heap.size) (B:=fun _=>False) (((HO.out.wide (T:=fun j=>w.heap.size + 2≤j∧j < w4.heap.size∧j≠w2.heap.size) fQ).below (bR.alloc nL _)).touch (((((((((kC _ _ _ _).trans (kC _ _ _ _)).trans (kC _ _ _ _)).trans (kC _ _ _ _)).trans (kC _ _ _ _)).trans (kC _ _ _ _)).trans (kC _ _ _ _)).trans (kC _ _ _ _)).trans (kC _ _ _ _)) mP) Rep.kAs cO (fun _ h=>h.elim) (fun _ _ h=>h)
 exact EE.trans (Below.trans (bR.alloc EE.size _) (Touch.below (((((((((kC _ _ _ _).trans (kC _ _ _ _)).trans (kC _ _ _ _)).trans (kC _ _ _ _)).trans (kC _ _ _ _)).trans (kC _ _ _ _)).trans (kC _ _ _ _)).trans (kC _ _ _ _)).trans (kC _ _ _ _)) (by simp;have:=EE.size;omega) qD))
end Go.Proofs.YtomdenfcfbkfbaaGreat

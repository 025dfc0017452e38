/-
  The laws' markings at more types. Printed by genmark.py.
  The laws' markings at more types. Printed by genmark.py.
  The laws' markings at more types. Printed by genmark.py.
  A region that draws its order, walked in the order of its text: operations that only read are taken first; at each other operation it alone may come up. No program in sight.
-/
import Derived.Test.YtomdenfcfbkfbaaGreatMarkN
import Derived.OrdersHeld
import Derived.StillTail
set_option linter.unusedVariables false
set_option linter.unusedSimpArgs false
set_option linter.unnecessarySimpa false
set_option maxRecDepth 100000
set_option maxHeartbeats 16000000
namespace Go.Proofs.YtomdenfcfbkfbaaGreat
open Go.RowKit
theorem kPj {w:World} {va:Value} {x:List jQ} {k:Int} {S:Nat→Prop} (ha:(Rep.slice 117 kU).own w [va] x S) (hk0:0≤k) (hk1:k + ((Rep.slice 117 kU).cnt:Nat)≤Top) :
    Calls Tryz.prog 95 #[va,.int .i64 k] w (zy (Rep.slice 117 kU) true x k [va] S w):=by
 obtain ⟨aa,capa,rfl,la⟩:=Rep.sl ha.raw
 have lb:x.length≤16777216:=ha.2.1
 have hbd:=yD ha.2
 have HK:=yD hk1;clear hk1
 have hk2:k≤4611686018427387904:=fV
 go_enter Tryz.func95,Tryz.ntmps95
 go_wp2
 go_loopw [1,5] (fun l i wr=>∃ (j:Nat),j≤x.length∧i=.int .i64 j∧l=.int .i64 (Rep.mkL kU (x.take j) k).2∧(Rep.slice 117 kU).own wr [.slice aa x.length capa] ((Rep.mkL kU (x.take j) k).1++x.drop j) S∧Touch S w wr) (fun _ i _=>x.length - (intOf i).toNat)
 case atStart=>exact ⟨0,Nat.zero_le _,rfl,rfl,by simpa [Rep.mkL] using ha,Touch.refl _ _⟩
 obtain ⟨j,hj,rfl,rfl,hown,ht⟩:=hrel
 by_cases hlt:j < x.length
 · obtain ⟨hln,b,off,rfl,hSb,hbw⟩:=Rep.zk hown qB
   clear hln
   rw [Rep.kAf hlt] at hown
   obtain ⟨q0,q1⟩:=Rep.kAg (e:=117) (r:=kU) hbd.out hlt HK.out hk0
   have HE:∀ y,y=(kU.mark true x[j] (Rep.mkL kU (x.take j) k).2).1→Hid (((Rep.mkL kU (x.take j) k).1++x.drop j).set j y=(Rep.mkL kU (x.take (j + 1)) k).1++x.drop (j + 1)):=fun y hy=>yD (Rep.kBv hlt hy)
   have HF:=yD (Rep.kAy (r:=kU) (k:=k) hlt)
   have hLl:j < ((Rep.mkL kU (x.take j) k).1++x.drop j).length:=nZ
   have HL:=yD hLl;clear hLl
   generalize (Rep.mkL kU (x.take j) k).2=q at *
   generalize (Rep.mkL kU (x.take j) k).1++x.drop j=M at *
   generalize hx:x[j]=y at *
   have HX:=yD hx;clear hx
   obtain ⟨y0,y1,⟨y2,y3,y4,y5⟩,⟨y6,y7,y8,y9,y10⟩⟩:=y
   have HEH:=yD HE;clear HE
   have HQ:=yD q1;clear q1
   have q2:q≤4611686018427387904:=fU
   obtain ⟨c,B,hc,hB,hSb',hcell,hfz,back⟩:=Rep.jR hown HL.out
   obtain ⟨d0_0,d0_1,d0_2,d0_3,d0_4,d0_5,d0_6,d0_7,d0_8,d0_9,d0_10,rfl⟩:∃ d0_0 d0_1 d0_2 d0_3 d0_4 d0_5 d0_6 d0_7 d0_8 d0_9 d0_10,c=[d0_0,d0_1,d0_2,d0_3,d0_4,d0_5,d0_6,d0_7,d0_8,d0_9,d0_10]:=by have h:=kU.len hc.1;match c,h with | [d0_0,d0_1,d0_2,d0_3,d0_4,d0_5,d0_6,d0_7,d0_8,d0_9,d0_10],_=>exact ⟨_,_,_,_,_,_,_,_,_,_,_,rfl⟩
   try simp only [zK,zJ,zH,zG,zF,zD,ym] at hc
   have C0_0:wr.cell? ⟨b,off + j * 11,none⟩=some d0_0:=hcell 0 _ rfl
   have Z0_0:=hfz (off + j * 11)
   have C0_1:wr.cell? ⟨b,off + j * 11 + 1,none⟩=some d0_1:=hcell 1 _ rfl
   have Z0_1:=hfz (off + j * 11 + 1)
   have C0_2:wr.cell? ⟨b,off + j * 11 + 2,none⟩=some d0_2:=hcell 2 _ rfl
   have Z0_2:=hfz (off + j * 11 + 2)
   have C0_3:wr.cell? ⟨b,off + j * 11 + 3,none⟩=some d0_3:=hcell 3 _ rfl
   have Z0_3:=hfz (off + j * 11 + 3)
   have C0_4:wr.cell? ⟨b,off + j * 11 + 4,none⟩=some d0_4:=hcell 4 _ rfl
   have Z0_4:=hfz (off + j * 11 + 4)
   have C0_5:wr.cell? ⟨b,off + j * 11 + 5,none⟩=some d0_5:=hcell 5 _ rfl
   have Z0_5:=hfz (off + j * 11 + 5)
   have C0_6:wr.cell? ⟨b,off + j * 11 + 6,none⟩=some d0_6:=hcell 6 _ rfl
   have Z0_6:=hfz (off + j * 11 + 6)
   have C0_7:wr.cell? ⟨b,off + j * 11 + 7,none⟩=some d0_7:=hcell 7 _ rfl
   have Z0_7:=hfz (off + j * 11 + 7)
   have C0_8:wr.cell? ⟨b,off + j * 11 + 8,none⟩=some d0_8:=hcell 8 _ rfl
   have Z0_8:=hfz (off + j * 11 + 8)
   have C0_9:wr.cell? ⟨b,off + j * 11 + 9,none⟩=some d0_9:=hcell 9 _ rfl
   have Z0_9:=hfz (off + j * 11 + 9)
   have C0_10:wr.cell? ⟨b,off + j * 11 + 10,none⟩=some d0_10:=hcell 10 _ rfl
   have Z0_10:=hfz (off + j * 11 + 10)
   clear hB hSb' hcell hfz back
   obtain ⟨s0v2,s0v6,s0v7,s0v8,hce,s0_0,s0_1,s0_2,s0_3,s0_4,s0_5,s0_6,s0_7,s0_8,s0_9,s0_10,s0_11,s0_12,s0_13,s0_14⟩:=zo hc.raw
   simp only [List.cons.injEq,and_true] at hce
   obtain ⟨rfl,rfl,rfl,rfl,rfl,rfl,rfl,rfl,rfl,rfl,rfl⟩:=hce
   obtain ⟨s0a2,s0p2,rfl,_⟩:=Rep.sl s0_3
   obtain ⟨s0a6,s0p6,rfl,_⟩:=Rep.sl s0_9
   obtain ⟨s0a7,s0p7,rfl,_⟩:=Rep.sl s0_10
   obtain ⟨s0a8,s0p8,rfl,_⟩:=Rep.sl s0_12
   clear s0_0 s0_1 s0_2 s0_3 s0_4 s0_5 s0_6 s0_7 s0_8 s0_9 s0_10 s0_11 s0_12 s0_13 s0_14
   clear hc
   go_wp2_with fail
   try simp only [b3eq]
   obtain ⟨O1,T1⟩:=Rep.jV (v:=.int .i64 (q)) (p:=off + j * 11) hown HL.out (show 0 < kU.n by decide) (kTa _ ⟨by omega,by omega⟩) (fun h=>h) (show off + j * 11=off + j * 11 + 0 by omega)
   have T1:=ht.trans (T1.wide mW)
   obtain ⟨O2,T2⟩:=Rep.jV (v:=.bool (decide ((q + 1) % 3=0))) (p:=off + j * 11 + 1) O1 HL.out (show 1 < kU.n by decide) (kSz _) (fun h=>h) (show off + j * 11 + 1=off + j * 11 + 1 by omega)
   have T2:=T1.trans (T2.wide mW)
   obtain ⟨c1,B1,hc1,hB1,_,hcell1,_,back1⟩:=Rep.jR O2 HL.out
   obtain ⟨e1_0,e1_1,e1_2,e1_3,e1_4,e1_5,e1_6,e1_7,e1_8,e1_9,e1_10,rfl⟩:∃ e1_0 e1_1 e1_2 e1_3 e1_4 e1_5 e1_6 e1_7 e1_8 e1_9 e1_10,c1=[e1_0,e1_1,e1_2,e1_3,e1_4,e1_5,e1_6,e1_7,e1_8,e1_9,e1_10]:=by have h:=kU.len hc1.1;match c1,h with | [e1_0,e1_1,e1_2,e1_3,e1_4,e1_5,e1_6,e1_7,e1_8,e1_9,e1_10],_=>exact ⟨_,_,_,_,_,_,_,_,_,_,_,rfl⟩
   have hd1:=hcell1 2 _ rfl
   obtain rfl:e1_2=_:=by simpa [go_sem,C0_2,kFb] using hd1.symm
   obtain ⟨A1,hA1,hAB1,bk1⟩:=kJo hc1
   try simp only [zK,zJ,zH,zG,zF,zD,ym] at hA1
   refine (yY (k:=q + 1 + 1) hA1 rJ (by have:=HQ.out;have e:kU.cnt=1 + (1 + ((Rep.slice 9 Rep.str).cnt + (1 + (1 + (1))) + ((Rep.slice 9 Rep.str).cnt + ((Rep.slice 5 Rep.byte).cnt + ((Rep.slice 9 Rep.str).cnt + (1 + (1))))))):=rfl;omega)).mono ?_
   rintro e w1 ⟨rfl,P1,X1⟩
   have Ox1:=back1 (bk1 P1 X1) (X1.wide hAB1)
   have Tx1:=T2.trans (X1.wide (fun i hi=>(hB1 i (hAB1 i hi)).1))
   have g1:=(Rep.slice 9 Rep.str).mark_ge (e:=true) (x:=y2) (k:=q + 1 + 1)
   have l1:((Rep.slice 9 Rep.str).mark true y2 (q + 1 + 1)).2≤q + 1 + 1 + ((Rep.slice 9 Rep.str).cnt:Nat):=(Rep.slice 9 Rep.str).mark_le (e:=true) (k:=q + 1 + 1) hA1.2
   have u1:((Rep.slice 9 Rep.str).mark true y2 (q + 1 + 1)).2≤4611686018427387904:=by have:=HQ.out;have e:kU.cnt=1 + (1 + ((Rep.slice 9 Rep.str).cnt + (1 + (1 + (1))) + ((Rep.slice 9 Rep.str).cnt + ((Rep.slice 5 Rep.byte).cnt + ((Rep.slice 9 Rep.str).cnt + (1 + (1))))))):=rfl;unfold Top at *;omega
   have M1:=yD l1;clear l1
   clear C0_0 C0_1 C0_2 C0_3 C0_4 C0_5 C0_6 C0_7 C0_8 C0_9 C0_10 Z0_0 Z0_1 Z0_2 Z0_3 Z0_4 Z0_5 Z0_6 Z0_7 Z0_8 Z0_9 Z0_10 hA1 bk1 back1 hc1 hB1 hAB1 P1 X1 hcell1 hd1
   obtain ⟨c,B,hc,hB,hSb',hcell,hfz,back⟩:=Rep.jR Ox1 HL.out
   obtain ⟨d1_0,d1_1,d1_2,d1_3,d1_4,d1_5,d1_6,d1_7,d1_8,d1_9,d1_10,rfl⟩:∃ d1_0 d1_1 d1_2 d1_3 d1_4 d1_5 d1_6 d1_7 d1_8 d1_9 d1_10,c=[d1_0,d1_1,d1_2,d1_3,d1_4,d1_5,d1_6,d1_7,d1_8,d1_9,d1_10]:=by have h:=kU.len hc.1;match c,h with | [d1_0,d1_1,d1_2,d1_3,d1_4,d1_5,d1_6,d1_7,d1_8,d1_9,d1_10],_=>exact ⟨_,_,_,_,_,_,_,_,_,_,_,rfl⟩
   try simp only [zK,zJ,zH,zG,zF,zD,ym] at hc
   have C1_0:w1.cell? ⟨b,off + j * 11,none⟩=some d1_0:=hcell 0 _ rfl
   have Z1_0:=hfz (off + j * 11)
   have C1_1:w1.cell? ⟨b,off + j * 11 + 1,none⟩=some d1_1:=hcell 1 _ rfl
   have Z1_1:=hfz (off + j * 11 + 1)
   have C1_2:w1.cell? ⟨b,off + j * 11 + 2,none⟩=some d1_2:=hcell 2 _ rfl
   have Z1_2:=hfz (off + j * 11 + 2)
   have C1_3:w1.cell? ⟨b,off + j * 11 + 3,none⟩=some d1_3:=hcell 3 _ rfl
   have Z1_3:=hfz (off + j * 11 + 3)
   have C1_4:w1.cell? ⟨b,off + j * 11 + 4,none⟩=some d1_4:=hcell 4 _ rfl
   have Z1_4:=hfz (off + j * 11 + 4)
   have C1_5:w1.cell? ⟨b,off + j * 11 + 5,none⟩=some d1_5:=hcell 5 _ rfl
   have Z1_5:=hfz (off + j * 11 + 5)
   have C1_6:w1.cell? ⟨b,off + j * 11 + 6,none⟩=some d1_6:=hcell 6 _ rfl
   have Z1_6:=hfz (off + j * 11 + 6)
   have C1_7:w1.cell? ⟨b,off + j * 11 + 7,none⟩=some d1_7:=hcell 7 _ rfl
   have Z1_7:=hfz (off + j * 11 + 7)
   have C1_8:w1.cell? ⟨b,off + j * 11 + 8,none⟩=some d1_8:=hcell 8 _ rfl
   have Z1_8:=hfz (off + j * 11 + 8)
   have C1_9:w1.cell? ⟨b,off + j * 11 + 9,none⟩=some d1_9:=hcell 9 _ rfl
   have Z1_9:=hfz (off + j * 11 + 9)
   have C1_10:w1.cell? ⟨b,off + j * 11 + 10,none⟩=some d1_10:=hcell 10 _ rfl
   have Z1_10:=hfz (off + j * 11 + 10)
   clear hB hSb' hcell hfz back
   obtain ⟨s1v2,s1v6,s1v7,s1v8,hce,s1_0,s1_1,s1_2,s1_3,s1_4,s1_5,s1_6,s1_7,s1_8,s1_9,s1_10,s1_11,s1_12,s1_13,s1_14⟩:=zo hc.raw
   simp only [List.cons.injEq,and_true] at hce
   obtain ⟨rfl,rfl,rfl,rfl,rfl,rfl,rfl,rfl,rfl,rfl,rfl⟩:=hce
   obtain ⟨s1a2,s1p2,rfl,_⟩:=Rep.sl s1_3
   obtain ⟨s1a6,s1p6,rfl,_⟩:=Rep.sl s1_9
   obtain ⟨s1a7,s1p7,rfl,_⟩:=Rep.sl s1_10
   obtain ⟨s1a8,s1p8,rfl,_⟩:=Rep.sl s1_12
   clear s1_0 s1_1 s1_2 s1_3 s1_4 s1_5 s1_6 s1_7 s1_8 s1_9 s1_10 s1_11 s1_12 s1_13 s1_14
   clear hc
   go_wp2_with fail
   try simp only [b3eq]
   obtain ⟨O3,T3⟩:=Rep.jV (v:=.int .i64 (((Rep.slice 9 Rep.str).mark true y2 (q + 1 + 1)).2)) (p:=off + j * 11 + 3) Ox1 HL.out (show 3 < kU.n by decide) (kSy _ ⟨by omega,by omega⟩) (fun h=>h) (show off + j * 11 + 3=off + j * 11 + 3 by omega)
   have T3:=Tx1.trans (T3.wide mW)
   obtain ⟨O4,T4⟩:=Rep.jV (v:=.int .i64 (((Rep.slice 9 Rep.str).mark true y2 (q + 1 + 1)).2 + 1)) (p:=off + j * 11 + 4) O3 HL.out (show 4 < kU.n by decide) (kSx _ ⟨by omega,by omega⟩) (fun h=>h) (show off + j * 11 + 4=off + j * 11 + 4 by omega)
   have T4:=T3.trans (T4.wide mW)
   obtain ⟨O5,T5⟩:=Rep.jV (v:=.int .i64 (((Rep.slice 9 Rep.str).mark true y2 (q + 1 + 1)).2 + 1 + 1)) (p:=off + j * 11 + 5) O4 HL.out (show 5 < kU.n by decide) (kSw _ ⟨by omega,by omega⟩) (fun h=>h) (show off + j * 11 + 5=off + j * 11 + 5 by omega)
   have T5:=T4.trans (T5.wide mW)
   obtain ⟨c2,B2,hc2,hB2,_,hcell2,_,back2⟩:=Rep.jR O5 HL.out
   obtain ⟨e2_0,e2_1,e2_2,e2_3,e2_4,e2_5,e2_6,e2_7,e2_8,e2_9,e2_10,rfl⟩:∃ e2_0 e2_1 e2_2 e2_3 e2_4 e2_5 e2_6 e2_7 e2_8 e2_9 e2_10,c2=[e2_0,e2_1,e2_2,e2_3,e2_4,e2_5,e2_6,e2_7,e2_8,e2_9,e2_10]:=by have h:=kU.len hc2.1;match c2,h with | [e2_0,e2_1,e2_2,e2_3,e2_4,e2_5,e2_6,e2_7,e2_8,e2_9,e2_10],_=>exact ⟨_,_,_,_,_,_,_,_,_,_,_,rfl⟩
   have hd2:=hcell2 6 _ rfl
   obtain rfl:e2_6=_:=by simpa [go_sem,C1_6,kFb] using hd2.symm
   obtain ⟨A2,hA2,hAB2,bk2⟩:=kJn hc2
   try simp only [zK,zJ,zH,zG,zF,zD,ym] at hA2
   refine (yY (k:=((Rep.slice 9 Rep.str).mark true y2 (q + 1 + 1)).2 + 1 + 1 + 1) hA2 rJ (by have:=HQ.out;have:=M1.out;have e:kU.cnt=1 + (1 + ((Rep.slice 9 Rep.str).cnt + (1 + (1 + (1))) + ((Rep.slice 9 Rep.str).cnt + ((Rep.slice 5 Rep.byte).cnt + ((Rep.slice 9 Rep.str).cnt + (1 + (1))))))):=rfl;omega)).mono ?_
   rintro e w2 ⟨rfl,P2,X2⟩
   have Ox2:=back2 (bk2 P2 X2) (X2.wide hAB2)
   have Tx2:=T5.trans (X2.wide (fun i hi=>(hB2 i (hAB2 i hi)).1))
   have g2:=(Rep.slice 9 Rep.str).mark_ge (e:=true) (x:=y6) (k:=((Rep.slice 9 Rep.str).mark true y2 (q + 1 + 1)).2 + 1 + 1 + 1)
   have l2:((Rep.slice 9 Rep.str).mark true y6 (((Rep.slice 9 Rep.str).mark true y2 (q + 1 + 1)).2 + 1 + 1 + 1)).2≤((Rep.slice 9 Rep.str).mark true y2 (q + 1 + 1)).2 + 1 + 1 + 1 + ((Rep.slice 9 Rep.str).cnt:Nat):=(Rep.slice 9 Rep.str).mark_le (e:=true) (k:=((Rep.slice 9 Rep.str).mark true y2 (q + 1 + 1)).2 + 1 + 1 + 1) hA2.2
   have u2:((Rep.slice 9 Rep.str).mark true y6 (((Rep.slice 9 Rep.str).mark true y2 (q + 1 + 1)).2 + 1 + 1 + 1)).2≤4611686018427387904:=by have:=HQ.out;have:=M1.out;have e:kU.cnt=1 + (1 + ((Rep.slice 9 Rep.str).cnt + (1 + (1 + (1))) + ((Rep.slice 9 Rep.str).cnt + ((Rep.slice 5 Rep.byte).cnt + ((Rep.slice 9 Rep.str).cnt + (1 + (1))))))):=rfl;unfold Top at *;omega
   have M2:=yD l2;clear l2
   clear C1_0 C1_1 C1_2 C1_3 C1_4 C1_5 C1_6 C1_7 C1_8 C1_9 C1_10 Z1_0 Z1_1 Z1_2 Z1_3 Z1_4 Z1_5 Z1_6 Z1_7 Z1_8 Z1_9 Z1_10 hA2 bk2 back2 hc2 hB2 hAB2 P2 X2 hcell2 hd2
   obtain ⟨c,B,hc,hB,hSb',hcell,hfz,back⟩:=Rep.jR Ox2 HL.out
   obtain ⟨d2_0,d2_1,d2_2,d2_3,d2_4,d2_5,d2_6,d2_7,d2_8,d2_9,d2_10,rfl⟩:∃ d2_0 d2_1 d2_2 d2_3 d2_4 d2_5 d2_6 d2_7 d2_8 d2_9 d2_10,c=[d2_0,d2_1,d2_2,d2_3,d2_4,d2_5,d2_6,d2_7,d2_8,d2_9,d2_10]:=by have h:=kU.len hc.1;match c,h with | [d2_0,d2_1,d2_2,d2_3,d2_4,d2_5,d2_6,d2_7,d2_8,d2_9,d2_10],_=>exact ⟨_,_,_,_,_,_,_,_,_,_,_,rfl⟩
   try simp only [zK,zJ,zH,zG,zF,zD,ym] at hc
   have C2_0:w2.cell? ⟨b,off + j * 11,none⟩=some d2_0:=hcell 0 _ rfl
   have Z2_0:=hfz (off + j * 11)
   have C2_1:w2.cell? ⟨b,off + j * 11 + 1,none⟩=some d2_1:=hcell 1 _ rfl
   have Z2_1:=hfz (off + j * 11 + 1)
   have C2_2:w2.cell? ⟨b,off + j * 11 + 2,none⟩=some d2_2:=hcell 2 _ rfl
   have Z2_2:=hfz (off + j * 11 + 2)
   have C2_3:w2.cell? ⟨b,off + j * 11 + 3,none⟩=some d2_3:=hcell 3 _ rfl
   have Z2_3:=hfz (off + j * 11 + 3)
   have C2_4:w2.cell? ⟨b,off + j * 11 + 4,none⟩=some d2_4:=hcell 4 _ rfl
   have Z2_4:=hfz (off + j * 11 + 4)
   have C2_5:w2.cell? ⟨b,off + j * 11 + 5,none⟩=some d2_5:=hcell 5 _ rfl
   have Z2_5:=hfz (off + j * 11 + 5)
   have C2_6:w2.cell? ⟨b,off + j * 11 + 6,none⟩=some d2_6:=hcell 6 _ rfl
   have Z2_6:=hfz (off + j * 11 + 6)
   have C2_7:w2.cell? ⟨b,off + j * 11 + 7,none⟩=some d2_7:=hcell 7 _ rfl
   have Z2_7:=hfz (off + j * 11 + 7)
   have C2_8:w2.cell? ⟨b,off + j * 11 + 8,none⟩=some d2_8:=hcell 8 _ rfl
   have Z2_8:=hfz (off + j * 11 + 8)
   have C2_9:w2.cell? ⟨b,off + j * 11 + 9,none⟩=some d2_9:=hcell 9 _ rfl
   have Z2_9:=hfz (off + j * 11 + 9)
   have C2_10:w2.cell? ⟨b,off + j * 11 + 10,none⟩=some d2_10:=hcell 10 _ rfl
   have Z2_10:=hfz (off + j * 11 + 10)
   clear hB hSb' hcell hfz back
   obtain ⟨s2v2,s2v6,s2v7,s2v8,hce,s2_0,s2_1,s2_2,s2_3,s2_4,s2_5,s2_6,s2_7,s2_8,s2_9,s2_10,s2_11,s2_12,s2_13,s2_14⟩:=zo hc.raw
   simp only [List.cons.injEq,and_true] at hce
   obtain ⟨rfl,rfl,rfl,rfl,rfl,rfl,rfl,rfl,rfl,rfl,rfl⟩:=hce
   obtain ⟨s2a2,s2p2,rfl,_⟩:=Rep.sl s2_3
   obtain ⟨s2a6,s2p6,rfl,_⟩:=Rep.sl s2_9
   obtain ⟨s2a7,s2p7,rfl,_⟩:=Rep.sl s2_10
   obtain ⟨s2a8,s2p8,rfl,_⟩:=Rep.sl s2_12
   clear s2_0 s2_1 s2_2 s2_3 s2_4 s2_5 s2_6 s2_7 s2_8 s2_9 s2_10 s2_11 s2_12 s2_13 s2_14
   clear hc
   go_wp2_with fail
   try simp only [b3eq]
   obtain ⟨c3,B3,hc3,hB3,_,hcell3,_,back3⟩:=Rep.jR Ox2 HL.out
   obtain ⟨e3_0,e3_1,e3_2,e3_3,e3_4,e3_5,e3_6,e3_7,e3_8,e3_9,e3_10,rfl⟩:∃ e3_0 e3_1 e3_2 e3_3 e3_4 e3_5 e3_6 e3_7 e3_8 e3_9 e3_10,c3=[e3_0,e3_1,e3_2,e3_3,e3_4,e3_5,e3_6,e3_7,e3_8,e3_9,e3_10]:=by have h:=kU.len hc3.1;match c3,h with | [e3_0,e3_1,e3_2,e3_3,e3_4,e3_5,e3_6,e3_7,e3_8,e3_9,e3_10],_=>exact ⟨_,_,_,_,_,_,_,_,_,_,_,rfl⟩
   have hd3:=hcell3 7 _ rfl
   obtain rfl:e3_7=_:=by simpa [go_sem,C2_7,kFb] using hd3.symm
   obtain ⟨A3,hA3,hAB3,bk3⟩:=kMu hc3
   try simp only [zK,zJ,zH,zG,zF,zD,ym] at hA3
   refine (kHv (k:=((Rep.slice 9 Rep.str).mark true y6 (((Rep.slice 9 Rep.str).mark true y2 (q + 1 + 1)).2 + 1 + 1 + 1)).2) hA3 rJ (by have:=HQ.out;have:=M1.out;have:=M2.out;have e:kU.cnt=1 + (1 + ((Rep.slice 9 Rep.str).cnt + (1 + (1 + (1))) + ((Rep.slice 9 Rep.str).cnt + ((Rep.slice 5 Rep.byte).cnt + ((Rep.slice 9 Rep.str).cnt + (1 + (1))))))):=rfl;omega)).mono ?_
   rintro e w3 ⟨rfl,P3,X3⟩
   have Ox3:=back3 (bk3 P3 X3) (X3.wide hAB3)
   have Tx3:=Tx2.trans (X3.wide (fun i hi=>(hB3 i (hAB3 i hi)).1))
   have g3:=(Rep.slice 5 Rep.byte).mark_ge (e:=true) (x:=y7) (k:=((Rep.slice 9 Rep.str).mark true y6 (((Rep.slice 9 Rep.str).mark true y2 (q + 1 + 1)).2 + 1 + 1 + 1)).2)
   have l3:((Rep.slice 5 Rep.byte).mark true y7 (((Rep.slice 9 Rep.str).mark true y6 (((Rep.slice 9 Rep.str).mark true y2 (q + 1 + 1)).2 + 1 + 1 + 1)).2)).2≤((Rep.slice 9 Rep.str).mark true y6 (((Rep.slice 9 Rep.str).mark true y2 (q + 1 + 1)).2 + 1 + 1 + 1)).2 + ((Rep.slice 5 Rep.byte).cnt:Nat):=(Rep.slice 5 Rep.byte).mark_le (e:=true) (k:=((Rep.slice 9 Rep.str).mark true y6 (((Rep.slice 9 Rep.str).mark true y2 (q + 1 + 1)).2 + 1 + 1 + 1)).2) hA3.2
   have u3:((Rep.slice 5 Rep.byte).mark true y7 (((Rep.slice 9 Rep.str).mark true y6 (((Rep.slice 9 Rep.str).mark true y2 (q + 1 + 1)).2 + 1 + 1 + 1)).2)).2≤4611686018427387904:=by have:=HQ.out;have:=M1.out;have:=M2.out;have e:kU.cnt=1 + (1 + ((Rep.slice 9 Rep.str).cnt + (1 + (1 + (1))) + ((Rep.slice 9 Rep.str).cnt + ((Rep.slice 5 Rep.byte).cnt + ((Rep.slice 9 Rep.str).cnt + (1 + (1))))))):=rfl;unfold Top at *;omega
   have M3:=yD l3;clear l3
   clear C2_0 C2_1 C2_2 C2_3 C2_4 C2_5 C2_6 C2_7 C2_8 C2_9 C2_10 Z2_0 Z2_1 Z2_2 Z2_3 Z2_4 Z2_5 Z2_6 Z2_7 Z2_8 Z2_9 Z2_10 hA3 bk3 back3 hc3 hB3 hAB3 P3 X3 hcell3 hd3
   obtain ⟨c,B,hc,hB,hSb',hcell,hfz,back⟩:=Rep.jR Ox3 HL.out
   obtain ⟨d3_0,d3_1,d3_2,d3_3,d3_4,d3_5,d3_6,d3_7,d3_8,d3_9,d3_10,rfl⟩:∃ d3_0 d3_1 d3_2 d3_3 d3_4 d3_5 d3_6 d3_7 d3_8 d3_9 d3_10,c=[d3_0,d3_1,d3_2,d3_3,d3_4,d3_5,d3_6,d3_7,d3_8,d3_9,d3_10]:=by have h:=kU.len hc.1;match c,h with | [d3_0,d3_1,d3_2,d3_3,d3_4,d3_5,d3_6,d3_7,d3_8,d3_9,d3_10],_=>exact ⟨_,_,_,_,_,_,_,_,_,_,_,rfl⟩
   try simp only [zK,zJ,zH,zG,zF,zD,ym] at hc
   have C3_0:w3.cell? ⟨b,off + j * 11,none⟩=some d3_0:=hcell 0 _ rfl
   have Z3_0:=hfz (off + j * 11)
   have C3_1:w3.cell? ⟨b,off + j * 11 + 1,none⟩=some d3_1:=hcell 1 _ rfl
   have Z3_1:=hfz (off + j * 11 + 1)
   have C3_2:w3.cell? ⟨b,off + j * 11 + 2,none⟩=some d3_2:=hcell 2 _ rfl
   have Z3_2:=hfz (off + j * 11 + 2)
   have C3_3:w3.cell? ⟨b,off + j * 11 + 3,none⟩=some d3_3:=hcell 3 _ rfl
   have Z3_3:=hfz (off + j * 11 + 3)
   have C3_4:w3.cell? ⟨b,off + j * 11 + 4,none⟩=some d3_4:=hcell 4 _ rfl
   have Z3_4:=hfz (off + j * 11 + 4)
   have C3_5:w3.cell? ⟨b,off + j * 11 + 5,none⟩=some d3_5:=hcell 5 _ rfl
   have Z3_5:=hfz (off + j * 11 + 5)
   have C3_6:w3.cell? ⟨b,off + j * 11 + 6,none⟩=some d3_6:=hcell 6 _ rfl
   have Z3_6:=hfz (off + j * 11 + 6)
   have C3_7:w3.cell? ⟨b,off + j * 11 + 7,none⟩=some d3_7:=hcell 7 _ rfl
   have Z3_7:=hfz (off + j * 11 + 7)
   have C3_8:w3.cell? ⟨b,off + j * 11 + 8,none⟩=some d3_8:=hcell 8 _ rfl
   have Z3_8:=hfz (off + j * 11 + 8)
   have C3_9:w3.cell? ⟨b,off + j * 11 + 9,none⟩=some d3_9:=hcell 9 _ rfl
   have Z3_9:=hfz (off + j * 11 + 9)
   have C3_10:w3.cell? ⟨b,off + j * 11 + 10,none⟩=some d3_10:=hcell 10 _ rfl
   have Z3_10:=hfz (off + j * 11 + 10)
   clear hB hSb' hcell hfz back
   obtain ⟨s3v2,s3v6,s3v7,s3v8,hce,s3_0,s3_1,s3_2,s3_3,s3_4,s3_5,s3_6,s3_7,s3_8,s3_9,s3_10,s3_11,s3_12,s3_13,s3_14⟩:=zo hc.raw
   simp only [List.cons.injEq,and_true] at hce
   obtain ⟨rfl,rfl,rfl,rfl,rfl,rfl,rfl,rfl,rfl,rfl,rfl⟩:=hce
   obtain ⟨s3a2,s3p2,rfl,_⟩:=Rep.sl s3_3
   obtain ⟨s3a6,s3p6,rfl,_⟩:=Rep.sl s3_9
   obtain ⟨s3a7,s3p7,rfl,_⟩:=Rep.sl s3_10
   obtain ⟨s3a8,s3p8,rfl,_⟩:=Rep.sl s3_12
   clear s3_0 s3_1 s3_2 s3_3 s3_4 s3_5 s3_6 s3_7 s3_8 s3_9 s3_10 s3_11 s3_12 s3_13 s3_14
   clear hc
   go_wp2_with fail
   try simp only [b3eq]
   obtain ⟨c4,B4,hc4,hB4,_,hcell4,_,back4⟩:=Rep.jR Ox3 HL.out
   obtain ⟨e4_0,e4_1,e4_2,e4_3,e4_4,e4_5,e4_6,e4_7,e4_8,e4_9,e4_10,rfl⟩:∃ e4_0 e4_1 e4_2 e4_3 e4_4 e4_5 e4_6 e4_7 e4_8 e4_9 e4_10,c4=[e4_0,e4_1,e4_2,e4_3,e4_4,e4_5,e4_6,e4_7,e4_8,e4_9,e4_10]:=by have h:=kU.len hc4.1;match c4,h with | [e4_0,e4_1,e4_2,e4_3,e4_4,e4_5,e4_6,e4_7,e4_8,e4_9,e4_10],_=>exact ⟨_,_,_,_,_,_,_,_,_,_,_,rfl⟩
   have hd4:=hcell4 8 _ rfl
   obtain rfl:e4_8=_:=by simpa [go_sem,C3_8,kFb] using hd4.symm
   obtain ⟨A4,hA4,hAB4,bk4⟩:=kJm hc4
   try simp only [zK,zJ,zH,zG,zF,zD,ym] at hA4
   refine (yY (k:=((Rep.slice 5 Rep.byte).mark true y7 (((Rep.slice 9 Rep.str).mark true y6 (((Rep.slice 9 Rep.str).mark true y2 (q + 1 + 1)).2 + 1 + 1 + 1)).2)).2) hA4 rJ (by have:=HQ.out;have:=M1.out;have:=M2.out;have:=M3.out;have e:kU.cnt=1 + (1 + ((Rep.slice 9 Rep.str).cnt + (1 + (1 + (1))) + ((Rep.slice 9 Rep.str).cnt + ((Rep.slice 5 Rep.byte).cnt + ((Rep.slice 9 Rep.str).cnt + (1 + (1))))))):=rfl;omega)).mono ?_
   rintro e w4 ⟨rfl,P4,X4⟩
   have Ox4:=back4 (bk4 P4 X4) (X4.wide hAB4)
   have Tx4:=Tx3.trans (X4.wide (fun i hi=>(hB4 i (hAB4 i hi)).1))
   have g4:=(Rep.slice 9 Rep.str).mark_ge (e:=true) (x:=y8) (k:=((Rep.slice 5 Rep.byte).mark true y7 (((Rep.slice 9 Rep.str).mark true y6 (((Rep.slice 9 Rep.str).mark true y2 (q + 1 + 1)).2 + 1 + 1 + 1)).2)).2)
   have l4:((Rep.slice 9 Rep.str).mark true y8 (((Rep.slice 5 Rep.byte).mark true y7 (((Rep.slice 9 Rep.str).mark true y6 (((Rep.slice 9 Rep.str).mark true y2 (q + 1 + 1)).2 + 1 + 1 + 1)).2)).2)).2≤((Rep.slice 5 Rep.byte).mark true y7 (((Rep.slice 9 Rep.str).mark true y6 (((Rep.slice 9 Rep.str).mark true y2 (q + 1 + 1)).2 + 1 + 1 + 1)).2)).2 + ((Rep.slice 9 Rep.str).cnt:Nat):=(Rep.slice 9 Rep.str).mark_le (e:=true) (k:=((Rep.slice 5 Rep.byte).mark true y7 (((Rep.slice 9 Rep.str).mark true y6 (((Rep.slice 9 Rep.str).mark true y2 (q + 1 + 1)).2 + 1 + 1 + 1)).2)).2) hA4.2
   have u4:((Rep.slice 9 Rep.str).mark true y8 (((Rep.slice 5 Rep.byte).mark true y7 (((Rep.slice 9 Rep.str).mark true y6 (((Rep.slice 9 Rep.str).mark true y2 (q + 1 + 1)).2 + 1 + 1 + 1)).2)).2)).2≤4611686018427387904:=by have:=HQ.out;have:=M1.out;have:=M2.out;have:=M3.out;have e:kU.cnt=1 + (1 + ((Rep.slice 9 Rep.str).cnt + (1 + (1 + (1))) + ((Rep.slice 9 Rep.str).cnt + ((Rep.slice 5 Rep.byte).cnt + ((Rep.slice 9 Rep.str).cnt + (1 + (1))))))):=rfl;unfold Top at *;omega
   have M4:=yD l4;clear l4
   clear C3_0 C3_1 C3_2 C3_3 C3_4 C3_5 C3_6 C3_7 C3_8 C3_9 C3_10 Z3_0 Z3_1 Z3_2 Z3_3 Z3_4 Z3_5 Z3_6 Z3_7 Z3_8 Z3_9 Z3_10 hA4 bk4 back4 hc4 hB4 hAB4 P4 X4 hcell4 hd4
   obtain ⟨c,B,hc,hB,hSb',hcell,hfz,back⟩:=Rep.jR Ox4 HL.out
   obtain ⟨d4_0,d4_1,d4_2,d4_3,d4_4,d4_5,d4_6,d4_7,d4_8,d4_9,d4_10,rfl⟩:∃ d4_0 d4_1 d4_2 d4_3 d4_4 d4_5 d4_6 d4_7 d4_8 d4_9 d4_10,c=[d4_0,d4_1,d4_2,d4_3,d4_4,d4_5,d4_6,d4_7,d4_8,d4_9,d4_10]:=by have h:=kU.len hc.1;match c,h with | [d4_0,d4_1,d4_2,d4_3,d4_4,d4_5,d4_6,d4_7,d4_8,d4_9,d4_10],_=>exact ⟨_,_,_,_,_,_,_,_,_,_,_,rfl⟩
   try simp only [zK,zJ,zH,zG,zF,zD,ym] at hc
   have C4_0:w4.cell? ⟨b,off + j * 11,none⟩=some d4_0:=hcell 0 _ rfl
   have Z4_0:=hfz (off + j * 11)
   have C4_1:w4.cell? ⟨b,off + j * 11 + 1,none⟩=some d4_1:=hcell 1 _ rfl
   have Z4_1:=hfz (off + j * 11 + 1)
   have C4_2:w4.cell? ⟨b,off + j * 11 + 2,none⟩=some d4_2:=hcell 2 _ rfl
   have Z4_2:=hfz (off + j * 11 + 2)
   have C4_3:w4.cell? ⟨b,off + j * 11 + 3,none⟩=some d4_3:=hcell 3 _ rfl
   have Z4_3:=hfz (off + j * 11 + 3)
   have C4_4:w4.cell? ⟨b,off + j * 11 + 4,none⟩=some d4_4:=hcell 4 _ rfl
   have Z4_4:=hfz (off + j * 11 + 4)
   have C4_5:w4.cell? ⟨b,off + j * 11 + 5,none⟩=some d4_5:=hcell 5 _ rfl
   have Z4_5:=hfz (off + j * 11 + 5)
   have C4_6:w4.cell? ⟨b,off + j * 11 + 6,none⟩=some d4_6:=hcell 6 _ rfl
   have Z4_6:=hfz (off + j * 11 + 6)
   have C4_7:w4.cell? ⟨b,off + j * 11 + 7,none⟩=some d4_7:=hcell 7 _ rfl
   have Z4_7:=hfz (off + j * 11 + 7)
   have C4_8:w4.cell? ⟨b,off + j * 11 + 8,none⟩=some d4_8:=hcell 8 _ rfl
   have Z4_8:=hfz (off + j * 11 + 8)
   have C4_9:w4.cell? ⟨b,off + j * 11 + 9,none⟩=some d4_9:=hcell 9 _ rfl
   have Z4_9:=hfz (off + j * 11 + 9)
   have C4_10:w4.cell? ⟨b,off + j * 11 + 10,none⟩=some d4_10:=hcell 10 _ rfl
   have Z4_10:=hfz (off + j * 11 + 10)
   clear hB hSb' hcell hfz back
   obtain ⟨s4v2,s4v6,s4v7,s4v8,hce,s4_0,s4_1,s4_2,s4_3,s4_4,s4_5,s4_6,s4_7,s4_8,s4_9,s4_10,s4_11,s4_12,s4_13,s4_14⟩:=zo hc.raw
   simp only [List.cons.injEq,and_true] at hce
   obtain ⟨rfl,rfl,rfl,rfl,rfl,rfl,rfl,rfl,rfl,rfl,rfl⟩:=hce
   obtain ⟨s4a2,s4p2,rfl,_⟩:=Rep.sl s4_3
   obtain ⟨s4a6,s4p6,rfl,_⟩:=Rep.sl s4_9
   obtain ⟨s4a7,s4p7,rfl,_⟩:=Rep.sl s4_10
   obtain ⟨s4a8,s4p8,rfl,_⟩:=Rep.sl s4_12
   clear s4_0 s4_1 s4_2 s4_3 s4_4 s4_5 s4_6 s4_7 s4_8 s4_9 s4_10 s4_11 s4_12 s4_13 s4_14
   clear hc
   obtain ⟨O6,T6⟩:=Rep.jV (v:=.int .i64 (((Rep.slice 9 Rep.str).mark true y8 (((Rep.slice 5 Rep.byte).mark true y7 (((Rep.slice 9 Rep.str).mark true y6 (((Rep.slice 9 Rep.str).mark true y2 (q + 1 + 1)).2 + 1 + 1 + 1)).2)).2)).2)) (p:=off + j * 11 + 9) Ox4 HL.out (show 9 < kU.n by decide) (kSv _ ⟨by omega,by omega⟩) (fun h=>h) (show off + j * 11 + 9=off + j * 11 + 9 by omega)
   have T6:=Tx4.trans (T6.wide mW)
   obtain ⟨O7,T7⟩:=Rep.jV (v:=.int .i64 (((Rep.slice 9 Rep.str).mark true y8 (((Rep.slice 5 Rep.byte).mark true y7 (((Rep.slice 9 Rep.str).mark true y6 (((Rep.slice 9 Rep.str).mark true y2 (q + 1 + 1)).2 + 1 + 1 + 1)).2)).2)).2 + 1)) (p:=off + j * 11 + 10) O6 HL.out (show 10 < kU.n by decide) (kQe _ ⟨by omega,by omega⟩) (fun h=>h) (show off + j * 11 + 10=off + j * 11 + 10 by omega)
   have T7:=T6.trans (T7.wide mW)
   have EQ:=HEH.out _ rfl
   have OF:=yD (EQ.out ▸ O7);have TF:=yD T7
   have QF:Hid ((((Rep.slice 9 Rep.str).mark true y8 (((Rep.slice 5 Rep.byte).mark true y7 (((Rep.slice 9 Rep.str).mark true y6 (((Rep.slice 9 Rep.str).mark true y2 (q + 1 + 1)).2 + 1 + 1 + 1)).2)).2)).2 + 1 + 1)=(Rep.mkL kU (x.take (j + 1)) k).2):=yD qG
   go_wp2
   go_roundw
   case rel=>exact ⟨j + 1,by omega,by go_num,by rw [← QF.out],OF.out,TF.out⟩
   simp [intOf];omega
 obtain ⟨e1,e2⟩:=Rep.kAx (r:=kU) (k:=k) hlt
 rw [e1] at hown
 have HO:=yD hown;have HT:=yD e2;clear hown e1 e2
 go_wp2
 go_ret
 exact ⟨jI HT.out,HO.out,ht⟩
theorem kWg {w:World} {ca:List Value} {x:kGv} {k:Int} {S:Nat→Prop} (ha:yP.own w ca x S) (hk0:0≤k) (hk1:k + (yP.cnt:Nat)≤Top) :
    Calls Tryz.prog 19 #[.agg ca.toArray,.int .i64 k] w (zy yP false x k ca S w):=by
 have hl:=ha.live
 obtain ⟨av0,av2,av3,av4,av5,av6,av8,rfl,a_0,a_1,a_2,a_3,a_4,a_5,a_6,a_7,a_8,a_9,a_10⟩:=yG ha.raw
 obtain ⟨x0,x1⟩:=x
 clear a_0 a_1 a_2 a_3 a_4 a_5 a_6 a_7 a_8 a_9 a_10
 have HQ:=yD hk1;clear hk1
 have k2:k≤4611686018427387904:=fU
 go_enter Tryz.func19,Tryz.ntmps19
 go_wp2_with fail
 have O0:=yD (fun o=>Rep.own.alloc hl o)
 obtain ⟨A1,hA1,hAB1,bk1⟩:=kUe (O0.out _)
 refine (kRw (k:=k) hA1 rJ (by have:=HQ.out;have e:yP.cnt=jM.cnt + ((Rep.slice 117 kU).cnt):=rfl;omega)).mono ?_
 rintro e w1 ⟨rfl,P1,X1⟩
 have O1x:=bk1 P1 X1
 have g1:=jM.mark_ge (e:=false) (x:=x0) (k:=k)
 have l1:(jM.mark false x0 (k)).2≤k + (jM.cnt:Nat):=jM.mark_le (e:=false) (k:=k) hA1.2
 have u1:(jM.mark false x0 (k)).2≤4611686018427387904:=by have:=HQ.out;have e:yP.cnt=jM.cnt + ((Rep.slice 117 kU).cnt):=rfl;unfold Top at *;omega
 have M1:=yD l1;clear l1
 have T1x:Touch S w w1:=(Touch.of_below (Rep.kAe w _)).trans (X1.wide (fun i hi=>(hAB1 i hi).1))
 have hz1:w.heap.size + 1≤w1.heap.size:=mK
 have hc1:∀ o,w1.cell? ⟨w.heap.size,o,none⟩=_:=fun o=>World.cell?_of_block (a:=⟨w.heap.size,o,none⟩) (X1.block w.heap.size rM gX)
 have hf1:∀ o,w1.frozen? ⟨w.heap.size,o,none⟩=_:=fun o=>World.frozen?_of_block (a:=⟨w.heap.size,o,none⟩) (X1.block w.heap.size rM gX)
 simp [go_sem] at hc1
 clear hA1 hAB1 bk1 P1 X1
 go_wp2_with fail
 obtain ⟨A2,hA2,hAB2,bk2⟩:=kUd O1x
 refine (kPj (k:=(jM.mark false x0 (k)).2) hA2 rJ (by have:=HQ.out;have:=M1.out;have e:yP.cnt=jM.cnt + ((Rep.slice 117 kU).cnt):=rfl;omega)).mono ?_
 rintro e w2 ⟨rfl,P2,X2⟩
 have O2x:=bk2 P2 X2
 have g2:=(Rep.slice 117 kU).mark_ge (e:=true) (x:=x1) (k:=(jM.mark false x0 (k)).2)
 have l2:((Rep.slice 117 kU).mark true x1 ((jM.mark false x0 (k)).2)).2≤(jM.mark false x0 (k)).2 + ((Rep.slice 117 kU).cnt:Nat):=(Rep.slice 117 kU).mark_le (e:=true) (k:=(jM.mark false x0 (k)).2) hA2.2
 have u2:((Rep.slice 117 kU).mark true x1 ((jM.mark false x0 (k)).2)).2≤4611686018427387904:=by have:=HQ.out;have:=M1.out;have e:yP.cnt=jM.cnt + ((Rep.slice 117 kU).cnt):=rfl;unfold Top at *;omega
 have M2:=yD l2;clear l2
 have T2x:Touch S w w2:=T1x.trans (X2.wide (fun i hi=>(hAB2 i hi).1))
 have hz2:w.heap.size + 1≤w2.heap.size:=by have:=X2.size;omega
 have hc2:∀ o,w2.cell? ⟨w.heap.size,o,none⟩=_:=fun o=>(World.cell?_of_block (a:=⟨w.heap.size,o,none⟩) (X2.block w.heap.size rJ (fun q=>by have:=(hAB2 _ q).2;omega))).trans (hc1 o)
 clear hc1 hf1
 clear hA2 hAB2 bk2 P2 X2
 have OF:=yD (Rep.own.wide (T:=S) O2x (fun j hj=>hj.1));have TF:=yD T2x
 clear ha hl
 go_wp2
 go_ret
 exact ⟨rfl,OF.out,TF.out⟩
theorem kRx {w:World} {ca:List Value} {x:jF} {k:Int} {S:Nat→Prop} (ha:kw.own w ca x S) (hk0:0≤k) (hk1:k + (kw.cnt:Nat)≤Top) :
    Calls Tryz.prog 18 #[.agg ca.toArray,.int .i64 k] w (zy kw false x k ca S w):=by
 have hl:=ha.live
 obtain ⟨av0,rfl,a_0,a_1,a_2,a_3,a_4⟩:=jA ha.raw
 obtain ⟨x0,x1,x2,x3⟩:=x
 clear a_0 a_1 a_2 a_3 a_4
 have HQ:=yD hk1;clear hk1
 have k2:k≤4611686018427387904:=fU
 go_enter Tryz.func18,Tryz.ntmps18
 go_wp2_with fail
 have O0:=yD (fun o=>Rep.own.alloc hl o)
 obtain ⟨A1,hA1,hAB1,bk1⟩:=kQf (O0.out _)
 refine (markName_c (k:=k) hA1 rJ (by have:=HQ.out;have e:kw.cnt=kZ.cnt + (1 + (1 + (1))):=rfl;omega)).mono ?_
 rintro e w1 ⟨rfl,P1,X1⟩
 have O1x:=bk1 P1 X1
 have g1:=kZ.mark_ge (e:=false) (x:=x0) (k:=k)
 have l1:(kZ.mark false x0 (k)).2≤k + (kZ.cnt:Nat):=kZ.mark_le (e:=false) (k:=k) hA1.2
 have u1:(kZ.mark false x0 (k)).2≤4611686018427387904:=by have:=HQ.out;have e:kw.cnt=kZ.cnt + (1 + (1 + (1))):=rfl;unfold Top at *;omega
 have M1:=yD l1;clear l1
 have T1x:Touch S w w1:=(Touch.of_below (Rep.kAe w _)).trans (X1.wide (fun i hi=>(hAB1 i hi).1))
 have hz1:w.heap.size + 1≤w1.heap.size:=mK
 have hc1:∀ o,w1.cell? ⟨w.heap.size,o,none⟩=_:=fun o=>World.cell?_of_block (a:=⟨w.heap.size,o,none⟩) (X1.block w.heap.size rM gX)
 have hf1:∀ o,w1.frozen? ⟨w.heap.size,o,none⟩=_:=fun o=>World.frozen?_of_block (a:=⟨w.heap.size,o,none⟩) (X1.block w.heap.size rM gX)
 simp [go_sem] at hc1
 clear hA1 hAB1 bk1 P1 X1
 have OF:=yD (Rep.own.wide (T:=S) O1x (fun j hj=>hj.1));have TF:=yD T1x
 clear ha hl
 go_wp2
 go_ret
 exact ⟨rfl,OF.out,TF.out⟩
end Go.Proofs.YtomdenfcfbkfbaaGreat
namespace Go.Proofs.YtomdenfcfbkfbaaGreat
open Go Go.RowKit
def kRf (md:Region.Mode) (ops:Array Oper):Nat→List Bool→Array Bool→Bool
  | _,[],listed=>(Region.ready md ops listed).isEmpty
  | k,true :: p,listed=>(Region.ready md ops listed).contains k && Region.free md ops listed k && kRf md ops (k + 1) p (listed.setIfInBounds k true)
  | k,false :: p,listed=>(Region.ready md ops listed==[k]) && kRf md ops (k + 1) p (listed.setIfInBounds k true)
def softOk (md:Region.Mode) (ops:Array Oper) (p:List Bool):Bool:=Region.noSelect ops && (p.length==ops.size && kRf md ops 0 p (Array.replicate ops.size false))
section
variable {P:Program} {ops:Array Oper} {S:World→Prop} {Q:Exit→Act→World→Prop}
def kCo (P:Program) (ops:Array Oper) (S:World→Prop) (Q:Exit→Act→World→Prop):Nat→List Oper→List Bool→Act→World→Prop
  | k,o :: l,true :: p,a,w=>∃ v,YieldsIf P ops S o v a∧kCo P ops S Q (k + 1) l p (a.put o.dst v) w
  | k,o :: l,false :: p,a,w=>if Region.wanted o (yielded ops a.tmps) then o.wp P a w (fun a' w'=>S w'∧kCo P ops S Q (k + 1) l p a' w') Q∨(o.asks P a w∧LetsOut Q) else S w∧kCo P ops S Q (k + 1) l p (a.put o.dst undef) w
  | _,l,_,a,w=>wpList P ops Q l a w
@[irreducible] def soft (P:Program) (ops:Array Oper) (S:World→Prop) (Q:Exit→Act→World→Prop) (k:Nat) (l:List Oper) (p:List Bool) (a:Act) (w:World):Prop:=kCo P ops S Q k l p a w
theorem kHk (hs:Region.noSelect ops=true) (hQ:∀ c a d v w,Q (.panic c) (Act.put a d v) w→Q (.panic c) a w):∀ (p:List Bool) (l:List Oper) (k:Nat) (fuel:Nat) (listed:Array Bool) (a:Act) (w:World),
    l.length=p.length→(∀ j,l[j]?=ops[k + j]?)→p.length≤fuel→kRf .any ops k p listed=true→S w→kCo P ops S Q k l p a w→wpAnyH P .any ops Q S fuel listed a w
  | [],[],k,fuel,listed,a,w,_,_,_,hB,_,h=>wpAnyH_done (by simpa [kRf] using hB) (by simpa [kCo,wpList] using h) fuel
  | [],o :: l,k,fuel,listed,a,w,hl,_,_,hB,_,h=>by simp at hl
  | b :: p,[],k,fuel,listed,a,w,hl,_,_,hB,_,h=>by simp at hl
  | b :: p,o :: l,k,0,listed,a,w,hl,_,hf,hB,_,h=>by simp at hf
  | true :: p,o :: l,k,fuel + 1,listed,a,w,hl,ho,hf,hB,hS,h=>by
    obtain ⟨v,hy,h⟩:=h
    simp only [kRf,Bool.and_eq_true] at hB
    have h0:ops[k]?=some o:=nX
    exact wpAnyH_take h0 hs hB.1.2 hB.1.1 (fun c a w=>hQ c a _ _ w) hy hS (kHk hs hQ p l (k + 1) fuel _ _ _ qP (fun j=>by have:=ho (j + 1);simpa [Nat.add_assoc,Nat.add_comm 1 j] using this) qR hB.2 hS h)
  | false :: p,o :: l,k,fuel + 1,listed,a,w,hl,ho,hf,hB,hS,h=>by
    simp only [kRf,Bool.and_eq_true,beq_iff_eq] at hB
    have h0:ops[k]?=some o:=nX
    refine wpAnyH_all hB.1 rM ?_
    intro j hj
    obtain rfl:j=k:=qK
    have go:∀ a' w',S w'∧kCo P ops S Q (j + 1) l p a' w'→S w'∧wpAnyH P .any ops Q S fuel (listed.setIfInBounds j true) a' w':=fun a' w' h' =>
      ⟨h'.1,kHk hs hQ p l (j + 1) fuel _ _ _ qP (fun i=>by have:=ho (i + 1);simpa [Nat.add_assoc,Nat.add_comm 1 i] using this) qR hB.2 h'.1 h'.2⟩
    refine wpOp_mono go ?_
    unfold wpOp
    simp only [h0]
    exact h
theorem kV {id:Nat} {a:Act} {w:World} {l:List Oper} (S:World→Prop) (p:List Bool) (hm:P.follows .mixedOrders=true) (hB:softOk .any l.toArray p=true)
    (hQ:∀ c a d v w,Q (.panic c) (Act.put a d v) w→Q (.panic c) a w) (hS:S { w with drawn:=w.drawn + 1 })
    (h:∀ w',S w'→soft P l.toArray S Q 0 l p a w'):(Code.region id l.toArray true).wp P Q a w:=by
 simp only [softOk,Bool.and_eq_true,beq_iff_eq] at hB
 have h:=h _ hS
 unfold soft at h
 exact wp_region_held (S:=S) hm (kHk hB.1 hQ p l 0 _ _ a _ (by simpa using hB.2.1.symm) (fun j=>by simp) (by rw [hB.2.1];exact Nat.le_refl _) hB.2.2 hS h)
def kDg (P:Program) (md:Region.Mode) (ops:Array Oper) (Q:Exit→Act→World→Prop) (S:World→Prop) (n:Nat) (L:Array Bool→Act→World→Prop):Nat→Array Bool→Act→World→Prop
  | 0,listed,a,w=>L listed a w
  | f + 1,listed,a,w =>
    Region.ready md ops listed≠[]∧∀ i∈Region.ready md ops listed,i < n∧wpOp P ops Q i (fun a' w'=>S w'∧kDg P md ops Q S n L f (listed.setIfInBounds i true) a' w') a w
theorem kCm {md:Region.Mode} {n g:Nat} {L:Array Bool→Act→World→Prop} (hL:∀ listed a w,L listed a w→wpAny P md ops Q g listed a w) :
    ∀ (f:Nat) (listed:Array Bool) (a:Act) (w:World),kDg P md ops Q S n L f listed a w→wpAny P md ops Q (f + g) listed a w
  | 0,listed,a,w,h=>by rw [Nat.zero_add];exact hL _ _ _ h
  | f + 1,listed,a,w,h=>by
    rw [show f + 1 + g=(f + g) + 1 by omega]
    exact ⟨fun h0=>absurd h0 h.1,fun i hi=>wpOp_mono (fun a' w' h'=>kCm hL f _ a' w' h'.2) (h.2 i hi).2⟩
theorem kJr {md:Region.Mode} {n i:Nat} {oi:Oper} {v:Value} {L:Array Bool→Act→World→Prop} (hi:ops[i]?=some oi) (hsel:∀ (j:Nat) (o:Oper) cs b,ops[j]?=some o→o.op≠.select cs b)
    (hQ:∀ c a w,Q (.panic c) (a.put oi.dst v) w→Q (.panic c) a w)
    (hs:Region.sinkB md ops n=true) (hc:Region.chainB md ops n=true) (hn:n < ops.size) (hin:i < n)
    (hdone:∀ listed a w,L listed a w→∀ j∈Region.ready md ops listed,n≤j) :
    ∀ (f:Nat) (listed:Array Bool) (a:Act) (w:World),HeadInv md ops n listed →
      (∀ j oj,ops[j]?=some oj→j≠i→listed.getD j true=false→(∀ e∈oj.after,Region.binds md e=true→e.on≠i)→oi.apart ops oj=true) →
      i∈Region.ready md ops listed→YieldsIf P ops S oi v a→S w →
      kDg P md ops Q S n L f (listed.setIfInBounds i true) (a.put oi.dst v) w→kDg P md ops Q S n L (f + 1) listed a w:=by
 intro f
 induction f with
 | zero =>
   intro listed a w inv _ hr hy hS H
   have hun:=(mem_ready.1 hr).1
   refine ⟨fun h=>pG,fun j hj=>?_⟩
   have hjn:j < n:=by
     rcases Nat.lt_or_ge j n with h | h
     · exact h
     · exact absurd hj (tail_waits hs hc hn inv _ i rfl hin hun j h)
   refine ⟨hjn,?_⟩
   by_cases hji:j=i
   · subst hji;exact hy.wpOp hi hS ⟨hS,H⟩
   · have:=hdone _ _ _ H j (ready_mono hj hji)
     omega
 | succ f ih =>
   intro listed a w inv hfree hr hy hS H
   have hun:=(mem_ready.1 hr).1
   refine ⟨fun h=>pG,fun j hj=>?_⟩
   have hjn:j < n:=by
     rcases Nat.lt_or_ge j n with h | h
     · exact h
     · exact absurd hj (tail_waits hs hc hn inv _ i rfl hin hun j h)
   refine ⟨hjn,?_⟩
   by_cases hji:j=i
   · subst hji;exact hy.wpOp hi hS ⟨hS,H⟩
   · have h1:=(H.2 j (ready_mono hj hji)).2
     obtain ⟨hjun,oj,hoj,hall⟩:=mem_ready.1 hj
     have hnot:∀ e∈oj.after,Region.binds md e=true→e.on≠i:=fun e he hb heq=>by
       have h1:=hall e he hb
       rw [heq,getD_both hun] at h1
       cases h1
     have h2:=wpOp_putIf hoj (hfree j oj hoj hji hjun hnot) (fun cs b=>hsel i oi cs b hi) (fun cs b=>hsel j oj cs b hoj) hQ hy h1
     have hfree':∀ k ok,ops[k]?=some ok→k≠i→(listed.setIfInBounds j true).getD k true=false →
         (∀ e∈ok.after,Region.binds md e=true→e.on≠i)→oi.apart ops ok=true:=fun k ok hk hki hun hno=>by
       refine hfree k ok hk hki ?_ hno
       by_cases hjk:j=k
       · subst hjk;exact hjun
       · rw [getD_set_ne true hjk] at hun;exact hun
     refine wpOp_mono (fun a' w' h3=>⟨h3.2.1,ih (listed.setIfInBounds j true) a' w' (inv.set hj hjn) hfree' (ready_mono hr (Ne.symm hji)) h3.1 h3.2.1 ?_⟩) h2
     rw [Array.setIfInBounds_comm _ _ hji]
     exact h3.2.2
def kKj (md:Region.Mode) (ops:Array Oper) (g:Nat):Nat→List Bool→Array Bool→Bool
  | k,[],listed=>Region.seqB md ops g k listed
  | k,true :: p,listed=>(Region.ready md ops listed).contains k && Region.free md ops listed k && kKj md ops g (k + 1) p (listed.setIfInBounds k true)
  | k,false :: p,listed=>(Region.ready md ops listed==[k]) && kKj md ops g (k + 1) p (listed.setIfInBounds k true)
def softTOk (md:Region.Mode) (ops:Array Oper) (p:List Bool):Bool :=
  Region.noSelect ops && (decide (p.length < ops.size) && (Region.sinkB md ops p.length && (Region.chainB md ops p.length && kKj md ops (ops.size - p.length) 0 p (Array.replicate ops.size false))))
theorem kGa {n g:Nat} (hsel:Region.noSelect ops=true) (hQ:∀ c a d v w,Q (.panic c) (Act.put a d v) w→Q (.panic c) a w)
    (hs:Region.sinkB .any ops n=true) (hc:Region.chainB .any ops n=true) (hn:n < ops.size):∀ (p:List Bool) (l:List Oper) (k:Nat) (listed:Array Bool) (a:Act) (w:World),
    k + p.length=n→(∀ j,l[j]?=ops[k + j]?)→HeadInv .any ops n listed→kKj .any ops g k p listed=true→l.length=p.length + g→S w→kCo P ops S Q k l p a w →
    kDg P .any ops Q S n (fun listed a w=>Region.seqB .any ops g n listed=true∧∃ l,(∀ j,l[j]?=ops[n + j]?)∧l.length=g∧wpList P ops Q l a w) p.length listed a w
  | [],l,k,listed,a,w,hk,ho,inv,hB,hl,hS,h=>by
    obtain rfl:k=n:=qN
    refine ⟨by simpa [kKj] using hB,l,ho,by simpa using hl,?_⟩
    cases l <;> exact h
  | b :: p,[],k,listed,a,w,hk,ho,inv,hB,hl,hS,h=>by simp at hl;omega
  | true :: p,o :: l,k,listed,a,w,hk,ho,inv,hB,hl,hS,h=>by
    obtain ⟨v,hy,h⟩:=h
    simp only [kKj,Bool.and_eq_true] at hB
    have h0:ops[k]?=some o:=nX
    have hr:k∈Region.ready .any ops listed:=by simpa using hB.1.1
    have hkn:k < n:=by simp at hk;omega
    exact kJr h0 (Region.noSelect_spec hsel) (fun c a w=>hQ c a _ _ w) hs hc hn hkn (fun listed' a' w' hL=>seqB_ready hL.1) p.length listed a w inv (Region.free_spec h0 hB.1.2) hr hy hS
      (kGa hsel hQ hs hc hn p l (k + 1) _ _ _ (by simp at hk;omega) (fun j=>by have:=ho (j + 1);simpa [Nat.add_assoc,Nat.add_comm 1 j] using this) (inv.set hr hkn) hB.2 (by simp at hl;omega) hS h)
  | false :: p,o :: l,k,listed,a,w,hk,ho,inv,hB,hl,hS,h=>by
    simp only [kKj,Bool.and_eq_true,beq_iff_eq] at hB
    have h0:ops[k]?=some o:=nX
    have hr:k∈Region.ready .any ops listed:=by rw [hB.1];simp
    have hkn:k < n:=by simp at hk;omega
    refine ⟨by rw [hB.1];simp,fun j hj=>?_⟩
    rw [hB.1] at hj
    obtain rfl:j=k:=qK
    refine ⟨hkn,?_⟩
    have go:∀ a' w',S w'∧kCo P ops S Q (j + 1) l p a' w'→S w'∧kDg P .any ops Q S n (fun listed a w=>Region.seqB .any ops g n listed=true∧∃ l,(∀ j,l[j]?=ops[n + j]?)∧l.length=g∧wpList P ops Q l a w) p.length (listed.setIfInBounds j true) a' w':=fun a' w' h' =>
      ⟨h'.1,kGa hsel hQ hs hc hn p l (j + 1) _ _ _ (by simp at hk;omega) (fun i=>by have:=ho (i + 1);simpa [Nat.add_assoc,Nat.add_comm 1 i] using this) (inv.set hr hkn) hB.2 (by simp at hl;omega) h'.1 h'.2⟩
    refine wpOp_mono go ?_
    unfold wpOp
    simp only [h0]
    exact h
theorem zN {id:Nat} {a:Act} {w:World} {l:List Oper} (S:World→Prop) (p:List Bool) (hm:P.follows .mixedOrders=true) (hB:softTOk .any l.toArray p=true)
    (hQ:∀ c a d v w,Q (.panic c) (Act.put a d v) w→Q (.panic c) a w) (hS:S { w with drawn:=w.drawn + 1 })
    (h:∀ w',S w'→soft P l.toArray S Q 0 l p a w'):(Code.region id l.toArray true).wp P Q a w:=by
 simp only [softTOk,Bool.and_eq_true,decide_eq_true_eq] at hB
 have h:=h _ hS
 unfold soft at h
 have hsz:l.toArray.size=l.length:=rM
 have inv0:HeadInv .any l.toArray p.length (Array.replicate l.toArray.size false) :=
   ⟨by simp,fun j oj _ hl=>fK,fun t _ ht=>getD_in (by simpa using ht) (getD_replicate_false _ _)⟩
 have H:=kGa (g:=l.toArray.size - p.length) hB.1 hQ hB.2.2.1 hB.2.2.2.1 hB.2.1 p l 0 _ a _ rM (fun j=>by simp) inv0 hB.2.2.2.2 (by have:=hB.2.1;omega) hS h
 refine wp_region_any hm ?_
 have:=kCm (Q:=Q) (g:=l.toArray.size - p.length) (fun listed a' w' hL=>by
   obtain ⟨hq,l',ho,hl',hw⟩:=hL
   have:=wpAny_of_seq (md:=.any) (Q':=Q) l' p.length listed a' w' ho (by rw [hl'];exact hq) hw
   rwa [hl'] at this) _ _ _ _ H
 rw [show p.length + (l.toArray.size - p.length)=l.toArray.size by have:=hB.2.1;omega] at this
 exact this
theorem kDu:∀ (p:List Bool) (l:List Oper) (k:Nat) (a:Act) (w:World),S w→kCo P ops S Q k l p a w→wpList P ops Q l a w
  | [],l,k,a,w,_,h=>by cases l <;> exact h
  | b :: p,[],k,a,w,_,h=>by cases b <;> exact h
  | true :: p,o :: l,k,a,w,hS,h=>by
    obtain ⟨v,hy,h⟩:=h
    have:=kDu p l (k + 1) _ w hS h
    unfold wpList
    rcases hy with ⟨hw,hv⟩|⟨hw,rfl⟩
    · rw [if_pos hw];left;unfold Oper.wp;rw [hv w hS,Oper.upon_value];exact this
    · rw [if_neg (by rw [hw];exact Bool.false_ne_true)];exact this
  | false :: p,o :: l,k,a,w,hS,h=>by
    unfold wpList
    have h:if Region.wanted o (yielded ops a.tmps) then o.wp P a w (fun a' w'=>S w'∧kCo P ops S Q (k + 1) l p a' w') Q∨(o.asks P a w∧LetsOut Q) else S w∧kCo P ops S Q (k + 1) l p (a.put o.dst undef) w:=h
    split at h
    · rename_i hw;rw [if_pos hw];exact h.imp (Oper.wp_mono fun a' w' h'=>kDu p l (k + 1) a' w' h'.1 h'.2) id
    · rename_i hw;rw [if_neg hw];exact kDu p l (k + 1) _ w h.1 h.2
theorem ku {id:Nat} {a:Act} {w:World} {l:List Oper} (S:World→Prop) (p:List Bool) (hS:S w)
    (h:∀ w',S w'→soft P l.toArray S Q 0 l p a w'):(Code.region id l.toArray false).wp P Q a w:=by
 have h:=h _ hS
 unfold soft at h
 exact wp_region_lit (kDu p l 0 a w hS h)
def kKk (md:Region.Mode) (ops:Array Oper):List (Nat × Bool)→Array Bool→Bool
  | [],listed=>(Region.ready md ops listed).isEmpty
  | (k,true) :: p,listed=>(Region.ready md ops listed).contains k && Region.free md ops listed k && kKk md ops p (listed.setIfInBounds k true)
  | (k,false) :: p,listed=>(Region.ready md ops listed==[k]) && kKk md ops p (listed.setIfInBounds k true)
def jO (l:List Oper):List (Nat × Bool)→List Oper
  | []=>[]
  | (k,_) :: q=>match l[k]? with
    | some o=>o :: jO l q
    | none=>[]
def softPOk (md:Region.Mode) (ops:Array Oper) (q:List (Nat × Bool)):Bool:=Region.noSelect ops && (decide (q.length≤ops.size) && (q.all (fun x=>decide (x.1 < ops.size)) && kKk md ops q (Array.replicate ops.size false)))
theorem kGb {l:List Oper} (hs:Region.noSelect l.toArray=true) (hQ:∀ c a d v w,Q (.panic c) (Act.put a d v) w→Q (.panic c) a w):∀ (q:List (Nat × Bool)) (k:Nat) (fuel:Nat) (listed:Array Bool) (a:Act) (w:World),
    q.all (fun x=>decide (x.1 < l.toArray.size))=true→q.length≤fuel→kKk .any l.toArray q listed=true→S w→kCo P l.toArray S Q k (jO l q) (q.map (·.2)) a w→wpAnyH P .any l.toArray Q S fuel listed a w
  | [],k,fuel,listed,a,w,_,_,hB,_,h=>wpAnyH_done (by simpa [kKk] using hB) (by simpa [kCo,wpList,jO] using h) fuel
  | (i,b) :: q,k,0,listed,a,w,_,hf,hB,_,h=>by simp at hf
  | (i,true) :: q,k,fuel + 1,listed,a,w,hi,hf,hB,hS,h=>by
    simp only [List.all_cons,Bool.and_eq_true,decide_eq_true_eq] at hi
    have h0:l.toArray[i]?=some l.toArray[i]:=Array.getElem?_eq_getElem hi.1
    have hp:jO l ((i,true) :: q)=l.toArray[i] :: jO l q:=by
      have:l[i]?=some l.toArray[i]:=by simp
      simp only [jO,this]
    rw [hp] at h
    obtain ⟨v,hy,h⟩:=h
    simp only [kKk,Bool.and_eq_true] at hB
    exact wpAnyH_take h0 hs hB.1.2 hB.1.1 (fun c a w=>hQ c a _ _ w) hy hS (kGb hs hQ q (k + 1) fuel _ _ _ hi.2 qR hB.2 hS h)
  | (i,false) :: q,k,fuel + 1,listed,a,w,hi,hf,hB,hS,h=>by
    simp only [List.all_cons,Bool.and_eq_true,decide_eq_true_eq] at hi
    have h0:l.toArray[i]?=some l.toArray[i]:=Array.getElem?_eq_getElem hi.1
    have hp:jO l ((i,false) :: q)=l.toArray[i] :: jO l q:=by
      have:l[i]?=some l.toArray[i]:=by simp
      simp only [jO,this]
    rw [hp] at h
    simp only [kKk,Bool.and_eq_true,beq_iff_eq] at hB
    refine wpAnyH_all hB.1 rM ?_
    intro j hj
    obtain rfl:j=i:=qK
    have go:∀ a' w',S w'∧kCo P l.toArray S Q (k + 1) (jO l q) (q.map (·.2)) a' w'→S w'∧wpAnyH P .any l.toArray Q S fuel (listed.setIfInBounds j true) a' w':=fun a' w' h' =>
      ⟨h'.1,kGb hs hQ q (k + 1) fuel _ _ _ hi.2 qR hB.2 h'.1 h'.2⟩
    refine wpOp_mono go ?_
    unfold wpOp
    simp only [h0]
    exact h
theorem zO {id:Nat} {a:Act} {w:World} {l:List Oper} (S:World→Prop) (q:List (Nat × Bool)) (hm:P.follows .mixedOrders=true) (hB:softPOk .any l.toArray q=true)
    (hQ:∀ c a d v w,Q (.panic c) (Act.put a d v) w→Q (.panic c) a w) (hS:S { w with drawn:=w.drawn + 1 })
    (h:∀ w',S w'→soft P l.toArray S Q 0 (jO l q) (q.map (·.2)) a w'):(Code.region id l.toArray true).wp P Q a w:=by
 simp only [softPOk,Bool.and_eq_true,decide_eq_true_eq] at hB
 have h:=h _ hS
 unfold soft at h
 exact wp_region_held (S:=S) hm (kGb hB.1 hQ q 0 _ _ a _ hB.2.2.1 hB.2.1 hB.2.2.2 hS h)
theorem ko {k:Nat} {a:Act} {w:World} (h:Q .normal a w):soft P ops S Q k [] [] a w:=by unfold soft;exact h
theorem yF {k:Nat} {o:Oper} {l:List Oper} {a:Act} {w:World} (h:wpList P ops Q (o :: l) a w):soft P ops S Q k (o :: l) [] a w:=by unfold soft;exact h
variable {k:Nat} {l:List Oper} {p:List Bool} {a:Act} {w:World} {o:Oper}
theorem jC {v:Value} (hg:Region.wanted o (yielded ops a.tmps)=true)
    (hv:∀ w,S w→(execOp a.eval o).run P w=.ok (.value v) w) (h:soft P ops S Q (k + 1) l p (a.put o.dst v) w):soft P ops S Q k (o :: l) (true :: p) a w:=by
 unfold soft at h ⊢
 exact ⟨v,.inl ⟨hg,hv⟩,h⟩
theorem kEd {v:Value} {b:Bool} (hg:Region.wanted o (yielded ops a.tmps)=true)
    (hv:∀ w,S w→(execOp a.eval o).run P w=.ok (.value v) w) (hb:v=.bool b) (h:∀ c:Bool,b=c→soft P ops S Q (k + 1) l p (a.put o.dst (.bool c)) w):soft P ops S Q k (o :: l) (true :: p) a w :=
  jC hg hv (hb ▸ h b rfl)
theorem kL {b:Bool} (hg:Region.wanted o (yielded ops a.tmps)=false)
    (hS:S w) (h:soft P ops S Q (k + 1) l p (a.put o.dst undef) w):soft P ops S Q k (o :: l) (b :: p) a w:=by
 unfold soft at h ⊢
 cases b
 · show if _ then _ else _
   rw [if_neg (by rw [hg];exact Bool.false_ne_true)]
   exact ⟨hS,h⟩
 exact ⟨undef,.inr ⟨hg,rfl⟩,h⟩
theorem jE (hg:Region.wanted o (yielded ops a.tmps)=true)
    (h:∀ K:Act→World→Prop,(∀ a' w',S w'→soft P ops S Q (k + 1) l p a' w'→K a' w')→o.wp P a w K Q):soft P ops S Q k (o :: l) (false :: p) a w:=by
 unfold soft
 show if _ then _ else _
 rw [if_pos hg]
 exact .inl (h _ (fun a' w' h1 h2=>by unfold soft at h2;exact ⟨h1,h2⟩))
end
theorem wkR {p q:Prop} (k:q) (h:Hid q→p:=by intro kq;(first|(refine kL rfl HS ?_)|(refine jC (v:=?_) rfl (fun W hW=>?_) ?_;rotate_left;(· (try have A:=FX.out W hW);clear hW;go_simp;try with_reducible rfl)));(try simp only [Act.put,zA,zB,zC]);exact kq.out):p:=h (yD k)
theorem wkG {b:Bool} {p:Prop} {q:Bool→Prop} (k:∀ c:Bool,b=c→q c) (h:Hid (∀ c:Bool,b=c→q c)→p:=by intro kq;(refine kEd (v:=?_) (b:=_) rfl (fun W hW=>?_) ?_ kq.out;rotate_left;(· (try have A:=FX.out W hW);clear hW;go_simp;try with_reducible rfl);(· with_reducible rfl))):p:=h (yD k)
theorem wkB {C p:Prop} {S q:World→Prop} (c:C) (k:∀ W,S W→q W) (h:C→Hid (∀ W,S W→q W)→p:=by intro cq kq;first|(refine kL rfl HS ?_;(try simp only [Act.put,zA,zB,zC]);exact kq.out _ HS)|(refine jE rfl (fun K hK=>?_);go_simp;refine cq.mono ?_;rintro e wS1 ⟨rfl,hbS⟩;refine hK _ _ (tQ HS hbS) ?_;clear hK K;(try simp only [Act.put,zA,zB,zC]);exact kq.out _ (tQ HS hbS))):p:=h c (yD k)
theorem wkC {C p q:Prop} (c:C) (k:q) (h:C→Hid q→p:=by intro cq kq;first|(refine kL rfl HS ?_;(try simp only [Act.put,zA,zB,zC]);exact kq.out)|(refine jE rfl (fun K hK=>?_);go_simp;refine cq.mono ?_;rintro e wS1 ⟨rfl,hwS⟩;obtain rfl:=hwS.symm;refine hK _ _ HS ?_;clear hK K;(try simp only [Act.put,zA,zB,zC]);exact kq.out)):p:=h c (yD k)
theorem wkP {p q:Prop} (k:q) (h:Hid q→p:=by intro kq;(try simp only [Act.put,zA,zB,zC]);exact kq.out):p:=h (yD k)
theorem zL {α:Type} {x:List α} {k:Nat} {d:α} (h:k < x.length):x.getD k d=x[k]:=by simp [List.getD,h]
def kGs (f:Nat→Bool):Nat→Bool
  | 0=>true
  | n + 1=>kGs f n && f n
theorem kIy {f:Nat→Bool} {n:Nat} (h:kGs f n=true) (q:f n=true):kGs f (n + 1)=true:=by simp [kGs,h,q]
theorem kSs {f:Nat→Bool} {n j:Nat} (h:j < n) (q:f j=false):kGs f n=false:=by
 induction n with
 | zero=>omega
 | succ n ih =>
   by_cases e:j=n
   · subst e;simp [kGs,q]
   · simp [kGs,ih rJ]
end Go.Proofs.YtomdenfcfbkfbaaGreat

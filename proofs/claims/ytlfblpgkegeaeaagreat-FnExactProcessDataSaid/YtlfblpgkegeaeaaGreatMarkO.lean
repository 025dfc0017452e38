/-
  The laws' markings at more types. Printed by genmark.py.
-/
import Derived.Test.YtlfblpgkegeaeaaGreatMark
set_option linter.unusedVariables false
set_option linter.unusedSimpArgs false
set_option linter.unnecessarySimpa false
set_option maxRecDepth 100000
set_option maxHeartbeats 16000000
namespace Go.Proofs.YtlfblpgkegeaeaaGreat
open Go.RowKit
theorem kPr {w:World} {va:Value} {x:List jV} {k:Int} {S:Nat→Prop} (ha:(Rep.slice 128 kR).own w [va] x S) (hk0:0≤k) (hk1:k + ((Rep.slice 128 kR).cnt:Nat)≤Top) :
    Calls Tryz.prog 90 #[va,.int .i64 k] w (zZ (Rep.slice 128 kR) true x k [va] S w):=by
 obtain ⟨aa,capa,rfl,la⟩:=Rep.sl ha.raw
 have lb:x.length≤16777216:=ha.2.1
 have hbd:=yD ha.2
 have HK:=yD hk1;clear hk1
 have hk2:k≤4611686018427387904:=gQ
 go_enter Tryz.func90,Tryz.ntmps90
 go_wp2
 go_loopw [1,5] (fun l i wr=>∃ (j:Nat),j≤x.length∧i=.int .i64 j∧l=.int .i64 (Rep.mkL kR (x.take j) k).2∧(Rep.slice 128 kR).own wr [.slice aa x.length capa] ((Rep.mkL kR (x.take j) k).1++x.drop j) S∧Touch S w wr) (fun _ i _=>x.length - (intOf i).toNat)
 case atStart=>exact ⟨0,Nat.zero_le _,rfl,rfl,by simpa [Rep.mkL] using ha,Touch.refl _ _⟩
 obtain ⟨j,hj,rfl,rfl,hown,ht⟩:=hrel
 by_cases hlt:j < x.length
 · obtain ⟨hln,b,off,rfl,hSb,hbw⟩:=Rep.zw hown qE
   clear hln
   rw [Rep.zn hlt] at hown
   obtain ⟨q0,q1⟩:=Rep.zo (e:=128) (r:=kR) hbd.out hlt HK.out hk0
   have HE:∀ y,y=(kR.mark true x[j] (Rep.mkL kR (x.take j) k).2).1→Hid (((Rep.mkL kR (x.take j) k).1++x.drop j).set j y=(Rep.mkL kR (x.take (j + 1)) k).1++x.drop (j + 1)):=fun y hy=>yD (Rep.kBc hlt hy)
   have HF:=yD (Rep.kAq (r:=kR) (k:=k) hlt)
   have hLl:j < ((Rep.mkL kR (x.take j) k).1++x.drop j).length:=pM
   have HL:=yD hLl;clear hLl
   generalize (Rep.mkL kR (x.take j) k).2=q at *
   generalize (Rep.mkL kR (x.take j) k).1++x.drop j=M at *
   generalize hx:x[j]=y at *
   have HX:=yD hx;clear hx
   obtain ⟨y0,y1,⟨y2,y3,y4,y5⟩,⟨y6,y7,y8,y9,y10⟩⟩:=y
   have HEH:=yD HE;clear HE
   have HQ:=yD q1;clear q1
   have q2:q≤4611686018427387904:=gP
   obtain ⟨c,B,hc,hB,hSb',hcell,hfz,back⟩:=Rep.jH hown HL.out
   obtain ⟨d0_0,d0_1,d0_2,d0_3,d0_4,d0_5,d0_6,d0_7,d0_8,d0_9,d0_10,rfl⟩:∃ d0_0 d0_1 d0_2 d0_3 d0_4 d0_5 d0_6 d0_7 d0_8 d0_9 d0_10,c=[d0_0,d0_1,d0_2,d0_3,d0_4,d0_5,d0_6,d0_7,d0_8,d0_9,d0_10]:=by have h:=kR.len hc.1;match c,h with | [d0_0,d0_1,d0_2,d0_3,d0_4,d0_5,d0_6,d0_7,d0_8,d0_9,d0_10],_=>exact ⟨_,_,_,_,_,_,_,_,_,_,_,rfl⟩
   try simp only [zP,zO,zN,zM,zL,zK,yh] at hc
   have C0_0:wr.cell? ⟨b,off + j * 11,none⟩=some d0_0:=hcell 0 _ rfl
   have Z0_0:=hfz (off + j * 11)
   have C0_1:wr.cell? ⟨b,off + j * 11 + 1,none⟩=some d0_1:=hcell 1 _ rfl
   have Z0_1:=hfz (off + j * 11 + 1)
   have C0_2:wr.cell? ⟨b,off + j * 11 + 2,none⟩=some d0_2:=hcell 2 _ rfl
   have Z0_2:=hfz (off + j * 11 + 2)
   have C0_3:wr.cell? ⟨b,off + j * 11 + 3,none⟩=some d0_3:=hcell 3 _ rfl
   have Z0_3:=hfz (off + j * 11 + 3)
   have C0_4:wr.cell? ⟨b,off + j * 11 + 4,none⟩=some d0_4:=hcell 4 _ rfl
   have Z0_4:=hfz (off + j * 11 + 4)
   have C0_5:wr.cell? ⟨b,off + j * 11 + 5,none⟩=some d0_5:=hcell 5 _ rfl
   have Z0_5:=hfz (off + j * 11 + 5)
   have C0_6:wr.cell? ⟨b,off + j * 11 + 6,none⟩=some d0_6:=hcell 6 _ rfl
   have Z0_6:=hfz (off + j * 11 + 6)
   have C0_7:wr.cell? ⟨b,off + j * 11 + 7,none⟩=some d0_7:=hcell 7 _ rfl
   have Z0_7:=hfz (off + j * 11 + 7)
   have C0_8:wr.cell? ⟨b,off + j * 11 + 8,none⟩=some d0_8:=hcell 8 _ rfl
   have Z0_8:=hfz (off + j * 11 + 8)
   have C0_9:wr.cell? ⟨b,off + j * 11 + 9,none⟩=some d0_9:=hcell 9 _ rfl
   have Z0_9:=hfz (off + j * 11 + 9)
   have C0_10:wr.cell? ⟨b,off + j * 11 + 10,none⟩=some d0_10:=hcell 10 _ rfl
   have Z0_10:=hfz (off + j * 11 + 10)
   clear hB hSb' hcell hfz back
   obtain ⟨s0v2,s0v6,s0v7,s0v8,hce,s0_0,s0_1,s0_2,s0_3,s0_4,s0_5,s0_6,s0_7,s0_8,s0_9,s0_10,s0_11,s0_12,s0_13,s0_14⟩:=kAo hc.raw
   simp only [List.cons.injEq,and_true] at hce
   obtain ⟨rfl,rfl,rfl,rfl,rfl,rfl,rfl,rfl,rfl,rfl,rfl⟩:=hce
   obtain ⟨s0a2,s0p2,rfl,_⟩:=Rep.sl s0_3
   obtain ⟨s0a6,s0p6,rfl,_⟩:=Rep.sl s0_9
   obtain ⟨s0a7,s0p7,rfl,_⟩:=Rep.sl s0_10
   obtain ⟨s0a8,s0p8,rfl,_⟩:=Rep.sl s0_12
   clear s0_0 s0_1 s0_2 s0_3 s0_4 s0_5 s0_6 s0_7 s0_8 s0_9 s0_10 s0_11 s0_12 s0_13 s0_14
   clear hc
   go_wp2_with fail
   try simp only [b3eq]
   obtain ⟨O1,T1⟩:=Rep.jU (v:=.int .i64 (q)) (p:=off + j * 11) hown HL.out (show 0 < kR.n by decide) (kSy _ ⟨by omega,by omega⟩) (fun h=>h) (show off + j * 11=off + j * 11 + 0 by omega)
   have T1:=ht.trans (T1.wide nR)
   obtain ⟨O2,T2⟩:=Rep.jU (v:=.bool (decide ((q + 1) % 3=0))) (p:=off + j * 11 + 1) O1 HL.out (show 1 < kR.n by decide) (kSx _) (fun h=>h) (show off + j * 11 + 1=off + j * 11 + 1 by omega)
   have T2:=T1.trans (T2.wide nR)
   obtain ⟨c1,B1,hc1,hB1,_,hcell1,_,back1⟩:=Rep.jH O2 HL.out
   obtain ⟨e1_0,e1_1,e1_2,e1_3,e1_4,e1_5,e1_6,e1_7,e1_8,e1_9,e1_10,rfl⟩:∃ e1_0 e1_1 e1_2 e1_3 e1_4 e1_5 e1_6 e1_7 e1_8 e1_9 e1_10,c1=[e1_0,e1_1,e1_2,e1_3,e1_4,e1_5,e1_6,e1_7,e1_8,e1_9,e1_10]:=by have h:=kR.len hc1.1;match c1,h with | [e1_0,e1_1,e1_2,e1_3,e1_4,e1_5,e1_6,e1_7,e1_8,e1_9,e1_10],_=>exact ⟨_,_,_,_,_,_,_,_,_,_,_,rfl⟩
   have hd1:=hcell1 2 _ rfl
   obtain rfl:e1_2=_:=by simpa [go_sem,C0_2,kFt] using hd1.symm
   obtain ⟨A1,hA1,hAB1,bk1⟩:=kJt hc1
   try simp only [zP,zO,zN,zM,zL,zK,yh] at hA1
   refine (jl (k:=q + 1 + 1) hA1 rP (by have:=HQ.out;have e:kR.cnt=1 + (1 + ((Rep.slice 9 Rep.str).cnt + (1 + (1 + (1))) + ((Rep.slice 9 Rep.str).cnt + ((Rep.slice 5 Rep.byte).cnt + ((Rep.slice 9 Rep.str).cnt + (1 + (1))))))):=rfl;omega)).mono ?_
   rintro e w1 ⟨rfl,P1,X1⟩
   have Ox1:=back1 (bk1 P1 X1) (X1.wide hAB1)
   have Tx1:=T2.trans (X1.wide (fun i hi=>(hB1 i (hAB1 i hi)).1))
   have g1:=(Rep.slice 9 Rep.str).mark_ge (e:=true) (x:=y2) (k:=q + 1 + 1)
   have l1:((Rep.slice 9 Rep.str).mark true y2 (q + 1 + 1)).2≤q + 1 + 1 + ((Rep.slice 9 Rep.str).cnt:Nat):=(Rep.slice 9 Rep.str).mark_le (e:=true) (k:=q + 1 + 1) hA1.2
   have u1:((Rep.slice 9 Rep.str).mark true y2 (q + 1 + 1)).2≤4611686018427387904:=by have:=HQ.out;have e:kR.cnt=1 + (1 + ((Rep.slice 9 Rep.str).cnt + (1 + (1 + (1))) + ((Rep.slice 9 Rep.str).cnt + ((Rep.slice 5 Rep.byte).cnt + ((Rep.slice 9 Rep.str).cnt + (1 + (1))))))):=rfl;unfold Top at *;omega
   have M1:=yD l1;clear l1
   clear C0_0 C0_1 C0_2 C0_3 C0_4 C0_5 C0_6 C0_7 C0_8 C0_9 C0_10 Z0_0 Z0_1 Z0_2 Z0_3 Z0_4 Z0_5 Z0_6 Z0_7 Z0_8 Z0_9 Z0_10 hA1 bk1 back1 hc1 hB1 hAB1 P1 X1 hcell1 hd1
   obtain ⟨c,B,hc,hB,hSb',hcell,hfz,back⟩:=Rep.jH Ox1 HL.out
   obtain ⟨d1_0,d1_1,d1_2,d1_3,d1_4,d1_5,d1_6,d1_7,d1_8,d1_9,d1_10,rfl⟩:∃ d1_0 d1_1 d1_2 d1_3 d1_4 d1_5 d1_6 d1_7 d1_8 d1_9 d1_10,c=[d1_0,d1_1,d1_2,d1_3,d1_4,d1_5,d1_6,d1_7,d1_8,d1_9,d1_10]:=by have h:=kR.len hc.1;match c,h with | [d1_0,d1_1,d1_2,d1_3,d1_4,d1_5,d1_6,d1_7,d1_8,d1_9,d1_10],_=>exact ⟨_,_,_,_,_,_,_,_,_,_,_,rfl⟩
   try simp only [zP,zO,zN,zM,zL,zK,yh] at hc
   have C1_0:w1.cell? ⟨b,off + j * 11,none⟩=some d1_0:=hcell 0 _ rfl
   have Z1_0:=hfz (off + j * 11)
   have C1_1:w1.cell? ⟨b,off + j * 11 + 1,none⟩=some d1_1:=hcell 1 _ rfl
   have Z1_1:=hfz (off + j * 11 + 1)
   have C1_2:w1.cell? ⟨b,off + j * 11 + 2,none⟩=some d1_2:=hcell 2 _ rfl
   have Z1_2:=hfz (off + j * 11 + 2)
   have C1_3:w1.cell? ⟨b,off + j * 11 + 3,none⟩=some d1_3:=hcell 3 _ rfl
   have Z1_3:=hfz (off + j * 11 + 3)
   have C1_4:w1.cell? ⟨b,off + j * 11 + 4,none⟩=some d1_4:=hcell 4 _ rfl
   have Z1_4:=hfz (off + j * 11 + 4)
   have C1_5:w1.cell? ⟨b,off + j * 11 + 5,none⟩=some d1_5:=hcell 5 _ rfl
   have Z1_5:=hfz (off + j * 11 + 5)
   have C1_6:w1.cell? ⟨b,off + j * 11 + 6,none⟩=some d1_6:=hcell 6 _ rfl
   have Z1_6:=hfz (off + j * 11 + 6)
   have C1_7:w1.cell? ⟨b,off + j * 11 + 7,none⟩=some d1_7:=hcell 7 _ rfl
   have Z1_7:=hfz (off + j * 11 + 7)
   have C1_8:w1.cell? ⟨b,off + j * 11 + 8,none⟩=some d1_8:=hcell 8 _ rfl
   have Z1_8:=hfz (off + j * 11 + 8)
   have C1_9:w1.cell? ⟨b,off + j * 11 + 9,none⟩=some d1_9:=hcell 9 _ rfl
   have Z1_9:=hfz (off + j * 11 + 9)
   have C1_10:w1.cell? ⟨b,off + j * 11 + 10,none⟩=some d1_10:=hcell 10 _ rfl
   have Z1_10:=hfz (off + j * 11 + 10)
   clear hB hSb' hcell hfz back
   obtain ⟨s1v2,s1v6,s1v7,s1v8,hce,s1_0,s1_1,s1_2,s1_3,s1_4,s1_5,s1_6,s1_7,s1_8,s1_9,s1_10,s1_11,s1_12,s1_13,s1_14⟩:=kAo hc.raw
   simp only [List.cons.injEq,and_true] at hce
   obtain ⟨rfl,rfl,rfl,rfl,rfl,rfl,rfl,rfl,rfl,rfl,rfl⟩:=hce
   obtain ⟨s1a2,s1p2,rfl,_⟩:=Rep.sl s1_3
   obtain ⟨s1a6,s1p6,rfl,_⟩:=Rep.sl s1_9
   obtain ⟨s1a7,s1p7,rfl,_⟩:=Rep.sl s1_10
   obtain ⟨s1a8,s1p8,rfl,_⟩:=Rep.sl s1_12
   clear s1_0 s1_1 s1_2 s1_3 s1_4 s1_5 s1_6 s1_7 s1_8 s1_9 s1_10 s1_11 s1_12 s1_13 s1_14
   clear hc
   go_wp2_with fail
   try simp only [b3eq]
   obtain ⟨O3,T3⟩:=Rep.jU (v:=.int .i64 (((Rep.slice 9 Rep.str).mark true y2 (q + 1 + 1)).2)) (p:=off + j * 11 + 3) Ox1 HL.out (show 3 < kR.n by decide) (kSw _ ⟨by omega,by omega⟩) (fun h=>h) (show off + j * 11 + 3=off + j * 11 + 3 by omega)
   have T3:=Tx1.trans (T3.wide nR)
   obtain ⟨O4,T4⟩:=Rep.jU (v:=.int .i64 (((Rep.slice 9 Rep.str).mark true y2 (q + 1 + 1)).2 + 1)) (p:=off + j * 11 + 4) O3 HL.out (show 4 < kR.n by decide) (kSv _ ⟨by omega,by omega⟩) (fun h=>h) (show off + j * 11 + 4=off + j * 11 + 4 by omega)
   have T4:=T3.trans (T4.wide nR)
   obtain ⟨O5,T5⟩:=Rep.jU (v:=.int .i64 (((Rep.slice 9 Rep.str).mark true y2 (q + 1 + 1)).2 + 1 + 1)) (p:=off + j * 11 + 5) O4 HL.out (show 5 < kR.n by decide) (kSu _ ⟨by omega,by omega⟩) (fun h=>h) (show off + j * 11 + 5=off + j * 11 + 5 by omega)
   have T5:=T4.trans (T5.wide nR)
   obtain ⟨c2,B2,hc2,hB2,_,hcell2,_,back2⟩:=Rep.jH O5 HL.out
   obtain ⟨e2_0,e2_1,e2_2,e2_3,e2_4,e2_5,e2_6,e2_7,e2_8,e2_9,e2_10,rfl⟩:∃ e2_0 e2_1 e2_2 e2_3 e2_4 e2_5 e2_6 e2_7 e2_8 e2_9 e2_10,c2=[e2_0,e2_1,e2_2,e2_3,e2_4,e2_5,e2_6,e2_7,e2_8,e2_9,e2_10]:=by have h:=kR.len hc2.1;match c2,h with | [e2_0,e2_1,e2_2,e2_3,e2_4,e2_5,e2_6,e2_7,e2_8,e2_9,e2_10],_=>exact ⟨_,_,_,_,_,_,_,_,_,_,_,rfl⟩
   have hd2:=hcell2 6 _ rfl
   obtain rfl:e2_6=_:=by simpa [go_sem,C1_6,kFt] using hd2.symm
   obtain ⟨A2,hA2,hAB2,bk2⟩:=kJs hc2
   try simp only [zP,zO,zN,zM,zL,zK,yh] at hA2
   refine (jl (k:=((Rep.slice 9 Rep.str).mark true y2 (q + 1 + 1)).2 + 1 + 1 + 1) hA2 rP (by have:=HQ.out;have:=M1.out;have e:kR.cnt=1 + (1 + ((Rep.slice 9 Rep.str).cnt + (1 + (1 + (1))) + ((Rep.slice 9 Rep.str).cnt + ((Rep.slice 5 Rep.byte).cnt + ((Rep.slice 9 Rep.str).cnt + (1 + (1))))))):=rfl;omega)).mono ?_
   rintro e w2 ⟨rfl,P2,X2⟩
   have Ox2:=back2 (bk2 P2 X2) (X2.wide hAB2)
   have Tx2:=T5.trans (X2.wide (fun i hi=>(hB2 i (hAB2 i hi)).1))
   have g2:=(Rep.slice 9 Rep.str).mark_ge (e:=true) (x:=y6) (k:=((Rep.slice 9 Rep.str).mark true y2 (q + 1 + 1)).2 + 1 + 1 + 1)
   have l2:((Rep.slice 9 Rep.str).mark true y6 (((Rep.slice 9 Rep.str).mark true y2 (q + 1 + 1)).2 + 1 + 1 + 1)).2≤((Rep.slice 9 Rep.str).mark true y2 (q + 1 + 1)).2 + 1 + 1 + 1 + ((Rep.slice 9 Rep.str).cnt:Nat):=(Rep.slice 9 Rep.str).mark_le (e:=true) (k:=((Rep.slice 9 Rep.str).mark true y2 (q + 1 + 1)).2 + 1 + 1 + 1) hA2.2
   have u2:((Rep.slice 9 Rep.str).mark true y6 (((Rep.slice 9 Rep.str).mark true y2 (q + 1 + 1)).2 + 1 + 1 + 1)).2≤4611686018427387904:=by have:=HQ.out;have:=M1.out;have e:kR.cnt=1 + (1 + ((Rep.slice 9 Rep.str).cnt + (1 + (1 + (1))) + ((Rep.slice 9 Rep.str).cnt + ((Rep.slice 5 Rep.byte).cnt + ((Rep.slice 9 Rep.str).cnt + (1 + (1))))))):=rfl;unfold Top at *;omega
   have M2:=yD l2;clear l2
   clear C1_0 C1_1 C1_2 C1_3 C1_4 C1_5 C1_6 C1_7 C1_8 C1_9 C1_10 Z1_0 Z1_1 Z1_2 Z1_3 Z1_4 Z1_5 Z1_6 Z1_7 Z1_8 Z1_9 Z1_10 hA2 bk2 back2 hc2 hB2 hAB2 P2 X2 hcell2 hd2
   obtain ⟨c,B,hc,hB,hSb',hcell,hfz,back⟩:=Rep.jH Ox2 HL.out
   obtain ⟨d2_0,d2_1,d2_2,d2_3,d2_4,d2_5,d2_6,d2_7,d2_8,d2_9,d2_10,rfl⟩:∃ d2_0 d2_1 d2_2 d2_3 d2_4 d2_5 d2_6 d2_7 d2_8 d2_9 d2_10,c=[d2_0,d2_1,d2_2,d2_3,d2_4,d2_5,d2_6,d2_7,d2_8,d2_9,d2_10]:=by have h:=kR.len hc.1;match c,h with | [d2_0,d2_1,d2_2,d2_3,d2_4,d2_5,d2_6,d2_7,d2_8,d2_9,d2_10],_=>exact ⟨_,_,_,_,_,_,_,_,_,_,_,rfl⟩
   try simp only [zP,zO,zN,zM,zL,zK,yh] at hc
   have C2_0:w2.cell? ⟨b,off + j * 11,none⟩=some d2_0:=hcell 0 _ rfl
   have Z2_0:=hfz (off + j * 11)
   have C2_1:w2.cell? ⟨b,off + j * 11 + 1,none⟩=some d2_1:=hcell 1 _ rfl
   have Z2_1:=hfz (off + j * 11 + 1)
   have C2_2:w2.cell? ⟨b,off + j * 11 + 2,none⟩=some d2_2:=hcell 2 _ rfl
   have Z2_2:=hfz (off + j * 11 + 2)
   have C2_3:w2.cell? ⟨b,off + j * 11 + 3,none⟩=some d2_3:=hcell 3 _ rfl
   have Z2_3:=hfz (off + j * 11 + 3)
   have C2_4:w2.cell? ⟨b,off + j * 11 + 4,none⟩=some d2_4:=hcell 4 _ rfl
   have Z2_4:=hfz (off + j * 11 + 4)
   have C2_5:w2.cell? ⟨b,off + j * 11 + 5,none⟩=some d2_5:=hcell 5 _ rfl
   have Z2_5:=hfz (off + j * 11 + 5)
   have C2_6:w2.cell? ⟨b,off + j * 11 + 6,none⟩=some d2_6:=hcell 6 _ rfl
   have Z2_6:=hfz (off + j * 11 + 6)
   have C2_7:w2.cell? ⟨b,off + j * 11 + 7,none⟩=some d2_7:=hcell 7 _ rfl
   have Z2_7:=hfz (off + j * 11 + 7)
   have C2_8:w2.cell? ⟨b,off + j * 11 + 8,none⟩=some d2_8:=hcell 8 _ rfl
   have Z2_8:=hfz (off + j * 11 + 8)
   have C2_9:w2.cell? ⟨b,off + j * 11 + 9,none⟩=some d2_9:=hcell 9 _ rfl
   have Z2_9:=hfz (off + j * 11 + 9)
   have C2_10:w2.cell? ⟨b,off + j * 11 + 10,none⟩=some d2_10:=hcell 10 _ rfl
   have Z2_10:=hfz (off + j * 11 + 10)
   clear hB hSb' hcell hfz back
   obtain ⟨s2v2,s2v6,s2v7,s2v8,hce,s2_0,s2_1,s2_2,s2_3,s2_4,s2_5,s2_6,s2_7,s2_8,s2_9,s2_10,s2_11,s2_12,s2_13,s2_14⟩:=kAo hc.raw
   simp only [List.cons.injEq,and_true] at hce
   obtain ⟨rfl,rfl,rfl,rfl,rfl,rfl,rfl,rfl,rfl,rfl,rfl⟩:=hce
   obtain ⟨s2a2,s2p2,rfl,_⟩:=Rep.sl s2_3
   obtain ⟨s2a6,s2p6,rfl,_⟩:=Rep.sl s2_9
   obtain ⟨s2a7,s2p7,rfl,_⟩:=Rep.sl s2_10
   obtain ⟨s2a8,s2p8,rfl,_⟩:=Rep.sl s2_12
   clear s2_0 s2_1 s2_2 s2_3 s2_4 s2_5 s2_6 s2_7 s2_8 s2_9 s2_10 s2_11 s2_12 s2_13 s2_14
   clear hc
   go_wp2_with fail
   try simp only [b3eq]
   obtain ⟨c3,B3,hc3,hB3,_,hcell3,_,back3⟩:=Rep.jH Ox2 HL.out
   obtain ⟨e3_0,e3_1,e3_2,e3_3,e3_4,e3_5,e3_6,e3_7,e3_8,e3_9,e3_10,rfl⟩:∃ e3_0 e3_1 e3_2 e3_3 e3_4 e3_5 e3_6 e3_7 e3_8 e3_9 e3_10,c3=[e3_0,e3_1,e3_2,e3_3,e3_4,e3_5,e3_6,e3_7,e3_8,e3_9,e3_10]:=by have h:=kR.len hc3.1;match c3,h with | [e3_0,e3_1,e3_2,e3_3,e3_4,e3_5,e3_6,e3_7,e3_8,e3_9,e3_10],_=>exact ⟨_,_,_,_,_,_,_,_,_,_,_,rfl⟩
   have hd3:=hcell3 7 _ rfl
   obtain rfl:e3_7=_:=by simpa [go_sem,C2_7,kFt] using hd3.symm
   obtain ⟨A3,hA3,hAB3,bk3⟩:=kMt hc3
   try simp only [zP,zO,zN,zM,zL,zK,yh] at hA3
   refine (kFp (k:=((Rep.slice 9 Rep.str).mark true y6 (((Rep.slice 9 Rep.str).mark true y2 (q + 1 + 1)).2 + 1 + 1 + 1)).2) hA3 rP (by have:=HQ.out;have:=M1.out;have:=M2.out;have e:kR.cnt=1 + (1 + ((Rep.slice 9 Rep.str).cnt + (1 + (1 + (1))) + ((Rep.slice 9 Rep.str).cnt + ((Rep.slice 5 Rep.byte).cnt + ((Rep.slice 9 Rep.str).cnt + (1 + (1))))))):=rfl;omega)).mono ?_
   rintro e w3 ⟨rfl,P3,X3⟩
   have Ox3:=back3 (bk3 P3 X3) (X3.wide hAB3)
   have Tx3:=Tx2.trans (X3.wide (fun i hi=>(hB3 i (hAB3 i hi)).1))
   have g3:=(Rep.slice 5 Rep.byte).mark_ge (e:=true) (x:=y7) (k:=((Rep.slice 9 Rep.str).mark true y6 (((Rep.slice 9 Rep.str).mark true y2 (q + 1 + 1)).2 + 1 + 1 + 1)).2)
   have l3:((Rep.slice 5 Rep.byte).mark true y7 (((Rep.slice 9 Rep.str).mark true y6 (((Rep.slice 9 Rep.str).mark true y2 (q + 1 + 1)).2 + 1 + 1 + 1)).2)).2≤((Rep.slice 9 Rep.str).mark true y6 (((Rep.slice 9 Rep.str).mark true y2 (q + 1 + 1)).2 + 1 + 1 + 1)).2 + ((Rep.slice 5 Rep.byte).cnt:Nat):=(Rep.slice 5 Rep.byte).mark_le (e:=true) (k:=((Rep.slice 9 Rep.str).mark true y6 (((Rep.slice 9 Rep.str).mark true y2 (q + 1 + 1)).2 + 1 + 1 + 1)).2) hA3.2
   have u3:((Rep.slice 5 Rep.byte).mark true y7 (((Rep.slice 9 Rep.str).mark true y6 (((Rep.slice 9 Rep.str).mark true y2 (q + 1 + 1)).2 + 1 + 1 + 1)).2)).2≤4611686018427387904:=by have:=HQ.out;have:=M1.out;have:=M2.out;have e:kR.cnt=1 + (1 + ((Rep.slice 9 Rep.str).cnt + (1 + (1 + (1))) + ((Rep.slice 9 Rep.str).cnt + ((Rep.slice 5 Rep.byte).cnt + ((Rep.slice 9 Rep.str).cnt + (1 + (1))))))):=rfl;unfold Top at *;omega
   have M3:=yD l3;clear l3
   clear C2_0 C2_1 C2_2 C2_3 C2_4 C2_5 C2_6 C2_7 C2_8 C2_9 C2_10 Z2_0 Z2_1 Z2_2 Z2_3 Z2_4 Z2_5 Z2_6 Z2_7 Z2_8 Z2_9 Z2_10 hA3 bk3 back3 hc3 hB3 hAB3 P3 X3 hcell3 hd3
   obtain ⟨c,B,hc,hB,hSb',hcell,hfz,back⟩:=Rep.jH Ox3 HL.out
   obtain ⟨d3_0,d3_1,d3_2,d3_3,d3_4,d3_5,d3_6,d3_7,d3_8,d3_9,d3_10,rfl⟩:∃ d3_0 d3_1 d3_2 d3_3 d3_4 d3_5 d3_6 d3_7 d3_8 d3_9 d3_10,c=[d3_0,d3_1,d3_2,d3_3,d3_4,d3_5,d3_6,d3_7,d3_8,d3_9,d3_10]:=by have h:=kR.len hc.1;match c,h with | [d3_0,d3_1,d3_2,d3_3,d3_4,d3_5,d3_6,d3_7,d3_8,d3_9,d3_10],_=>exact ⟨_,_,_,_,_,_,_,_,_,_,_,rfl⟩
   try simp only [zP,zO,zN,zM,zL,zK,yh] at hc
   have C3_0:w3.cell? ⟨b,off + j * 11,none⟩=some d3_0:=hcell 0 _ rfl
   have Z3_0:=hfz (off + j * 11)
   have C3_1:w3.cell? ⟨b,off + j * 11 + 1,none⟩=some d3_1:=hcell 1 _ rfl
   have Z3_1:=hfz (off + j * 11 + 1)
   have C3_2:w3.cell? ⟨b,off + j * 11 + 2,none⟩=some d3_2:=hcell 2 _ rfl
   have Z3_2:=hfz (off + j * 11 + 2)
   have C3_3:w3.cell? ⟨b,off + j * 11 + 3,none⟩=some d3_3:=hcell 3 _ rfl
   have Z3_3:=hfz (off + j * 11 + 3)
   have C3_4:w3.cell? ⟨b,off + j * 11 + 4,none⟩=some d3_4:=hcell 4 _ rfl
   have Z3_4:=hfz (off + j * 11 + 4)
   have C3_5:w3.cell? ⟨b,off + j * 11 + 5,none⟩=some d3_5:=hcell 5 _ rfl
   have Z3_5:=hfz (off + j * 11 + 5)
   have C3_6:w3.cell? ⟨b,off + j * 11 + 6,none⟩=some d3_6:=hcell 6 _ rfl
   have Z3_6:=hfz (off + j * 11 + 6)
   have C3_7:w3.cell? ⟨b,off + j * 11 + 7,none⟩=some d3_7:=hcell 7 _ rfl
   have Z3_7:=hfz (off + j * 11 + 7)
   have C3_8:w3.cell? ⟨b,off + j * 11 + 8,none⟩=some d3_8:=hcell 8 _ rfl
   have Z3_8:=hfz (off + j * 11 + 8)
   have C3_9:w3.cell? ⟨b,off + j * 11 + 9,none⟩=some d3_9:=hcell 9 _ rfl
   have Z3_9:=hfz (off + j * 11 + 9)
   have C3_10:w3.cell? ⟨b,off + j * 11 + 10,none⟩=some d3_10:=hcell 10 _ rfl
   have Z3_10:=hfz (off + j * 11 + 10)
   clear hB hSb' hcell hfz back
   obtain ⟨s3v2,s3v6,s3v7,s3v8,hce,s3_0,s3_1,s3_2,s3_3,s3_4,s3_5,s3_6,s3_7,s3_8,s3_9,s3_10,s3_11,s3_12,s3_13,s3_14⟩:=kAo hc.raw
   simp only [List.cons.injEq,and_true] at hce
   obtain ⟨rfl,rfl,rfl,rfl,rfl,rfl,rfl,rfl,rfl,rfl,rfl⟩:=hce
   obtain ⟨s3a2,s3p2,rfl,_⟩:=Rep.sl s3_3
   obtain ⟨s3a6,s3p6,rfl,_⟩:=Rep.sl s3_9
   obtain ⟨s3a7,s3p7,rfl,_⟩:=Rep.sl s3_10
   obtain ⟨s3a8,s3p8,rfl,_⟩:=Rep.sl s3_12
   clear s3_0 s3_1 s3_2 s3_3 s3_4 s3_5 s3_6 s3_7 s3_8 s3_9 s3_10 s3_11 s3_12 s3_13 s3_14
   clear hc
   go_wp2_with fail
   try simp only [b3eq]
   obtain ⟨c4,B4,hc4,hB4,_,hcell4,_,back4⟩:=Rep.jH Ox3 HL.out
   obtain ⟨e4_0,e4_1,e4_2,e4_3,e4_4,e4_5,e4_6,e4_7,e4_8,e4_9,e4_10,rfl⟩:∃ e4_0 e4_1 e4_2 e4_3 e4_4 e4_5 e4_6 e4_7 e4_8 e4_9 e4_10,c4=[e4_0,e4_1,e4_2,e4_3,e4_4,e4_5,e4_6,e4_7,e4_8,e4_9,e4_10]:=by have h:=kR.len hc4.1;match c4,h with | [e4_0,e4_1,e4_2,e4_3,e4_4,e4_5,e4_6,e4_7,e4_8,e4_9,e4_10],_=>exact ⟨_,_,_,_,_,_,_,_,_,_,_,rfl⟩
   have hd4:=hcell4 8 _ rfl
   obtain rfl:e4_8=_:=by simpa [go_sem,C3_8,kFt] using hd4.symm
   obtain ⟨A4,hA4,hAB4,bk4⟩:=kJr hc4
   try simp only [zP,zO,zN,zM,zL,zK,yh] at hA4
   refine (jl (k:=((Rep.slice 5 Rep.byte).mark true y7 (((Rep.slice 9 Rep.str).mark true y6 (((Rep.slice 9 Rep.str).mark true y2 (q + 1 + 1)).2 + 1 + 1 + 1)).2)).2) hA4 rP (by have:=HQ.out;have:=M1.out;have:=M2.out;have:=M3.out;have e:kR.cnt=1 + (1 + ((Rep.slice 9 Rep.str).cnt + (1 + (1 + (1))) + ((Rep.slice 9 Rep.str).cnt + ((Rep.slice 5 Rep.byte).cnt + ((Rep.slice 9 Rep.str).cnt + (1 + (1))))))):=rfl;omega)).mono ?_
   rintro e w4 ⟨rfl,P4,X4⟩
   have Ox4:=back4 (bk4 P4 X4) (X4.wide hAB4)
   have Tx4:=Tx3.trans (X4.wide (fun i hi=>(hB4 i (hAB4 i hi)).1))
   have g4:=(Rep.slice 9 Rep.str).mark_ge (e:=true) (x:=y8) (k:=((Rep.slice 5 Rep.byte).mark true y7 (((Rep.slice 9 Rep.str).mark true y6 (((Rep.slice 9 Rep.str).mark true y2 (q + 1 + 1)).2 + 1 + 1 + 1)).2)).2)
   have l4:((Rep.slice 9 Rep.str).mark true y8 (((Rep.slice 5 Rep.byte).mark true y7 (((Rep.slice 9 Rep.str).mark true y6 (((Rep.slice 9 Rep.str).mark true y2 (q + 1 + 1)).2 + 1 + 1 + 1)).2)).2)).2≤((Rep.slice 5 Rep.byte).mark true y7 (((Rep.slice 9 Rep.str).mark true y6 (((Rep.slice 9 Rep.str).mark true y2 (q + 1 + 1)).2 + 1 + 1 + 1)).2)).2 + ((Rep.slice 9 Rep.str).cnt:Nat):=(Rep.slice 9 Rep.str).mark_le (e:=true) (k:=((Rep.slice 5 Rep.byte).mark true y7 (((Rep.slice 9 Rep.str).mark true y6 (((Rep.slice 9 Rep.str).mark true y2 (q + 1 + 1)).2 + 1 + 1 + 1)).2)).2) hA4.2
   have u4:((Rep.slice 9 Rep.str).mark true y8 (((Rep.slice 5 Rep.byte).mark true y7 (((Rep.slice 9 Rep.str).mark true y6 (((Rep.slice 9 Rep.str).mark true y2 (q + 1 + 1)).2 + 1 + 1 + 1)).2)).2)).2≤4611686018427387904:=by have:=HQ.out;have:=M1.out;have:=M2.out;have:=M3.out;have e:kR.cnt=1 + (1 + ((Rep.slice 9 Rep.str).cnt + (1 + (1 + (1))) + ((Rep.slice 9 Rep.str).cnt + ((Rep.slice 5 Rep.byte).cnt + ((Rep.slice 9 Rep.str).cnt + (1 + (1))))))):=rfl;unfold Top at *;omega
   have M4:=yD l4;clear l4
   clear C3_0 C3_1 C3_2 C3_3 C3_4 C3_5 C3_6 C3_7 C3_8 C3_9 C3_10 Z3_0 Z3_1 Z3_2 Z3_3 Z3_4 Z3_5 Z3_6 Z3_7 Z3_8 Z3_9 Z3_10 hA4 bk4 back4 hc4 hB4 hAB4 P4 X4 hcell4 hd4
   obtain ⟨c,B,hc,hB,hSb',hcell,hfz,back⟩:=Rep.jH Ox4 HL.out
   obtain ⟨d4_0,d4_1,d4_2,d4_3,d4_4,d4_5,d4_6,d4_7,d4_8,d4_9,d4_10,rfl⟩:∃ d4_0 d4_1 d4_2 d4_3 d4_4 d4_5 d4_6 d4_7 d4_8 d4_9 d4_10,c=[d4_0,d4_1,d4_2,d4_3,d4_4,d4_5,d4_6,d4_7,d4_8,d4_9,d4_10]:=by have h:=kR.len hc.1;match c,h with | [d4_0,d4_1,d4_2,d4_3,d4_4,d4_5,d4_6,d4_7,d4_8,d4_9,d4_10],_=>exact ⟨_,_,_,_,_,_,_,_,_,_,_,rfl⟩
   try simp only [zP,zO,zN,zM,zL,zK,yh] at hc
   have C4_0:w4.cell? ⟨b,off + j * 11,none⟩=some d4_0:=hcell 0 _ rfl
   have Z4_0:=hfz (off + j * 11)
   have C4_1:w4.cell? ⟨b,off + j * 11 + 1,none⟩=some d4_1:=hcell 1 _ rfl
   have Z4_1:=hfz (off + j * 11 + 1)
   have C4_2:w4.cell? ⟨b,off + j * 11 + 2,none⟩=some d4_2:=hcell 2 _ rfl
   have Z4_2:=hfz (off + j * 11 + 2)
   have C4_3:w4.cell? ⟨b,off + j * 11 + 3,none⟩=some d4_3:=hcell 3 _ rfl
   have Z4_3:=hfz (off + j * 11 + 3)
   have C4_4:w4.cell? ⟨b,off + j * 11 + 4,none⟩=some d4_4:=hcell 4 _ rfl
   have Z4_4:=hfz (off + j * 11 + 4)
   have C4_5:w4.cell? ⟨b,off + j * 11 + 5,none⟩=some d4_5:=hcell 5 _ rfl
   have Z4_5:=hfz (off + j * 11 + 5)
   have C4_6:w4.cell? ⟨b,off + j * 11 + 6,none⟩=some d4_6:=hcell 6 _ rfl
   have Z4_6:=hfz (off + j * 11 + 6)
   have C4_7:w4.cell? ⟨b,off + j * 11 + 7,none⟩=some d4_7:=hcell 7 _ rfl
   have Z4_7:=hfz (off + j * 11 + 7)
   have C4_8:w4.cell? ⟨b,off + j * 11 + 8,none⟩=some d4_8:=hcell 8 _ rfl
   have Z4_8:=hfz (off + j * 11 + 8)
   have C4_9:w4.cell? ⟨b,off + j * 11 + 9,none⟩=some d4_9:=hcell 9 _ rfl
   have Z4_9:=hfz (off + j * 11 + 9)
   have C4_10:w4.cell? ⟨b,off + j * 11 + 10,none⟩=some d4_10:=hcell 10 _ rfl
   have Z4_10:=hfz (off + j * 11 + 10)
   clear hB hSb' hcell hfz back
   obtain ⟨s4v2,s4v6,s4v7,s4v8,hce,s4_0,s4_1,s4_2,s4_3,s4_4,s4_5,s4_6,s4_7,s4_8,s4_9,s4_10,s4_11,s4_12,s4_13,s4_14⟩:=kAo hc.raw
   simp only [List.cons.injEq,and_true] at hce
   obtain ⟨rfl,rfl,rfl,rfl,rfl,rfl,rfl,rfl,rfl,rfl,rfl⟩:=hce
   obtain ⟨s4a2,s4p2,rfl,_⟩:=Rep.sl s4_3
   obtain ⟨s4a6,s4p6,rfl,_⟩:=Rep.sl s4_9
   obtain ⟨s4a7,s4p7,rfl,_⟩:=Rep.sl s4_10
   obtain ⟨s4a8,s4p8,rfl,_⟩:=Rep.sl s4_12
   clear s4_0 s4_1 s4_2 s4_3 s4_4 s4_5 s4_6 s4_7 s4_8 s4_9 s4_10 s4_11 s4_12 s4_13 s4_14
   clear hc
   obtain ⟨O6,T6⟩:=Rep.jU (v:=.int .i64 (((Rep.slice 9 Rep.str).mark true y8 (((Rep.slice 5 Rep.byte).mark true y7 (((Rep.slice 9 Rep.str).mark true y6 (((Rep.slice 9 Rep.str).mark true y2 (q + 1 + 1)).2 + 1 + 1 + 1)).2)).2)).2)) (p:=off + j * 11 + 9) Ox4 HL.out (show 9 < kR.n by decide) (kSt _ ⟨by omega,by omega⟩) (fun h=>h) (show off + j * 11 + 9=off + j * 11 + 9 by omega)
   have T6:=Tx4.trans (T6.wide nR)
   obtain ⟨O7,T7⟩:=Rep.jU (v:=.int .i64 (((Rep.slice 9 Rep.str).mark true y8 (((Rep.slice 5 Rep.byte).mark true y7 (((Rep.slice 9 Rep.str).mark true y6 (((Rep.slice 9 Rep.str).mark true y2 (q + 1 + 1)).2 + 1 + 1 + 1)).2)).2)).2 + 1)) (p:=off + j * 11 + 10) O6 HL.out (show 10 < kR.n by decide) (kQj _ ⟨by omega,by omega⟩) (fun h=>h) (show off + j * 11 + 10=off + j * 11 + 10 by omega)
   have T7:=T6.trans (T7.wide nR)
   have EQ:=HEH.out _ rfl
   have OF:=yD (EQ.out ▸ O7);have TF:=yD T7
   have QF:Hid ((((Rep.slice 9 Rep.str).mark true y8 (((Rep.slice 5 Rep.byte).mark true y7 (((Rep.slice 9 Rep.str).mark true y6 (((Rep.slice 9 Rep.str).mark true y2 (q + 1 + 1)).2 + 1 + 1 + 1)).2)).2)).2 + 1 + 1)=(Rep.mkL kR (x.take (j + 1)) k).2):=yD qL
   go_wp2
   go_roundw
   case rel=>exact ⟨j + 1,by omega,by go_num,by rw [← QF.out],OF.out,TF.out⟩
   simp [intOf];omega
 obtain ⟨e1,e2⟩:=Rep.kAp (r:=kR) (k:=k) hlt
 rw [e1] at hown
 have HO:=yD hown;have HT:=yD e2;clear hown e1 e2
 go_wp2
 go_ret
 exact ⟨ku HT.out,HO.out,ht⟩
end Go.Proofs.YtlfblpgkegeaeaaGreat

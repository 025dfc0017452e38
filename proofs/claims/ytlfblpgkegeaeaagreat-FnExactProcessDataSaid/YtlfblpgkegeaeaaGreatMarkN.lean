/-
  The laws' markings at more types. Printed by genmark.py.
  The laws' markings at more types. Printed by genmark.py.
  The laws' markings at more types. Printed by genmark.py.
-/
import Derived.Test.YtlfblpgkegeaeaaGreatMark
set_option linter.unusedVariables false
set_option linter.unusedSimpArgs false
set_option linter.unnecessarySimpa false
set_option maxRecDepth 100000
set_option maxHeartbeats 16000000
namespace Go.Proofs.YtlfblpgkegeaeaaGreat
open Go.RowKit
theorem markData_c {w:World} {ca:List Value} {x:jJ} {k:Int} {S:Nat→Prop} (ha:kP.own w ca x S) (hk0:0≤k) (hk1:k + (kP.cnt:Nat)≤Top) :
    Calls Tryz.prog 21 #[.agg ca.toArray,.int .i64 k] w (zZ kP false x k ca S w):=by
 have hl:=ha.live
 obtain ⟨av0,av1,av2,rfl,a_0,a_1,a_2,a_3,a_4,a_5,a_6⟩:=kY ha.raw
 obtain ⟨x0,x1,x2,x3,x4⟩:=x
 clear a_0 a_1 a_2 a_3 a_4 a_5 a_6
 have HQ:=yD hk1;clear hk1
 have k2:k≤4611686018427387904:=gP
 go_enter Tryz.func21,Tryz.ntmps21
 go_wp2_with fail
 have O0:=yD (fun o=>Rep.own.alloc hl o)
 obtain ⟨A1,hA1,hAB1,bk1⟩:=RData_sub_0 (O0.out _)
 refine (kRv (k:=k) hA1 rP (by have:=HQ.out;have e:kP.cnt=kL.cnt + ((Rep.slice 5 Rep.byte).cnt + (kL.cnt + (1 + (1)))):=rfl;omega)).mono ?_
 rintro e w1 ⟨rfl,P1,X1⟩
 have O1x:=bk1 P1 X1
 have g1:=kL.mark_ge (e:=false) (x:=x0) (k:=k)
 have l1:(kL.mark false x0 (k)).2≤k + (kL.cnt:Nat):=kL.mark_le (e:=false) (k:=k) hA1.2
 have u1:(kL.mark false x0 (k)).2≤4611686018427387904:=by have:=HQ.out;have e:kP.cnt=kL.cnt + ((Rep.slice 5 Rep.byte).cnt + (kL.cnt + (1 + (1)))):=rfl;unfold Top at *;omega
 have M1:=yD l1;clear l1
 have T1x:Touch S w w1:=(Touch.of_below (Rep.zy w _)).trans (X1.wide (fun i hi=>(hAB1 i hi).1))
 have hz1:w.heap.size + 1≤w1.heap.size:=nG
 have hc1:∀ o,w1.cell? ⟨w.heap.size,o,none⟩=_:=fun o=>World.cell?_of_block (a:=⟨w.heap.size,o,none⟩) (X1.block w.heap.size rQ mR)
 have hf1:∀ o,w1.frozen? ⟨w.heap.size,o,none⟩=_:=fun o=>World.frozen?_of_block (a:=⟨w.heap.size,o,none⟩) (X1.block w.heap.size rQ mR)
 simp [go_sem] at hc1
 clear hA1 hAB1 bk1 P1 X1
 go_wp2_with fail
 obtain ⟨A2,hA2,hAB2,bk2⟩:=kPf O1x
 refine (kFp (k:=(kL.mark false x0 (k)).2) hA2 rP (by have:=HQ.out;have:=M1.out;have e:kP.cnt=kL.cnt + ((Rep.slice 5 Rep.byte).cnt + (kL.cnt + (1 + (1)))):=rfl;omega)).mono ?_
 rintro e w2 ⟨rfl,P2,X2⟩
 have O2x:=bk2 P2 X2
 have g2:=(Rep.slice 5 Rep.byte).mark_ge (e:=true) (x:=x1) (k:=(kL.mark false x0 (k)).2)
 have l2:((Rep.slice 5 Rep.byte).mark true x1 ((kL.mark false x0 (k)).2)).2≤(kL.mark false x0 (k)).2 + ((Rep.slice 5 Rep.byte).cnt:Nat):=(Rep.slice 5 Rep.byte).mark_le (e:=true) (k:=(kL.mark false x0 (k)).2) hA2.2
 have u2:((Rep.slice 5 Rep.byte).mark true x1 ((kL.mark false x0 (k)).2)).2≤4611686018427387904:=by have:=HQ.out;have:=M1.out;have e:kP.cnt=kL.cnt + ((Rep.slice 5 Rep.byte).cnt + (kL.cnt + (1 + (1)))):=rfl;unfold Top at *;omega
 have M2:=yD l2;clear l2
 have T2x:Touch S w w2:=T1x.trans (X2.wide (fun i hi=>(hAB2 i hi).1))
 have hz2:w.heap.size + 1≤w2.heap.size:=qA
 have hc2:∀ o,w2.cell? ⟨w.heap.size,o,none⟩=_:=fun o=>(World.cell?_of_block (a:=⟨w.heap.size,o,none⟩) (X2.block w.heap.size rP mW)).trans (hc1 o)
 clear hc1 hf1
 clear hA2 hAB2 bk2 P2 X2
 go_wp2_with fail
 obtain ⟨A3,hA3,hAB3,bk3⟩:=RData_sub_2 O2x
 refine (kRv (k:=((Rep.slice 5 Rep.byte).mark true x1 ((kL.mark false x0 (k)).2)).2) hA3 rP (by have:=HQ.out;have:=M1.out;have:=M2.out;have e:kP.cnt=kL.cnt + ((Rep.slice 5 Rep.byte).cnt + (kL.cnt + (1 + (1)))):=rfl;omega)).mono ?_
 rintro e w3 ⟨rfl,P3,X3⟩
 have O3x:=bk3 P3 X3
 have g3:=kL.mark_ge (e:=false) (x:=x2) (k:=((Rep.slice 5 Rep.byte).mark true x1 ((kL.mark false x0 (k)).2)).2)
 have l3:(kL.mark false x2 (((Rep.slice 5 Rep.byte).mark true x1 ((kL.mark false x0 (k)).2)).2)).2≤((Rep.slice 5 Rep.byte).mark true x1 ((kL.mark false x0 (k)).2)).2 + (kL.cnt:Nat):=kL.mark_le (e:=false) (k:=((Rep.slice 5 Rep.byte).mark true x1 ((kL.mark false x0 (k)).2)).2) hA3.2
 have u3:(kL.mark false x2 (((Rep.slice 5 Rep.byte).mark true x1 ((kL.mark false x0 (k)).2)).2)).2≤4611686018427387904:=by have:=HQ.out;have:=M1.out;have:=M2.out;have e:kP.cnt=kL.cnt + ((Rep.slice 5 Rep.byte).cnt + (kL.cnt + (1 + (1)))):=rfl;unfold Top at *;omega
 have M3:=yD l3;clear l3
 have T3x:Touch S w w3:=T2x.trans (X3.wide (fun i hi=>(hAB3 i hi).1))
 have hz3:w.heap.size + 1≤w3.heap.size:=by have:=X3.size;omega
 have hc3:∀ o,w3.cell? ⟨w.heap.size,o,none⟩=_:=fun o=>(World.cell?_of_block (a:=⟨w.heap.size,o,none⟩) (X3.block w.heap.size rP mY)).trans (hc2 o)
 clear hc2
 clear hA3 hAB3 bk3 P3 X3
 have OF:=yD (Rep.own.wide (T:=S) O3x (fun j hj=>hj.1));have TF:=yD T3x
 clear ha hl
 go_wp2
 go_ret
 exact ⟨rfl,OF.out,TF.out⟩
theorem kOw {w:World} {va:Value} {x:List jJ} {k:Int} {S:Nat→Prop} (ha:(Rep.slice 66 kP).own w [va] x S) (hk0:0≤k) (hk1:k + ((Rep.slice 66 kP).cnt:Nat)≤Top) :
    Calls Tryz.prog 79 #[va,.int .i64 k] w (zZ (Rep.slice 66 kP) true x k [va] S w):=by
 obtain ⟨aa,capa,rfl,la⟩:=Rep.sl ha.raw
 have lb:x.length≤16777216:=ha.2.1
 have hbd:=yD ha.2
 have HK:=yD hk1;clear hk1
 have hk2:k≤4611686018427387904:=gQ
 go_enter Tryz.func79,Tryz.ntmps79
 go_wp2
 go_loopw [1,5] (fun l i wr=>∃ (j:Nat),j≤x.length∧i=.int .i64 j∧l=.int .i64 (Rep.mkL kP (x.take j) k).2∧(Rep.slice 66 kP).own wr [.slice aa x.length capa] ((Rep.mkL kP (x.take j) k).1++x.drop j) S∧Touch S w wr) (fun _ i _=>x.length - (intOf i).toNat)
 case atStart=>exact ⟨0,Nat.zero_le _,rfl,rfl,by simpa [Rep.mkL] using ha,Touch.refl _ _⟩
 obtain ⟨j,hj,rfl,rfl,hown,ht⟩:=hrel
 by_cases hlt:j < x.length
 · obtain ⟨hln,b,off,rfl,hSb,hbw⟩:=Rep.zw hown qE
   clear hln
   rw [Rep.zn hlt] at hown
   obtain ⟨q0,q1⟩:=Rep.zo (e:=66) (r:=kP) hbd.out hlt HK.out hk0
   have HE:∀ y,y=(kP.mark true x[j] (Rep.mkL kP (x.take j) k).2).1→Hid (((Rep.mkL kP (x.take j) k).1++x.drop j).set j y=(Rep.mkL kP (x.take (j + 1)) k).1++x.drop (j + 1)):=fun y hy=>yD (Rep.kBc hlt hy)
   have HF:=yD (Rep.kAq (r:=kP) (k:=k) hlt)
   have hLl:j < ((Rep.mkL kP (x.take j) k).1++x.drop j).length:=pM
   have HL:=yD hLl;clear hLl
   generalize (Rep.mkL kP (x.take j) k).2=q at *
   generalize (Rep.mkL kP (x.take j) k).1++x.drop j=M at *
   generalize hx:x[j]=y at *
   have HX:=yD hx;clear hx
   obtain ⟨y0,y1,y2,y3,y4⟩:=y
   have HEH:=yD HE;clear HE
   have HQ:=yD q1;clear q1
   have q2:q≤4611686018427387904:=gP
   obtain ⟨c,B,hc,hB,hSb',hcell,hfz,back⟩:=Rep.jH hown HL.out
   obtain ⟨d0_0,d0_1,d0_2,d0_3,d0_4,rfl⟩:∃ d0_0 d0_1 d0_2 d0_3 d0_4,c=[d0_0,d0_1,d0_2,d0_3,d0_4]:=by have h:=kP.len hc.1;match c,h with | [d0_0,d0_1,d0_2,d0_3,d0_4],_=>exact ⟨_,_,_,_,_,rfl⟩
   try simp only [kDb,kDa] at hc
   have C0_0:wr.cell? ⟨b,off + j * 5,none⟩=some d0_0:=hcell 0 _ rfl
   have Z0_0:=hfz (off + j * 5)
   have C0_1:wr.cell? ⟨b,off + j * 5 + 1,none⟩=some d0_1:=hcell 1 _ rfl
   have Z0_1:=hfz (off + j * 5 + 1)
   have C0_2:wr.cell? ⟨b,off + j * 5 + 2,none⟩=some d0_2:=hcell 2 _ rfl
   have Z0_2:=hfz (off + j * 5 + 2)
   have C0_3:wr.cell? ⟨b,off + j * 5 + 3,none⟩=some d0_3:=hcell 3 _ rfl
   have Z0_3:=hfz (off + j * 5 + 3)
   have C0_4:wr.cell? ⟨b,off + j * 5 + 4,none⟩=some d0_4:=hcell 4 _ rfl
   have Z0_4:=hfz (off + j * 5 + 4)
   clear hB hSb' hcell hfz back
   obtain ⟨s0v0,s0v1,s0v2,hce,s0_0,s0_1,s0_2,s0_3,s0_4,s0_5,s0_6⟩:=kY hc.raw
   simp only [List.cons.injEq,and_true] at hce
   obtain ⟨rfl,rfl,rfl,rfl,rfl⟩:=hce
   obtain ⟨s0a0,s0p0,rfl,_⟩:=Rep.sl s0_1
   obtain ⟨s0a1,s0p1,rfl,_⟩:=Rep.sl s0_2
   obtain ⟨s0a2,s0p2,rfl,_⟩:=Rep.sl s0_4
   clear s0_0 s0_1 s0_2 s0_3 s0_4 s0_5 s0_6
   clear hc
   go_wp2_with fail
   obtain ⟨c1,B1,hc1,hB1,_,hcell1,_,back1⟩:=Rep.jH hown HL.out
   obtain ⟨e1_0,e1_1,e1_2,e1_3,e1_4,rfl⟩:∃ e1_0 e1_1 e1_2 e1_3 e1_4,c1=[e1_0,e1_1,e1_2,e1_3,e1_4]:=by have h:=kP.len hc1.1;match c1,h with | [e1_0,e1_1,e1_2,e1_3,e1_4],_=>exact ⟨_,_,_,_,_,rfl⟩
   have hd1:=hcell1 0 _ rfl
   obtain rfl:e1_0=_:=by simpa [go_sem,C0_0,kWh] using hd1.symm
   obtain ⟨A1,hA1,hAB1,bk1⟩:=kTz hc1
   try simp only [kDb,kDa] at hA1
   refine (jl (k:=q) hA1 rP (by have:=HQ.out;have e:kP.cnt=(Rep.slice 9 Rep.str).cnt + ((Rep.slice 5 Rep.byte).cnt + ((Rep.slice 9 Rep.str).cnt + (1 + (1)))):=rfl;omega)).mono ?_
   rintro e w1 ⟨rfl,P1,X1⟩
   have Ox1:=back1 (bk1 P1 X1) (X1.wide hAB1)
   have Tx1:=ht.trans (X1.wide (fun i hi=>(hB1 i (hAB1 i hi)).1))
   have g1:=(Rep.slice 9 Rep.str).mark_ge (e:=true) (x:=y0) (k:=q)
   have l1:((Rep.slice 9 Rep.str).mark true y0 (q)).2≤q + ((Rep.slice 9 Rep.str).cnt:Nat):=(Rep.slice 9 Rep.str).mark_le (e:=true) (k:=q) hA1.2
   have u1:((Rep.slice 9 Rep.str).mark true y0 (q)).2≤4611686018427387904:=by have:=HQ.out;have e:kP.cnt=(Rep.slice 9 Rep.str).cnt + ((Rep.slice 5 Rep.byte).cnt + ((Rep.slice 9 Rep.str).cnt + (1 + (1)))):=rfl;unfold Top at *;omega
   have M1:=yD l1;clear l1
   clear C0_0 C0_1 C0_2 C0_3 C0_4 Z0_0 Z0_1 Z0_2 Z0_3 Z0_4 hA1 bk1 back1 hc1 hB1 hAB1 P1 X1 hcell1 hd1
   obtain ⟨c,B,hc,hB,hSb',hcell,hfz,back⟩:=Rep.jH Ox1 HL.out
   obtain ⟨d1_0,d1_1,d1_2,d1_3,d1_4,rfl⟩:∃ d1_0 d1_1 d1_2 d1_3 d1_4,c=[d1_0,d1_1,d1_2,d1_3,d1_4]:=by have h:=kP.len hc.1;match c,h with | [d1_0,d1_1,d1_2,d1_3,d1_4],_=>exact ⟨_,_,_,_,_,rfl⟩
   try simp only [kDb,kDa] at hc
   have C1_0:w1.cell? ⟨b,off + j * 5,none⟩=some d1_0:=hcell 0 _ rfl
   have Z1_0:=hfz (off + j * 5)
   have C1_1:w1.cell? ⟨b,off + j * 5 + 1,none⟩=some d1_1:=hcell 1 _ rfl
   have Z1_1:=hfz (off + j * 5 + 1)
   have C1_2:w1.cell? ⟨b,off + j * 5 + 2,none⟩=some d1_2:=hcell 2 _ rfl
   have Z1_2:=hfz (off + j * 5 + 2)
   have C1_3:w1.cell? ⟨b,off + j * 5 + 3,none⟩=some d1_3:=hcell 3 _ rfl
   have Z1_3:=hfz (off + j * 5 + 3)
   have C1_4:w1.cell? ⟨b,off + j * 5 + 4,none⟩=some d1_4:=hcell 4 _ rfl
   have Z1_4:=hfz (off + j * 5 + 4)
   clear hB hSb' hcell hfz back
   obtain ⟨s1v0,s1v1,s1v2,hce,s1_0,s1_1,s1_2,s1_3,s1_4,s1_5,s1_6⟩:=kY hc.raw
   simp only [List.cons.injEq,and_true] at hce
   obtain ⟨rfl,rfl,rfl,rfl,rfl⟩:=hce
   obtain ⟨s1a0,s1p0,rfl,_⟩:=Rep.sl s1_1
   obtain ⟨s1a1,s1p1,rfl,_⟩:=Rep.sl s1_2
   obtain ⟨s1a2,s1p2,rfl,_⟩:=Rep.sl s1_4
   clear s1_0 s1_1 s1_2 s1_3 s1_4 s1_5 s1_6
   clear hc
   go_wp2_with fail
   obtain ⟨c2,B2,hc2,hB2,_,hcell2,_,back2⟩:=Rep.jH Ox1 HL.out
   obtain ⟨e2_0,e2_1,e2_2,e2_3,e2_4,rfl⟩:∃ e2_0 e2_1 e2_2 e2_3 e2_4,c2=[e2_0,e2_1,e2_2,e2_3,e2_4]:=by have h:=kP.len hc2.1;match c2,h with | [e2_0,e2_1,e2_2,e2_3,e2_4],_=>exact ⟨_,_,_,_,_,rfl⟩
   have hd2:=hcell2 1 _ rfl
   obtain rfl:e2_1=_:=by simpa [go_sem,C1_1,kWh] using hd2.symm
   obtain ⟨A2,hA2,hAB2,bk2⟩:=kPf hc2
   try simp only [kDb,kDa] at hA2
   refine (kFp (k:=((Rep.slice 9 Rep.str).mark true y0 (q)).2) hA2 rP (by have:=HQ.out;have:=M1.out;have e:kP.cnt=(Rep.slice 9 Rep.str).cnt + ((Rep.slice 5 Rep.byte).cnt + ((Rep.slice 9 Rep.str).cnt + (1 + (1)))):=rfl;omega)).mono ?_
   rintro e w2 ⟨rfl,P2,X2⟩
   have Ox2:=back2 (bk2 P2 X2) (X2.wide hAB2)
   have Tx2:=Tx1.trans (X2.wide (fun i hi=>(hB2 i (hAB2 i hi)).1))
   have g2:=(Rep.slice 5 Rep.byte).mark_ge (e:=true) (x:=y1) (k:=((Rep.slice 9 Rep.str).mark true y0 (q)).2)
   have l2:((Rep.slice 5 Rep.byte).mark true y1 (((Rep.slice 9 Rep.str).mark true y0 (q)).2)).2≤((Rep.slice 9 Rep.str).mark true y0 (q)).2 + ((Rep.slice 5 Rep.byte).cnt:Nat):=(Rep.slice 5 Rep.byte).mark_le (e:=true) (k:=((Rep.slice 9 Rep.str).mark true y0 (q)).2) hA2.2
   have u2:((Rep.slice 5 Rep.byte).mark true y1 (((Rep.slice 9 Rep.str).mark true y0 (q)).2)).2≤4611686018427387904:=by have:=HQ.out;have:=M1.out;have e:kP.cnt=(Rep.slice 9 Rep.str).cnt + ((Rep.slice 5 Rep.byte).cnt + ((Rep.slice 9 Rep.str).cnt + (1 + (1)))):=rfl;unfold Top at *;omega
   have M2:=yD l2;clear l2
   clear C1_0 C1_1 C1_2 C1_3 C1_4 Z1_0 Z1_1 Z1_2 Z1_3 Z1_4 hA2 bk2 back2 hc2 hB2 hAB2 P2 X2 hcell2 hd2
   obtain ⟨c,B,hc,hB,hSb',hcell,hfz,back⟩:=Rep.jH Ox2 HL.out
   obtain ⟨d2_0,d2_1,d2_2,d2_3,d2_4,rfl⟩:∃ d2_0 d2_1 d2_2 d2_3 d2_4,c=[d2_0,d2_1,d2_2,d2_3,d2_4]:=by have h:=kP.len hc.1;match c,h with | [d2_0,d2_1,d2_2,d2_3,d2_4],_=>exact ⟨_,_,_,_,_,rfl⟩
   try simp only [kDb,kDa] at hc
   have C2_0:w2.cell? ⟨b,off + j * 5,none⟩=some d2_0:=hcell 0 _ rfl
   have Z2_0:=hfz (off + j * 5)
   have C2_1:w2.cell? ⟨b,off + j * 5 + 1,none⟩=some d2_1:=hcell 1 _ rfl
   have Z2_1:=hfz (off + j * 5 + 1)
   have C2_2:w2.cell? ⟨b,off + j * 5 + 2,none⟩=some d2_2:=hcell 2 _ rfl
   have Z2_2:=hfz (off + j * 5 + 2)
   have C2_3:w2.cell? ⟨b,off + j * 5 + 3,none⟩=some d2_3:=hcell 3 _ rfl
   have Z2_3:=hfz (off + j * 5 + 3)
   have C2_4:w2.cell? ⟨b,off + j * 5 + 4,none⟩=some d2_4:=hcell 4 _ rfl
   have Z2_4:=hfz (off + j * 5 + 4)
   clear hB hSb' hcell hfz back
   obtain ⟨s2v0,s2v1,s2v2,hce,s2_0,s2_1,s2_2,s2_3,s2_4,s2_5,s2_6⟩:=kY hc.raw
   simp only [List.cons.injEq,and_true] at hce
   obtain ⟨rfl,rfl,rfl,rfl,rfl⟩:=hce
   obtain ⟨s2a0,s2p0,rfl,_⟩:=Rep.sl s2_1
   obtain ⟨s2a1,s2p1,rfl,_⟩:=Rep.sl s2_2
   obtain ⟨s2a2,s2p2,rfl,_⟩:=Rep.sl s2_4
   clear s2_0 s2_1 s2_2 s2_3 s2_4 s2_5 s2_6
   clear hc
   go_wp2_with fail
   obtain ⟨c3,B3,hc3,hB3,_,hcell3,_,back3⟩:=Rep.jH Ox2 HL.out
   obtain ⟨e3_0,e3_1,e3_2,e3_3,e3_4,rfl⟩:∃ e3_0 e3_1 e3_2 e3_3 e3_4,c3=[e3_0,e3_1,e3_2,e3_3,e3_4]:=by have h:=kP.len hc3.1;match c3,h with | [e3_0,e3_1,e3_2,e3_3,e3_4],_=>exact ⟨_,_,_,_,_,rfl⟩
   have hd3:=hcell3 2 _ rfl
   obtain rfl:e3_2=_:=by simpa [go_sem,C2_2,kWh] using hd3.symm
   obtain ⟨A3,hA3,hAB3,bk3⟩:=kTy hc3
   try simp only [kDb,kDa] at hA3
   refine (jl (k:=((Rep.slice 5 Rep.byte).mark true y1 (((Rep.slice 9 Rep.str).mark true y0 (q)).2)).2) hA3 rP (by have:=HQ.out;have:=M1.out;have:=M2.out;have e:kP.cnt=(Rep.slice 9 Rep.str).cnt + ((Rep.slice 5 Rep.byte).cnt + ((Rep.slice 9 Rep.str).cnt + (1 + (1)))):=rfl;omega)).mono ?_
   rintro e w3 ⟨rfl,P3,X3⟩
   have Ox3:=back3 (bk3 P3 X3) (X3.wide hAB3)
   have Tx3:=Tx2.trans (X3.wide (fun i hi=>(hB3 i (hAB3 i hi)).1))
   have g3:=(Rep.slice 9 Rep.str).mark_ge (e:=true) (x:=y2) (k:=((Rep.slice 5 Rep.byte).mark true y1 (((Rep.slice 9 Rep.str).mark true y0 (q)).2)).2)
   have l3:((Rep.slice 9 Rep.str).mark true y2 (((Rep.slice 5 Rep.byte).mark true y1 (((Rep.slice 9 Rep.str).mark true y0 (q)).2)).2)).2≤((Rep.slice 5 Rep.byte).mark true y1 (((Rep.slice 9 Rep.str).mark true y0 (q)).2)).2 + ((Rep.slice 9 Rep.str).cnt:Nat):=(Rep.slice 9 Rep.str).mark_le (e:=true) (k:=((Rep.slice 5 Rep.byte).mark true y1 (((Rep.slice 9 Rep.str).mark true y0 (q)).2)).2) hA3.2
   have u3:((Rep.slice 9 Rep.str).mark true y2 (((Rep.slice 5 Rep.byte).mark true y1 (((Rep.slice 9 Rep.str).mark true y0 (q)).2)).2)).2≤4611686018427387904:=by have:=HQ.out;have:=M1.out;have:=M2.out;have e:kP.cnt=(Rep.slice 9 Rep.str).cnt + ((Rep.slice 5 Rep.byte).cnt + ((Rep.slice 9 Rep.str).cnt + (1 + (1)))):=rfl;unfold Top at *;omega
   have M3:=yD l3;clear l3
   clear C2_0 C2_1 C2_2 C2_3 C2_4 Z2_0 Z2_1 Z2_2 Z2_3 Z2_4 hA3 bk3 back3 hc3 hB3 hAB3 P3 X3 hcell3 hd3
   obtain ⟨c,B,hc,hB,hSb',hcell,hfz,back⟩:=Rep.jH Ox3 HL.out
   obtain ⟨d3_0,d3_1,d3_2,d3_3,d3_4,rfl⟩:∃ d3_0 d3_1 d3_2 d3_3 d3_4,c=[d3_0,d3_1,d3_2,d3_3,d3_4]:=by have h:=kP.len hc.1;match c,h with | [d3_0,d3_1,d3_2,d3_3,d3_4],_=>exact ⟨_,_,_,_,_,rfl⟩
   try simp only [kDb,kDa] at hc
   have C3_0:w3.cell? ⟨b,off + j * 5,none⟩=some d3_0:=hcell 0 _ rfl
   have Z3_0:=hfz (off + j * 5)
   have C3_1:w3.cell? ⟨b,off + j * 5 + 1,none⟩=some d3_1:=hcell 1 _ rfl
   have Z3_1:=hfz (off + j * 5 + 1)
   have C3_2:w3.cell? ⟨b,off + j * 5 + 2,none⟩=some d3_2:=hcell 2 _ rfl
   have Z3_2:=hfz (off + j * 5 + 2)
   have C3_3:w3.cell? ⟨b,off + j * 5 + 3,none⟩=some d3_3:=hcell 3 _ rfl
   have Z3_3:=hfz (off + j * 5 + 3)
   have C3_4:w3.cell? ⟨b,off + j * 5 + 4,none⟩=some d3_4:=hcell 4 _ rfl
   have Z3_4:=hfz (off + j * 5 + 4)
   clear hB hSb' hcell hfz back
   obtain ⟨s3v0,s3v1,s3v2,hce,s3_0,s3_1,s3_2,s3_3,s3_4,s3_5,s3_6⟩:=kY hc.raw
   simp only [List.cons.injEq,and_true] at hce
   obtain ⟨rfl,rfl,rfl,rfl,rfl⟩:=hce
   obtain ⟨s3a0,s3p0,rfl,_⟩:=Rep.sl s3_1
   obtain ⟨s3a1,s3p1,rfl,_⟩:=Rep.sl s3_2
   obtain ⟨s3a2,s3p2,rfl,_⟩:=Rep.sl s3_4
   clear s3_0 s3_1 s3_2 s3_3 s3_4 s3_5 s3_6
   clear hc
   obtain ⟨O1,T1⟩:=Rep.jU (v:=.int .i64 (((Rep.slice 9 Rep.str).mark true y2 (((Rep.slice 5 Rep.byte).mark true y1 (((Rep.slice 9 Rep.str).mark true y0 (q)).2)).2)).2)) (p:=off + j * 5 + 3) Ox3 HL.out (show 3 < kP.n by decide) (RData_set3 _ ⟨by omega,by omega⟩) (fun h=>h) (show off + j * 5 + 3=off + j * 5 + 3 by omega)
   have T1:=Tx3.trans (T1.wide nR)
   obtain ⟨O2,T2⟩:=Rep.jU (v:=.int .i64 (((Rep.slice 9 Rep.str).mark true y2 (((Rep.slice 5 Rep.byte).mark true y1 (((Rep.slice 9 Rep.str).mark true y0 (q)).2)).2)).2 + 1)) (p:=off + j * 5 + 4) O1 HL.out (show 4 < kP.n by decide) (RData_set4 _ ⟨by omega,by omega⟩) (fun h=>h) (show off + j * 5 + 4=off + j * 5 + 4 by omega)
   have T2:=T1.trans (T2.wide nR)
   have EQ:=HEH.out _ rfl
   have OF:=yD (EQ.out ▸ O2);have TF:=yD T2
   have QF:Hid ((((Rep.slice 9 Rep.str).mark true y2 (((Rep.slice 5 Rep.byte).mark true y1 (((Rep.slice 9 Rep.str).mark true y0 (q)).2)).2)).2 + 1 + 1)=(Rep.mkL kP (x.take (j + 1)) k).2):=yD qL
   go_wp2
   go_roundw
   case rel=>exact ⟨j + 1,by omega,by go_num,by rw [← QF.out],OF.out,TF.out⟩
   simp [intOf];omega
 obtain ⟨e1,e2⟩:=Rep.kAp (r:=kP) (k:=k) hlt
 rw [e1] at hown
 have HO:=yD hown;have HT:=yD e2;clear hown e1 e2
 go_wp2
 go_ret
 exact ⟨ku HT.out,HO.out,ht⟩
theorem kLy {w:World} {va:Value} {x:List ko} {k:Int} {S:Nat→Prop} (ha:(Rep.slice 212 kH).own w [va] x S) (hk0:0≤k) (hk1:k + ((Rep.slice 212 kH).cnt:Nat)≤Top) :
    Calls Tryz.prog 155 #[va,.int .i64 k] w (zZ (Rep.slice 212 kH) true x k [va] S w):=by
 obtain ⟨aa,capa,rfl,la⟩:=Rep.sl ha.raw
 have lb:x.length≤16777216:=ha.2.1
 have hbd:=yD ha.2
 have HK:=yD hk1;clear hk1
 have hk2:k≤4611686018427387904:=gQ
 go_enter Tryz.func155,Tryz.ntmps155
 go_wp2
 go_loopw [1,5] (fun l i wr=>∃ (j:Nat),j≤x.length∧i=.int .i64 j∧l=.int .i64 (Rep.mkL kH (x.take j) k).2∧(Rep.slice 212 kH).own wr [.slice aa x.length capa] ((Rep.mkL kH (x.take j) k).1++x.drop j) S∧Touch S w wr) (fun _ i _=>x.length - (intOf i).toNat)
 case atStart=>exact ⟨0,Nat.zero_le _,rfl,rfl,by simpa [Rep.mkL] using ha,Touch.refl _ _⟩
 obtain ⟨j,hj,rfl,rfl,hown,ht⟩:=hrel
 by_cases hlt:j < x.length
 · obtain ⟨hln,b,off,rfl,hSb,hbw⟩:=Rep.zw hown qE
   clear hln
   rw [Rep.zn hlt] at hown
   obtain ⟨q0,q1⟩:=Rep.zo (e:=212) (r:=kH) hbd.out hlt HK.out hk0
   have HE:∀ y,y=(kH.mark true x[j] (Rep.mkL kH (x.take j) k).2).1→Hid (((Rep.mkL kH (x.take j) k).1++x.drop j).set j y=(Rep.mkL kH (x.take (j + 1)) k).1++x.drop (j + 1)):=fun y hy=>yD (Rep.kBc hlt hy)
   have HF:=yD (Rep.kAq (r:=kH) (k:=k) hlt)
   have hLl:j < ((Rep.mkL kH (x.take j) k).1++x.drop j).length:=pM
   have HL:=yD hLl;clear hLl
   generalize (Rep.mkL kH (x.take j) k).2=q at *
   generalize (Rep.mkL kH (x.take j) k).1++x.drop j=M at *
   generalize hx:x[j]=y at *
   have HX:=yD hx;clear hx
   obtain ⟨⟨y0,y1,y2,y3,y4⟩,y5⟩:=y
   have HEH:=yD HE;clear HE
   have HQ:=yD q1;clear q1
   have q2:q≤4611686018427387904:=gP
   obtain ⟨c,B,hc,hB,hSb',hcell,hfz,back⟩:=Rep.jH hown HL.out
   obtain ⟨d0_0,d0_1,d0_2,d0_3,d0_4,d0_5,rfl⟩:∃ d0_0 d0_1 d0_2 d0_3 d0_4 d0_5,c=[d0_0,d0_1,d0_2,d0_3,d0_4,d0_5]:=by have h:=kH.len hc.1;match c,h with | [d0_0,d0_1,d0_2,d0_3,d0_4,d0_5],_=>exact ⟨_,_,_,_,_,_,rfl⟩
   try simp only [zf,ze,zb] at hc
   have C0_0:wr.cell? ⟨b,off + j * 6,none⟩=some d0_0:=hcell 0 _ rfl
   have Z0_0:=hfz (off + j * 6)
   have C0_1:wr.cell? ⟨b,off + j * 6 + 1,none⟩=some d0_1:=hcell 1 _ rfl
   have Z0_1:=hfz (off + j * 6 + 1)
   have C0_2:wr.cell? ⟨b,off + j * 6 + 2,none⟩=some d0_2:=hcell 2 _ rfl
   have Z0_2:=hfz (off + j * 6 + 2)
   have C0_3:wr.cell? ⟨b,off + j * 6 + 3,none⟩=some d0_3:=hcell 3 _ rfl
   have Z0_3:=hfz (off + j * 6 + 3)
   have C0_4:wr.cell? ⟨b,off + j * 6 + 4,none⟩=some d0_4:=hcell 4 _ rfl
   have Z0_4:=hfz (off + j * 6 + 4)
   have C0_5:wr.cell? ⟨b,off + j * 6 + 5,none⟩=some d0_5:=hcell 5 _ rfl
   have Z0_5:=hfz (off + j * 6 + 5)
   clear hB hSb' hcell hfz back
   obtain ⟨s0v0,s0v1,s0v2,hce,s0_0,s0_1,s0_2,s0_3,s0_4,s0_5,s0_6,s0_7,s0_8⟩:=jQ hc.raw
   simp only [List.cons.injEq,and_true] at hce
   obtain ⟨rfl,rfl,rfl,rfl,rfl,rfl⟩:=hce
   obtain ⟨s0a0,s0p0,rfl,_⟩:=Rep.sl s0_2
   obtain ⟨s0a1,s0p1,rfl,_⟩:=Rep.sl s0_3
   obtain ⟨s0a2,s0p2,rfl,_⟩:=Rep.sl s0_5
   clear s0_0 s0_1 s0_2 s0_3 s0_4 s0_5 s0_6 s0_7 s0_8
   clear hc
   go_wp2_with fail
   obtain ⟨c1,B1,hc1,hB1,_,hcell1,_,back1⟩:=Rep.jH hown HL.out
   obtain ⟨e1_0,e1_1,e1_2,e1_3,e1_4,e1_5,rfl⟩:∃ e1_0 e1_1 e1_2 e1_3 e1_4 e1_5,c1=[e1_0,e1_1,e1_2,e1_3,e1_4,e1_5]:=by have h:=kH.len hc1.1;match c1,h with | [e1_0,e1_1,e1_2,e1_3,e1_4,e1_5],_=>exact ⟨_,_,_,_,_,_,rfl⟩
   have hd1:=hcell1 0 _ rfl
   obtain rfl:e1_0=_:=by simpa [go_sem,C0_0,kGd] using hd1.symm
   obtain ⟨A1,hA1,hAB1,bk1⟩:=kIa hc1
   try simp only [zf,ze,zb] at hA1
   refine (jl (k:=q) hA1 rP (by have:=HQ.out;have e:kH.cnt=(Rep.slice 9 Rep.str).cnt + ((Rep.slice 5 Rep.byte).cnt + ((Rep.slice 9 Rep.str).cnt + (1 + (1)))) + (1):=rfl;omega)).mono ?_
   rintro e w1 ⟨rfl,P1,X1⟩
   have Ox1:=back1 (bk1 P1 X1) (X1.wide hAB1)
   have Tx1:=ht.trans (X1.wide (fun i hi=>(hB1 i (hAB1 i hi)).1))
   have g1:=(Rep.slice 9 Rep.str).mark_ge (e:=true) (x:=y0) (k:=q)
   have l1:((Rep.slice 9 Rep.str).mark true y0 (q)).2≤q + ((Rep.slice 9 Rep.str).cnt:Nat):=(Rep.slice 9 Rep.str).mark_le (e:=true) (k:=q) hA1.2
   have u1:((Rep.slice 9 Rep.str).mark true y0 (q)).2≤4611686018427387904:=by have:=HQ.out;have e:kH.cnt=(Rep.slice 9 Rep.str).cnt + ((Rep.slice 5 Rep.byte).cnt + ((Rep.slice 9 Rep.str).cnt + (1 + (1)))) + (1):=rfl;unfold Top at *;omega
   have M1:=yD l1;clear l1
   clear C0_0 C0_1 C0_2 C0_3 C0_4 C0_5 Z0_0 Z0_1 Z0_2 Z0_3 Z0_4 Z0_5 hA1 bk1 back1 hc1 hB1 hAB1 P1 X1 hcell1 hd1
   obtain ⟨c,B,hc,hB,hSb',hcell,hfz,back⟩:=Rep.jH Ox1 HL.out
   obtain ⟨d1_0,d1_1,d1_2,d1_3,d1_4,d1_5,rfl⟩:∃ d1_0 d1_1 d1_2 d1_3 d1_4 d1_5,c=[d1_0,d1_1,d1_2,d1_3,d1_4,d1_5]:=by have h:=kH.len hc.1;match c,h with | [d1_0,d1_1,d1_2,d1_3,d1_4,d1_5],_=>exact ⟨_,_,_,_,_,_,rfl⟩
   try simp only [zf,ze,zb] at hc
   have C1_0:w1.cell? ⟨b,off + j * 6,none⟩=some d1_0:=hcell 0 _ rfl
   have Z1_0:=hfz (off + j * 6)
   have C1_1:w1.cell? ⟨b,off + j * 6 + 1,none⟩=some d1_1:=hcell 1 _ rfl
   have Z1_1:=hfz (off + j * 6 + 1)
   have C1_2:w1.cell? ⟨b,off + j * 6 + 2,none⟩=some d1_2:=hcell 2 _ rfl
   have Z1_2:=hfz (off + j * 6 + 2)
   have C1_3:w1.cell? ⟨b,off + j * 6 + 3,none⟩=some d1_3:=hcell 3 _ rfl
   have Z1_3:=hfz (off + j * 6 + 3)
   have C1_4:w1.cell? ⟨b,off + j * 6 + 4,none⟩=some d1_4:=hcell 4 _ rfl
   have Z1_4:=hfz (off + j * 6 + 4)
   have C1_5:w1.cell? ⟨b,off + j * 6 + 5,none⟩=some d1_5:=hcell 5 _ rfl
   have Z1_5:=hfz (off + j * 6 + 5)
   clear hB hSb' hcell hfz back
   obtain ⟨s1v0,s1v1,s1v2,hce,s1_0,s1_1,s1_2,s1_3,s1_4,s1_5,s1_6,s1_7,s1_8⟩:=jQ hc.raw
   simp only [List.cons.injEq,and_true] at hce
   obtain ⟨rfl,rfl,rfl,rfl,rfl,rfl⟩:=hce
   obtain ⟨s1a0,s1p0,rfl,_⟩:=Rep.sl s1_2
   obtain ⟨s1a1,s1p1,rfl,_⟩:=Rep.sl s1_3
   obtain ⟨s1a2,s1p2,rfl,_⟩:=Rep.sl s1_5
   clear s1_0 s1_1 s1_2 s1_3 s1_4 s1_5 s1_6 s1_7 s1_8
   clear hc
   go_wp2_with fail
   obtain ⟨c2,B2,hc2,hB2,_,hcell2,_,back2⟩:=Rep.jH Ox1 HL.out
   obtain ⟨e2_0,e2_1,e2_2,e2_3,e2_4,e2_5,rfl⟩:∃ e2_0 e2_1 e2_2 e2_3 e2_4 e2_5,c2=[e2_0,e2_1,e2_2,e2_3,e2_4,e2_5]:=by have h:=kH.len hc2.1;match c2,h with | [e2_0,e2_1,e2_2,e2_3,e2_4,e2_5],_=>exact ⟨_,_,_,_,_,_,rfl⟩
   have hd2:=hcell2 1 _ rfl
   obtain rfl:e2_1=_:=by simpa [go_sem,C1_1,kGd] using hd2.symm
   obtain ⟨A2,hA2,hAB2,bk2⟩:=kJv hc2
   try simp only [zf,ze,zb] at hA2
   refine (kFp (k:=((Rep.slice 9 Rep.str).mark true y0 (q)).2) hA2 rP (by have:=HQ.out;have:=M1.out;have e:kH.cnt=(Rep.slice 9 Rep.str).cnt + ((Rep.slice 5 Rep.byte).cnt + ((Rep.slice 9 Rep.str).cnt + (1 + (1)))) + (1):=rfl;omega)).mono ?_
   rintro e w2 ⟨rfl,P2,X2⟩
   have Ox2:=back2 (bk2 P2 X2) (X2.wide hAB2)
   have Tx2:=Tx1.trans (X2.wide (fun i hi=>(hB2 i (hAB2 i hi)).1))
   have g2:=(Rep.slice 5 Rep.byte).mark_ge (e:=true) (x:=y1) (k:=((Rep.slice 9 Rep.str).mark true y0 (q)).2)
   have l2:((Rep.slice 5 Rep.byte).mark true y1 (((Rep.slice 9 Rep.str).mark true y0 (q)).2)).2≤((Rep.slice 9 Rep.str).mark true y0 (q)).2 + ((Rep.slice 5 Rep.byte).cnt:Nat):=(Rep.slice 5 Rep.byte).mark_le (e:=true) (k:=((Rep.slice 9 Rep.str).mark true y0 (q)).2) hA2.2
   have u2:((Rep.slice 5 Rep.byte).mark true y1 (((Rep.slice 9 Rep.str).mark true y0 (q)).2)).2≤4611686018427387904:=by have:=HQ.out;have:=M1.out;have e:kH.cnt=(Rep.slice 9 Rep.str).cnt + ((Rep.slice 5 Rep.byte).cnt + ((Rep.slice 9 Rep.str).cnt + (1 + (1)))) + (1):=rfl;unfold Top at *;omega
   have M2:=yD l2;clear l2
   clear C1_0 C1_1 C1_2 C1_3 C1_4 C1_5 Z1_0 Z1_1 Z1_2 Z1_3 Z1_4 Z1_5 hA2 bk2 back2 hc2 hB2 hAB2 P2 X2 hcell2 hd2
   obtain ⟨c,B,hc,hB,hSb',hcell,hfz,back⟩:=Rep.jH Ox2 HL.out
   obtain ⟨d2_0,d2_1,d2_2,d2_3,d2_4,d2_5,rfl⟩:∃ d2_0 d2_1 d2_2 d2_3 d2_4 d2_5,c=[d2_0,d2_1,d2_2,d2_3,d2_4,d2_5]:=by have h:=kH.len hc.1;match c,h with | [d2_0,d2_1,d2_2,d2_3,d2_4,d2_5],_=>exact ⟨_,_,_,_,_,_,rfl⟩
   try simp only [zf,ze,zb] at hc
   have C2_0:w2.cell? ⟨b,off + j * 6,none⟩=some d2_0:=hcell 0 _ rfl
   have Z2_0:=hfz (off + j * 6)
   have C2_1:w2.cell? ⟨b,off + j * 6 + 1,none⟩=some d2_1:=hcell 1 _ rfl
   have Z2_1:=hfz (off + j * 6 + 1)
   have C2_2:w2.cell? ⟨b,off + j * 6 + 2,none⟩=some d2_2:=hcell 2 _ rfl
   have Z2_2:=hfz (off + j * 6 + 2)
   have C2_3:w2.cell? ⟨b,off + j * 6 + 3,none⟩=some d2_3:=hcell 3 _ rfl
   have Z2_3:=hfz (off + j * 6 + 3)
   have C2_4:w2.cell? ⟨b,off + j * 6 + 4,none⟩=some d2_4:=hcell 4 _ rfl
   have Z2_4:=hfz (off + j * 6 + 4)
   have C2_5:w2.cell? ⟨b,off + j * 6 + 5,none⟩=some d2_5:=hcell 5 _ rfl
   have Z2_5:=hfz (off + j * 6 + 5)
   clear hB hSb' hcell hfz back
   obtain ⟨s2v0,s2v1,s2v2,hce,s2_0,s2_1,s2_2,s2_3,s2_4,s2_5,s2_6,s2_7,s2_8⟩:=jQ hc.raw
   simp only [List.cons.injEq,and_true] at hce
   obtain ⟨rfl,rfl,rfl,rfl,rfl,rfl⟩:=hce
   obtain ⟨s2a0,s2p0,rfl,_⟩:=Rep.sl s2_2
   obtain ⟨s2a1,s2p1,rfl,_⟩:=Rep.sl s2_3
   obtain ⟨s2a2,s2p2,rfl,_⟩:=Rep.sl s2_5
   clear s2_0 s2_1 s2_2 s2_3 s2_4 s2_5 s2_6 s2_7 s2_8
   clear hc
   go_wp2_with fail
   obtain ⟨c3,B3,hc3,hB3,_,hcell3,_,back3⟩:=Rep.jH Ox2 HL.out
   obtain ⟨e3_0,e3_1,e3_2,e3_3,e3_4,e3_5,rfl⟩:∃ e3_0 e3_1 e3_2 e3_3 e3_4 e3_5,c3=[e3_0,e3_1,e3_2,e3_3,e3_4,e3_5]:=by have h:=kH.len hc3.1;match c3,h with | [e3_0,e3_1,e3_2,e3_3,e3_4,e3_5],_=>exact ⟨_,_,_,_,_,_,rfl⟩
   have hd3:=hcell3 2 _ rfl
   obtain rfl:e3_2=_:=by simpa [go_sem,C2_2,kGd] using hd3.symm
   obtain ⟨A3,hA3,hAB3,bk3⟩:=kHz hc3
   try simp only [zf,ze,zb] at hA3
   refine (jl (k:=((Rep.slice 5 Rep.byte).mark true y1 (((Rep.slice 9 Rep.str).mark true y0 (q)).2)).2) hA3 rP (by have:=HQ.out;have:=M1.out;have:=M2.out;have e:kH.cnt=(Rep.slice 9 Rep.str).cnt + ((Rep.slice 5 Rep.byte).cnt + ((Rep.slice 9 Rep.str).cnt + (1 + (1)))) + (1):=rfl;omega)).mono ?_
   rintro e w3 ⟨rfl,P3,X3⟩
   have Ox3:=back3 (bk3 P3 X3) (X3.wide hAB3)
   have Tx3:=Tx2.trans (X3.wide (fun i hi=>(hB3 i (hAB3 i hi)).1))
   have g3:=(Rep.slice 9 Rep.str).mark_ge (e:=true) (x:=y2) (k:=((Rep.slice 5 Rep.byte).mark true y1 (((Rep.slice 9 Rep.str).mark true y0 (q)).2)).2)
   have l3:((Rep.slice 9 Rep.str).mark true y2 (((Rep.slice 5 Rep.byte).mark true y1 (((Rep.slice 9 Rep.str).mark true y0 (q)).2)).2)).2≤((Rep.slice 5 Rep.byte).mark true y1 (((Rep.slice 9 Rep.str).mark true y0 (q)).2)).2 + ((Rep.slice 9 Rep.str).cnt:Nat):=(Rep.slice 9 Rep.str).mark_le (e:=true) (k:=((Rep.slice 5 Rep.byte).mark true y1 (((Rep.slice 9 Rep.str).mark true y0 (q)).2)).2) hA3.2
   have u3:((Rep.slice 9 Rep.str).mark true y2 (((Rep.slice 5 Rep.byte).mark true y1 (((Rep.slice 9 Rep.str).mark true y0 (q)).2)).2)).2≤4611686018427387904:=by have:=HQ.out;have:=M1.out;have:=M2.out;have e:kH.cnt=(Rep.slice 9 Rep.str).cnt + ((Rep.slice 5 Rep.byte).cnt + ((Rep.slice 9 Rep.str).cnt + (1 + (1)))) + (1):=rfl;unfold Top at *;omega
   have M3:=yD l3;clear l3
   clear C2_0 C2_1 C2_2 C2_3 C2_4 C2_5 Z2_0 Z2_1 Z2_2 Z2_3 Z2_4 Z2_5 hA3 bk3 back3 hc3 hB3 hAB3 P3 X3 hcell3 hd3
   obtain ⟨c,B,hc,hB,hSb',hcell,hfz,back⟩:=Rep.jH Ox3 HL.out
   obtain ⟨d3_0,d3_1,d3_2,d3_3,d3_4,d3_5,rfl⟩:∃ d3_0 d3_1 d3_2 d3_3 d3_4 d3_5,c=[d3_0,d3_1,d3_2,d3_3,d3_4,d3_5]:=by have h:=kH.len hc.1;match c,h with | [d3_0,d3_1,d3_2,d3_3,d3_4,d3_5],_=>exact ⟨_,_,_,_,_,_,rfl⟩
   try simp only [zf,ze,zb] at hc
   have C3_0:w3.cell? ⟨b,off + j * 6,none⟩=some d3_0:=hcell 0 _ rfl
   have Z3_0:=hfz (off + j * 6)
   have C3_1:w3.cell? ⟨b,off + j * 6 + 1,none⟩=some d3_1:=hcell 1 _ rfl
   have Z3_1:=hfz (off + j * 6 + 1)
   have C3_2:w3.cell? ⟨b,off + j * 6 + 2,none⟩=some d3_2:=hcell 2 _ rfl
   have Z3_2:=hfz (off + j * 6 + 2)
   have C3_3:w3.cell? ⟨b,off + j * 6 + 3,none⟩=some d3_3:=hcell 3 _ rfl
   have Z3_3:=hfz (off + j * 6 + 3)
   have C3_4:w3.cell? ⟨b,off + j * 6 + 4,none⟩=some d3_4:=hcell 4 _ rfl
   have Z3_4:=hfz (off + j * 6 + 4)
   have C3_5:w3.cell? ⟨b,off + j * 6 + 5,none⟩=some d3_5:=hcell 5 _ rfl
   have Z3_5:=hfz (off + j * 6 + 5)
   clear hB hSb' hcell hfz back
   obtain ⟨s3v0,s3v1,s3v2,hce,s3_0,s3_1,s3_2,s3_3,s3_4,s3_5,s3_6,s3_7,s3_8⟩:=jQ hc.raw
   simp only [List.cons.injEq,and_true] at hce
   obtain ⟨rfl,rfl,rfl,rfl,rfl,rfl⟩:=hce
   obtain ⟨s3a0,s3p0,rfl,_⟩:=Rep.sl s3_2
   obtain ⟨s3a1,s3p1,rfl,_⟩:=Rep.sl s3_3
   obtain ⟨s3a2,s3p2,rfl,_⟩:=Rep.sl s3_5
   clear s3_0 s3_1 s3_2 s3_3 s3_4 s3_5 s3_6 s3_7 s3_8
   clear hc
   obtain ⟨O1,T1⟩:=Rep.jU (v:=.int .i64 (((Rep.slice 9 Rep.str).mark true y2 (((Rep.slice 5 Rep.byte).mark true y1 (((Rep.slice 9 Rep.str).mark true y0 (q)).2)).2)).2)) (p:=off + j * 6 + 3) Ox3 HL.out (show 3 < kH.n by decide) (kOl _ ⟨by omega,by omega⟩) (fun h=>h) (show off + j * 6 + 3=off + j * 6 + 3 by omega)
   have T1:=Tx3.trans (T1.wide nR)
   obtain ⟨O2,T2⟩:=Rep.jU (v:=.int .i64 (((Rep.slice 9 Rep.str).mark true y2 (((Rep.slice 5 Rep.byte).mark true y1 (((Rep.slice 9 Rep.str).mark true y0 (q)).2)).2)).2 + 1)) (p:=off + j * 6 + 4) O1 HL.out (show 4 < kH.n by decide) (kOk _ ⟨by omega,by omega⟩) (fun h=>h) (show off + j * 6 + 4=off + j * 6 + 4 by omega)
   have T2:=T1.trans (T2.wide nR)
   obtain ⟨O3,T3⟩:=Rep.jU (v:=.int .i64 (((Rep.slice 9 Rep.str).mark true y2 (((Rep.slice 5 Rep.byte).mark true y1 (((Rep.slice 9 Rep.str).mark true y0 (q)).2)).2)).2 + 1 + 1)) (p:=off + j * 6 + 5) O2 HL.out (show 5 < kH.n by decide) (kOj _ ⟨by omega,by omega⟩) (fun h=>h) (show off + j * 6 + 5=off + j * 6 + 5 by omega)
   have T3:=T2.trans (T3.wide nR)
   have EQ:=HEH.out _ rfl
   have OF:=yD (EQ.out ▸ O3);have TF:=yD T3
   have QF:Hid ((((Rep.slice 9 Rep.str).mark true y2 (((Rep.slice 5 Rep.byte).mark true y1 (((Rep.slice 9 Rep.str).mark true y0 (q)).2)).2)).2 + 1 + 1 + 1)=(Rep.mkL kH (x.take (j + 1)) k).2):=yD qL
   go_wp2
   go_roundw
   case rel=>exact ⟨j + 1,by omega,by go_num,by rw [← QF.out],OF.out,TF.out⟩
   simp [intOf];omega
 obtain ⟨e1,e2⟩:=Rep.kAp (r:=kH) (k:=k) hlt
 rw [e1] at hown
 have HO:=yD hown;have HT:=yD e2;clear hown e1 e2
 go_wp2
 go_ret
 exact ⟨ku HT.out,HO.out,ht⟩
theorem kKs {w:World} {ca:List Value} {x:kr} {k:Int} {S:Nat→Prop} (ha:kI.own w ca x S) (hk0:0≤k) (hk1:k + (kI.cnt:Nat)≤Top) :
    Calls Tryz.prog 80 #[.agg ca.toArray,.int .i64 k] w (zZ kI false x k ca S w):=by
 have hl:=ha.live
 obtain ⟨av1,rfl,a_0,a_1⟩:=jI ha.raw
 obtain ⟨x0,x1⟩:=x
 clear a_0 a_1
 have HQ:=yD hk1;clear hk1
 have k2:k≤4611686018427387904:=gP
 go_enter Tryz.func80,Tryz.ntmps80
 go_wp2_with fail
 have O0:=yD (fun o=>Rep.own.alloc hl o)
 obtain ⟨A1,hA1,hAB1,bk1⟩:=kJu (O0.out _)
 refine (kLy (k:=k) hA1 rP (by have:=HQ.out;have e:kI.cnt=1 + ((Rep.slice 212 kH).cnt):=rfl;omega)).mono ?_
 rintro e w1 ⟨rfl,P1,X1⟩
 have O1x:=bk1 P1 X1
 have g1:=(Rep.slice 212 kH).mark_ge (e:=true) (x:=x1) (k:=k)
 have l1:((Rep.slice 212 kH).mark true x1 (k)).2≤k + ((Rep.slice 212 kH).cnt:Nat):=(Rep.slice 212 kH).mark_le (e:=true) (k:=k) hA1.2
 have u1:((Rep.slice 212 kH).mark true x1 (k)).2≤4611686018427387904:=by have:=HQ.out;have e:kI.cnt=1 + ((Rep.slice 212 kH).cnt):=rfl;unfold Top at *;omega
 have M1:=yD l1;clear l1
 have T1x:Touch S w w1:=(Touch.of_below (Rep.zy w _)).trans (X1.wide (fun i hi=>(hAB1 i hi).1))
 have hz1:w.heap.size + 1≤w1.heap.size:=nG
 have hc1:∀ o,w1.cell? ⟨w.heap.size,o,none⟩=_:=fun o=>World.cell?_of_block (a:=⟨w.heap.size,o,none⟩) (X1.block w.heap.size rQ mR)
 have hf1:∀ o,w1.frozen? ⟨w.heap.size,o,none⟩=_:=fun o=>World.frozen?_of_block (a:=⟨w.heap.size,o,none⟩) (X1.block w.heap.size rQ mR)
 simp [go_sem] at hc1
 clear hA1 hAB1 bk1 P1 X1
 have OF:=yD (Rep.own.wide (T:=S) O1x (fun j hj=>hj.1));have TF:=yD T1x
 clear ha hl
 go_wp2
 go_ret
 exact ⟨rfl,OF.out,TF.out⟩
theorem kRu {w:World} {ca:List Value} {x:kAf} {k:Int} {S:Nat→Prop} (ha:jC.own w ca x S) (hk0:0≤k) (hk1:k + (jC.cnt:Nat)≤Top) :
    Calls Tryz.prog 19 #[.agg ca.toArray,.int .i64 k] w (zZ jC false x k ca S w):=by
 have hl:=ha.live
 obtain ⟨av0,av2,av3,av4,av5,av6,rfl,a_0,a_1,a_2,a_3,a_4,a_5,a_6,a_7,a_8⟩:=jo ha.raw
 obtain ⟨x0,x1,x2,x3,x4,x5,x6⟩:=x
 clear a_0 a_1 a_2 a_3 a_4 a_5 a_6 a_7 a_8
 have HQ:=yD hk1;clear hk1
 have k2:k≤4611686018427387904:=gP
 go_enter Tryz.func19,Tryz.ntmps19
 go_wp2_with fail
 have O0:=yD (fun o=>Rep.own.alloc hl o)
 obtain ⟨A1,hA1,hAB1,bk1⟩:=RNode_sub_0 (O0.out _)
 refine (kOw (k:=k) hA1 rP (by have:=HQ.out;have e:jC.cnt=(Rep.slice 66 kP).cnt + (kI.cnt + ((Rep.slice 175 kE).cnt + ((Rep.slice 178 kJ).cnt + ((Rep.slice 181 kX).cnt + ((Rep.slice 184 kF).cnt + (1)))))):=rfl;omega)).mono ?_
 rintro e w1 ⟨rfl,P1,X1⟩
 have O1x:=bk1 P1 X1
 have g1:=(Rep.slice 66 kP).mark_ge (e:=true) (x:=x0) (k:=k)
 have l1:((Rep.slice 66 kP).mark true x0 (k)).2≤k + ((Rep.slice 66 kP).cnt:Nat):=(Rep.slice 66 kP).mark_le (e:=true) (k:=k) hA1.2
 have u1:((Rep.slice 66 kP).mark true x0 (k)).2≤4611686018427387904:=by have:=HQ.out;have e:jC.cnt=(Rep.slice 66 kP).cnt + (kI.cnt + ((Rep.slice 175 kE).cnt + ((Rep.slice 178 kJ).cnt + ((Rep.slice 181 kX).cnt + ((Rep.slice 184 kF).cnt + (1)))))):=rfl;unfold Top at *;omega
 have M1:=yD l1;clear l1
 have T1x:Touch S w w1:=(Touch.of_below (Rep.zy w _)).trans (X1.wide (fun i hi=>(hAB1 i hi).1))
 have hz1:w.heap.size + 1≤w1.heap.size:=nG
 have hc1:∀ o,w1.cell? ⟨w.heap.size,o,none⟩=_:=fun o=>World.cell?_of_block (a:=⟨w.heap.size,o,none⟩) (X1.block w.heap.size rQ mR)
 have hf1:∀ o,w1.frozen? ⟨w.heap.size,o,none⟩=_:=fun o=>World.frozen?_of_block (a:=⟨w.heap.size,o,none⟩) (X1.block w.heap.size rQ mR)
 simp [go_sem] at hc1
 clear hA1 hAB1 bk1 P1 X1
 go_wp2_with fail
 obtain ⟨A2,hA2,hAB2,bk2⟩:=RNode_sub_1 O1x
 refine (kKs (k:=((Rep.slice 66 kP).mark true x0 (k)).2) hA2 rP (by have:=HQ.out;have:=M1.out;have e:jC.cnt=(Rep.slice 66 kP).cnt + (kI.cnt + ((Rep.slice 175 kE).cnt + ((Rep.slice 178 kJ).cnt + ((Rep.slice 181 kX).cnt + ((Rep.slice 184 kF).cnt + (1)))))):=rfl;omega)).mono ?_
 rintro e w2 ⟨rfl,P2,X2⟩
 have O2x:=bk2 P2 X2
 have g2:=kI.mark_ge (e:=false) (x:=x1) (k:=((Rep.slice 66 kP).mark true x0 (k)).2)
 have l2:(kI.mark false x1 (((Rep.slice 66 kP).mark true x0 (k)).2)).2≤((Rep.slice 66 kP).mark true x0 (k)).2 + (kI.cnt:Nat):=kI.mark_le (e:=false) (k:=((Rep.slice 66 kP).mark true x0 (k)).2) hA2.2
 have u2:(kI.mark false x1 (((Rep.slice 66 kP).mark true x0 (k)).2)).2≤4611686018427387904:=by have:=HQ.out;have:=M1.out;have e:jC.cnt=(Rep.slice 66 kP).cnt + (kI.cnt + ((Rep.slice 175 kE).cnt + ((Rep.slice 178 kJ).cnt + ((Rep.slice 181 kX).cnt + ((Rep.slice 184 kF).cnt + (1)))))):=rfl;unfold Top at *;omega
 have M2:=yD l2;clear l2
 have T2x:Touch S w w2:=T1x.trans (X2.wide (fun i hi=>(hAB2 i hi).1))
 have hz2:w.heap.size + 1≤w2.heap.size:=qA
 have hc2:∀ o,w2.cell? ⟨w.heap.size,o,none⟩=_:=fun o=>(World.cell?_of_block (a:=⟨w.heap.size,o,none⟩) (X2.block w.heap.size rP mW)).trans (hc1 o)
 clear hc1 hf1
 clear hA2 hAB2 bk2 P2 X2
 go_wp2_with fail
 obtain ⟨A3,hA3,hAB3,bk3⟩:=RNode_sub_2 O2x
 refine (kGz (k:=(kI.mark false x1 (((Rep.slice 66 kP).mark true x0 (k)).2)).2) hA3 rP (by have:=HQ.out;have:=M1.out;have:=M2.out;have e:jC.cnt=(Rep.slice 66 kP).cnt + (kI.cnt + ((Rep.slice 175 kE).cnt + ((Rep.slice 178 kJ).cnt + ((Rep.slice 181 kX).cnt + ((Rep.slice 184 kF).cnt + (1)))))):=rfl;omega)).mono ?_
 rintro e w3 ⟨rfl,P3,X3⟩
 have O3x:=bk3 P3 X3
 have g3:=(Rep.slice 175 kE).mark_ge (e:=true) (x:=x2) (k:=(kI.mark false x1 (((Rep.slice 66 kP).mark true x0 (k)).2)).2)
 have l3:((Rep.slice 175 kE).mark true x2 ((kI.mark false x1 (((Rep.slice 66 kP).mark true x0 (k)).2)).2)).2≤(kI.mark false x1 (((Rep.slice 66 kP).mark true x0 (k)).2)).2 + ((Rep.slice 175 kE).cnt:Nat):=(Rep.slice 175 kE).mark_le (e:=true) (k:=(kI.mark false x1 (((Rep.slice 66 kP).mark true x0 (k)).2)).2) hA3.2
 have u3:((Rep.slice 175 kE).mark true x2 ((kI.mark false x1 (((Rep.slice 66 kP).mark true x0 (k)).2)).2)).2≤4611686018427387904:=by have:=HQ.out;have:=M1.out;have:=M2.out;have e:jC.cnt=(Rep.slice 66 kP).cnt + (kI.cnt + ((Rep.slice 175 kE).cnt + ((Rep.slice 178 kJ).cnt + ((Rep.slice 181 kX).cnt + ((Rep.slice 184 kF).cnt + (1)))))):=rfl;unfold Top at *;omega
 have M3:=yD l3;clear l3
 have T3x:Touch S w w3:=T2x.trans (X3.wide (fun i hi=>(hAB3 i hi).1))
 have hz3:w.heap.size + 1≤w3.heap.size:=by have:=X3.size;omega
 have hc3:∀ o,w3.cell? ⟨w.heap.size,o,none⟩=_:=fun o=>(World.cell?_of_block (a:=⟨w.heap.size,o,none⟩) (X3.block w.heap.size rP mY)).trans (hc2 o)
 clear hc2
 clear hA3 hAB3 bk3 P3 X3
 go_wp2_with fail
 obtain ⟨A4,hA4,hAB4,bk4⟩:=RNode_sub_3 O3x
 refine (kNm (k:=((Rep.slice 175 kE).mark true x2 ((kI.mark false x1 (((Rep.slice 66 kP).mark true x0 (k)).2)).2)).2) hA4 rP (by have:=HQ.out;have:=M1.out;have:=M2.out;have:=M3.out;have e:jC.cnt=(Rep.slice 66 kP).cnt + (kI.cnt + ((Rep.slice 175 kE).cnt + ((Rep.slice 178 kJ).cnt + ((Rep.slice 181 kX).cnt + ((Rep.slice 184 kF).cnt + (1)))))):=rfl;omega)).mono ?_
 rintro e w4 ⟨rfl,P4,X4⟩
 have O4x:=bk4 P4 X4
 have g4:=(Rep.slice 178 kJ).mark_ge (e:=true) (x:=x3) (k:=((Rep.slice 175 kE).mark true x2 ((kI.mark false x1 (((Rep.slice 66 kP).mark true x0 (k)).2)).2)).2)
 have l4:((Rep.slice 178 kJ).mark true x3 (((Rep.slice 175 kE).mark true x2 ((kI.mark false x1 (((Rep.slice 66 kP).mark true x0 (k)).2)).2)).2)).2≤((Rep.slice 175 kE).mark true x2 ((kI.mark false x1 (((Rep.slice 66 kP).mark true x0 (k)).2)).2)).2 + ((Rep.slice 178 kJ).cnt:Nat):=(Rep.slice 178 kJ).mark_le (e:=true) (k:=((Rep.slice 175 kE).mark true x2 ((kI.mark false x1 (((Rep.slice 66 kP).mark true x0 (k)).2)).2)).2) hA4.2
 have u4:((Rep.slice 178 kJ).mark true x3 (((Rep.slice 175 kE).mark true x2 ((kI.mark false x1 (((Rep.slice 66 kP).mark true x0 (k)).2)).2)).2)).2≤4611686018427387904:=by have:=HQ.out;have:=M1.out;have:=M2.out;have:=M3.out;have e:jC.cnt=(Rep.slice 66 kP).cnt + (kI.cnt + ((Rep.slice 175 kE).cnt + ((Rep.slice 178 kJ).cnt + ((Rep.slice 181 kX).cnt + ((Rep.slice 184 kF).cnt + (1)))))):=rfl;unfold Top at *;omega
 have M4:=yD l4;clear l4
 have T4x:Touch S w w4:=T3x.trans (X4.wide (fun i hi=>(hAB4 i hi).1))
 have hz4:w.heap.size + 1≤w4.heap.size:=by have:=X4.size;omega
 have hc4:∀ o,w4.cell? ⟨w.heap.size,o,none⟩=_:=fun o=>(World.cell?_of_block (a:=⟨w.heap.size,o,none⟩) (X4.block w.heap.size rP (fun q=>by have:=(hAB4 _ q).2;omega))).trans (hc3 o)
 clear hc3
 clear hA4 hAB4 bk4 P4 X4
 go_wp2_with fail
 obtain ⟨A5,hA5,hAB5,bk5⟩:=RNode_sub_4 O4x
 refine (kVs (k:=((Rep.slice 178 kJ).mark true x3 (((Rep.slice 175 kE).mark true x2 ((kI.mark false x1 (((Rep.slice 66 kP).mark true x0 (k)).2)).2)).2)).2) hA5 rP (by have:=HQ.out;have:=M1.out;have:=M2.out;have:=M3.out;have:=M4.out;have e:jC.cnt=(Rep.slice 66 kP).cnt + (kI.cnt + ((Rep.slice 175 kE).cnt + ((Rep.slice 178 kJ).cnt + ((Rep.slice 181 kX).cnt + ((Rep.slice 184 kF).cnt + (1)))))):=rfl;omega)).mono ?_
 rintro e w5 ⟨rfl,P5,X5⟩
 have O5x:=bk5 P5 X5
 have g5:=(Rep.slice 181 kX).mark_ge (e:=true) (x:=x4) (k:=((Rep.slice 178 kJ).mark true x3 (((Rep.slice 175 kE).mark true x2 ((kI.mark false x1 (((Rep.slice 66 kP).mark true x0 (k)).2)).2)).2)).2)
 have l5:((Rep.slice 181 kX).mark true x4 (((Rep.slice 178 kJ).mark true x3 (((Rep.slice 175 kE).mark true x2 ((kI.mark false x1 (((Rep.slice 66 kP).mark true x0 (k)).2)).2)).2)).2)).2≤((Rep.slice 178 kJ).mark true x3 (((Rep.slice 175 kE).mark true x2 ((kI.mark false x1 (((Rep.slice 66 kP).mark true x0 (k)).2)).2)).2)).2 + ((Rep.slice 181 kX).cnt:Nat):=(Rep.slice 181 kX).mark_le (e:=true) (k:=((Rep.slice 178 kJ).mark true x3 (((Rep.slice 175 kE).mark true x2 ((kI.mark false x1 (((Rep.slice 66 kP).mark true x0 (k)).2)).2)).2)).2) hA5.2
 have u5:((Rep.slice 181 kX).mark true x4 (((Rep.slice 178 kJ).mark true x3 (((Rep.slice 175 kE).mark true x2 ((kI.mark false x1 (((Rep.slice 66 kP).mark true x0 (k)).2)).2)).2)).2)).2≤4611686018427387904:=by have:=HQ.out;have:=M1.out;have:=M2.out;have:=M3.out;have:=M4.out;have e:jC.cnt=(Rep.slice 66 kP).cnt + (kI.cnt + ((Rep.slice 175 kE).cnt + ((Rep.slice 178 kJ).cnt + ((Rep.slice 181 kX).cnt + ((Rep.slice 184 kF).cnt + (1)))))):=rfl;unfold Top at *;omega
 have M5:=yD l5;clear l5
 have T5x:Touch S w w5:=T4x.trans (X5.wide (fun i hi=>(hAB5 i hi).1))
 have hz5:w.heap.size + 1≤w5.heap.size:=by have:=X5.size;omega
 have hc5:∀ o,w5.cell? ⟨w.heap.size,o,none⟩=_:=fun o=>(World.cell?_of_block (a:=⟨w.heap.size,o,none⟩) (X5.block w.heap.size rP (fun q=>by have:=(hAB5 _ q).2;omega))).trans (hc4 o)
 clear hc4
 clear hA5 hAB5 bk5 P5 X5
 go_wp2_with fail
 obtain ⟨A6,hA6,hAB6,bk6⟩:=RNode_sub_5 O5x
 refine (kKr (k:=((Rep.slice 181 kX).mark true x4 (((Rep.slice 178 kJ).mark true x3 (((Rep.slice 175 kE).mark true x2 ((kI.mark false x1 (((Rep.slice 66 kP).mark true x0 (k)).2)).2)).2)).2)).2) hA6 rP (by have:=HQ.out;have:=M1.out;have:=M2.out;have:=M3.out;have:=M4.out;have:=M5.out;have e:jC.cnt=(Rep.slice 66 kP).cnt + (kI.cnt + ((Rep.slice 175 kE).cnt + ((Rep.slice 178 kJ).cnt + ((Rep.slice 181 kX).cnt + ((Rep.slice 184 kF).cnt + (1)))))):=rfl;omega)).mono ?_
 rintro e w6 ⟨rfl,P6,X6⟩
 have O6x:=bk6 P6 X6
 have g6:=(Rep.slice 184 kF).mark_ge (e:=true) (x:=x5) (k:=((Rep.slice 181 kX).mark true x4 (((Rep.slice 178 kJ).mark true x3 (((Rep.slice 175 kE).mark true x2 ((kI.mark false x1 (((Rep.slice 66 kP).mark true x0 (k)).2)).2)).2)).2)).2)
 have l6:((Rep.slice 184 kF).mark true x5 (((Rep.slice 181 kX).mark true x4 (((Rep.slice 178 kJ).mark true x3 (((Rep.slice 175 kE).mark true x2 ((kI.mark false x1 (((Rep.slice 66 kP).mark true x0 (k)).2)).2)).2)).2)).2)).2≤((Rep.slice 181 kX).mark true x4 (((Rep.slice 178 kJ).mark true x3 (((Rep.slice 175 kE).mark true x2 ((kI.mark false x1 (((Rep.slice 66 kP).mark true x0 (k)).2)).2)).2)).2)).2 + ((Rep.slice 184 kF).cnt:Nat):=(Rep.slice 184 kF).mark_le (e:=true) (k:=((Rep.slice 181 kX).mark true x4 (((Rep.slice 178 kJ).mark true x3 (((Rep.slice 175 kE).mark true x2 ((kI.mark false x1 (((Rep.slice 66 kP).mark true x0 (k)).2)).2)).2)).2)).2) hA6.2
 have u6:((Rep.slice 184 kF).mark true x5 (((Rep.slice 181 kX).mark true x4 (((Rep.slice 178 kJ).mark true x3 (((Rep.slice 175 kE).mark true x2 ((kI.mark false x1 (((Rep.slice 66 kP).mark true x0 (k)).2)).2)).2)).2)).2)).2≤4611686018427387904:=by have:=HQ.out;have:=M1.out;have:=M2.out;have:=M3.out;have:=M4.out;have:=M5.out;have e:jC.cnt=(Rep.slice 66 kP).cnt + (kI.cnt + ((Rep.slice 175 kE).cnt + ((Rep.slice 178 kJ).cnt + ((Rep.slice 181 kX).cnt + ((Rep.slice 184 kF).cnt + (1)))))):=rfl;unfold Top at *;omega
 have M6:=yD l6;clear l6
 have T6x:Touch S w w6:=T5x.trans (X6.wide (fun i hi=>(hAB6 i hi).1))
 have hz6:w.heap.size + 1≤w6.heap.size:=by have:=X6.size;omega
 have hc6:∀ o,w6.cell? ⟨w.heap.size,o,none⟩=_:=fun o=>(World.cell?_of_block (a:=⟨w.heap.size,o,none⟩) (X6.block w.heap.size rP (fun q=>by have:=(hAB6 _ q).2;omega))).trans (hc5 o)
 clear hc5
 clear hA6 hAB6 bk6 P6 X6
 have OF:=yD (Rep.own.wide (T:=S) O6x (fun j hj=>hj.1));have TF:=yD T6x
 clear ha hl
 go_wp2
 go_ret
 exact ⟨rfl,OF.out,TF.out⟩
end Go.Proofs.YtlfblpgkegeaeaaGreat

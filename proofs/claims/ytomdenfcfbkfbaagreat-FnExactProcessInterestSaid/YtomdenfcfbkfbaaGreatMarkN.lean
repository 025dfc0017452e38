/-
  The laws' markings at more types. Printed by genmark.py.
  The laws' markings at more types. Printed by genmark.py.
  The laws' markings at more types. Printed by genmark.py.
-/
import Derived.Test.YtomdenfcfbkfbaaGreatMark
set_option linter.unusedVariables false
set_option linter.unusedSimpArgs false
set_option linter.unnecessarySimpa false
set_option maxRecDepth 100000
set_option maxHeartbeats 16000000
namespace Go.Proofs.YtomdenfcfbkfbaaGreat
open Go.RowKit
theorem markDataS_c {w:World} {va:Value} {x:List yX} {k:Int} {S:Nat→Prop} (ha:(Rep.slice 113 kg).own w [va] x S) (hk0:0≤k) (hk1:k + ((Rep.slice 113 kg).cnt:Nat)≤Top) :
    Calls Tryz.prog 55 #[va,.int .i64 k] w (zy (Rep.slice 113 kg) true x k [va] S w):=by
 obtain ⟨aa,capa,rfl,la⟩:=Rep.sl ha.raw
 have lb:x.length≤16777216:=ha.2.1
 have hbd:=yD ha.2
 have HK:=yD hk1;clear hk1
 have hk2:k≤4611686018427387904:=fV
 go_enter Tryz.func55,Tryz.ntmps55
 go_wp2
 go_loopw [1,5] (fun l i wr=>∃ (j:Nat),j≤x.length∧i=.int .i64 j∧l=.int .i64 (Rep.mkL kg (x.take j) k).2∧(Rep.slice 113 kg).own wr [.slice aa x.length capa] ((Rep.mkL kg (x.take j) k).1++x.drop j) S∧Touch S w wr) (fun _ i _=>x.length - (intOf i).toNat)
 case atStart=>exact ⟨0,Nat.zero_le _,rfl,rfl,by simpa [Rep.mkL] using ha,Touch.refl _ _⟩
 obtain ⟨j,hj,rfl,rfl,hown,ht⟩:=hrel
 by_cases hlt:j < x.length
 · obtain ⟨hln,b,off,rfl,hSb,hbw⟩:=Rep.zk hown qB
   clear hln
   rw [Rep.kAf hlt] at hown
   obtain ⟨q0,q1⟩:=Rep.kAg (e:=113) (r:=kg) hbd.out hlt HK.out hk0
   have HE:∀ y,y=(kg.mark true x[j] (Rep.mkL kg (x.take j) k).2).1→Hid (((Rep.mkL kg (x.take j) k).1++x.drop j).set j y=(Rep.mkL kg (x.take (j + 1)) k).1++x.drop (j + 1)):=fun y hy=>yD (Rep.kBv hlt hy)
   have HF:=yD (Rep.kAy (r:=kg) (k:=k) hlt)
   have hLl:j < ((Rep.mkL kg (x.take j) k).1++x.drop j).length:=nZ
   have HL:=yD hLl;clear hLl
   generalize (Rep.mkL kg (x.take j) k).2=q at *
   generalize (Rep.mkL kg (x.take j) k).1++x.drop j=M at *
   generalize hx:x[j]=y at *
   have HX:=yD hx;clear hx
   obtain ⟨y0,y1,y2,y3,y4⟩:=y
   have HEH:=yD HE;clear HE
   have HQ:=yD q1;clear q1
   have q2:q≤4611686018427387904:=fU
   obtain ⟨c,B,hc,hB,hSb',hcell,hfz,back⟩:=Rep.jR hown HL.out
   obtain ⟨d0_0,d0_1,d0_2,d0_3,d0_4,rfl⟩:∃ d0_0 d0_1 d0_2 d0_3 d0_4,c=[d0_0,d0_1,d0_2,d0_3,d0_4]:=by have h:=kg.len hc.1;match c,h with | [d0_0,d0_1,d0_2,d0_3,d0_4],_=>exact ⟨_,_,_,_,_,rfl⟩
   try simp only [kCh,kCg] at hc
   have C0_0:wr.cell? ⟨b,off + j * 5,none⟩=some d0_0:=hcell 0 _ rfl
   have Z0_0:=hfz (off + j * 5)
   have C0_1:wr.cell? ⟨b,off + j * 5 + 1,none⟩=some d0_1:=hcell 1 _ rfl
   have Z0_1:=hfz (off + j * 5 + 1)
   have C0_2:wr.cell? ⟨b,off + j * 5 + 2,none⟩=some d0_2:=hcell 2 _ rfl
   have Z0_2:=hfz (off + j * 5 + 2)
   have C0_3:wr.cell? ⟨b,off + j * 5 + 3,none⟩=some d0_3:=hcell 3 _ rfl
   have Z0_3:=hfz (off + j * 5 + 3)
   have C0_4:wr.cell? ⟨b,off + j * 5 + 4,none⟩=some d0_4:=hcell 4 _ rfl
   have Z0_4:=hfz (off + j * 5 + 4)
   clear hB hSb' hcell hfz back
   obtain ⟨s0v0,s0v1,s0v2,hce,s0_0,s0_1,s0_2,s0_3,s0_4,s0_5,s0_6⟩:=jS hc.raw
   simp only [List.cons.injEq,and_true] at hce
   obtain ⟨rfl,rfl,rfl,rfl,rfl⟩:=hce
   obtain ⟨s0a0,s0p0,rfl,_⟩:=Rep.sl s0_1
   obtain ⟨s0a1,s0p1,rfl,_⟩:=Rep.sl s0_2
   obtain ⟨s0a2,s0p2,rfl,_⟩:=Rep.sl s0_4
   clear s0_0 s0_1 s0_2 s0_3 s0_4 s0_5 s0_6
   clear hc
   go_wp2_with fail
   obtain ⟨c1,B1,hc1,hB1,_,hcell1,_,back1⟩:=Rep.jR hown HL.out
   obtain ⟨e1_0,e1_1,e1_2,e1_3,e1_4,rfl⟩:∃ e1_0 e1_1 e1_2 e1_3 e1_4,c1=[e1_0,e1_1,e1_2,e1_3,e1_4]:=by have h:=kg.len hc1.1;match c1,h with | [e1_0,e1_1,e1_2,e1_3,e1_4],_=>exact ⟨_,_,_,_,_,rfl⟩
   have hd1:=hcell1 0 _ rfl
   obtain rfl:e1_0=_:=by simpa [go_sem,C0_0,kWt] using hd1.symm
   obtain ⟨A1,hA1,hAB1,bk1⟩:=kUc hc1
   try simp only [kCh,kCg] at hA1
   refine (yY (k:=q) hA1 rJ (by have:=HQ.out;have e:kg.cnt=(Rep.slice 9 Rep.str).cnt + ((Rep.slice 5 Rep.byte).cnt + ((Rep.slice 9 Rep.str).cnt + (1 + (1)))):=rfl;omega)).mono ?_
   rintro e w1 ⟨rfl,P1,X1⟩
   have Ox1:=back1 (bk1 P1 X1) (X1.wide hAB1)
   have Tx1:=ht.trans (X1.wide (fun i hi=>(hB1 i (hAB1 i hi)).1))
   have g1:=(Rep.slice 9 Rep.str).mark_ge (e:=true) (x:=y0) (k:=q)
   have l1:((Rep.slice 9 Rep.str).mark true y0 (q)).2≤q + ((Rep.slice 9 Rep.str).cnt:Nat):=(Rep.slice 9 Rep.str).mark_le (e:=true) (k:=q) hA1.2
   have u1:((Rep.slice 9 Rep.str).mark true y0 (q)).2≤4611686018427387904:=by have:=HQ.out;have e:kg.cnt=(Rep.slice 9 Rep.str).cnt + ((Rep.slice 5 Rep.byte).cnt + ((Rep.slice 9 Rep.str).cnt + (1 + (1)))):=rfl;unfold Top at *;omega
   have M1:=yD l1;clear l1
   clear C0_0 C0_1 C0_2 C0_3 C0_4 Z0_0 Z0_1 Z0_2 Z0_3 Z0_4 hA1 bk1 back1 hc1 hB1 hAB1 P1 X1 hcell1 hd1
   obtain ⟨c,B,hc,hB,hSb',hcell,hfz,back⟩:=Rep.jR Ox1 HL.out
   obtain ⟨d1_0,d1_1,d1_2,d1_3,d1_4,rfl⟩:∃ d1_0 d1_1 d1_2 d1_3 d1_4,c=[d1_0,d1_1,d1_2,d1_3,d1_4]:=by have h:=kg.len hc.1;match c,h with | [d1_0,d1_1,d1_2,d1_3,d1_4],_=>exact ⟨_,_,_,_,_,rfl⟩
   try simp only [kCh,kCg] at hc
   have C1_0:w1.cell? ⟨b,off + j * 5,none⟩=some d1_0:=hcell 0 _ rfl
   have Z1_0:=hfz (off + j * 5)
   have C1_1:w1.cell? ⟨b,off + j * 5 + 1,none⟩=some d1_1:=hcell 1 _ rfl
   have Z1_1:=hfz (off + j * 5 + 1)
   have C1_2:w1.cell? ⟨b,off + j * 5 + 2,none⟩=some d1_2:=hcell 2 _ rfl
   have Z1_2:=hfz (off + j * 5 + 2)
   have C1_3:w1.cell? ⟨b,off + j * 5 + 3,none⟩=some d1_3:=hcell 3 _ rfl
   have Z1_3:=hfz (off + j * 5 + 3)
   have C1_4:w1.cell? ⟨b,off + j * 5 + 4,none⟩=some d1_4:=hcell 4 _ rfl
   have Z1_4:=hfz (off + j * 5 + 4)
   clear hB hSb' hcell hfz back
   obtain ⟨s1v0,s1v1,s1v2,hce,s1_0,s1_1,s1_2,s1_3,s1_4,s1_5,s1_6⟩:=jS hc.raw
   simp only [List.cons.injEq,and_true] at hce
   obtain ⟨rfl,rfl,rfl,rfl,rfl⟩:=hce
   obtain ⟨s1a0,s1p0,rfl,_⟩:=Rep.sl s1_1
   obtain ⟨s1a1,s1p1,rfl,_⟩:=Rep.sl s1_2
   obtain ⟨s1a2,s1p2,rfl,_⟩:=Rep.sl s1_4
   clear s1_0 s1_1 s1_2 s1_3 s1_4 s1_5 s1_6
   clear hc
   go_wp2_with fail
   obtain ⟨c2,B2,hc2,hB2,_,hcell2,_,back2⟩:=Rep.jR Ox1 HL.out
   obtain ⟨e2_0,e2_1,e2_2,e2_3,e2_4,rfl⟩:∃ e2_0 e2_1 e2_2 e2_3 e2_4,c2=[e2_0,e2_1,e2_2,e2_3,e2_4]:=by have h:=kg.len hc2.1;match c2,h with | [e2_0,e2_1,e2_2,e2_3,e2_4],_=>exact ⟨_,_,_,_,_,rfl⟩
   have hd2:=hcell2 1 _ rfl
   obtain rfl:e2_1=_:=by simpa [go_sem,C1_1,kWt] using hd2.symm
   obtain ⟨A2,hA2,hAB2,bk2⟩:=RData_sub_1 hc2
   try simp only [kCh,kCg] at hA2
   refine (kHv (k:=((Rep.slice 9 Rep.str).mark true y0 (q)).2) hA2 rJ (by have:=HQ.out;have:=M1.out;have e:kg.cnt=(Rep.slice 9 Rep.str).cnt + ((Rep.slice 5 Rep.byte).cnt + ((Rep.slice 9 Rep.str).cnt + (1 + (1)))):=rfl;omega)).mono ?_
   rintro e w2 ⟨rfl,P2,X2⟩
   have Ox2:=back2 (bk2 P2 X2) (X2.wide hAB2)
   have Tx2:=Tx1.trans (X2.wide (fun i hi=>(hB2 i (hAB2 i hi)).1))
   have g2:=(Rep.slice 5 Rep.byte).mark_ge (e:=true) (x:=y1) (k:=((Rep.slice 9 Rep.str).mark true y0 (q)).2)
   have l2:((Rep.slice 5 Rep.byte).mark true y1 (((Rep.slice 9 Rep.str).mark true y0 (q)).2)).2≤((Rep.slice 9 Rep.str).mark true y0 (q)).2 + ((Rep.slice 5 Rep.byte).cnt:Nat):=(Rep.slice 5 Rep.byte).mark_le (e:=true) (k:=((Rep.slice 9 Rep.str).mark true y0 (q)).2) hA2.2
   have u2:((Rep.slice 5 Rep.byte).mark true y1 (((Rep.slice 9 Rep.str).mark true y0 (q)).2)).2≤4611686018427387904:=by have:=HQ.out;have:=M1.out;have e:kg.cnt=(Rep.slice 9 Rep.str).cnt + ((Rep.slice 5 Rep.byte).cnt + ((Rep.slice 9 Rep.str).cnt + (1 + (1)))):=rfl;unfold Top at *;omega
   have M2:=yD l2;clear l2
   clear C1_0 C1_1 C1_2 C1_3 C1_4 Z1_0 Z1_1 Z1_2 Z1_3 Z1_4 hA2 bk2 back2 hc2 hB2 hAB2 P2 X2 hcell2 hd2
   obtain ⟨c,B,hc,hB,hSb',hcell,hfz,back⟩:=Rep.jR Ox2 HL.out
   obtain ⟨d2_0,d2_1,d2_2,d2_3,d2_4,rfl⟩:∃ d2_0 d2_1 d2_2 d2_3 d2_4,c=[d2_0,d2_1,d2_2,d2_3,d2_4]:=by have h:=kg.len hc.1;match c,h with | [d2_0,d2_1,d2_2,d2_3,d2_4],_=>exact ⟨_,_,_,_,_,rfl⟩
   try simp only [kCh,kCg] at hc
   have C2_0:w2.cell? ⟨b,off + j * 5,none⟩=some d2_0:=hcell 0 _ rfl
   have Z2_0:=hfz (off + j * 5)
   have C2_1:w2.cell? ⟨b,off + j * 5 + 1,none⟩=some d2_1:=hcell 1 _ rfl
   have Z2_1:=hfz (off + j * 5 + 1)
   have C2_2:w2.cell? ⟨b,off + j * 5 + 2,none⟩=some d2_2:=hcell 2 _ rfl
   have Z2_2:=hfz (off + j * 5 + 2)
   have C2_3:w2.cell? ⟨b,off + j * 5 + 3,none⟩=some d2_3:=hcell 3 _ rfl
   have Z2_3:=hfz (off + j * 5 + 3)
   have C2_4:w2.cell? ⟨b,off + j * 5 + 4,none⟩=some d2_4:=hcell 4 _ rfl
   have Z2_4:=hfz (off + j * 5 + 4)
   clear hB hSb' hcell hfz back
   obtain ⟨s2v0,s2v1,s2v2,hce,s2_0,s2_1,s2_2,s2_3,s2_4,s2_5,s2_6⟩:=jS hc.raw
   simp only [List.cons.injEq,and_true] at hce
   obtain ⟨rfl,rfl,rfl,rfl,rfl⟩:=hce
   obtain ⟨s2a0,s2p0,rfl,_⟩:=Rep.sl s2_1
   obtain ⟨s2a1,s2p1,rfl,_⟩:=Rep.sl s2_2
   obtain ⟨s2a2,s2p2,rfl,_⟩:=Rep.sl s2_4
   clear s2_0 s2_1 s2_2 s2_3 s2_4 s2_5 s2_6
   clear hc
   go_wp2_with fail
   obtain ⟨c3,B3,hc3,hB3,_,hcell3,_,back3⟩:=Rep.jR Ox2 HL.out
   obtain ⟨e3_0,e3_1,e3_2,e3_3,e3_4,rfl⟩:∃ e3_0 e3_1 e3_2 e3_3 e3_4,c3=[e3_0,e3_1,e3_2,e3_3,e3_4]:=by have h:=kg.len hc3.1;match c3,h with | [e3_0,e3_1,e3_2,e3_3,e3_4],_=>exact ⟨_,_,_,_,_,rfl⟩
   have hd3:=hcell3 2 _ rfl
   obtain rfl:e3_2=_:=by simpa [go_sem,C2_2,kWt] using hd3.symm
   obtain ⟨A3,hA3,hAB3,bk3⟩:=kUb hc3
   try simp only [kCh,kCg] at hA3
   refine (yY (k:=((Rep.slice 5 Rep.byte).mark true y1 (((Rep.slice 9 Rep.str).mark true y0 (q)).2)).2) hA3 rJ (by have:=HQ.out;have:=M1.out;have:=M2.out;have e:kg.cnt=(Rep.slice 9 Rep.str).cnt + ((Rep.slice 5 Rep.byte).cnt + ((Rep.slice 9 Rep.str).cnt + (1 + (1)))):=rfl;omega)).mono ?_
   rintro e w3 ⟨rfl,P3,X3⟩
   have Ox3:=back3 (bk3 P3 X3) (X3.wide hAB3)
   have Tx3:=Tx2.trans (X3.wide (fun i hi=>(hB3 i (hAB3 i hi)).1))
   have g3:=(Rep.slice 9 Rep.str).mark_ge (e:=true) (x:=y2) (k:=((Rep.slice 5 Rep.byte).mark true y1 (((Rep.slice 9 Rep.str).mark true y0 (q)).2)).2)
   have l3:((Rep.slice 9 Rep.str).mark true y2 (((Rep.slice 5 Rep.byte).mark true y1 (((Rep.slice 9 Rep.str).mark true y0 (q)).2)).2)).2≤((Rep.slice 5 Rep.byte).mark true y1 (((Rep.slice 9 Rep.str).mark true y0 (q)).2)).2 + ((Rep.slice 9 Rep.str).cnt:Nat):=(Rep.slice 9 Rep.str).mark_le (e:=true) (k:=((Rep.slice 5 Rep.byte).mark true y1 (((Rep.slice 9 Rep.str).mark true y0 (q)).2)).2) hA3.2
   have u3:((Rep.slice 9 Rep.str).mark true y2 (((Rep.slice 5 Rep.byte).mark true y1 (((Rep.slice 9 Rep.str).mark true y0 (q)).2)).2)).2≤4611686018427387904:=by have:=HQ.out;have:=M1.out;have:=M2.out;have e:kg.cnt=(Rep.slice 9 Rep.str).cnt + ((Rep.slice 5 Rep.byte).cnt + ((Rep.slice 9 Rep.str).cnt + (1 + (1)))):=rfl;unfold Top at *;omega
   have M3:=yD l3;clear l3
   clear C2_0 C2_1 C2_2 C2_3 C2_4 Z2_0 Z2_1 Z2_2 Z2_3 Z2_4 hA3 bk3 back3 hc3 hB3 hAB3 P3 X3 hcell3 hd3
   obtain ⟨c,B,hc,hB,hSb',hcell,hfz,back⟩:=Rep.jR Ox3 HL.out
   obtain ⟨d3_0,d3_1,d3_2,d3_3,d3_4,rfl⟩:∃ d3_0 d3_1 d3_2 d3_3 d3_4,c=[d3_0,d3_1,d3_2,d3_3,d3_4]:=by have h:=kg.len hc.1;match c,h with | [d3_0,d3_1,d3_2,d3_3,d3_4],_=>exact ⟨_,_,_,_,_,rfl⟩
   try simp only [kCh,kCg] at hc
   have C3_0:w3.cell? ⟨b,off + j * 5,none⟩=some d3_0:=hcell 0 _ rfl
   have Z3_0:=hfz (off + j * 5)
   have C3_1:w3.cell? ⟨b,off + j * 5 + 1,none⟩=some d3_1:=hcell 1 _ rfl
   have Z3_1:=hfz (off + j * 5 + 1)
   have C3_2:w3.cell? ⟨b,off + j * 5 + 2,none⟩=some d3_2:=hcell 2 _ rfl
   have Z3_2:=hfz (off + j * 5 + 2)
   have C3_3:w3.cell? ⟨b,off + j * 5 + 3,none⟩=some d3_3:=hcell 3 _ rfl
   have Z3_3:=hfz (off + j * 5 + 3)
   have C3_4:w3.cell? ⟨b,off + j * 5 + 4,none⟩=some d3_4:=hcell 4 _ rfl
   have Z3_4:=hfz (off + j * 5 + 4)
   clear hB hSb' hcell hfz back
   obtain ⟨s3v0,s3v1,s3v2,hce,s3_0,s3_1,s3_2,s3_3,s3_4,s3_5,s3_6⟩:=jS hc.raw
   simp only [List.cons.injEq,and_true] at hce
   obtain ⟨rfl,rfl,rfl,rfl,rfl⟩:=hce
   obtain ⟨s3a0,s3p0,rfl,_⟩:=Rep.sl s3_1
   obtain ⟨s3a1,s3p1,rfl,_⟩:=Rep.sl s3_2
   obtain ⟨s3a2,s3p2,rfl,_⟩:=Rep.sl s3_4
   clear s3_0 s3_1 s3_2 s3_3 s3_4 s3_5 s3_6
   clear hc
   obtain ⟨O1,T1⟩:=Rep.jV (v:=.int .i64 (((Rep.slice 9 Rep.str).mark true y2 (((Rep.slice 5 Rep.byte).mark true y1 (((Rep.slice 9 Rep.str).mark true y0 (q)).2)).2)).2)) (p:=off + j * 5 + 3) Ox3 HL.out (show 3 < kg.n by decide) (RData_set3 _ ⟨by omega,by omega⟩) (fun h=>h) (show off + j * 5 + 3=off + j * 5 + 3 by omega)
   have T1:=Tx3.trans (T1.wide mW)
   obtain ⟨O2,T2⟩:=Rep.jV (v:=.int .i64 (((Rep.slice 9 Rep.str).mark true y2 (((Rep.slice 5 Rep.byte).mark true y1 (((Rep.slice 9 Rep.str).mark true y0 (q)).2)).2)).2 + 1)) (p:=off + j * 5 + 4) O1 HL.out (show 4 < kg.n by decide) (RData_set4 _ ⟨by omega,by omega⟩) (fun h=>h) (show off + j * 5 + 4=off + j * 5 + 4 by omega)
   have T2:=T1.trans (T2.wide mW)
   have EQ:=HEH.out _ rfl
   have OF:=yD (EQ.out ▸ O2);have TF:=yD T2
   have QF:Hid ((((Rep.slice 9 Rep.str).mark true y2 (((Rep.slice 5 Rep.byte).mark true y1 (((Rep.slice 9 Rep.str).mark true y0 (q)).2)).2)).2 + 1 + 1)=(Rep.mkL kg (x.take (j + 1)) k).2):=yD qG
   go_wp2
   go_roundw
   case rel=>exact ⟨j + 1,by omega,by go_num,by rw [← QF.out],OF.out,TF.out⟩
   simp [intOf];omega
 obtain ⟨e1,e2⟩:=Rep.kAx (r:=kg) (k:=k) hlt
 rw [e1] at hown
 have HO:=yD hown;have HT:=yD e2;clear hown e1 e2
 go_wp2
 go_ret
 exact ⟨jI HT.out,HO.out,ht⟩
theorem kLz {w:World} {va:Value} {x:List jJ} {k:Int} {S:Nat→Prop} (ha:(Rep.slice 169 kK).own w [va] x S) (hk0:0≤k) (hk1:k + ((Rep.slice 169 kK).cnt:Nat)≤Top) :
    Calls Tryz.prog 153 #[va,.int .i64 k] w (zy (Rep.slice 169 kK) true x k [va] S w):=by
 obtain ⟨aa,capa,rfl,la⟩:=Rep.sl ha.raw
 have lb:x.length≤16777216:=ha.2.1
 have hbd:=yD ha.2
 have HK:=yD hk1;clear hk1
 have hk2:k≤4611686018427387904:=fV
 go_enter Tryz.func153,Tryz.ntmps153
 go_wp2
 go_loopw [1,5] (fun l i wr=>∃ (j:Nat),j≤x.length∧i=.int .i64 j∧l=.int .i64 (Rep.mkL kK (x.take j) k).2∧(Rep.slice 169 kK).own wr [.slice aa x.length capa] ((Rep.mkL kK (x.take j) k).1++x.drop j) S∧Touch S w wr) (fun _ i _=>x.length - (intOf i).toNat)
 case atStart=>exact ⟨0,Nat.zero_le _,rfl,rfl,by simpa [Rep.mkL] using ha,Touch.refl _ _⟩
 obtain ⟨j,hj,rfl,rfl,hown,ht⟩:=hrel
 by_cases hlt:j < x.length
 · obtain ⟨hln,b,off,rfl,hSb,hbw⟩:=Rep.zk hown qB
   clear hln
   rw [Rep.kAf hlt] at hown
   obtain ⟨q0,q1⟩:=Rep.kAg (e:=169) (r:=kK) hbd.out hlt HK.out hk0
   have HE:∀ y,y=(kK.mark true x[j] (Rep.mkL kK (x.take j) k).2).1→Hid (((Rep.mkL kK (x.take j) k).1++x.drop j).set j y=(Rep.mkL kK (x.take (j + 1)) k).1++x.drop (j + 1)):=fun y hy=>yD (Rep.kBv hlt hy)
   have HF:=yD (Rep.kAy (r:=kK) (k:=k) hlt)
   have hLl:j < ((Rep.mkL kK (x.take j) k).1++x.drop j).length:=nZ
   have HL:=yD hLl;clear hLl
   generalize (Rep.mkL kK (x.take j) k).2=q at *
   generalize (Rep.mkL kK (x.take j) k).1++x.drop j=M at *
   generalize hx:x[j]=y at *
   have HX:=yD hx;clear hx
   obtain ⟨⟨y0,y1,y2,y3,y4⟩,y5⟩:=y
   have HEH:=yD HE;clear HE
   have HQ:=yD q1;clear q1
   have q2:q≤4611686018427387904:=fU
   obtain ⟨c,B,hc,hB,hSb',hcell,hfz,back⟩:=Rep.jR hown HL.out
   obtain ⟨d0_0,d0_1,d0_2,d0_3,d0_4,d0_5,rfl⟩:∃ d0_0 d0_1 d0_2 d0_3 d0_4 d0_5,c=[d0_0,d0_1,d0_2,d0_3,d0_4,d0_5]:=by have h:=kK.len hc.1;match c,h with | [d0_0,d0_1,d0_2,d0_3,d0_4,d0_5],_=>exact ⟨_,_,_,_,_,_,rfl⟩
   try simp only [zQ,zP,jo] at hc
   have C0_0:wr.cell? ⟨b,off + j * 6,none⟩=some d0_0:=hcell 0 _ rfl
   have Z0_0:=hfz (off + j * 6)
   have C0_1:wr.cell? ⟨b,off + j * 6 + 1,none⟩=some d0_1:=hcell 1 _ rfl
   have Z0_1:=hfz (off + j * 6 + 1)
   have C0_2:wr.cell? ⟨b,off + j * 6 + 2,none⟩=some d0_2:=hcell 2 _ rfl
   have Z0_2:=hfz (off + j * 6 + 2)
   have C0_3:wr.cell? ⟨b,off + j * 6 + 3,none⟩=some d0_3:=hcell 3 _ rfl
   have Z0_3:=hfz (off + j * 6 + 3)
   have C0_4:wr.cell? ⟨b,off + j * 6 + 4,none⟩=some d0_4:=hcell 4 _ rfl
   have Z0_4:=hfz (off + j * 6 + 4)
   have C0_5:wr.cell? ⟨b,off + j * 6 + 5,none⟩=some d0_5:=hcell 5 _ rfl
   have Z0_5:=hfz (off + j * 6 + 5)
   clear hB hSb' hcell hfz back
   obtain ⟨s0v0,s0v1,s0v2,hce,s0_0,s0_1,s0_2,s0_3,s0_4,s0_5,s0_6,s0_7,s0_8⟩:=jW hc.raw
   simp only [List.cons.injEq,and_true] at hce
   obtain ⟨rfl,rfl,rfl,rfl,rfl,rfl⟩:=hce
   obtain ⟨s0a0,s0p0,rfl,_⟩:=Rep.sl s0_2
   obtain ⟨s0a1,s0p1,rfl,_⟩:=Rep.sl s0_3
   obtain ⟨s0a2,s0p2,rfl,_⟩:=Rep.sl s0_5
   clear s0_0 s0_1 s0_2 s0_3 s0_4 s0_5 s0_6 s0_7 s0_8
   clear hc
   go_wp2_with fail
   obtain ⟨c1,B1,hc1,hB1,_,hcell1,_,back1⟩:=Rep.jR hown HL.out
   obtain ⟨e1_0,e1_1,e1_2,e1_3,e1_4,e1_5,rfl⟩:∃ e1_0 e1_1 e1_2 e1_3 e1_4 e1_5,c1=[e1_0,e1_1,e1_2,e1_3,e1_4,e1_5]:=by have h:=kK.len hc1.1;match c1,h with | [e1_0,e1_1,e1_2,e1_3,e1_4,e1_5],_=>exact ⟨_,_,_,_,_,_,rfl⟩
   have hd1:=hcell1 0 _ rfl
   obtain rfl:e1_0=_:=by simpa [go_sem,C0_0,kFl] using hd1.symm
   obtain ⟨A1,hA1,hAB1,bk1⟩:=kHg hc1
   try simp only [zQ,zP,jo] at hA1
   refine (yY (k:=q) hA1 rJ (by have:=HQ.out;have e:kK.cnt=(Rep.slice 9 Rep.str).cnt + ((Rep.slice 5 Rep.byte).cnt + ((Rep.slice 9 Rep.str).cnt + (1 + (1)))) + (1):=rfl;omega)).mono ?_
   rintro e w1 ⟨rfl,P1,X1⟩
   have Ox1:=back1 (bk1 P1 X1) (X1.wide hAB1)
   have Tx1:=ht.trans (X1.wide (fun i hi=>(hB1 i (hAB1 i hi)).1))
   have g1:=(Rep.slice 9 Rep.str).mark_ge (e:=true) (x:=y0) (k:=q)
   have l1:((Rep.slice 9 Rep.str).mark true y0 (q)).2≤q + ((Rep.slice 9 Rep.str).cnt:Nat):=(Rep.slice 9 Rep.str).mark_le (e:=true) (k:=q) hA1.2
   have u1:((Rep.slice 9 Rep.str).mark true y0 (q)).2≤4611686018427387904:=by have:=HQ.out;have e:kK.cnt=(Rep.slice 9 Rep.str).cnt + ((Rep.slice 5 Rep.byte).cnt + ((Rep.slice 9 Rep.str).cnt + (1 + (1)))) + (1):=rfl;unfold Top at *;omega
   have M1:=yD l1;clear l1
   clear C0_0 C0_1 C0_2 C0_3 C0_4 C0_5 Z0_0 Z0_1 Z0_2 Z0_3 Z0_4 Z0_5 hA1 bk1 back1 hc1 hB1 hAB1 P1 X1 hcell1 hd1
   obtain ⟨c,B,hc,hB,hSb',hcell,hfz,back⟩:=Rep.jR Ox1 HL.out
   obtain ⟨d1_0,d1_1,d1_2,d1_3,d1_4,d1_5,rfl⟩:∃ d1_0 d1_1 d1_2 d1_3 d1_4 d1_5,c=[d1_0,d1_1,d1_2,d1_3,d1_4,d1_5]:=by have h:=kK.len hc.1;match c,h with | [d1_0,d1_1,d1_2,d1_3,d1_4,d1_5],_=>exact ⟨_,_,_,_,_,_,rfl⟩
   try simp only [zQ,zP,jo] at hc
   have C1_0:w1.cell? ⟨b,off + j * 6,none⟩=some d1_0:=hcell 0 _ rfl
   have Z1_0:=hfz (off + j * 6)
   have C1_1:w1.cell? ⟨b,off + j * 6 + 1,none⟩=some d1_1:=hcell 1 _ rfl
   have Z1_1:=hfz (off + j * 6 + 1)
   have C1_2:w1.cell? ⟨b,off + j * 6 + 2,none⟩=some d1_2:=hcell 2 _ rfl
   have Z1_2:=hfz (off + j * 6 + 2)
   have C1_3:w1.cell? ⟨b,off + j * 6 + 3,none⟩=some d1_3:=hcell 3 _ rfl
   have Z1_3:=hfz (off + j * 6 + 3)
   have C1_4:w1.cell? ⟨b,off + j * 6 + 4,none⟩=some d1_4:=hcell 4 _ rfl
   have Z1_4:=hfz (off + j * 6 + 4)
   have C1_5:w1.cell? ⟨b,off + j * 6 + 5,none⟩=some d1_5:=hcell 5 _ rfl
   have Z1_5:=hfz (off + j * 6 + 5)
   clear hB hSb' hcell hfz back
   obtain ⟨s1v0,s1v1,s1v2,hce,s1_0,s1_1,s1_2,s1_3,s1_4,s1_5,s1_6,s1_7,s1_8⟩:=jW hc.raw
   simp only [List.cons.injEq,and_true] at hce
   obtain ⟨rfl,rfl,rfl,rfl,rfl,rfl⟩:=hce
   obtain ⟨s1a0,s1p0,rfl,_⟩:=Rep.sl s1_2
   obtain ⟨s1a1,s1p1,rfl,_⟩:=Rep.sl s1_3
   obtain ⟨s1a2,s1p2,rfl,_⟩:=Rep.sl s1_5
   clear s1_0 s1_1 s1_2 s1_3 s1_4 s1_5 s1_6 s1_7 s1_8
   clear hc
   go_wp2_with fail
   obtain ⟨c2,B2,hc2,hB2,_,hcell2,_,back2⟩:=Rep.jR Ox1 HL.out
   obtain ⟨e2_0,e2_1,e2_2,e2_3,e2_4,e2_5,rfl⟩:∃ e2_0 e2_1 e2_2 e2_3 e2_4 e2_5,c2=[e2_0,e2_1,e2_2,e2_3,e2_4,e2_5]:=by have h:=kK.len hc2.1;match c2,h with | [e2_0,e2_1,e2_2,e2_3,e2_4,e2_5],_=>exact ⟨_,_,_,_,_,_,rfl⟩
   have hd2:=hcell2 1 _ rfl
   obtain rfl:e2_1=_:=by simpa [go_sem,C1_1,kFl] using hd2.symm
   obtain ⟨A2,hA2,hAB2,bk2⟩:=kJq hc2
   try simp only [zQ,zP,jo] at hA2
   refine (kHv (k:=((Rep.slice 9 Rep.str).mark true y0 (q)).2) hA2 rJ (by have:=HQ.out;have:=M1.out;have e:kK.cnt=(Rep.slice 9 Rep.str).cnt + ((Rep.slice 5 Rep.byte).cnt + ((Rep.slice 9 Rep.str).cnt + (1 + (1)))) + (1):=rfl;omega)).mono ?_
   rintro e w2 ⟨rfl,P2,X2⟩
   have Ox2:=back2 (bk2 P2 X2) (X2.wide hAB2)
   have Tx2:=Tx1.trans (X2.wide (fun i hi=>(hB2 i (hAB2 i hi)).1))
   have g2:=(Rep.slice 5 Rep.byte).mark_ge (e:=true) (x:=y1) (k:=((Rep.slice 9 Rep.str).mark true y0 (q)).2)
   have l2:((Rep.slice 5 Rep.byte).mark true y1 (((Rep.slice 9 Rep.str).mark true y0 (q)).2)).2≤((Rep.slice 9 Rep.str).mark true y0 (q)).2 + ((Rep.slice 5 Rep.byte).cnt:Nat):=(Rep.slice 5 Rep.byte).mark_le (e:=true) (k:=((Rep.slice 9 Rep.str).mark true y0 (q)).2) hA2.2
   have u2:((Rep.slice 5 Rep.byte).mark true y1 (((Rep.slice 9 Rep.str).mark true y0 (q)).2)).2≤4611686018427387904:=by have:=HQ.out;have:=M1.out;have e:kK.cnt=(Rep.slice 9 Rep.str).cnt + ((Rep.slice 5 Rep.byte).cnt + ((Rep.slice 9 Rep.str).cnt + (1 + (1)))) + (1):=rfl;unfold Top at *;omega
   have M2:=yD l2;clear l2
   clear C1_0 C1_1 C1_2 C1_3 C1_4 C1_5 Z1_0 Z1_1 Z1_2 Z1_3 Z1_4 Z1_5 hA2 bk2 back2 hc2 hB2 hAB2 P2 X2 hcell2 hd2
   obtain ⟨c,B,hc,hB,hSb',hcell,hfz,back⟩:=Rep.jR Ox2 HL.out
   obtain ⟨d2_0,d2_1,d2_2,d2_3,d2_4,d2_5,rfl⟩:∃ d2_0 d2_1 d2_2 d2_3 d2_4 d2_5,c=[d2_0,d2_1,d2_2,d2_3,d2_4,d2_5]:=by have h:=kK.len hc.1;match c,h with | [d2_0,d2_1,d2_2,d2_3,d2_4,d2_5],_=>exact ⟨_,_,_,_,_,_,rfl⟩
   try simp only [zQ,zP,jo] at hc
   have C2_0:w2.cell? ⟨b,off + j * 6,none⟩=some d2_0:=hcell 0 _ rfl
   have Z2_0:=hfz (off + j * 6)
   have C2_1:w2.cell? ⟨b,off + j * 6 + 1,none⟩=some d2_1:=hcell 1 _ rfl
   have Z2_1:=hfz (off + j * 6 + 1)
   have C2_2:w2.cell? ⟨b,off + j * 6 + 2,none⟩=some d2_2:=hcell 2 _ rfl
   have Z2_2:=hfz (off + j * 6 + 2)
   have C2_3:w2.cell? ⟨b,off + j * 6 + 3,none⟩=some d2_3:=hcell 3 _ rfl
   have Z2_3:=hfz (off + j * 6 + 3)
   have C2_4:w2.cell? ⟨b,off + j * 6 + 4,none⟩=some d2_4:=hcell 4 _ rfl
   have Z2_4:=hfz (off + j * 6 + 4)
   have C2_5:w2.cell? ⟨b,off + j * 6 + 5,none⟩=some d2_5:=hcell 5 _ rfl
   have Z2_5:=hfz (off + j * 6 + 5)
   clear hB hSb' hcell hfz back
   obtain ⟨s2v0,s2v1,s2v2,hce,s2_0,s2_1,s2_2,s2_3,s2_4,s2_5,s2_6,s2_7,s2_8⟩:=jW hc.raw
   simp only [List.cons.injEq,and_true] at hce
   obtain ⟨rfl,rfl,rfl,rfl,rfl,rfl⟩:=hce
   obtain ⟨s2a0,s2p0,rfl,_⟩:=Rep.sl s2_2
   obtain ⟨s2a1,s2p1,rfl,_⟩:=Rep.sl s2_3
   obtain ⟨s2a2,s2p2,rfl,_⟩:=Rep.sl s2_5
   clear s2_0 s2_1 s2_2 s2_3 s2_4 s2_5 s2_6 s2_7 s2_8
   clear hc
   go_wp2_with fail
   obtain ⟨c3,B3,hc3,hB3,_,hcell3,_,back3⟩:=Rep.jR Ox2 HL.out
   obtain ⟨e3_0,e3_1,e3_2,e3_3,e3_4,e3_5,rfl⟩:∃ e3_0 e3_1 e3_2 e3_3 e3_4 e3_5,c3=[e3_0,e3_1,e3_2,e3_3,e3_4,e3_5]:=by have h:=kK.len hc3.1;match c3,h with | [e3_0,e3_1,e3_2,e3_3,e3_4,e3_5],_=>exact ⟨_,_,_,_,_,_,rfl⟩
   have hd3:=hcell3 2 _ rfl
   obtain rfl:e3_2=_:=by simpa [go_sem,C2_2,kFl] using hd3.symm
   obtain ⟨A3,hA3,hAB3,bk3⟩:=kHf hc3
   try simp only [zQ,zP,jo] at hA3
   refine (yY (k:=((Rep.slice 5 Rep.byte).mark true y1 (((Rep.slice 9 Rep.str).mark true y0 (q)).2)).2) hA3 rJ (by have:=HQ.out;have:=M1.out;have:=M2.out;have e:kK.cnt=(Rep.slice 9 Rep.str).cnt + ((Rep.slice 5 Rep.byte).cnt + ((Rep.slice 9 Rep.str).cnt + (1 + (1)))) + (1):=rfl;omega)).mono ?_
   rintro e w3 ⟨rfl,P3,X3⟩
   have Ox3:=back3 (bk3 P3 X3) (X3.wide hAB3)
   have Tx3:=Tx2.trans (X3.wide (fun i hi=>(hB3 i (hAB3 i hi)).1))
   have g3:=(Rep.slice 9 Rep.str).mark_ge (e:=true) (x:=y2) (k:=((Rep.slice 5 Rep.byte).mark true y1 (((Rep.slice 9 Rep.str).mark true y0 (q)).2)).2)
   have l3:((Rep.slice 9 Rep.str).mark true y2 (((Rep.slice 5 Rep.byte).mark true y1 (((Rep.slice 9 Rep.str).mark true y0 (q)).2)).2)).2≤((Rep.slice 5 Rep.byte).mark true y1 (((Rep.slice 9 Rep.str).mark true y0 (q)).2)).2 + ((Rep.slice 9 Rep.str).cnt:Nat):=(Rep.slice 9 Rep.str).mark_le (e:=true) (k:=((Rep.slice 5 Rep.byte).mark true y1 (((Rep.slice 9 Rep.str).mark true y0 (q)).2)).2) hA3.2
   have u3:((Rep.slice 9 Rep.str).mark true y2 (((Rep.slice 5 Rep.byte).mark true y1 (((Rep.slice 9 Rep.str).mark true y0 (q)).2)).2)).2≤4611686018427387904:=by have:=HQ.out;have:=M1.out;have:=M2.out;have e:kK.cnt=(Rep.slice 9 Rep.str).cnt + ((Rep.slice 5 Rep.byte).cnt + ((Rep.slice 9 Rep.str).cnt + (1 + (1)))) + (1):=rfl;unfold Top at *;omega
   have M3:=yD l3;clear l3
   clear C2_0 C2_1 C2_2 C2_3 C2_4 C2_5 Z2_0 Z2_1 Z2_2 Z2_3 Z2_4 Z2_5 hA3 bk3 back3 hc3 hB3 hAB3 P3 X3 hcell3 hd3
   obtain ⟨c,B,hc,hB,hSb',hcell,hfz,back⟩:=Rep.jR Ox3 HL.out
   obtain ⟨d3_0,d3_1,d3_2,d3_3,d3_4,d3_5,rfl⟩:∃ d3_0 d3_1 d3_2 d3_3 d3_4 d3_5,c=[d3_0,d3_1,d3_2,d3_3,d3_4,d3_5]:=by have h:=kK.len hc.1;match c,h with | [d3_0,d3_1,d3_2,d3_3,d3_4,d3_5],_=>exact ⟨_,_,_,_,_,_,rfl⟩
   try simp only [zQ,zP,jo] at hc
   have C3_0:w3.cell? ⟨b,off + j * 6,none⟩=some d3_0:=hcell 0 _ rfl
   have Z3_0:=hfz (off + j * 6)
   have C3_1:w3.cell? ⟨b,off + j * 6 + 1,none⟩=some d3_1:=hcell 1 _ rfl
   have Z3_1:=hfz (off + j * 6 + 1)
   have C3_2:w3.cell? ⟨b,off + j * 6 + 2,none⟩=some d3_2:=hcell 2 _ rfl
   have Z3_2:=hfz (off + j * 6 + 2)
   have C3_3:w3.cell? ⟨b,off + j * 6 + 3,none⟩=some d3_3:=hcell 3 _ rfl
   have Z3_3:=hfz (off + j * 6 + 3)
   have C3_4:w3.cell? ⟨b,off + j * 6 + 4,none⟩=some d3_4:=hcell 4 _ rfl
   have Z3_4:=hfz (off + j * 6 + 4)
   have C3_5:w3.cell? ⟨b,off + j * 6 + 5,none⟩=some d3_5:=hcell 5 _ rfl
   have Z3_5:=hfz (off + j * 6 + 5)
   clear hB hSb' hcell hfz back
   obtain ⟨s3v0,s3v1,s3v2,hce,s3_0,s3_1,s3_2,s3_3,s3_4,s3_5,s3_6,s3_7,s3_8⟩:=jW hc.raw
   simp only [List.cons.injEq,and_true] at hce
   obtain ⟨rfl,rfl,rfl,rfl,rfl,rfl⟩:=hce
   obtain ⟨s3a0,s3p0,rfl,_⟩:=Rep.sl s3_2
   obtain ⟨s3a1,s3p1,rfl,_⟩:=Rep.sl s3_3
   obtain ⟨s3a2,s3p2,rfl,_⟩:=Rep.sl s3_5
   clear s3_0 s3_1 s3_2 s3_3 s3_4 s3_5 s3_6 s3_7 s3_8
   clear hc
   obtain ⟨O1,T1⟩:=Rep.jV (v:=.int .i64 (((Rep.slice 9 Rep.str).mark true y2 (((Rep.slice 5 Rep.byte).mark true y1 (((Rep.slice 9 Rep.str).mark true y0 (q)).2)).2)).2)) (p:=off + j * 6 + 3) Ox3 HL.out (show 3 < kK.n by decide) (kOi _ ⟨by omega,by omega⟩) (fun h=>h) (show off + j * 6 + 3=off + j * 6 + 3 by omega)
   have T1:=Tx3.trans (T1.wide mW)
   obtain ⟨O2,T2⟩:=Rep.jV (v:=.int .i64 (((Rep.slice 9 Rep.str).mark true y2 (((Rep.slice 5 Rep.byte).mark true y1 (((Rep.slice 9 Rep.str).mark true y0 (q)).2)).2)).2 + 1)) (p:=off + j * 6 + 4) O1 HL.out (show 4 < kK.n by decide) (kOh _ ⟨by omega,by omega⟩) (fun h=>h) (show off + j * 6 + 4=off + j * 6 + 4 by omega)
   have T2:=T1.trans (T2.wide mW)
   obtain ⟨O3,T3⟩:=Rep.jV (v:=.int .i64 (((Rep.slice 9 Rep.str).mark true y2 (((Rep.slice 5 Rep.byte).mark true y1 (((Rep.slice 9 Rep.str).mark true y0 (q)).2)).2)).2 + 1 + 1)) (p:=off + j * 6 + 5) O2 HL.out (show 5 < kK.n by decide) (kDf _ ⟨by omega,by omega⟩) (fun h=>h) (show off + j * 6 + 5=off + j * 6 + 5 by omega)
   have T3:=T2.trans (T3.wide mW)
   have EQ:=HEH.out _ rfl
   have OF:=yD (EQ.out ▸ O3);have TF:=yD T3
   have QF:Hid ((((Rep.slice 9 Rep.str).mark true y2 (((Rep.slice 5 Rep.byte).mark true y1 (((Rep.slice 9 Rep.str).mark true y0 (q)).2)).2)).2 + 1 + 1 + 1)=(Rep.mkL kK (x.take (j + 1)) k).2):=yD qG
   go_wp2
   go_roundw
   case rel=>exact ⟨j + 1,by omega,by go_num,by rw [← QF.out],OF.out,TF.out⟩
   simp [intOf];omega
 obtain ⟨e1,e2⟩:=Rep.kAx (r:=kK) (k:=k) hlt
 rw [e1] at hown
 have HO:=yD hown;have HT:=yD e2;clear hown e1 e2
 go_wp2
 go_ret
 exact ⟨jI HT.out,HO.out,ht⟩
theorem kKq {w:World} {ca:List Value} {x:jH} {k:Int} {S:Nat→Prop} (ha:kH.own w ca x S) (hk0:0≤k) (hk1:k + (kH.cnt:Nat)≤Top) :
    Calls Tryz.prog 56 #[.agg ca.toArray,.int .i64 k] w (zy kH false x k ca S w):=by
 have hl:=ha.live
 obtain ⟨av1,rfl,a_0,a_1⟩:=jG ha.raw
 obtain ⟨x0,x1⟩:=x
 clear a_0 a_1
 have HQ:=yD hk1;clear hk1
 have k2:k≤4611686018427387904:=fU
 go_enter Tryz.func56,Tryz.ntmps56
 go_wp2_with fail
 have O0:=yD (fun o=>Rep.own.alloc hl o)
 obtain ⟨A1,hA1,hAB1,bk1⟩:=kJp (O0.out _)
 refine (kLz (k:=k) hA1 rJ (by have:=HQ.out;have e:kH.cnt=1 + ((Rep.slice 169 kK).cnt):=rfl;omega)).mono ?_
 rintro e w1 ⟨rfl,P1,X1⟩
 have O1x:=bk1 P1 X1
 have g1:=(Rep.slice 169 kK).mark_ge (e:=true) (x:=x1) (k:=k)
 have l1:((Rep.slice 169 kK).mark true x1 (k)).2≤k + ((Rep.slice 169 kK).cnt:Nat):=(Rep.slice 169 kK).mark_le (e:=true) (k:=k) hA1.2
 have u1:((Rep.slice 169 kK).mark true x1 (k)).2≤4611686018427387904:=by have:=HQ.out;have e:kH.cnt=1 + ((Rep.slice 169 kK).cnt):=rfl;unfold Top at *;omega
 have M1:=yD l1;clear l1
 have T1x:Touch S w w1:=(Touch.of_below (Rep.kAe w _)).trans (X1.wide (fun i hi=>(hAB1 i hi).1))
 have hz1:w.heap.size + 1≤w1.heap.size:=mK
 have hc1:∀ o,w1.cell? ⟨w.heap.size,o,none⟩=_:=fun o=>World.cell?_of_block (a:=⟨w.heap.size,o,none⟩) (X1.block w.heap.size rM gX)
 have hf1:∀ o,w1.frozen? ⟨w.heap.size,o,none⟩=_:=fun o=>World.frozen?_of_block (a:=⟨w.heap.size,o,none⟩) (X1.block w.heap.size rM gX)
 simp [go_sem] at hc1
 clear hA1 hAB1 bk1 P1 X1
 have OF:=yD (Rep.own.wide (T:=S) O1x (fun j hj=>hj.1));have TF:=yD T1x
 clear ha hl
 go_wp2
 go_ret
 exact ⟨rfl,OF.out,TF.out⟩
theorem kRw {w:World} {ca:List Value} {x:yZ} {k:Int} {S:Nat→Prop} (ha:jM.own w ca x S) (hk0:0≤k) (hk1:k + (jM.cnt:Nat)≤Top) :
    Calls Tryz.prog 10 #[.agg ca.toArray,.int .i64 k] w (zy jM false x k ca S w):=by
 have hl:=ha.live
 obtain ⟨av0,av2,av3,av4,av5,av6,rfl,a_0,a_1,a_2,a_3,a_4,a_5,a_6,a_7,a_8⟩:=jm ha.raw
 obtain ⟨x0,x1,x2,x3,x4,x5,x6⟩:=x
 clear a_0 a_1 a_2 a_3 a_4 a_5 a_6 a_7 a_8
 have HQ:=yD hk1;clear hk1
 have k2:k≤4611686018427387904:=fU
 go_enter Tryz.func10,Tryz.ntmps10
 go_wp2_with fail
 have O0:=yD (fun o=>Rep.own.alloc hl o)
 obtain ⟨A1,hA1,hAB1,bk1⟩:=RNode_sub_0 (O0.out _)
 refine (markDataS_c (k:=k) hA1 rJ (by have:=HQ.out;have e:jM.cnt=(Rep.slice 113 kg).cnt + (kH.cnt + ((Rep.slice 77 kD).cnt + ((Rep.slice 157 kI).cnt + ((Rep.slice 159 kM).cnt + ((Rep.slice 166 kG).cnt + (1)))))):=rfl;omega)).mono ?_
 rintro e w1 ⟨rfl,P1,X1⟩
 have O1x:=bk1 P1 X1
 have g1:=(Rep.slice 113 kg).mark_ge (e:=true) (x:=x0) (k:=k)
 have l1:((Rep.slice 113 kg).mark true x0 (k)).2≤k + ((Rep.slice 113 kg).cnt:Nat):=(Rep.slice 113 kg).mark_le (e:=true) (k:=k) hA1.2
 have u1:((Rep.slice 113 kg).mark true x0 (k)).2≤4611686018427387904:=by have:=HQ.out;have e:jM.cnt=(Rep.slice 113 kg).cnt + (kH.cnt + ((Rep.slice 77 kD).cnt + ((Rep.slice 157 kI).cnt + ((Rep.slice 159 kM).cnt + ((Rep.slice 166 kG).cnt + (1)))))):=rfl;unfold Top at *;omega
 have M1:=yD l1;clear l1
 have T1x:Touch S w w1:=(Touch.of_below (Rep.kAe w _)).trans (X1.wide (fun i hi=>(hAB1 i hi).1))
 have hz1:w.heap.size + 1≤w1.heap.size:=mK
 have hc1:∀ o,w1.cell? ⟨w.heap.size,o,none⟩=_:=fun o=>World.cell?_of_block (a:=⟨w.heap.size,o,none⟩) (X1.block w.heap.size rM gX)
 have hf1:∀ o,w1.frozen? ⟨w.heap.size,o,none⟩=_:=fun o=>World.frozen?_of_block (a:=⟨w.heap.size,o,none⟩) (X1.block w.heap.size rM gX)
 simp [go_sem] at hc1
 clear hA1 hAB1 bk1 P1 X1
 go_wp2_with fail
 obtain ⟨A2,hA2,hAB2,bk2⟩:=RNode_sub_1 O1x
 refine (kKq (k:=((Rep.slice 113 kg).mark true x0 (k)).2) hA2 rJ (by have:=HQ.out;have:=M1.out;have e:jM.cnt=(Rep.slice 113 kg).cnt + (kH.cnt + ((Rep.slice 77 kD).cnt + ((Rep.slice 157 kI).cnt + ((Rep.slice 159 kM).cnt + ((Rep.slice 166 kG).cnt + (1)))))):=rfl;omega)).mono ?_
 rintro e w2 ⟨rfl,P2,X2⟩
 have O2x:=bk2 P2 X2
 have g2:=kH.mark_ge (e:=false) (x:=x1) (k:=((Rep.slice 113 kg).mark true x0 (k)).2)
 have l2:(kH.mark false x1 (((Rep.slice 113 kg).mark true x0 (k)).2)).2≤((Rep.slice 113 kg).mark true x0 (k)).2 + (kH.cnt:Nat):=kH.mark_le (e:=false) (k:=((Rep.slice 113 kg).mark true x0 (k)).2) hA2.2
 have u2:(kH.mark false x1 (((Rep.slice 113 kg).mark true x0 (k)).2)).2≤4611686018427387904:=by have:=HQ.out;have:=M1.out;have e:jM.cnt=(Rep.slice 113 kg).cnt + (kH.cnt + ((Rep.slice 77 kD).cnt + ((Rep.slice 157 kI).cnt + ((Rep.slice 159 kM).cnt + ((Rep.slice 166 kG).cnt + (1)))))):=rfl;unfold Top at *;omega
 have M2:=yD l2;clear l2
 have T2x:Touch S w w2:=T1x.trans (X2.wide (fun i hi=>(hAB2 i hi).1))
 have hz2:w.heap.size + 1≤w2.heap.size:=by have:=X2.size;omega
 have hc2:∀ o,w2.cell? ⟨w.heap.size,o,none⟩=_:=fun o=>(World.cell?_of_block (a:=⟨w.heap.size,o,none⟩) (X2.block w.heap.size rJ (fun q=>by have:=(hAB2 _ q).2;omega))).trans (hc1 o)
 clear hc1 hf1
 clear hA2 hAB2 bk2 P2 X2
 go_wp2_with fail
 obtain ⟨A3,hA3,hAB3,bk3⟩:=RNode_sub_2 O2x
 refine (kGh (k:=(kH.mark false x1 (((Rep.slice 113 kg).mark true x0 (k)).2)).2) hA3 rJ (by have:=HQ.out;have:=M1.out;have:=M2.out;have e:jM.cnt=(Rep.slice 113 kg).cnt + (kH.cnt + ((Rep.slice 77 kD).cnt + ((Rep.slice 157 kI).cnt + ((Rep.slice 159 kM).cnt + ((Rep.slice 166 kG).cnt + (1)))))):=rfl;omega)).mono ?_
 rintro e w3 ⟨rfl,P3,X3⟩
 have O3x:=bk3 P3 X3
 have g3:=(Rep.slice 77 kD).mark_ge (e:=true) (x:=x2) (k:=(kH.mark false x1 (((Rep.slice 113 kg).mark true x0 (k)).2)).2)
 have l3:((Rep.slice 77 kD).mark true x2 ((kH.mark false x1 (((Rep.slice 113 kg).mark true x0 (k)).2)).2)).2≤(kH.mark false x1 (((Rep.slice 113 kg).mark true x0 (k)).2)).2 + ((Rep.slice 77 kD).cnt:Nat):=(Rep.slice 77 kD).mark_le (e:=true) (k:=(kH.mark false x1 (((Rep.slice 113 kg).mark true x0 (k)).2)).2) hA3.2
 have u3:((Rep.slice 77 kD).mark true x2 ((kH.mark false x1 (((Rep.slice 113 kg).mark true x0 (k)).2)).2)).2≤4611686018427387904:=by have:=HQ.out;have:=M1.out;have:=M2.out;have e:jM.cnt=(Rep.slice 113 kg).cnt + (kH.cnt + ((Rep.slice 77 kD).cnt + ((Rep.slice 157 kI).cnt + ((Rep.slice 159 kM).cnt + ((Rep.slice 166 kG).cnt + (1)))))):=rfl;unfold Top at *;omega
 have M3:=yD l3;clear l3
 have T3x:Touch S w w3:=T2x.trans (X3.wide (fun i hi=>(hAB3 i hi).1))
 have hz3:w.heap.size + 1≤w3.heap.size:=by have:=X3.size;omega
 have hc3:∀ o,w3.cell? ⟨w.heap.size,o,none⟩=_:=fun o=>(World.cell?_of_block (a:=⟨w.heap.size,o,none⟩) (X3.block w.heap.size rJ (fun q=>by have:=(hAB3 _ q).2;omega))).trans (hc2 o)
 clear hc2
 clear hA3 hAB3 bk3 P3 X3
 go_wp2_with fail
 obtain ⟨A4,hA4,hAB4,bk4⟩:=RNode_sub_3 O3x
 refine (kNl (k:=((Rep.slice 77 kD).mark true x2 ((kH.mark false x1 (((Rep.slice 113 kg).mark true x0 (k)).2)).2)).2) hA4 rJ (by have:=HQ.out;have:=M1.out;have:=M2.out;have:=M3.out;have e:jM.cnt=(Rep.slice 113 kg).cnt + (kH.cnt + ((Rep.slice 77 kD).cnt + ((Rep.slice 157 kI).cnt + ((Rep.slice 159 kM).cnt + ((Rep.slice 166 kG).cnt + (1)))))):=rfl;omega)).mono ?_
 rintro e w4 ⟨rfl,P4,X4⟩
 have O4x:=bk4 P4 X4
 have g4:=(Rep.slice 157 kI).mark_ge (e:=true) (x:=x3) (k:=((Rep.slice 77 kD).mark true x2 ((kH.mark false x1 (((Rep.slice 113 kg).mark true x0 (k)).2)).2)).2)
 have l4:((Rep.slice 157 kI).mark true x3 (((Rep.slice 77 kD).mark true x2 ((kH.mark false x1 (((Rep.slice 113 kg).mark true x0 (k)).2)).2)).2)).2≤((Rep.slice 77 kD).mark true x2 ((kH.mark false x1 (((Rep.slice 113 kg).mark true x0 (k)).2)).2)).2 + ((Rep.slice 157 kI).cnt:Nat):=(Rep.slice 157 kI).mark_le (e:=true) (k:=((Rep.slice 77 kD).mark true x2 ((kH.mark false x1 (((Rep.slice 113 kg).mark true x0 (k)).2)).2)).2) hA4.2
 have u4:((Rep.slice 157 kI).mark true x3 (((Rep.slice 77 kD).mark true x2 ((kH.mark false x1 (((Rep.slice 113 kg).mark true x0 (k)).2)).2)).2)).2≤4611686018427387904:=by have:=HQ.out;have:=M1.out;have:=M2.out;have:=M3.out;have e:jM.cnt=(Rep.slice 113 kg).cnt + (kH.cnt + ((Rep.slice 77 kD).cnt + ((Rep.slice 157 kI).cnt + ((Rep.slice 159 kM).cnt + ((Rep.slice 166 kG).cnt + (1)))))):=rfl;unfold Top at *;omega
 have M4:=yD l4;clear l4
 have T4x:Touch S w w4:=T3x.trans (X4.wide (fun i hi=>(hAB4 i hi).1))
 have hz4:w.heap.size + 1≤w4.heap.size:=by have:=X4.size;omega
 have hc4:∀ o,w4.cell? ⟨w.heap.size,o,none⟩=_:=fun o=>(World.cell?_of_block (a:=⟨w.heap.size,o,none⟩) (X4.block w.heap.size rJ (fun q=>by have:=(hAB4 _ q).2;omega))).trans (hc3 o)
 clear hc3
 clear hA4 hAB4 bk4 P4 X4
 go_wp2_with fail
 obtain ⟨A5,hA5,hAB5,bk5⟩:=RNode_sub_4 O4x
 refine (kWf (k:=((Rep.slice 157 kI).mark true x3 (((Rep.slice 77 kD).mark true x2 ((kH.mark false x1 (((Rep.slice 113 kg).mark true x0 (k)).2)).2)).2)).2) hA5 rJ (by have:=HQ.out;have:=M1.out;have:=M2.out;have:=M3.out;have:=M4.out;have e:jM.cnt=(Rep.slice 113 kg).cnt + (kH.cnt + ((Rep.slice 77 kD).cnt + ((Rep.slice 157 kI).cnt + ((Rep.slice 159 kM).cnt + ((Rep.slice 166 kG).cnt + (1)))))):=rfl;omega)).mono ?_
 rintro e w5 ⟨rfl,P5,X5⟩
 have O5x:=bk5 P5 X5
 have g5:=(Rep.slice 159 kM).mark_ge (e:=true) (x:=x4) (k:=((Rep.slice 157 kI).mark true x3 (((Rep.slice 77 kD).mark true x2 ((kH.mark false x1 (((Rep.slice 113 kg).mark true x0 (k)).2)).2)).2)).2)
 have l5:((Rep.slice 159 kM).mark true x4 (((Rep.slice 157 kI).mark true x3 (((Rep.slice 77 kD).mark true x2 ((kH.mark false x1 (((Rep.slice 113 kg).mark true x0 (k)).2)).2)).2)).2)).2≤((Rep.slice 157 kI).mark true x3 (((Rep.slice 77 kD).mark true x2 ((kH.mark false x1 (((Rep.slice 113 kg).mark true x0 (k)).2)).2)).2)).2 + ((Rep.slice 159 kM).cnt:Nat):=(Rep.slice 159 kM).mark_le (e:=true) (k:=((Rep.slice 157 kI).mark true x3 (((Rep.slice 77 kD).mark true x2 ((kH.mark false x1 (((Rep.slice 113 kg).mark true x0 (k)).2)).2)).2)).2) hA5.2
 have u5:((Rep.slice 159 kM).mark true x4 (((Rep.slice 157 kI).mark true x3 (((Rep.slice 77 kD).mark true x2 ((kH.mark false x1 (((Rep.slice 113 kg).mark true x0 (k)).2)).2)).2)).2)).2≤4611686018427387904:=by have:=HQ.out;have:=M1.out;have:=M2.out;have:=M3.out;have:=M4.out;have e:jM.cnt=(Rep.slice 113 kg).cnt + (kH.cnt + ((Rep.slice 77 kD).cnt + ((Rep.slice 157 kI).cnt + ((Rep.slice 159 kM).cnt + ((Rep.slice 166 kG).cnt + (1)))))):=rfl;unfold Top at *;omega
 have M5:=yD l5;clear l5
 have T5x:Touch S w w5:=T4x.trans (X5.wide (fun i hi=>(hAB5 i hi).1))
 have hz5:w.heap.size + 1≤w5.heap.size:=by have:=X5.size;omega
 have hc5:∀ o,w5.cell? ⟨w.heap.size,o,none⟩=_:=fun o=>(World.cell?_of_block (a:=⟨w.heap.size,o,none⟩) (X5.block w.heap.size rJ (fun q=>by have:=(hAB5 _ q).2;omega))).trans (hc4 o)
 clear hc4
 clear hA5 hAB5 bk5 P5 X5
 go_wp2_with fail
 obtain ⟨A6,hA6,hAB6,bk6⟩:=RNode_sub_5 O5x
 refine (kKp (k:=((Rep.slice 159 kM).mark true x4 (((Rep.slice 157 kI).mark true x3 (((Rep.slice 77 kD).mark true x2 ((kH.mark false x1 (((Rep.slice 113 kg).mark true x0 (k)).2)).2)).2)).2)).2) hA6 rJ (by have:=HQ.out;have:=M1.out;have:=M2.out;have:=M3.out;have:=M4.out;have:=M5.out;have e:jM.cnt=(Rep.slice 113 kg).cnt + (kH.cnt + ((Rep.slice 77 kD).cnt + ((Rep.slice 157 kI).cnt + ((Rep.slice 159 kM).cnt + ((Rep.slice 166 kG).cnt + (1)))))):=rfl;omega)).mono ?_
 rintro e w6 ⟨rfl,P6,X6⟩
 have O6x:=bk6 P6 X6
 have g6:=(Rep.slice 166 kG).mark_ge (e:=true) (x:=x5) (k:=((Rep.slice 159 kM).mark true x4 (((Rep.slice 157 kI).mark true x3 (((Rep.slice 77 kD).mark true x2 ((kH.mark false x1 (((Rep.slice 113 kg).mark true x0 (k)).2)).2)).2)).2)).2)
 have l6:((Rep.slice 166 kG).mark true x5 (((Rep.slice 159 kM).mark true x4 (((Rep.slice 157 kI).mark true x3 (((Rep.slice 77 kD).mark true x2 ((kH.mark false x1 (((Rep.slice 113 kg).mark true x0 (k)).2)).2)).2)).2)).2)).2≤((Rep.slice 159 kM).mark true x4 (((Rep.slice 157 kI).mark true x3 (((Rep.slice 77 kD).mark true x2 ((kH.mark false x1 (((Rep.slice 113 kg).mark true x0 (k)).2)).2)).2)).2)).2 + ((Rep.slice 166 kG).cnt:Nat):=(Rep.slice 166 kG).mark_le (e:=true) (k:=((Rep.slice 159 kM).mark true x4 (((Rep.slice 157 kI).mark true x3 (((Rep.slice 77 kD).mark true x2 ((kH.mark false x1 (((Rep.slice 113 kg).mark true x0 (k)).2)).2)).2)).2)).2) hA6.2
 have u6:((Rep.slice 166 kG).mark true x5 (((Rep.slice 159 kM).mark true x4 (((Rep.slice 157 kI).mark true x3 (((Rep.slice 77 kD).mark true x2 ((kH.mark false x1 (((Rep.slice 113 kg).mark true x0 (k)).2)).2)).2)).2)).2)).2≤4611686018427387904:=by have:=HQ.out;have:=M1.out;have:=M2.out;have:=M3.out;have:=M4.out;have:=M5.out;have e:jM.cnt=(Rep.slice 113 kg).cnt + (kH.cnt + ((Rep.slice 77 kD).cnt + ((Rep.slice 157 kI).cnt + ((Rep.slice 159 kM).cnt + ((Rep.slice 166 kG).cnt + (1)))))):=rfl;unfold Top at *;omega
 have M6:=yD l6;clear l6
 have T6x:Touch S w w6:=T5x.trans (X6.wide (fun i hi=>(hAB6 i hi).1))
 have hz6:w.heap.size + 1≤w6.heap.size:=by have:=X6.size;omega
 have hc6:∀ o,w6.cell? ⟨w.heap.size,o,none⟩=_:=fun o=>(World.cell?_of_block (a:=⟨w.heap.size,o,none⟩) (X6.block w.heap.size rJ (fun q=>by have:=(hAB6 _ q).2;omega))).trans (hc5 o)
 clear hc5
 clear hA6 hAB6 bk6 P6 X6
 have OF:=yD (Rep.own.wide (T:=S) O6x (fun j hj=>hj.1));have TF:=yD T6x
 clear ha hl
 go_wp2
 go_ret
 exact ⟨rfl,OF.out,TF.out⟩
end Go.Proofs.YtomdenfcfbkfbaaGreat

/-
  The laws' markings at more types. Printed by genmark.py.
-/
import Derived.Test.YtomdenfcfbkfbaaGreatBase
import Derived.Test.YtomdenfcfbkfbaaGreatMark
import Derived.Test.YtomdenfcfbkfbaaGreatProg
import Derived.Test.YtomdenfcfbkfbaaGreatTypes
import Derived.Test.YtomdenfcfbkfbaaGreatMarkT
import Derived.WalkKit
import Derived.WalkSpells
import Derived.WalkLawsBesides
import Derived.BigQuiet
import Derived.Deep.QuietTactic
import Derived.StillTailTactics
namespace Go.Proofs.YtomdenfcfbkfbaaGreat
open Go.RowKit
set_option linter.unusedVariables false
set_option linter.unusedSimpArgs false
set_option linter.unnecessarySimpa false
set_option maxRecDepth 100000 in
set_option maxHeartbeats 16000000 in
theorem markDataS_c {w:World} {va:Value} {x:List LData} {k:Int} {S:Nat→Prop} (ha:(Rep.slice 113 RData).own w [va] x S) (hk0:0≤k) (hk1:k + ((Rep.slice 113 RData).cnt:Nat)≤Top) :
    Calls Tryz.prog 55 #[va,.int .i64 k] w (MarkPost (Rep.slice 113 RData) true x k [va] S w):=by
 obtain ⟨aa,capa,hva,la⟩:=Rep.kR ha.raw;obtain rfl:va=_:=by simpa using hva
 clear hva
 have lb:x.length≤16777216:=ha.2.1
 have hbd:=hD ha.2
 have HK:=hD hk1;clear hk1
 have hk2:k≤4611686018427387904:=by have:=HK.out;unfold Top at this;omega
 go_enter Tryz.func55,Tryz.ntmps55
 go_wp2
 go_loopw [1,5] (fun l i wr=>∃ (j:Nat),j≤x.length∧i=.int .i64 j∧l=.int .i64 (Rep.mkL RData (x.take j) k).2∧(Rep.slice 113 RData).own wr [.slice aa x.length capa] ((Rep.mkL RData (x.take j) k).1++x.drop j) S∧Touch S w wr) (fun _ i _=>x.length - (intOf i).toNat)
 case atStart=>exact ⟨0,Nat.zero_le _,rfl,rfl,by simpa [Rep.mkL] using ha,Touch.refl _ _⟩
 obtain ⟨j,hj,rfl,rfl,hown,ht⟩:=hrel
 by_cases hlt:j < x.length
 · obtain ⟨hln,b,off,rfl,hSb,hbw⟩:=Rep.own_addr hown (by rw [Rep.mark_len];omega)
   clear hln
   rw [Rep.mark_start hlt] at hown
   obtain ⟨q0,q1⟩:=Rep.mark_bound (e:=113) (r:=RData) hbd.out hlt HK.out hk0
   have HE:∀ y,y=(RData.mark true x[j] (Rep.mkL RData (x.take j) k).2).1→Hid (((Rep.mkL RData (x.take j) k).1++x.drop j).set j y=(Rep.mkL RData (x.take (j + 1)) k).1++x.drop (j + 1)):=fun y hy=>hD (Rep.mark_end hlt hy)
   have HF:=hD (Rep.mark_end2 (r:=RData) (k:=k) hlt)
   have hLl:j < ((Rep.mkL RData (x.take j) k).1++x.drop j).length:=by rw [Rep.mark_len];exact hlt
   have HL:=hD hLl;clear hLl
   generalize (Rep.mkL RData (x.take j) k).2=q at *
   generalize (Rep.mkL RData (x.take j) k).1++x.drop j=M at *
   generalize hx:x[j]=y at *
   have HX:=hD hx;clear hx
   obtain ⟨y0,y1,y2,y3,y4⟩:=y
   have HEH:=hD HE;clear HE
   have HQ:=hD q1;clear q1
   have q2:q≤4611686018427387904:=by have:=HQ.out;unfold Top at this;omega
   obtain ⟨c,B,hc,hB,hSb',hcell,hfz,back⟩:=Rep.own_get' hown HL.out
   obtain ⟨d0_0,d0_1,d0_2,d0_3,d0_4,rfl⟩:∃ d0_0 d0_1 d0_2 d0_3 d0_4,c=[d0_0,d0_1,d0_2,d0_3,d0_4]:=by have h:=RData.len hc.1;match c,h with | [d0_0,d0_1,d0_2,d0_3,d0_4],_=>exact ⟨_,_,_,_,_,rfl⟩
   try simp only [setData_3,setData_4] at hc
   have C0_0:wr.cell? ⟨b,off + j * 5,none⟩=some d0_0:=hcell 0 _ rfl
   have Z0_0:=hfz (off + j * 5)
   have C0_1:wr.cell? ⟨b,off + j * 5 + 1,none⟩=some d0_1:=hcell 1 _ rfl
   have Z0_1:=hfz (off + j * 5 + 1)
   have C0_2:wr.cell? ⟨b,off + j * 5 + 2,none⟩=some d0_2:=hcell 2 _ rfl
   have Z0_2:=hfz (off + j * 5 + 2)
   have C0_3:wr.cell? ⟨b,off + j * 5 + 3,none⟩=some d0_3:=hcell 3 _ rfl
   have Z0_3:=hfz (off + j * 5 + 3)
   have C0_4:wr.cell? ⟨b,off + j * 5 + 4,none⟩=some d0_4:=hcell 4 _ rfl
   have Z0_4:=hfz (off + j * 5 + 4)
   clear hB hSb' hcell hfz back
   obtain ⟨s0v0,s0v1,s0v2,hce,s0_0,s0_1,s0_2,s0_3,s0_4,s0_5,s0_6⟩:=RData_raw hc.raw
   simp only [List.cons.injEq,and_true] at hce
   obtain ⟨rfl,rfl,rfl,rfl,rfl⟩:=hce
   obtain ⟨s0a0,s0p0,s0h0,_⟩:=Rep.kR s0_1;obtain rfl:d0_0=_:=by simpa using s0h0
   clear s0h0
   obtain ⟨s0a1,s0p1,s0h1,_⟩:=Rep.kR s0_2;obtain rfl:d0_1=_:=by simpa using s0h1
   clear s0h1
   obtain ⟨s0a2,s0p2,s0h2,_⟩:=Rep.kR s0_4;obtain rfl:d0_2=_:=by simpa using s0h2
   clear s0h2
   clear s0_0 s0_1 s0_2 s0_3 s0_4 s0_5 s0_6
   clear hc
   go_wp2_with fail
   obtain ⟨c1,B1,hc1,hB1,_,hcell1,_,back1⟩:=Rep.own_get' hown HL.out
   obtain ⟨e1_0,e1_1,e1_2,e1_3,e1_4,rfl⟩:∃ e1_0 e1_1 e1_2 e1_3 e1_4,c1=[e1_0,e1_1,e1_2,e1_3,e1_4]:=by have h:=RData.len hc1.1;match c1,h with | [e1_0,e1_1,e1_2,e1_3,e1_4],_=>exact ⟨_,_,_,_,_,rfl⟩
   have hd1:=hcell1 0 _ rfl
   obtain rfl:e1_0=_:=by simpa [go_sem,C0_0,RData_n] using hd1.symm
   obtain ⟨A1,hA1,hAB1,bk1⟩:=RData_sub_0_0 hc1
   try simp only [setData_3,setData_4] at hA1
   refine (markStringS_c (k:=q) hA1 (by omega) (by have:=HQ.out;have e:RData.cnt=(Rep.slice 9 Rep.str).cnt + ((Rep.slice 5 Rep.byte).cnt + ((Rep.slice 9 Rep.str).cnt + (1 + (1)))):=rfl;omega)).mono ?_
   rintro e w1 ⟨rfl,P1,X1⟩
   have Ox1:=back1 (bk1 P1 X1) (X1.wide hAB1)
   have Tx1:=ht.trans (X1.wide (fun i hi=>(hB1 i (hAB1 i hi)).1))
   have g1:=(Rep.slice 9 Rep.str).mark_ge (e:=true) (x:=y0) (k:=q)
   have l1:((Rep.slice 9 Rep.str).mark true y0 (q)).2≤q + ((Rep.slice 9 Rep.str).cnt:Nat):=(Rep.slice 9 Rep.str).mark_le (e:=true) (k:=q) hA1.2
   have u1:((Rep.slice 9 Rep.str).mark true y0 (q)).2≤4611686018427387904:=by have:=HQ.out;have e:RData.cnt=(Rep.slice 9 Rep.str).cnt + ((Rep.slice 5 Rep.byte).cnt + ((Rep.slice 9 Rep.str).cnt + (1 + (1)))):=rfl;unfold Top at *;omega
   have M1:=hD l1;clear l1
   clear C0_0 C0_1 C0_2 C0_3 C0_4 Z0_0 Z0_1 Z0_2 Z0_3 Z0_4 hA1 bk1 back1 hc1 hB1 hAB1 P1 X1 hcell1 hd1
   obtain ⟨c,B,hc,hB,hSb',hcell,hfz,back⟩:=Rep.own_get' Ox1 HL.out
   obtain ⟨d1_0,d1_1,d1_2,d1_3,d1_4,rfl⟩:∃ d1_0 d1_1 d1_2 d1_3 d1_4,c=[d1_0,d1_1,d1_2,d1_3,d1_4]:=by have h:=RData.len hc.1;match c,h with | [d1_0,d1_1,d1_2,d1_3,d1_4],_=>exact ⟨_,_,_,_,_,rfl⟩
   try simp only [setData_3,setData_4] at hc
   have C1_0:w1.cell? ⟨b,off + j * 5,none⟩=some d1_0:=hcell 0 _ rfl
   have Z1_0:=hfz (off + j * 5)
   have C1_1:w1.cell? ⟨b,off + j * 5 + 1,none⟩=some d1_1:=hcell 1 _ rfl
   have Z1_1:=hfz (off + j * 5 + 1)
   have C1_2:w1.cell? ⟨b,off + j * 5 + 2,none⟩=some d1_2:=hcell 2 _ rfl
   have Z1_2:=hfz (off + j * 5 + 2)
   have C1_3:w1.cell? ⟨b,off + j * 5 + 3,none⟩=some d1_3:=hcell 3 _ rfl
   have Z1_3:=hfz (off + j * 5 + 3)
   have C1_4:w1.cell? ⟨b,off + j * 5 + 4,none⟩=some d1_4:=hcell 4 _ rfl
   have Z1_4:=hfz (off + j * 5 + 4)
   clear hB hSb' hcell hfz back
   obtain ⟨s1v0,s1v1,s1v2,hce,s1_0,s1_1,s1_2,s1_3,s1_4,s1_5,s1_6⟩:=RData_raw hc.raw
   simp only [List.cons.injEq,and_true] at hce
   obtain ⟨rfl,rfl,rfl,rfl,rfl⟩:=hce
   obtain ⟨s1a0,s1p0,s1h0,_⟩:=Rep.kR s1_1;obtain rfl:d1_0=_:=by simpa using s1h0
   clear s1h0
   obtain ⟨s1a1,s1p1,s1h1,_⟩:=Rep.kR s1_2;obtain rfl:d1_1=_:=by simpa using s1h1
   clear s1h1
   obtain ⟨s1a2,s1p2,s1h2,_⟩:=Rep.kR s1_4;obtain rfl:d1_2=_:=by simpa using s1h2
   clear s1h2
   clear s1_0 s1_1 s1_2 s1_3 s1_4 s1_5 s1_6
   clear hc
   go_wp2_with fail
   obtain ⟨c2,B2,hc2,hB2,_,hcell2,_,back2⟩:=Rep.own_get' Ox1 HL.out
   obtain ⟨e2_0,e2_1,e2_2,e2_3,e2_4,rfl⟩:∃ e2_0 e2_1 e2_2 e2_3 e2_4,c2=[e2_0,e2_1,e2_2,e2_3,e2_4]:=by have h:=RData.len hc2.1;match c2,h with | [e2_0,e2_1,e2_2,e2_3,e2_4],_=>exact ⟨_,_,_,_,_,rfl⟩
   have hd2:=hcell2 1 _ rfl
   obtain rfl:e2_1=_:=by simpa [go_sem,C1_1,RData_n] using hd2.symm
   obtain ⟨A2,hA2,hAB2,bk2⟩:=RData_sub_1 hc2
   try simp only [setData_3,setData_4] at hA2
   refine (markByteS_c (k:=((Rep.slice 9 Rep.str).mark true y0 (q)).2) hA2 (by omega) (by have:=HQ.out;have:=M1.out;have e:RData.cnt=(Rep.slice 9 Rep.str).cnt + ((Rep.slice 5 Rep.byte).cnt + ((Rep.slice 9 Rep.str).cnt + (1 + (1)))):=rfl;omega)).mono ?_
   rintro e w2 ⟨rfl,P2,X2⟩
   have Ox2:=back2 (bk2 P2 X2) (X2.wide hAB2)
   have Tx2:=Tx1.trans (X2.wide (fun i hi=>(hB2 i (hAB2 i hi)).1))
   have g2:=(Rep.slice 5 Rep.byte).mark_ge (e:=true) (x:=y1) (k:=((Rep.slice 9 Rep.str).mark true y0 (q)).2)
   have l2:((Rep.slice 5 Rep.byte).mark true y1 (((Rep.slice 9 Rep.str).mark true y0 (q)).2)).2≤((Rep.slice 9 Rep.str).mark true y0 (q)).2 + ((Rep.slice 5 Rep.byte).cnt:Nat):=(Rep.slice 5 Rep.byte).mark_le (e:=true) (k:=((Rep.slice 9 Rep.str).mark true y0 (q)).2) hA2.2
   have u2:((Rep.slice 5 Rep.byte).mark true y1 (((Rep.slice 9 Rep.str).mark true y0 (q)).2)).2≤4611686018427387904:=by have:=HQ.out;have:=M1.out;have e:RData.cnt=(Rep.slice 9 Rep.str).cnt + ((Rep.slice 5 Rep.byte).cnt + ((Rep.slice 9 Rep.str).cnt + (1 + (1)))):=rfl;unfold Top at *;omega
   have M2:=hD l2;clear l2
   clear C1_0 C1_1 C1_2 C1_3 C1_4 Z1_0 Z1_1 Z1_2 Z1_3 Z1_4 hA2 bk2 back2 hc2 hB2 hAB2 P2 X2 hcell2 hd2
   obtain ⟨c,B,hc,hB,hSb',hcell,hfz,back⟩:=Rep.own_get' Ox2 HL.out
   obtain ⟨d2_0,d2_1,d2_2,d2_3,d2_4,rfl⟩:∃ d2_0 d2_1 d2_2 d2_3 d2_4,c=[d2_0,d2_1,d2_2,d2_3,d2_4]:=by have h:=RData.len hc.1;match c,h with | [d2_0,d2_1,d2_2,d2_3,d2_4],_=>exact ⟨_,_,_,_,_,rfl⟩
   try simp only [setData_3,setData_4] at hc
   have C2_0:w2.cell? ⟨b,off + j * 5,none⟩=some d2_0:=hcell 0 _ rfl
   have Z2_0:=hfz (off + j * 5)
   have C2_1:w2.cell? ⟨b,off + j * 5 + 1,none⟩=some d2_1:=hcell 1 _ rfl
   have Z2_1:=hfz (off + j * 5 + 1)
   have C2_2:w2.cell? ⟨b,off + j * 5 + 2,none⟩=some d2_2:=hcell 2 _ rfl
   have Z2_2:=hfz (off + j * 5 + 2)
   have C2_3:w2.cell? ⟨b,off + j * 5 + 3,none⟩=some d2_3:=hcell 3 _ rfl
   have Z2_3:=hfz (off + j * 5 + 3)
   have C2_4:w2.cell? ⟨b,off + j * 5 + 4,none⟩=some d2_4:=hcell 4 _ rfl
   have Z2_4:=hfz (off + j * 5 + 4)
   clear hB hSb' hcell hfz back
   obtain ⟨s2v0,s2v1,s2v2,hce,s2_0,s2_1,s2_2,s2_3,s2_4,s2_5,s2_6⟩:=RData_raw hc.raw
   simp only [List.cons.injEq,and_true] at hce
   obtain ⟨rfl,rfl,rfl,rfl,rfl⟩:=hce
   obtain ⟨s2a0,s2p0,s2h0,_⟩:=Rep.kR s2_1;obtain rfl:d2_0=_:=by simpa using s2h0
   clear s2h0
   obtain ⟨s2a1,s2p1,s2h1,_⟩:=Rep.kR s2_2;obtain rfl:d2_1=_:=by simpa using s2h1
   clear s2h1
   obtain ⟨s2a2,s2p2,s2h2,_⟩:=Rep.kR s2_4;obtain rfl:d2_2=_:=by simpa using s2h2
   clear s2h2
   clear s2_0 s2_1 s2_2 s2_3 s2_4 s2_5 s2_6
   clear hc
   go_wp2_with fail
   obtain ⟨c3,B3,hc3,hB3,_,hcell3,_,back3⟩:=Rep.own_get' Ox2 HL.out
   obtain ⟨e3_0,e3_1,e3_2,e3_3,e3_4,rfl⟩:∃ e3_0 e3_1 e3_2 e3_3 e3_4,c3=[e3_0,e3_1,e3_2,e3_3,e3_4]:=by have h:=RData.len hc3.1;match c3,h with | [e3_0,e3_1,e3_2,e3_3,e3_4],_=>exact ⟨_,_,_,_,_,rfl⟩
   have hd3:=hcell3 2 _ rfl
   obtain rfl:e3_2=_:=by simpa [go_sem,C2_2,RData_n] using hd3.symm
   obtain ⟨A3,hA3,hAB3,bk3⟩:=RData_sub_2_0 hc3
   try simp only [setData_3,setData_4] at hA3
   refine (markStringS_c (k:=((Rep.slice 5 Rep.byte).mark true y1 (((Rep.slice 9 Rep.str).mark true y0 (q)).2)).2) hA3 (by omega) (by have:=HQ.out;have:=M1.out;have:=M2.out;have e:RData.cnt=(Rep.slice 9 Rep.str).cnt + ((Rep.slice 5 Rep.byte).cnt + ((Rep.slice 9 Rep.str).cnt + (1 + (1)))):=rfl;omega)).mono ?_
   rintro e w3 ⟨rfl,P3,X3⟩
   have Ox3:=back3 (bk3 P3 X3) (X3.wide hAB3)
   have Tx3:=Tx2.trans (X3.wide (fun i hi=>(hB3 i (hAB3 i hi)).1))
   have g3:=(Rep.slice 9 Rep.str).mark_ge (e:=true) (x:=y2) (k:=((Rep.slice 5 Rep.byte).mark true y1 (((Rep.slice 9 Rep.str).mark true y0 (q)).2)).2)
   have l3:((Rep.slice 9 Rep.str).mark true y2 (((Rep.slice 5 Rep.byte).mark true y1 (((Rep.slice 9 Rep.str).mark true y0 (q)).2)).2)).2≤((Rep.slice 5 Rep.byte).mark true y1 (((Rep.slice 9 Rep.str).mark true y0 (q)).2)).2 + ((Rep.slice 9 Rep.str).cnt:Nat):=(Rep.slice 9 Rep.str).mark_le (e:=true) (k:=((Rep.slice 5 Rep.byte).mark true y1 (((Rep.slice 9 Rep.str).mark true y0 (q)).2)).2) hA3.2
   have u3:((Rep.slice 9 Rep.str).mark true y2 (((Rep.slice 5 Rep.byte).mark true y1 (((Rep.slice 9 Rep.str).mark true y0 (q)).2)).2)).2≤4611686018427387904:=by have:=HQ.out;have:=M1.out;have:=M2.out;have e:RData.cnt=(Rep.slice 9 Rep.str).cnt + ((Rep.slice 5 Rep.byte).cnt + ((Rep.slice 9 Rep.str).cnt + (1 + (1)))):=rfl;unfold Top at *;omega
   have M3:=hD l3;clear l3
   clear C2_0 C2_1 C2_2 C2_3 C2_4 Z2_0 Z2_1 Z2_2 Z2_3 Z2_4 hA3 bk3 back3 hc3 hB3 hAB3 P3 X3 hcell3 hd3
   obtain ⟨c,B,hc,hB,hSb',hcell,hfz,back⟩:=Rep.own_get' Ox3 HL.out
   obtain ⟨d3_0,d3_1,d3_2,d3_3,d3_4,rfl⟩:∃ d3_0 d3_1 d3_2 d3_3 d3_4,c=[d3_0,d3_1,d3_2,d3_3,d3_4]:=by have h:=RData.len hc.1;match c,h with | [d3_0,d3_1,d3_2,d3_3,d3_4],_=>exact ⟨_,_,_,_,_,rfl⟩
   try simp only [setData_3,setData_4] at hc
   have C3_0:w3.cell? ⟨b,off + j * 5,none⟩=some d3_0:=hcell 0 _ rfl
   have Z3_0:=hfz (off + j * 5)
   have C3_1:w3.cell? ⟨b,off + j * 5 + 1,none⟩=some d3_1:=hcell 1 _ rfl
   have Z3_1:=hfz (off + j * 5 + 1)
   have C3_2:w3.cell? ⟨b,off + j * 5 + 2,none⟩=some d3_2:=hcell 2 _ rfl
   have Z3_2:=hfz (off + j * 5 + 2)
   have C3_3:w3.cell? ⟨b,off + j * 5 + 3,none⟩=some d3_3:=hcell 3 _ rfl
   have Z3_3:=hfz (off + j * 5 + 3)
   have C3_4:w3.cell? ⟨b,off + j * 5 + 4,none⟩=some d3_4:=hcell 4 _ rfl
   have Z3_4:=hfz (off + j * 5 + 4)
   clear hB hSb' hcell hfz back
   obtain ⟨s3v0,s3v1,s3v2,hce,s3_0,s3_1,s3_2,s3_3,s3_4,s3_5,s3_6⟩:=RData_raw hc.raw
   simp only [List.cons.injEq,and_true] at hce
   obtain ⟨rfl,rfl,rfl,rfl,rfl⟩:=hce
   obtain ⟨s3a0,s3p0,s3h0,_⟩:=Rep.kR s3_1;obtain rfl:d3_0=_:=by simpa using s3h0
   clear s3h0
   obtain ⟨s3a1,s3p1,s3h1,_⟩:=Rep.kR s3_2;obtain rfl:d3_1=_:=by simpa using s3h1
   clear s3h1
   obtain ⟨s3a2,s3p2,s3h2,_⟩:=Rep.kR s3_4;obtain rfl:d3_2=_:=by simpa using s3h2
   clear s3h2
   clear s3_0 s3_1 s3_2 s3_3 s3_4 s3_5 s3_6
   clear hc
   obtain ⟨O1,T1⟩:=Rep.own_setCell' (v:=.int .i64 (((Rep.slice 9 Rep.str).mark true y2 (((Rep.slice 5 Rep.byte).mark true y1 (((Rep.slice 9 Rep.str).mark true y0 (q)).2)).2)).2)) (p:=off + j * 5 + 3) Ox3 HL.out (show 3 < RData.n by decide) (RData_set3 _ ⟨by omega,by omega⟩) (fun h=>h) (show off + j * 5 + 3=off + j * 5 + 3 by omega)
   have T1:=Tx3.trans (T1.wide (fun i hi=>by rw [hi];exact hSb))
   obtain ⟨O2,T2⟩:=Rep.own_setCell' (v:=.int .i64 (((Rep.slice 9 Rep.str).mark true y2 (((Rep.slice 5 Rep.byte).mark true y1 (((Rep.slice 9 Rep.str).mark true y0 (q)).2)).2)).2 + 1)) (p:=off + j * 5 + 4) O1 HL.out (show 4 < RData.n by decide) (RData_set4 _ ⟨by omega,by omega⟩) (fun h=>h) (show off + j * 5 + 4=off + j * 5 + 4 by omega)
   have T2:=T1.trans (T2.wide (fun i hi=>by rw [hi];exact hSb))
   have EQ:=HEH.out _ rfl
   have OF:=hD (EQ.out ▸ O2);have TF:=hD T2
   have QF:Hid ((((Rep.slice 9 Rep.str).mark true y2 (((Rep.slice 5 Rep.byte).mark true y1 (((Rep.slice 9 Rep.str).mark true y0 (q)).2)).2)).2 + 1 + 1)=(Rep.mkL RData (x.take (j + 1)) k).2):=hD (by rw [HF.out];rfl)
   go_wp2
   go_roundw
   case rel=>exact ⟨j + 1,by omega,by go_num,by rw [← QF.out],OF.out,TF.out⟩
   simp [intOf];omega
 obtain ⟨e1,e2⟩:=Rep.mark_full (r:=RData) (k:=k) hlt
 rw [e1] at hown
 have HO:=hD hown;have HT:=hD e2;clear hown e1 e2
 go_wp2
 go_ret
 exact ⟨ret_int HT.out,HO.out,ht⟩
end Go.Proofs.YtomdenfcfbkfbaaGreat

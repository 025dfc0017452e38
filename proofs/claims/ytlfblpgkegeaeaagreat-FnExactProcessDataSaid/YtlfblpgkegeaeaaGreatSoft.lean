/-
  The laws' markings at more types. Printed by genmark.py.
  The laws' markings at more types. Printed by genmark.py.
  A region that draws its order, walked in the order of its text: operations that only read are taken first; at each other operation it alone may come up. No program in sight.
-/
import Derived.Test.YtlfblpgkegeaeaaGreatMarkN
import Derived.Test.YtlfblpgkegeaeaaGreatMarkO
import Derived.OrdersHeld
import Derived.StillTail
set_option linter.unusedVariables false
set_option linter.unusedSimpArgs false
set_option linter.unnecessarySimpa false
set_option maxRecDepth 100000
set_option maxHeartbeats 16000000
namespace Go.Proofs.YtlfblpgkegeaeaaGreat
open Go.RowKit
theorem kVt {w:World} {ca:List Value} {x:kHg} {k:Int} {S:Nat→Prop} (ha:yP.own w ca x S) (hk0:0≤k) (hk1:k + (yP.cnt:Nat)≤Top) :
    Calls Tryz.prog 22 #[.agg ca.toArray,.int .i64 k] w (zZ yP false x k ca S w):=by
 have hl:=ha.live
 obtain ⟨av0,av2,av3,av4,av5,av6,av8,rfl,a_0,a_1,a_2,a_3,a_4,a_5,a_6,a_7,a_8,a_9,a_10⟩:=yB ha.raw
 obtain ⟨x0,x1⟩:=x
 clear a_0 a_1 a_2 a_3 a_4 a_5 a_6 a_7 a_8 a_9 a_10
 have HQ:=yD hk1;clear hk1
 have k2:k≤4611686018427387904:=gP
 go_enter Tryz.func22,Tryz.ntmps22
 go_wp2_with fail
 have O0:=yD (fun o=>Rep.own.alloc hl o)
 obtain ⟨A1,hA1,hAB1,bk1⟩:=kUb (O0.out _)
 refine (kRu (k:=k) hA1 rP (by have:=HQ.out;have e:yP.cnt=jC.cnt + ((Rep.slice 128 kR).cnt):=rfl;omega)).mono ?_
 rintro e w1 ⟨rfl,P1,X1⟩
 have O1x:=bk1 P1 X1
 have g1:=jC.mark_ge (e:=false) (x:=x0) (k:=k)
 have l1:(jC.mark false x0 (k)).2≤k + (jC.cnt:Nat):=jC.mark_le (e:=false) (k:=k) hA1.2
 have u1:(jC.mark false x0 (k)).2≤4611686018427387904:=by have:=HQ.out;have e:yP.cnt=jC.cnt + ((Rep.slice 128 kR).cnt):=rfl;unfold Top at *;omega
 have M1:=yD l1;clear l1
 have T1x:Touch S w w1:=(Touch.of_below (Rep.zy w _)).trans (X1.wide (fun i hi=>(hAB1 i hi).1))
 have hz1:w.heap.size + 1≤w1.heap.size:=nG
 have hc1:∀ o,w1.cell? ⟨w.heap.size,o,none⟩=_:=fun o=>World.cell?_of_block (a:=⟨w.heap.size,o,none⟩) (X1.block w.heap.size rQ mR)
 have hf1:∀ o,w1.frozen? ⟨w.heap.size,o,none⟩=_:=fun o=>World.frozen?_of_block (a:=⟨w.heap.size,o,none⟩) (X1.block w.heap.size rQ mR)
 simp [go_sem] at hc1
 clear hA1 hAB1 bk1 P1 X1
 go_wp2_with fail
 obtain ⟨A2,hA2,hAB2,bk2⟩:=kUa O1x
 refine (kPr (k:=(jC.mark false x0 (k)).2) hA2 rP (by have:=HQ.out;have:=M1.out;have e:yP.cnt=jC.cnt + ((Rep.slice 128 kR).cnt):=rfl;omega)).mono ?_
 rintro e w2 ⟨rfl,P2,X2⟩
 have O2x:=bk2 P2 X2
 have g2:=(Rep.slice 128 kR).mark_ge (e:=true) (x:=x1) (k:=(jC.mark false x0 (k)).2)
 have l2:((Rep.slice 128 kR).mark true x1 ((jC.mark false x0 (k)).2)).2≤(jC.mark false x0 (k)).2 + ((Rep.slice 128 kR).cnt:Nat):=(Rep.slice 128 kR).mark_le (e:=true) (k:=(jC.mark false x0 (k)).2) hA2.2
 have u2:((Rep.slice 128 kR).mark true x1 ((jC.mark false x0 (k)).2)).2≤4611686018427387904:=by have:=HQ.out;have:=M1.out;have e:yP.cnt=jC.cnt + ((Rep.slice 128 kR).cnt):=rfl;unfold Top at *;omega
 have M2:=yD l2;clear l2
 have T2x:Touch S w w2:=T1x.trans (X2.wide (fun i hi=>(hAB2 i hi).1))
 have hz2:w.heap.size + 1≤w2.heap.size:=qA
 have hc2:∀ o,w2.cell? ⟨w.heap.size,o,none⟩=_:=fun o=>(World.cell?_of_block (a:=⟨w.heap.size,o,none⟩) (X2.block w.heap.size rP mW)).trans (hc1 o)
 clear hc1 hf1
 clear hA2 hAB2 bk2 P2 X2
 have OF:=yD (Rep.own.wide (T:=S) O2x (fun j hj=>hj.1));have TF:=yD T2x
 clear ha hl
 go_wp2
 go_ret
 exact ⟨rfl,OF.out,TF.out⟩
theorem markKeyS_c {w:World} {va:Value} {x:List kDu} {k:Int} {S:Nat→Prop} (ha:(Rep.slice 187 jg).own w [va] x S) (hk0:0≤k) (hk1:k + ((Rep.slice 187 jg).cnt:Nat)≤Top) :
    Calls Tryz.prog 85 #[va,.int .i64 k] w (zZ (Rep.slice 187 jg) true x k [va] S w):=by
 obtain ⟨aa,capa,rfl,la⟩:=Rep.sl ha.raw
 have lb:x.length≤16777216:=ha.2.1
 have hbd:=yD ha.2
 have HK:=yD hk1;clear hk1
 have hk2:k≤4611686018427387904:=gQ
 go_enter Tryz.func85,Tryz.ntmps85
 go_wp2
 go_loopw [1,5] (fun l i wr=>∃ (j:Nat),j≤x.length∧i=.int .i64 j∧l=.int .i64 (Rep.mkL jg (x.take j) k).2∧(Rep.slice 187 jg).own wr [.slice aa x.length capa] ((Rep.mkL jg (x.take j) k).1++x.drop j) S∧Touch S w wr) (fun _ i _=>x.length - (intOf i).toNat)
 case atStart=>exact ⟨0,Nat.zero_le _,rfl,rfl,by simpa [Rep.mkL] using ha,Touch.refl _ _⟩
 obtain ⟨j,hj,rfl,rfl,hown,ht⟩:=hrel
 by_cases hlt:j < x.length
 · obtain ⟨hln,b,off,rfl,hSb,hbw⟩:=Rep.zw hown qE
   clear hln
   rw [Rep.zn hlt] at hown
   obtain ⟨q0,q1⟩:=Rep.zo (e:=187) (r:=jg) hbd.out hlt HK.out hk0
   have HE:∀ y,y=(jg.mark true x[j] (Rep.mkL jg (x.take j) k).2).1→Hid (((Rep.mkL jg (x.take j) k).1++x.drop j).set j y=(Rep.mkL jg (x.take (j + 1)) k).1++x.drop (j + 1)):=fun y hy=>yD (Rep.kBc hlt hy)
   have HF:=yD (Rep.kAq (r:=jg) (k:=k) hlt)
   have hLl:j < ((Rep.mkL jg (x.take j) k).1++x.drop j).length:=pM
   have HL:=yD hLl;clear hLl
   generalize (Rep.mkL jg (x.take j) k).2=q at *
   generalize (Rep.mkL jg (x.take j) k).1++x.drop j=M at *
   generalize hx:x[j]=y at *
   have HX:=yD hx;clear hx
   obtain ⟨y0,y1⟩:=y
   have HEH:=yD HE;clear HE
   have HQ:=yD q1;clear q1
   have q2:q≤4611686018427387904:=gP
   obtain ⟨c,B,hc,hB,hSb',hcell,hfz,back⟩:=Rep.jH hown HL.out
   obtain ⟨d0_0,d0_1,rfl⟩:∃ d0_0 d0_1,c=[d0_0,d0_1]:=by have h:=jg.len hc.1;match c,h with | [d0_0,d0_1],_=>exact ⟨_,_,rfl⟩
   try simp only [kLq] at hc
   have C0_0:wr.cell? ⟨b,off + j * 2,none⟩=some d0_0:=hcell 0 _ rfl
   have Z0_0:=hfz (off + j * 2)
   have C0_1:wr.cell? ⟨b,off + j * 2 + 1,none⟩=some d0_1:=hcell 1 _ rfl
   have Z0_1:=hfz (off + j * 2 + 1)
   clear hB hSb' hcell hfz back
   obtain ⟨s0v0,hce,s0_0,s0_1,s0_2⟩:=kCe hc.raw
   simp only [List.cons.injEq,and_true] at hce
   obtain ⟨rfl,rfl⟩:=hce
   obtain ⟨s0a0,s0p0,rfl,_⟩:=Rep.sl s0_1
   clear s0_0 s0_1 s0_2
   clear hc
   go_wp2_with fail
   obtain ⟨c1,B1,hc1,hB1,_,hcell1,_,back1⟩:=Rep.jH hown HL.out
   obtain ⟨e1_0,e1_1,rfl⟩:∃ e1_0 e1_1,c1=[e1_0,e1_1]:=by have h:=jg.len hc1.1;match c1,h with | [e1_0,e1_1],_=>exact ⟨_,_,rfl⟩
   have hd1:=hcell1 0 _ rfl
   obtain rfl:e1_0=_:=by simpa [go_sem,C0_0,RKey_n] using hd1.symm
   obtain ⟨A1,hA1,hAB1,bk1⟩:=kWg hc1
   try simp only [kLq] at hA1
   refine (jl (k:=q) hA1 rP (by have:=HQ.out;have e:jg.cnt=(Rep.slice 9 Rep.str).cnt + (1):=rfl;omega)).mono ?_
   rintro e w1 ⟨rfl,P1,X1⟩
   have Ox1:=back1 (bk1 P1 X1) (X1.wide hAB1)
   have Tx1:=ht.trans (X1.wide (fun i hi=>(hB1 i (hAB1 i hi)).1))
   have g1:=(Rep.slice 9 Rep.str).mark_ge (e:=true) (x:=y0) (k:=q)
   have l1:((Rep.slice 9 Rep.str).mark true y0 (q)).2≤q + ((Rep.slice 9 Rep.str).cnt:Nat):=(Rep.slice 9 Rep.str).mark_le (e:=true) (k:=q) hA1.2
   have u1:((Rep.slice 9 Rep.str).mark true y0 (q)).2≤4611686018427387904:=by have:=HQ.out;have e:jg.cnt=(Rep.slice 9 Rep.str).cnt + (1):=rfl;unfold Top at *;omega
   have M1:=yD l1;clear l1
   clear C0_0 C0_1 Z0_0 Z0_1 hA1 bk1 back1 hc1 hB1 hAB1 P1 X1 hcell1 hd1
   obtain ⟨c,B,hc,hB,hSb',hcell,hfz,back⟩:=Rep.jH Ox1 HL.out
   obtain ⟨d1_0,d1_1,rfl⟩:∃ d1_0 d1_1,c=[d1_0,d1_1]:=by have h:=jg.len hc.1;match c,h with | [d1_0,d1_1],_=>exact ⟨_,_,rfl⟩
   try simp only [kLq] at hc
   have C1_0:w1.cell? ⟨b,off + j * 2,none⟩=some d1_0:=hcell 0 _ rfl
   have Z1_0:=hfz (off + j * 2)
   have C1_1:w1.cell? ⟨b,off + j * 2 + 1,none⟩=some d1_1:=hcell 1 _ rfl
   have Z1_1:=hfz (off + j * 2 + 1)
   clear hB hSb' hcell hfz back
   obtain ⟨s1v0,hce,s1_0,s1_1,s1_2⟩:=kCe hc.raw
   simp only [List.cons.injEq,and_true] at hce
   obtain ⟨rfl,rfl⟩:=hce
   obtain ⟨s1a0,s1p0,rfl,_⟩:=Rep.sl s1_1
   clear s1_0 s1_1 s1_2
   clear hc
   obtain ⟨O1,T1⟩:=Rep.jU (v:=.int .i64 (((Rep.slice 9 Rep.str).mark true y0 (q)).2)) (p:=off + j * 2 + 1) Ox1 HL.out (show 1 < jg.n by decide) (RKey_set1 _ ⟨by omega,by omega⟩) (fun h=>h) (show off + j * 2 + 1=off + j * 2 + 1 by omega)
   have T1:=Tx1.trans (T1.wide nR)
   have EQ:=HEH.out _ rfl
   have OF:=yD (EQ.out ▸ O1);have TF:=yD T1
   have QF:Hid ((((Rep.slice 9 Rep.str).mark true y0 (q)).2 + 1)=(Rep.mkL jg (x.take (j + 1)) k).2):=yD qL
   go_wp2
   go_roundw
   case rel=>exact ⟨j + 1,by omega,by go_num,by rw [← QF.out],OF.out,TF.out⟩
   simp [intOf];omega
 obtain ⟨e1,e2⟩:=Rep.kAp (r:=jg) (k:=k) hlt
 rw [e1] at hown
 have HO:=yD hown;have HT:=yD e2;clear hown e1 e2
 go_wp2
 go_ret
 exact ⟨ku HT.out,HO.out,ht⟩
theorem markRuleS_c {w:World} {va:Value} {x:List kBb} {k:Int} {S:Nat→Prop} (ha:(Rep.slice 191 jM).own w [va] x S) (hk0:0≤k) (hk1:k + ((Rep.slice 191 jM).cnt:Nat)≤Top) :
    Calls Tryz.prog 86 #[va,.int .i64 k] w (zZ (Rep.slice 191 jM) true x k [va] S w):=by
 obtain ⟨aa,capa,rfl,la⟩:=Rep.sl ha.raw
 have lb:x.length≤16777216:=ha.2.1
 have hbd:=yD ha.2
 have HK:=yD hk1;clear hk1
 have hk2:k≤4611686018427387904:=gQ
 go_enter Tryz.func86,Tryz.ntmps86
 go_wp2
 go_loopw [1,5] (fun l i wr=>∃ (j:Nat),j≤x.length∧i=.int .i64 j∧l=.int .i64 (Rep.mkL jM (x.take j) k).2∧(Rep.slice 191 jM).own wr [.slice aa x.length capa] ((Rep.mkL jM (x.take j) k).1++x.drop j) S∧Touch S w wr) (fun _ i _=>x.length - (intOf i).toNat)
 case atStart=>exact ⟨0,Nat.zero_le _,rfl,rfl,by simpa [Rep.mkL] using ha,Touch.refl _ _⟩
 obtain ⟨j,hj,rfl,rfl,hown,ht⟩:=hrel
 by_cases hlt:j < x.length
 · obtain ⟨hln,b,off,rfl,hSb,hbw⟩:=Rep.zw hown qE
   clear hln
   rw [Rep.zn hlt] at hown
   obtain ⟨q0,q1⟩:=Rep.zo (e:=191) (r:=jM) hbd.out hlt HK.out hk0
   have HE:∀ y,y=(jM.mark true x[j] (Rep.mkL jM (x.take j) k).2).1→Hid (((Rep.mkL jM (x.take j) k).1++x.drop j).set j y=(Rep.mkL jM (x.take (j + 1)) k).1++x.drop (j + 1)):=fun y hy=>yD (Rep.kBc hlt hy)
   have HF:=yD (Rep.kAq (r:=jM) (k:=k) hlt)
   have hLl:j < ((Rep.mkL jM (x.take j) k).1++x.drop j).length:=pM
   have HL:=yD hLl;clear hLl
   generalize (Rep.mkL jM (x.take j) k).2=q at *
   generalize (Rep.mkL jM (x.take j) k).1++x.drop j=M at *
   generalize hx:x[j]=y at *
   have HX:=yD hx;clear hx
   obtain ⟨y0,y1⟩:=y
   have HEH:=yD HE;clear HE
   have HQ:=yD q1;clear q1
   have q2:q≤4611686018427387904:=gP
   obtain ⟨c,B,hc,hB,hSb',hcell,hfz,back⟩:=Rep.jH hown HL.out
   obtain ⟨d0_0,d0_1,rfl⟩:∃ d0_0 d0_1,c=[d0_0,d0_1]:=by have h:=jM.len hc.1;match c,h with | [d0_0,d0_1],_=>exact ⟨_,_,rfl⟩
   have C0_0:wr.cell? ⟨b,off + j * 2,none⟩=some d0_0:=hcell 0 _ rfl
   have Z0_0:=hfz (off + j * 2)
   have C0_1:wr.cell? ⟨b,off + j * 2 + 1,none⟩=some d0_1:=hcell 1 _ rfl
   have Z0_1:=hfz (off + j * 2 + 1)
   clear hB hSb' hcell hfz back
   obtain ⟨s0v0,s0v1,hce,s0_0,s0_1,s0_2,s0_3⟩:=kAe hc.raw
   simp only [List.cons.injEq,and_true] at hce
   obtain ⟨rfl,rfl⟩:=hce
   obtain ⟨s0a0,s0p0,rfl,_⟩:=Rep.sl s0_1
   obtain ⟨s0a1,s0p1,rfl,_⟩:=Rep.sl s0_3
   clear s0_0 s0_1 s0_2 s0_3
   clear hc
   go_wp2_with fail
   obtain ⟨c1,B1,hc1,hB1,_,hcell1,_,back1⟩:=Rep.jH hown HL.out
   obtain ⟨e1_0,e1_1,rfl⟩:∃ e1_0 e1_1,c1=[e1_0,e1_1]:=by have h:=jM.len hc1.1;match c1,h with | [e1_0,e1_1],_=>exact ⟨_,_,rfl⟩
   have hd1:=hcell1 0 _ rfl
   obtain rfl:e1_0=_:=by simpa [go_sem,C0_0,RRule_n] using hd1.symm
   obtain ⟨A1,hA1,hAB1,bk1⟩:=kTx hc1
   refine (jl (k:=q) hA1 rP (by have:=HQ.out;have e:jM.cnt=(Rep.slice 9 Rep.str).cnt + ((Rep.slice 9 Rep.str).cnt):=rfl;omega)).mono ?_
   rintro e w1 ⟨rfl,P1,X1⟩
   have Ox1:=back1 (bk1 P1 X1) (X1.wide hAB1)
   have Tx1:=ht.trans (X1.wide (fun i hi=>(hB1 i (hAB1 i hi)).1))
   have g1:=(Rep.slice 9 Rep.str).mark_ge (e:=true) (x:=y0) (k:=q)
   have l1:((Rep.slice 9 Rep.str).mark true y0 (q)).2≤q + ((Rep.slice 9 Rep.str).cnt:Nat):=(Rep.slice 9 Rep.str).mark_le (e:=true) (k:=q) hA1.2
   have u1:((Rep.slice 9 Rep.str).mark true y0 (q)).2≤4611686018427387904:=by have:=HQ.out;have e:jM.cnt=(Rep.slice 9 Rep.str).cnt + ((Rep.slice 9 Rep.str).cnt):=rfl;unfold Top at *;omega
   have M1:=yD l1;clear l1
   clear C0_0 C0_1 Z0_0 Z0_1 hA1 bk1 back1 hc1 hB1 hAB1 P1 X1 hcell1 hd1
   obtain ⟨c,B,hc,hB,hSb',hcell,hfz,back⟩:=Rep.jH Ox1 HL.out
   obtain ⟨d1_0,d1_1,rfl⟩:∃ d1_0 d1_1,c=[d1_0,d1_1]:=by have h:=jM.len hc.1;match c,h with | [d1_0,d1_1],_=>exact ⟨_,_,rfl⟩
   have C1_0:w1.cell? ⟨b,off + j * 2,none⟩=some d1_0:=hcell 0 _ rfl
   have Z1_0:=hfz (off + j * 2)
   have C1_1:w1.cell? ⟨b,off + j * 2 + 1,none⟩=some d1_1:=hcell 1 _ rfl
   have Z1_1:=hfz (off + j * 2 + 1)
   clear hB hSb' hcell hfz back
   obtain ⟨s1v0,s1v1,hce,s1_0,s1_1,s1_2,s1_3⟩:=kAe hc.raw
   simp only [List.cons.injEq,and_true] at hce
   obtain ⟨rfl,rfl⟩:=hce
   obtain ⟨s1a0,s1p0,rfl,_⟩:=Rep.sl s1_1
   obtain ⟨s1a1,s1p1,rfl,_⟩:=Rep.sl s1_3
   clear s1_0 s1_1 s1_2 s1_3
   clear hc
   go_wp2_with fail
   obtain ⟨c2,B2,hc2,hB2,_,hcell2,_,back2⟩:=Rep.jH Ox1 HL.out
   obtain ⟨e2_0,e2_1,rfl⟩:∃ e2_0 e2_1,c2=[e2_0,e2_1]:=by have h:=jM.len hc2.1;match c2,h with | [e2_0,e2_1],_=>exact ⟨_,_,rfl⟩
   have hd2:=hcell2 1 _ rfl
   obtain rfl:e2_1=_:=by simpa [go_sem,C1_1,RRule_n] using hd2.symm
   obtain ⟨A2,hA2,hAB2,bk2⟩:=kTw hc2
   refine (jl (k:=((Rep.slice 9 Rep.str).mark true y0 (q)).2) hA2 rP (by have:=HQ.out;have:=M1.out;have e:jM.cnt=(Rep.slice 9 Rep.str).cnt + ((Rep.slice 9 Rep.str).cnt):=rfl;omega)).mono ?_
   rintro e w2 ⟨rfl,P2,X2⟩
   have Ox2:=back2 (bk2 P2 X2) (X2.wide hAB2)
   have Tx2:=Tx1.trans (X2.wide (fun i hi=>(hB2 i (hAB2 i hi)).1))
   have g2:=(Rep.slice 9 Rep.str).mark_ge (e:=true) (x:=y1) (k:=((Rep.slice 9 Rep.str).mark true y0 (q)).2)
   have l2:((Rep.slice 9 Rep.str).mark true y1 (((Rep.slice 9 Rep.str).mark true y0 (q)).2)).2≤((Rep.slice 9 Rep.str).mark true y0 (q)).2 + ((Rep.slice 9 Rep.str).cnt:Nat):=(Rep.slice 9 Rep.str).mark_le (e:=true) (k:=((Rep.slice 9 Rep.str).mark true y0 (q)).2) hA2.2
   have u2:((Rep.slice 9 Rep.str).mark true y1 (((Rep.slice 9 Rep.str).mark true y0 (q)).2)).2≤4611686018427387904:=by have:=HQ.out;have:=M1.out;have e:jM.cnt=(Rep.slice 9 Rep.str).cnt + ((Rep.slice 9 Rep.str).cnt):=rfl;unfold Top at *;omega
   have M2:=yD l2;clear l2
   clear C1_0 C1_1 Z1_0 Z1_1 hA2 bk2 back2 hc2 hB2 hAB2 P2 X2 hcell2 hd2
   obtain ⟨c,B,hc,hB,hSb',hcell,hfz,back⟩:=Rep.jH Ox2 HL.out
   obtain ⟨d2_0,d2_1,rfl⟩:∃ d2_0 d2_1,c=[d2_0,d2_1]:=by have h:=jM.len hc.1;match c,h with | [d2_0,d2_1],_=>exact ⟨_,_,rfl⟩
   have C2_0:w2.cell? ⟨b,off + j * 2,none⟩=some d2_0:=hcell 0 _ rfl
   have Z2_0:=hfz (off + j * 2)
   have C2_1:w2.cell? ⟨b,off + j * 2 + 1,none⟩=some d2_1:=hcell 1 _ rfl
   have Z2_1:=hfz (off + j * 2 + 1)
   clear hB hSb' hcell hfz back
   obtain ⟨s2v0,s2v1,hce,s2_0,s2_1,s2_2,s2_3⟩:=kAe hc.raw
   simp only [List.cons.injEq,and_true] at hce
   obtain ⟨rfl,rfl⟩:=hce
   obtain ⟨s2a0,s2p0,rfl,_⟩:=Rep.sl s2_1
   obtain ⟨s2a1,s2p1,rfl,_⟩:=Rep.sl s2_3
   clear s2_0 s2_1 s2_2 s2_3
   clear hc
   have EQ:=HEH.out _ rfl
   have OF:=yD (EQ.out ▸ Ox2);have TF:=yD Tx2
   have QF:Hid ((((Rep.slice 9 Rep.str).mark true y1 (((Rep.slice 9 Rep.str).mark true y0 (q)).2)).2)=(Rep.mkL jM (x.take (j + 1)) k).2):=yD qL
   go_wp2
   go_roundw
   case rel=>exact ⟨j + 1,by omega,by go_num,by rw [← QF.out],OF.out,TF.out⟩
   simp [intOf];omega
 obtain ⟨e1,e2⟩:=Rep.kAp (r:=jM) (k:=k) hlt
 rw [e1] at hown
 have HO:=yD hown;have HT:=yD e2;clear hown e1 e2
 go_wp2
 go_ret
 exact ⟨ku HT.out,HO.out,ht⟩
theorem kLx {w:World} {ca:List Value} {x:kz} {k:Int} {S:Nat→Prop} (ha:kT.own w ca x S) (hk0:0≤k) (hk1:k + (kT.cnt:Nat)≤Top) :
    Calls Tryz.prog 20 #[.agg ca.toArray,.int .i64 k] w (zZ kT false x k ca S w):=by
 have hl:=ha.live
 obtain ⟨av0,av1,av2,av3,rfl,a_0,a_1,a_2,a_3⟩:=kw ha.raw
 obtain ⟨x0,x1,x2,x3⟩:=x
 clear a_0 a_1 a_2 a_3
 have HQ:=yD hk1;clear hk1
 have k2:k≤4611686018427387904:=gP
 go_enter Tryz.func20,Tryz.ntmps20
 go_wp2_with fail
 have O0:=yD (fun o=>Rep.own.alloc hl o)
 obtain ⟨A1,hA1,hAB1,bk1⟩:=kLf (O0.out _)
 refine (markKeyS_c (k:=k) hA1 rP (by have:=HQ.out;have e:kT.cnt=(Rep.slice 187 jg).cnt + ((Rep.slice 191 jM).cnt + ((Rep.slice 64 kL).cnt + ((Rep.slice 66 kP).cnt))):=rfl;omega)).mono ?_
 rintro e w1 ⟨rfl,P1,X1⟩
 have O1x:=bk1 P1 X1
 have g1:=(Rep.slice 187 jg).mark_ge (e:=true) (x:=x0) (k:=k)
 have l1:((Rep.slice 187 jg).mark true x0 (k)).2≤k + ((Rep.slice 187 jg).cnt:Nat):=(Rep.slice 187 jg).mark_le (e:=true) (k:=k) hA1.2
 have u1:((Rep.slice 187 jg).mark true x0 (k)).2≤4611686018427387904:=by have:=HQ.out;have e:kT.cnt=(Rep.slice 187 jg).cnt + ((Rep.slice 191 jM).cnt + ((Rep.slice 64 kL).cnt + ((Rep.slice 66 kP).cnt))):=rfl;unfold Top at *;omega
 have M1:=yD l1;clear l1
 have T1x:Touch S w w1:=(Touch.of_below (Rep.zy w _)).trans (X1.wide (fun i hi=>(hAB1 i hi).1))
 have hz1:w.heap.size + 1≤w1.heap.size:=nG
 have hc1:∀ o,w1.cell? ⟨w.heap.size,o,none⟩=_:=fun o=>World.cell?_of_block (a:=⟨w.heap.size,o,none⟩) (X1.block w.heap.size rQ mR)
 have hf1:∀ o,w1.frozen? ⟨w.heap.size,o,none⟩=_:=fun o=>World.frozen?_of_block (a:=⟨w.heap.size,o,none⟩) (X1.block w.heap.size rQ mR)
 simp [go_sem] at hc1
 clear hA1 hAB1 bk1 P1 X1
 go_wp2_with fail
 obtain ⟨A2,hA2,hAB2,bk2⟩:=kLe O1x
 refine (markRuleS_c (k:=((Rep.slice 187 jg).mark true x0 (k)).2) hA2 rP (by have:=HQ.out;have:=M1.out;have e:kT.cnt=(Rep.slice 187 jg).cnt + ((Rep.slice 191 jM).cnt + ((Rep.slice 64 kL).cnt + ((Rep.slice 66 kP).cnt))):=rfl;omega)).mono ?_
 rintro e w2 ⟨rfl,P2,X2⟩
 have O2x:=bk2 P2 X2
 have g2:=(Rep.slice 191 jM).mark_ge (e:=true) (x:=x1) (k:=((Rep.slice 187 jg).mark true x0 (k)).2)
 have l2:((Rep.slice 191 jM).mark true x1 (((Rep.slice 187 jg).mark true x0 (k)).2)).2≤((Rep.slice 187 jg).mark true x0 (k)).2 + ((Rep.slice 191 jM).cnt:Nat):=(Rep.slice 191 jM).mark_le (e:=true) (k:=((Rep.slice 187 jg).mark true x0 (k)).2) hA2.2
 have u2:((Rep.slice 191 jM).mark true x1 (((Rep.slice 187 jg).mark true x0 (k)).2)).2≤4611686018427387904:=by have:=HQ.out;have:=M1.out;have e:kT.cnt=(Rep.slice 187 jg).cnt + ((Rep.slice 191 jM).cnt + ((Rep.slice 64 kL).cnt + ((Rep.slice 66 kP).cnt))):=rfl;unfold Top at *;omega
 have M2:=yD l2;clear l2
 have T2x:Touch S w w2:=T1x.trans (X2.wide (fun i hi=>(hAB2 i hi).1))
 have hz2:w.heap.size + 1≤w2.heap.size:=qA
 have hc2:∀ o,w2.cell? ⟨w.heap.size,o,none⟩=_:=fun o=>(World.cell?_of_block (a:=⟨w.heap.size,o,none⟩) (X2.block w.heap.size rP mW)).trans (hc1 o)
 clear hc1 hf1
 clear hA2 hAB2 bk2 P2 X2
 go_wp2_with fail
 obtain ⟨A3,hA3,hAB3,bk3⟩:=kLd O2x
 refine (markNameS_c (k:=((Rep.slice 191 jM).mark true x1 (((Rep.slice 187 jg).mark true x0 (k)).2)).2) hA3 rP (by have:=HQ.out;have:=M1.out;have:=M2.out;have e:kT.cnt=(Rep.slice 187 jg).cnt + ((Rep.slice 191 jM).cnt + ((Rep.slice 64 kL).cnt + ((Rep.slice 66 kP).cnt))):=rfl;omega)).mono ?_
 rintro e w3 ⟨rfl,P3,X3⟩
 have O3x:=bk3 P3 X3
 have g3:=(Rep.slice 64 kL).mark_ge (e:=true) (x:=x2) (k:=((Rep.slice 191 jM).mark true x1 (((Rep.slice 187 jg).mark true x0 (k)).2)).2)
 have l3:((Rep.slice 64 kL).mark true x2 (((Rep.slice 191 jM).mark true x1 (((Rep.slice 187 jg).mark true x0 (k)).2)).2)).2≤((Rep.slice 191 jM).mark true x1 (((Rep.slice 187 jg).mark true x0 (k)).2)).2 + ((Rep.slice 64 kL).cnt:Nat):=(Rep.slice 64 kL).mark_le (e:=true) (k:=((Rep.slice 191 jM).mark true x1 (((Rep.slice 187 jg).mark true x0 (k)).2)).2) hA3.2
 have u3:((Rep.slice 64 kL).mark true x2 (((Rep.slice 191 jM).mark true x1 (((Rep.slice 187 jg).mark true x0 (k)).2)).2)).2≤4611686018427387904:=by have:=HQ.out;have:=M1.out;have:=M2.out;have e:kT.cnt=(Rep.slice 187 jg).cnt + ((Rep.slice 191 jM).cnt + ((Rep.slice 64 kL).cnt + ((Rep.slice 66 kP).cnt))):=rfl;unfold Top at *;omega
 have M3:=yD l3;clear l3
 have T3x:Touch S w w3:=T2x.trans (X3.wide (fun i hi=>(hAB3 i hi).1))
 have hz3:w.heap.size + 1≤w3.heap.size:=by have:=X3.size;omega
 have hc3:∀ o,w3.cell? ⟨w.heap.size,o,none⟩=_:=fun o=>(World.cell?_of_block (a:=⟨w.heap.size,o,none⟩) (X3.block w.heap.size rP mY)).trans (hc2 o)
 clear hc2
 clear hA3 hAB3 bk3 P3 X3
 go_wp2_with fail
 obtain ⟨A4,hA4,hAB4,bk4⟩:=kLc O3x
 refine (kOw (k:=((Rep.slice 64 kL).mark true x2 (((Rep.slice 191 jM).mark true x1 (((Rep.slice 187 jg).mark true x0 (k)).2)).2)).2) hA4 rP (by have:=HQ.out;have:=M1.out;have:=M2.out;have:=M3.out;have e:kT.cnt=(Rep.slice 187 jg).cnt + ((Rep.slice 191 jM).cnt + ((Rep.slice 64 kL).cnt + ((Rep.slice 66 kP).cnt))):=rfl;omega)).mono ?_
 rintro e w4 ⟨rfl,P4,X4⟩
 have O4x:=bk4 P4 X4
 have g4:=(Rep.slice 66 kP).mark_ge (e:=true) (x:=x3) (k:=((Rep.slice 64 kL).mark true x2 (((Rep.slice 191 jM).mark true x1 (((Rep.slice 187 jg).mark true x0 (k)).2)).2)).2)
 have l4:((Rep.slice 66 kP).mark true x3 (((Rep.slice 64 kL).mark true x2 (((Rep.slice 191 jM).mark true x1 (((Rep.slice 187 jg).mark true x0 (k)).2)).2)).2)).2≤((Rep.slice 64 kL).mark true x2 (((Rep.slice 191 jM).mark true x1 (((Rep.slice 187 jg).mark true x0 (k)).2)).2)).2 + ((Rep.slice 66 kP).cnt:Nat):=(Rep.slice 66 kP).mark_le (e:=true) (k:=((Rep.slice 64 kL).mark true x2 (((Rep.slice 191 jM).mark true x1 (((Rep.slice 187 jg).mark true x0 (k)).2)).2)).2) hA4.2
 have u4:((Rep.slice 66 kP).mark true x3 (((Rep.slice 64 kL).mark true x2 (((Rep.slice 191 jM).mark true x1 (((Rep.slice 187 jg).mark true x0 (k)).2)).2)).2)).2≤4611686018427387904:=by have:=HQ.out;have:=M1.out;have:=M2.out;have:=M3.out;have e:kT.cnt=(Rep.slice 187 jg).cnt + ((Rep.slice 191 jM).cnt + ((Rep.slice 64 kL).cnt + ((Rep.slice 66 kP).cnt))):=rfl;unfold Top at *;omega
 have M4:=yD l4;clear l4
 have T4x:Touch S w w4:=T3x.trans (X4.wide (fun i hi=>(hAB4 i hi).1))
 have hz4:w.heap.size + 1≤w4.heap.size:=by have:=X4.size;omega
 have hc4:∀ o,w4.cell? ⟨w.heap.size,o,none⟩=_:=fun o=>(World.cell?_of_block (a:=⟨w.heap.size,o,none⟩) (X4.block w.heap.size rP (fun q=>by have:=(hAB4 _ q).2;omega))).trans (hc3 o)
 clear hc3
 clear hA4 hAB4 bk4 P4 X4
 have OF:=yD (Rep.own.wide (T:=S) O4x (fun j hj=>hj.1));have TF:=yD T4x
 clear ha hl
 go_wp2
 go_ret
 exact ⟨rfl,OF.out,TF.out⟩
end Go.Proofs.YtlfblpgkegeaeaaGreat
namespace Go.Proofs.YtlfblpgkegeaeaaGreat
open Go Go.RowKit
def kRf (md:Region.Mode) (ops:Array Oper):Nat→List Bool→Array Bool→Bool
  | _,[],listed=>(Region.ready md ops listed).isEmpty
  | k,true :: p,listed=>(Region.ready md ops listed).contains k && Region.free md ops listed k && kRf md ops (k + 1) p (listed.setIfInBounds k true)
  | k,false :: p,listed=>(Region.ready md ops listed==[k]) && kRf md ops (k + 1) p (listed.setIfInBounds k true)
def softOk (md:Region.Mode) (ops:Array Oper) (p:List Bool):Bool:=Region.noSelect ops && (p.length==ops.size && kRf md ops 0 p (Array.replicate ops.size false))
section
variable {P:Program} {ops:Array Oper} {S:World→Prop} {Q:Exit→Act→World→Prop}
def kEi (P:Program) (ops:Array Oper) (S:World→Prop) (Q:Exit→Act→World→Prop):Nat→List Oper→List Bool→Act→World→Prop
  | k,o :: l,true :: p,a,w=>∃ v,YieldsIf P ops S o v a∧kEi P ops S Q (k + 1) l p (a.put o.dst v) w
  | k,o :: l,false :: p,a,w=>if Region.wanted o (yielded ops a.tmps) then o.wp P a w (fun a' w'=>S w'∧kEi P ops S Q (k + 1) l p a' w') Q∨(o.asks P a w∧LetsOut Q) else S w∧kEi P ops S Q (k + 1) l p (a.put o.dst undef) w
  | _,l,_,a,w=>wpList P ops Q l a w
@[irreducible] def soft (P:Program) (ops:Array Oper) (S:World→Prop) (Q:Exit→Act→World→Prop) (k:Nat) (l:List Oper) (p:List Bool) (a:Act) (w:World):Prop:=kEi P ops S Q k l p a w
theorem kIc (hs:Region.noSelect ops=true) (hQ:∀ c a d v w,Q (.panic c) (Act.put a d v) w→Q (.panic c) a w):∀ (p:List Bool) (l:List Oper) (k:Nat) (fuel:Nat) (listed:Array Bool) (a:Act) (w:World),
    l.length=p.length→(∀ j,l[j]?=ops[k + j]?)→p.length≤fuel→kRf .any ops k p listed=true→S w→kEi P ops S Q k l p a w→wpAnyH P .any ops Q S fuel listed a w
  | [],[],k,fuel,listed,a,w,_,_,_,hB,_,h=>wpAnyH_done (by simpa [kRf] using hB) (by simpa [kEi,wpList] using h) fuel
  | [],o :: l,k,fuel,listed,a,w,hl,_,_,hB,_,h=>by simp at hl
  | b :: p,[],k,fuel,listed,a,w,hl,_,_,hB,_,h=>by simp at hl
  | b :: p,o :: l,k,0,listed,a,w,hl,_,hf,hB,_,h=>by simp at hf
  | true :: p,o :: l,k,fuel + 1,listed,a,w,hl,ho,hf,hB,hS,h=>by
    obtain ⟨v,hy,h⟩:=h
    simp only [kRf,Bool.and_eq_true] at hB
    have h0:ops[k]?=some o:=pJ
    exact wpAnyH_take h0 hs hB.1.2 hB.1.1 (fun c a w=>hQ c a _ _ w) hy hS (kIc hs hQ p l (k + 1) fuel _ _ _ qU (fun j=>by have:=ho (j + 1);simpa [Nat.add_assoc,Nat.add_comm 1 j] using this) rA hB.2 hS h)
  | false :: p,o :: l,k,fuel + 1,listed,a,w,hl,ho,hf,hB,hS,h=>by
    simp only [kRf,Bool.and_eq_true,beq_iff_eq] at hB
    have h0:ops[k]?=some o:=pJ
    refine wpAnyH_all hB.1 rQ ?_
    intro j hj
    obtain rfl:j=k:=qY
    have go:∀ a' w',S w'∧kEi P ops S Q (j + 1) l p a' w'→S w'∧wpAnyH P .any ops Q S fuel (listed.setIfInBounds j true) a' w':=fun a' w' h' =>
      ⟨h'.1,kIc hs hQ p l (j + 1) fuel _ _ _ qU (fun i=>by have:=ho (i + 1);simpa [Nat.add_assoc,Nat.add_comm 1 i] using this) rA hB.2 h'.1 h'.2⟩
    refine wpOp_mono go ?_
    unfold wpOp
    simp only [h0]
    exact h
theorem jB {id:Nat} {a:Act} {w:World} {l:List Oper} (S:World→Prop) (p:List Bool) (hm:P.follows .mixedOrders=true) (hB:softOk .any l.toArray p=true)
    (hQ:∀ c a d v w,Q (.panic c) (Act.put a d v) w→Q (.panic c) a w) (hS:S { w with drawn:=w.drawn + 1 })
    (h:∀ w',S w'→soft P l.toArray S Q 0 l p a w'):(Code.region id l.toArray true).wp P Q a w:=by
 simp only [softOk,Bool.and_eq_true,beq_iff_eq] at hB
 have h:=h _ hS
 unfold soft at h
 exact wp_region_held (S:=S) hm (kIc hB.1 hQ p l 0 _ _ a _ (by simpa using hB.2.1.symm) (fun j=>by simp) (by rw [hB.2.1];exact Nat.le_refl _) hB.2.2 hS h)
def kGu (P:Program) (md:Region.Mode) (ops:Array Oper) (Q:Exit→Act→World→Prop) (S:World→Prop) (n:Nat) (L:Array Bool→Act→World→Prop):Nat→Array Bool→Act→World→Prop
  | 0,listed,a,w=>L listed a w
  | f + 1,listed,a,w =>
    Region.ready md ops listed≠[]∧∀ i∈Region.ready md ops listed,i < n∧wpOp P ops Q i (fun a' w'=>S w'∧kGu P md ops Q S n L f (listed.setIfInBounds i true) a' w') a w
theorem kEy {md:Region.Mode} {n g:Nat} {L:Array Bool→Act→World→Prop} (hL:∀ listed a w,L listed a w→wpAny P md ops Q g listed a w) :
    ∀ (f:Nat) (listed:Array Bool) (a:Act) (w:World),kGu P md ops Q S n L f listed a w→wpAny P md ops Q (f + g) listed a w
  | 0,listed,a,w,h=>by rw [Nat.zero_add];exact hL _ _ _ h
  | f + 1,listed,a,w,h=>by
    rw [show f + 1 + g=(f + g) + 1 by omega]
    exact ⟨fun h0=>absurd h0 h.1,fun i hi=>wpOp_mono (fun a' w' h'=>kEy hL f _ a' w' h'.2) (h.2 i hi).2⟩
theorem kJz {md:Region.Mode} {n i:Nat} {oi:Oper} {v:Value} {L:Array Bool→Act→World→Prop} (hi:ops[i]?=some oi) (hsel:∀ (j:Nat) (o:Oper) cs b,ops[j]?=some o→o.op≠.select cs b)
    (hQ:∀ c a w,Q (.panic c) (a.put oi.dst v) w→Q (.panic c) a w)
    (hs:Region.sinkB md ops n=true) (hc:Region.chainB md ops n=true) (hn:n < ops.size) (hin:i < n)
    (hdone:∀ listed a w,L listed a w→∀ j∈Region.ready md ops listed,n≤j) :
    ∀ (f:Nat) (listed:Array Bool) (a:Act) (w:World),HeadInv md ops n listed →
      (∀ j oj,ops[j]?=some oj→j≠i→listed.getD j true=false→(∀ e∈oj.after,Region.binds md e=true→e.on≠i)→oi.apart ops oj=true) →
      i∈Region.ready md ops listed→YieldsIf P ops S oi v a→S w →
      kGu P md ops Q S n L f (listed.setIfInBounds i true) (a.put oi.dst v) w→kGu P md ops Q S n L (f + 1) listed a w:=by
 intro f
 induction f with
 | zero =>
   intro listed a w inv _ hr hy hS H
   have hun:=(mem_ready.1 hr).1
   refine ⟨fun h=>(by rw [h] at hr;cases hr),fun j hj=>?_⟩
   have hjn:j < n:=by
     rcases Nat.lt_or_ge j n with h | h
     · exact h
     · exact absurd hj (tail_waits hs hc hn inv _ i rfl hin hun j h)
   refine ⟨hjn,?_⟩
   by_cases hji:j=i
   · subst hji;exact hy.wpOp hi hS ⟨hS,H⟩
   · have:=hdone _ _ _ H j (ready_mono hj hji)
     omega
 | succ f ih =>
   intro listed a w inv hfree hr hy hS H
   have hun:=(mem_ready.1 hr).1
   refine ⟨fun h=>(by rw [h] at hr;cases hr),fun j hj=>?_⟩
   have hjn:j < n:=by
     rcases Nat.lt_or_ge j n with h | h
     · exact h
     · exact absurd hj (tail_waits hs hc hn inv _ i rfl hin hun j h)
   refine ⟨hjn,?_⟩
   by_cases hji:j=i
   · subst hji;exact hy.wpOp hi hS ⟨hS,H⟩
   · have h1:=(H.2 j (ready_mono hj hji)).2
     obtain ⟨hjun,oj,hoj,hall⟩:=mem_ready.1 hj
     have hnot:∀ e∈oj.after,Region.binds md e=true→e.on≠i:=fun e he hb heq=>by
       have h1:=hall e he hb
       rw [heq,getD_both hun] at h1
       cases h1
     have h2:=wpOp_putIf hoj (hfree j oj hoj hji hjun hnot) (fun cs b=>hsel i oi cs b hi) (fun cs b=>hsel j oj cs b hoj) hQ hy h1
     have hfree':∀ k ok,ops[k]?=some ok→k≠i→(listed.setIfInBounds j true).getD k true=false →
         (∀ e∈ok.after,Region.binds md e=true→e.on≠i)→oi.apart ops ok=true:=fun k ok hk hki hun hno=>by
       refine hfree k ok hk hki ?_ hno
       by_cases hjk:j=k
       · subst hjk;exact hjun
       · rw [getD_set_ne true hjk] at hun;exact hun
     refine wpOp_mono (fun a' w' h3=>⟨h3.2.1,ih (listed.setIfInBounds j true) a' w' (inv.set hj hjn) hfree' (ready_mono hr (Ne.symm hji)) h3.1 h3.2.1 ?_⟩) h2
     rw [Array.setIfInBounds_comm _ _ hji]
     exact h3.2.2
def kKo (md:Region.Mode) (ops:Array Oper) (g:Nat):Nat→List Bool→Array Bool→Bool
  | k,[],listed=>Region.seqB md ops g k listed
  | k,true :: p,listed=>(Region.ready md ops listed).contains k && Region.free md ops listed k && kKo md ops g (k + 1) p (listed.setIfInBounds k true)
  | k,false :: p,listed=>(Region.ready md ops listed==[k]) && kKo md ops g (k + 1) p (listed.setIfInBounds k true)
def softTOk (md:Region.Mode) (ops:Array Oper) (p:List Bool):Bool :=
  Region.noSelect ops && (decide (p.length < ops.size) && (Region.sinkB md ops p.length && (Region.chainB md ops p.length && kKo md ops (ops.size - p.length) 0 p (Array.replicate ops.size false))))
theorem kGt {n g:Nat} (hsel:Region.noSelect ops=true) (hQ:∀ c a d v w,Q (.panic c) (Act.put a d v) w→Q (.panic c) a w)
    (hs:Region.sinkB .any ops n=true) (hc:Region.chainB .any ops n=true) (hn:n < ops.size):∀ (p:List Bool) (l:List Oper) (k:Nat) (listed:Array Bool) (a:Act) (w:World),
    k + p.length=n→(∀ j,l[j]?=ops[k + j]?)→HeadInv .any ops n listed→kKo .any ops g k p listed=true→l.length=p.length + g→S w→kEi P ops S Q k l p a w →
    kGu P .any ops Q S n (fun listed a w=>Region.seqB .any ops g n listed=true∧∃ l,(∀ j,l[j]?=ops[n + j]?)∧l.length=g∧wpList P ops Q l a w) p.length listed a w
  | [],l,k,listed,a,w,hk,ho,inv,hB,hl,hS,h=>by
    obtain rfl:k=n:=by simpa using hk
    refine ⟨by simpa [kKo] using hB,l,ho,by simpa using hl,?_⟩
    cases l <;> exact h
  | b :: p,[],k,listed,a,w,hk,ho,inv,hB,hl,hS,h=>by simp at hl;omega
  | true :: p,o :: l,k,listed,a,w,hk,ho,inv,hB,hl,hS,h=>by
    obtain ⟨v,hy,h⟩:=h
    simp only [kKo,Bool.and_eq_true] at hB
    have h0:ops[k]?=some o:=pJ
    have hr:k∈Region.ready .any ops listed:=by simpa using hB.1.1
    have hkn:k < n:=by simp at hk;omega
    exact kJz h0 (Region.noSelect_spec hsel) (fun c a w=>hQ c a _ _ w) hs hc hn hkn (fun listed' a' w' hL=>seqB_ready hL.1) p.length listed a w inv (Region.free_spec h0 hB.1.2) hr hy hS
      (kGt hsel hQ hs hc hn p l (k + 1) _ _ _ (by simp at hk;omega) (fun j=>by have:=ho (j + 1);simpa [Nat.add_assoc,Nat.add_comm 1 j] using this) (inv.set hr hkn) hB.2 (by simp at hl;omega) hS h)
  | false :: p,o :: l,k,listed,a,w,hk,ho,inv,hB,hl,hS,h=>by
    simp only [kKo,Bool.and_eq_true,beq_iff_eq] at hB
    have h0:ops[k]?=some o:=pJ
    have hr:k∈Region.ready .any ops listed:=by rw [hB.1];simp
    have hkn:k < n:=by simp at hk;omega
    refine ⟨by rw [hB.1];simp,fun j hj=>?_⟩
    rw [hB.1] at hj
    obtain rfl:j=k:=qY
    refine ⟨hkn,?_⟩
    have go:∀ a' w',S w'∧kEi P ops S Q (j + 1) l p a' w'→S w'∧kGu P .any ops Q S n (fun listed a w=>Region.seqB .any ops g n listed=true∧∃ l,(∀ j,l[j]?=ops[n + j]?)∧l.length=g∧wpList P ops Q l a w) p.length (listed.setIfInBounds j true) a' w':=fun a' w' h' =>
      ⟨h'.1,kGt hsel hQ hs hc hn p l (j + 1) _ _ _ (by simp at hk;omega) (fun i=>by have:=ho (i + 1);simpa [Nat.add_assoc,Nat.add_comm 1 i] using this) (inv.set hr hkn) hB.2 (by simp at hl;omega) h'.1 h'.2⟩
    refine wpOp_mono go ?_
    unfold wpOp
    simp only [h0]
    exact h
theorem jT {id:Nat} {a:Act} {w:World} {l:List Oper} (S:World→Prop) (p:List Bool) (hm:P.follows .mixedOrders=true) (hB:softTOk .any l.toArray p=true)
    (hQ:∀ c a d v w,Q (.panic c) (Act.put a d v) w→Q (.panic c) a w) (hS:S { w with drawn:=w.drawn + 1 })
    (h:∀ w',S w'→soft P l.toArray S Q 0 l p a w'):(Code.region id l.toArray true).wp P Q a w:=by
 simp only [softTOk,Bool.and_eq_true,decide_eq_true_eq] at hB
 have h:=h _ hS
 unfold soft at h
 have hsz:l.toArray.size=l.length:=rQ
 have inv0:HeadInv .any l.toArray p.length (Array.replicate l.toArray.size false) :=
   ⟨by simp,fun j oj _ hl=>(by rw [getD_replicate_false] at hl;cases hl),fun t _ ht=>getD_in (by simpa using ht) (getD_replicate_false _ _)⟩
 have H:=kGt (g:=l.toArray.size - p.length) hB.1 hQ hB.2.2.1 hB.2.2.2.1 hB.2.1 p l 0 _ a _ rQ (fun j=>by simp) inv0 hB.2.2.2.2 (by have:=hB.2.1;omega) hS h
 refine wp_region_any hm ?_
 have:=kEy (Q:=Q) (g:=l.toArray.size - p.length) (fun listed a' w' hL=>by
   obtain ⟨hq,l',ho,hl',hw⟩:=hL
   have:=wpAny_of_seq (md:=.any) (Q':=Q) l' p.length listed a' w' ho (by rw [hl'];exact hq) hw
   rwa [hl'] at this) _ _ _ _ H
 rw [show p.length + (l.toArray.size - p.length)=l.toArray.size by have:=hB.2.1;omega] at this
 exact this
theorem kEq:∀ (p:List Bool) (l:List Oper) (k:Nat) (a:Act) (w:World),S w→kEi P ops S Q k l p a w→wpList P ops Q l a w
  | [],l,k,a,w,_,h=>by cases l <;> exact h
  | b :: p,[],k,a,w,_,h=>by cases b <;> exact h
  | true :: p,o :: l,k,a,w,hS,h=>by
    obtain ⟨v,hy,h⟩:=h
    have:=kEq p l (k + 1) _ w hS h
    unfold wpList
    rcases hy with ⟨hw,hv⟩|⟨hw,rfl⟩
    · rw [if_pos hw];left;unfold Oper.wp;rw [hv w hS,Oper.upon_value];exact this
    · rw [if_neg (by rw [hw];exact Bool.false_ne_true)];exact this
  | false :: p,o :: l,k,a,w,hS,h=>by
    unfold wpList
    have h:if Region.wanted o (yielded ops a.tmps) then o.wp P a w (fun a' w'=>S w'∧kEi P ops S Q (k + 1) l p a' w') Q∨(o.asks P a w∧LetsOut Q) else S w∧kEi P ops S Q (k + 1) l p (a.put o.dst undef) w:=h
    split at h
    · rename_i hw;rw [if_pos hw];exact h.imp (Oper.wp_mono fun a' w' h'=>kEq p l (k + 1) a' w' h'.1 h'.2) id
    · rename_i hw;rw [if_neg hw];exact kEq p l (k + 1) _ w h.1 h.2
theorem jE {id:Nat} {a:Act} {w:World} {l:List Oper} (S:World→Prop) (p:List Bool) (hS:S w)
    (h:∀ w',S w'→soft P l.toArray S Q 0 l p a w'):(Code.region id l.toArray false).wp P Q a w:=by
 have h:=h _ hS
 unfold soft at h
 exact wp_region_lit (kEq p l 0 a w hS h)
def kKp (md:Region.Mode) (ops:Array Oper):List (Nat × Bool)→Array Bool→Bool
  | [],listed=>(Region.ready md ops listed).isEmpty
  | (k,true) :: p,listed=>(Region.ready md ops listed).contains k && Region.free md ops listed k && kKp md ops p (listed.setIfInBounds k true)
  | (k,false) :: p,listed=>(Region.ready md ops listed==[k]) && kKp md ops p (listed.setIfInBounds k true)
def jY (l:List Oper):List (Nat × Bool)→List Oper
  | []=>[]
  | (k,_) :: q=>match l[k]? with
    | some o=>o :: jY l q
    | none=>[]
def softPOk (md:Region.Mode) (ops:Array Oper) (q:List (Nat × Bool)):Bool:=Region.noSelect ops && (decide (q.length≤ops.size) && (q.all (fun x=>decide (x.1 < ops.size)) && kKp md ops q (Array.replicate ops.size false)))
theorem kGv {l:List Oper} (hs:Region.noSelect l.toArray=true) (hQ:∀ c a d v w,Q (.panic c) (Act.put a d v) w→Q (.panic c) a w):∀ (q:List (Nat × Bool)) (k:Nat) (fuel:Nat) (listed:Array Bool) (a:Act) (w:World),
    q.all (fun x=>decide (x.1 < l.toArray.size))=true→q.length≤fuel→kKp .any l.toArray q listed=true→S w→kEi P l.toArray S Q k (jY l q) (q.map (·.2)) a w→wpAnyH P .any l.toArray Q S fuel listed a w
  | [],k,fuel,listed,a,w,_,_,hB,_,h=>wpAnyH_done (by simpa [kKp] using hB) (by simpa [kEi,wpList,jY] using h) fuel
  | (i,b) :: q,k,0,listed,a,w,_,hf,hB,_,h=>by simp at hf
  | (i,true) :: q,k,fuel + 1,listed,a,w,hi,hf,hB,hS,h=>by
    simp only [List.all_cons,Bool.and_eq_true,decide_eq_true_eq] at hi
    have h0:l.toArray[i]?=some l.toArray[i]:=Array.getElem?_eq_getElem hi.1
    have hp:jY l ((i,true) :: q)=l.toArray[i] :: jY l q:=by
      have:l[i]?=some l.toArray[i]:=by simp
      simp only [jY,this]
    rw [hp] at h
    obtain ⟨v,hy,h⟩:=h
    simp only [kKp,Bool.and_eq_true] at hB
    exact wpAnyH_take h0 hs hB.1.2 hB.1.1 (fun c a w=>hQ c a _ _ w) hy hS (kGv hs hQ q (k + 1) fuel _ _ _ hi.2 rA hB.2 hS h)
  | (i,false) :: q,k,fuel + 1,listed,a,w,hi,hf,hB,hS,h=>by
    simp only [List.all_cons,Bool.and_eq_true,decide_eq_true_eq] at hi
    have h0:l.toArray[i]?=some l.toArray[i]:=Array.getElem?_eq_getElem hi.1
    have hp:jY l ((i,false) :: q)=l.toArray[i] :: jY l q:=by
      have:l[i]?=some l.toArray[i]:=by simp
      simp only [jY,this]
    rw [hp] at h
    simp only [kKp,Bool.and_eq_true,beq_iff_eq] at hB
    refine wpAnyH_all hB.1 rQ ?_
    intro j hj
    obtain rfl:j=i:=qY
    have go:∀ a' w',S w'∧kEi P l.toArray S Q (k + 1) (jY l q) (q.map (·.2)) a' w'→S w'∧wpAnyH P .any l.toArray Q S fuel (listed.setIfInBounds j true) a' w':=fun a' w' h' =>
      ⟨h'.1,kGv hs hQ q (k + 1) fuel _ _ _ hi.2 rA hB.2 h'.1 h'.2⟩
    refine wpOp_mono go ?_
    unfold wpOp
    simp only [h0]
    exact h
theorem yG {id:Nat} {a:Act} {w:World} {l:List Oper} (S:World→Prop) (q:List (Nat × Bool)) (hm:P.follows .mixedOrders=true) (hB:softPOk .any l.toArray q=true)
    (hQ:∀ c a d v w,Q (.panic c) (Act.put a d v) w→Q (.panic c) a w) (hS:S { w with drawn:=w.drawn + 1 })
    (h:∀ w',S w'→soft P l.toArray S Q 0 (jY l q) (q.map (·.2)) a w'):(Code.region id l.toArray true).wp P Q a w:=by
 simp only [softPOk,Bool.and_eq_true,decide_eq_true_eq] at hB
 have h:=h _ hS
 unfold soft at h
 exact wp_region_held (S:=S) hm (kGv hB.1 hQ q 0 _ _ a _ hB.2.2.1 hB.2.1 hB.2.2.2 hS h)
theorem jA {k:Nat} {a:Act} {w:World} (h:Q .normal a w):soft P ops S Q k [] [] a w:=by unfold soft;exact h
theorem jv {k:Nat} {o:Oper} {l:List Oper} {a:Act} {w:World} (h:wpList P ops Q (o :: l) a w):soft P ops S Q k (o :: l) [] a w:=by unfold soft;exact h
variable {k:Nat} {l:List Oper} {p:List Bool} {a:Act} {w:World} {o:Oper}
theorem kGk {v:Value} (hg:Region.wanted o (yielded ops a.tmps)=true)
    (hv:∀ w,S w→(execOp a.eval o).run P w=.ok (.value v) w) (h:soft P ops S Q (k + 1) l p (a.put o.dst v) w):soft P ops S Q k (o :: l) (true :: p) a w:=by
 unfold soft at h ⊢
 exact ⟨v,.inl ⟨hg,hv⟩,h⟩
theorem soft_part {v:Value} {b:Bool} (hg:Region.wanted o (yielded ops a.tmps)=true)
    (hv:∀ w,S w→(execOp a.eval o).run P w=.ok (.value v) w) (hb:v=.bool b) (h:∀ c:Bool,b=c→soft P ops S Q (k + 1) l p (a.put o.dst (.bool c)) w):soft P ops S Q k (o :: l) (true :: p) a w :=
  kGk hg hv (hb ▸ h b rfl)
theorem kU {b:Bool} (hg:Region.wanted o (yielded ops a.tmps)=false)
    (hS:S w) (h:soft P ops S Q (k + 1) l p (a.put o.dst undef) w):soft P ops S Q k (o :: l) (b :: p) a w:=by
 unfold soft at h ⊢
 cases b
 · show if _ then _ else _
   rw [if_neg (by rw [hg];exact Bool.false_ne_true)]
   exact ⟨hS,h⟩
 exact ⟨undef,.inr ⟨hg,rfl⟩,h⟩
theorem ky (hg:Region.wanted o (yielded ops a.tmps)=true)
    (h:∀ K:Act→World→Prop,(∀ a' w',S w'→soft P ops S Q (k + 1) l p a' w'→K a' w')→o.wp P a w K Q):soft P ops S Q k (o :: l) (false :: p) a w:=by
 unfold soft
 show if _ then _ else _
 rw [if_pos hg]
 exact .inl (h _ (fun a' w' h1 h2=>by unfold soft at h2;exact ⟨h1,h2⟩))
end
theorem wkR {p q:Prop} (k:q) (h:Hid q→p:=by intro kq;(first|(refine kU rfl HS ?_)|(refine kGk (v:=?_) rfl (fun W hW=>?_) ?_;rotate_left;(· (try have A:=FX.out W hW);clear hW;go_simp;try with_reducible rfl)));(try simp only [Act.put,zA,zB,zC]);exact kq.out):p:=h (yD k)
theorem wkG {b:Bool} {p:Prop} {q:Bool→Prop} (k:∀ c:Bool,b=c→q c) (h:Hid (∀ c:Bool,b=c→q c)→p:=by intro kq;(refine soft_part (v:=?_) (b:=_) rfl (fun W hW=>?_) ?_ kq.out;rotate_left;(· (try have A:=FX.out W hW);clear hW;go_simp;try with_reducible rfl);(· with_reducible rfl))):p:=h (yD k)
theorem wkB {C p:Prop} {S q:World→Prop} (c:C) (k:∀ W,S W→q W) (h:C→Hid (∀ W,S W→q W)→p:=by intro cq kq;first|(refine kU rfl HS ?_;(try simp only [Act.put,zA,zB,zC]);exact kq.out _ HS)|(refine ky rfl (fun K hK=>?_);go_simp;refine cq.mono ?_;rintro e wS1 ⟨rfl,hbS⟩;refine hK _ _ (tQ HS hbS) ?_;clear hK K;(try simp only [Act.put,zA,zB,zC]);exact kq.out _ (tQ HS hbS))):p:=h c (yD k)
theorem wkC {C p q:Prop} (c:C) (k:q) (h:C→Hid q→p:=by intro cq kq;first|(refine kU rfl HS ?_;(try simp only [Act.put,zA,zB,zC]);exact kq.out)|(refine ky rfl (fun K hK=>?_);go_simp;refine cq.mono ?_;rintro e wS1 ⟨rfl,hwS⟩;obtain rfl:=hwS.symm;refine hK _ _ HS ?_;clear hK K;(try simp only [Act.put,zA,zB,zC]);exact kq.out)):p:=h c (yD k)
theorem wkP {p q:Prop} (k:q) (h:Hid q→p:=by intro kq;(try simp only [Act.put,zA,zB,zC]);exact kq.out):p:=h (yD k)
theorem jr {α:Type} {x:List α} {k:Nat} {d:α} (h:k < x.length):x.getD k d=x[k]:=by simp [List.getD,h]
def kCz (f:Nat→Bool):Nat→Bool
  | 0=>true
  | n + 1=>kCz f n && f n
theorem kEx {f:Nat→Bool} {n:Nat} (h:kCz f n=true) (q:f n=true):kCz f (n + 1)=true:=by simp [kCz,h,q]
theorem kIw {f:Nat→Bool} {n j:Nat} (h:j < n) (q:f j=false):kCz f n=false:=by
 induction n with
 | zero=>omega
 | succ n ih =>
   by_cases e:j=n
   · subst e;simp [kCz,q]
   · simp [kCz,ih rP]
end Go.Proofs.YtlfblpgkegeaeaaGreat

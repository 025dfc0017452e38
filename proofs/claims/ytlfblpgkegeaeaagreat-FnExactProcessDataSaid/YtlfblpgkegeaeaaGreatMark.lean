/-
  The laws' markings: each writes new numbers into all that its argument leads to, and into nothing else. Printed by genmark.py.
-/
import Derived.Test.YtlfblpgkegeaeaaGreatMarkT
import Derived.BigQuiet
import Derived.Deep.QuietTactic
import Derived.StillTailTactics
set_option linter.unusedVariables false
set_option linter.unusedSimpArgs false
set_option linter.unnecessarySimpa false
set_option maxRecDepth 100000
set_option maxHeartbeats 16000000
namespace Go.Proofs.YtlfblpgkegeaeaaGreat
open Go.RowKit
theorem set_str {E v:ByteArray} (hv:v.size≤maxLen) {w:World} {cs:List Value} {S:Nat→Prop} (h:Rep.str.is true w cs E S):Rep.str.is true w (cs.set 0 (.string v)) v S:=by
 obtain ⟨rfl,_⟩:=h;exact ⟨rfl,hv⟩
theorem set_byte {E v:UInt8} {w:World} {cs:List Value} {S:Nat→Prop} (h:Rep.byte.is true w cs E S):Rep.byte.is true w (cs.set 0 (.int .u8 v.toNat)) v S:=by
 obtain rfl:=(show _=_ from h);rfl
theorem mt_max (k:Int):(mt k).size≤maxLen:=by have:=kVp k;unfold maxLen;omega
theorem mt_big (k:Int):(mt k).size≤Big:=by have:=kVp k;unfold Big;omega
theorem u8_mark (k:Int):((UInt8.ofNat (k % 256).toNat).toNat:Int)=k % 256:=by
 rw [UInt8.toNat_ofNat'];omega
theorem b3eq (q:Int):(q % 3==0)=decide (q % 3=0):=by rw [Bool.eq_iff_iff];simp
theorem set_byteQ {E:UInt8} {q:Int} {w:World} {cs:List Value} {S:Nat→Prop} (h:Rep.byte.is true w cs E S):Rep.byte.is true w (cs.set 0 (.int .u8 (q % 256))) (UInt8.ofNat (q % 256).toNat) S:=by
 have:=set_byte (v:=UInt8.ofNat (q % 256).toNat) h
 rwa [u8_mark q] at this
theorem jl {w:World} {va:Value} {x:List ByteArray} {k:Int} {S:Nat→Prop} (ha:(Rep.slice 9 Rep.str).own w [va] x S) (hk0:0≤k) (hk1:k + ((Rep.slice 9 Rep.str).cnt:Nat)≤Top) :
    Calls Tryz.prog 154 #[va,.int .i64 k] w (zZ (Rep.slice 9 Rep.str) true x k [va] S w):=by
 obtain ⟨aa,capa,rfl,la⟩:=Rep.sl ha.raw
 have lb:x.length≤16777216:=ha.2.1
 have hbd:=yD ha.2
 have HK:=yD hk1;clear hk1
 have hk2:k≤4611686018427387904:=gQ
 go_enter Tryz.func154,Tryz.ntmps154
 go_wp2
 go_loopw [1,5] (fun l i wr=>∃ (j:Nat),j≤x.length∧i=.int .i64 j∧l=.int .i64 (Rep.mkL Rep.str (x.take j) k).2∧(Rep.slice 9 Rep.str).own wr [.slice aa x.length capa] ((Rep.mkL Rep.str (x.take j) k).1++x.drop j) S∧Touch S w wr) (fun _ i _=>x.length - (intOf i).toNat)
 case atStart=>exact ⟨0,Nat.zero_le _,rfl,rfl,by simpa [Rep.mkL] using ha,Touch.refl _ _⟩
 obtain ⟨j,hj,rfl,rfl,hown,ht⟩:=hrel
 by_cases hlt:j < x.length
 · obtain ⟨hln,b,off,rfl,hSb,hbw⟩:=Rep.zw hown qE
   clear hln
   rw [Rep.zn hlt] at hown
   obtain ⟨q0,q1⟩:=Rep.zo (e:=9) (r:=Rep.str) hbd.out hlt HK.out hk0
   have HE:∀ y,y=(Rep.str.mark true x[j] (Rep.mkL Rep.str (x.take j) k).2).1→Hid (((Rep.mkL Rep.str (x.take j) k).1++x.drop j).set j y=(Rep.mkL Rep.str (x.take (j + 1)) k).1++x.drop (j + 1)):=fun y hy=>yD (Rep.kBc hlt hy)
   have HF:=yD (Rep.kAq (r:=Rep.str) (k:=k) hlt)
   have hLl:j < ((Rep.mkL Rep.str (x.take j) k).1++x.drop j).length:=pM
   have HL:=yD hLl;clear hLl
   generalize (Rep.mkL Rep.str (x.take j) k).2=q at *
   generalize (Rep.mkL Rep.str (x.take j) k).1++x.drop j=M at *
   generalize hx:x[j]=y at *
   have HX:=yD hx;clear hx
   obtain ⟨y0,rfl⟩:∃ y0,y0=y:=⟨_,rfl⟩
   have HEH:=yD HE;clear HE
   have HQ:=yD q1;clear q1
   have q2:q≤4611686018427387904:=gP
   obtain ⟨c,B,hc,hB,hSb',hcell,hfz,back⟩:=Rep.jH hown HL.out
   obtain ⟨d0_0,rfl⟩:∃ d0_0,c=[d0_0]:=by have h:=Rep.str.len hc.1;match c,h with | [d0_0],_=>exact ⟨_,rfl⟩
   have C0_0:wr.cell? ⟨b,off + j,none⟩=some d0_0:=(by have h:wr.cell? ⟨b,off + j * 1 + 0,none⟩=_:=hcell 0 _ rfl;simpa using h)
   have Z0_0:=hfz (off + j)
   clear hB hSb' hcell hfz back
   obtain ⟨hce,_⟩:=Rep.yQ hc.raw
   obtain rfl:d0_0=_:=by simpa using hce
   clear hce
   clear hc
   go_wp2_with fail
   refine (kRt (k:=q) rP rP).mono ?_
   clear C0_0 Z0_0
   rintro e w1 ⟨rfl,hb1⟩
   have Ox1:=hown.below hb1
   have Tx1:=ht.trans (Touch.of_below hb1)
   clear hb1
   obtain ⟨c,B,hc,hB,hSb',hcell,hfz,back⟩:=Rep.jH Ox1 HL.out
   obtain ⟨d1_0,rfl⟩:∃ d1_0,c=[d1_0]:=by have h:=Rep.str.len hc.1;match c,h with | [d1_0],_=>exact ⟨_,rfl⟩
   have C1_0:w1.cell? ⟨b,off + j,none⟩=some d1_0:=(by have h:w1.cell? ⟨b,off + j * 1 + 0,none⟩=_:=hcell 0 _ rfl;simpa using h)
   have Z1_0:=hfz (off + j)
   clear hB hSb' hcell hfz back
   obtain ⟨hce,_⟩:=Rep.yQ hc.raw
   obtain rfl:d1_0=_:=by simpa using hce
   clear hce
   clear hc
   obtain ⟨O1,T1⟩:=Rep.jU (v:=.string (mt (q))) (p:=off + j) Ox1 HL.out (show 0 < Rep.str.n by decide) (set_str (mt_max _)) (fun _=>mt_big _) (show off + j=off + j * 1 + 0 by omega)
   have T1:=Tx1.trans (T1.wide nR)
   have EQ:=HEH.out _ rfl
   have OF:=yD (EQ.out ▸ O1);have TF:=yD T1
   have QF:Hid ((q + 1)=(Rep.mkL Rep.str (x.take (j + 1)) k).2):=yD qL
   go_wp2
   go_roundw
   case rel=>exact ⟨j + 1,by omega,by go_num,by rw [← QF.out],OF.out,TF.out⟩
   simp [intOf];omega
 obtain ⟨e1,e2⟩:=Rep.kAp (r:=Rep.str) (k:=k) hlt
 rw [e1] at hown
 have HO:=yD hown;have HT:=yD e2;clear hown e1 e2
 go_wp2
 go_ret
 exact ⟨ku HT.out,HO.out,ht⟩
theorem kFp {w:World} {va:Value} {x:List UInt8} {k:Int} {S:Nat→Prop} (ha:(Rep.slice 5 Rep.byte).own w [va] x S) (hk0:0≤k) (hk1:k + ((Rep.slice 5 Rep.byte).cnt:Nat)≤Top) :
    Calls Tryz.prog 89 #[va,.int .i64 k] w (zZ (Rep.slice 5 Rep.byte) true x k [va] S w):=by
 obtain ⟨aa,capa,rfl,la⟩:=Rep.sl ha.raw
 have lb:x.length≤16777216:=ha.2.1
 have hbd:=yD ha.2
 have HK:=yD hk1;clear hk1
 have hk2:k≤4611686018427387904:=gQ
 go_enter Tryz.func89,Tryz.ntmps89
 go_wp2
 go_loopw [1,5] (fun l i wr=>∃ (j:Nat),j≤x.length∧i=.int .i64 j∧l=.int .i64 (Rep.mkL Rep.byte (x.take j) k).2∧(Rep.slice 5 Rep.byte).own wr [.slice aa x.length capa] ((Rep.mkL Rep.byte (x.take j) k).1++x.drop j) S∧Touch S w wr) (fun _ i _=>x.length - (intOf i).toNat)
 case atStart=>exact ⟨0,Nat.zero_le _,rfl,rfl,by simpa [Rep.mkL] using ha,Touch.refl _ _⟩
 obtain ⟨j,hj,rfl,rfl,hown,ht⟩:=hrel
 by_cases hlt:j < x.length
 · obtain ⟨hln,b,off,rfl,hSb,hbw⟩:=Rep.zw hown qE
   clear hln
   rw [Rep.zn hlt] at hown
   obtain ⟨q0,q1⟩:=Rep.zo (e:=5) (r:=Rep.byte) hbd.out hlt HK.out hk0
   have HE:∀ y,y=(Rep.byte.mark true x[j] (Rep.mkL Rep.byte (x.take j) k).2).1→Hid (((Rep.mkL Rep.byte (x.take j) k).1++x.drop j).set j y=(Rep.mkL Rep.byte (x.take (j + 1)) k).1++x.drop (j + 1)):=fun y hy=>yD (Rep.kBc hlt hy)
   have HF:=yD (Rep.kAq (r:=Rep.byte) (k:=k) hlt)
   have hLl:j < ((Rep.mkL Rep.byte (x.take j) k).1++x.drop j).length:=pM
   have HL:=yD hLl;clear hLl
   generalize (Rep.mkL Rep.byte (x.take j) k).2=q at *
   generalize (Rep.mkL Rep.byte (x.take j) k).1++x.drop j=M at *
   generalize hx:x[j]=y at *
   have HX:=yD hx;clear hx
   obtain ⟨y0,rfl⟩:∃ y0,y0=y:=⟨_,rfl⟩
   have HEH:=yD HE;clear HE
   have HQ:=yD q1;clear q1
   have q2:q≤4611686018427387904:=gP
   obtain ⟨c,B,hc,hB,hSb',hcell,hfz,back⟩:=Rep.jH hown HL.out
   obtain ⟨d0_0,rfl⟩:∃ d0_0,c=[d0_0]:=by have h:=Rep.byte.len hc.1;match c,h with | [d0_0],_=>exact ⟨_,rfl⟩
   have C0_0:wr.cell? ⟨b,off + j,none⟩=some d0_0:=(by have h:wr.cell? ⟨b,off + j * 1 + 0,none⟩=_:=hcell 0 _ rfl;simpa using h)
   have Z0_0:=hfz (off + j)
   clear hB hSb' hcell hfz back
   obtain hce:=Rep.kCn hc.raw
   obtain rfl:d0_0=_:=by simpa using hce
   clear hce
   clear hc
   obtain ⟨O1,T1⟩:=Rep.jU (v:=.int .u8 ((q) % 256)) (p:=off + j) hown HL.out (show 0 < Rep.byte.n by decide) (set_byteQ) (fun h=>h) (show off + j=off + j * 1 + 0 by omega)
   have T1:=ht.trans (T1.wide nR)
   have EQ:=HEH.out _ rfl
   have OF:=yD (EQ.out ▸ O1);have TF:=yD T1
   have QF:Hid ((q + 1)=(Rep.mkL Rep.byte (x.take (j + 1)) k).2):=yD qL
   go_wp2
   go_roundw
   case rel=>exact ⟨j + 1,by omega,by go_num,by rw [← QF.out],OF.out,TF.out⟩
   simp [intOf];omega
 obtain ⟨e1,e2⟩:=Rep.kAp (r:=Rep.byte) (k:=k) hlt
 rw [e1] at hown
 have HO:=yD hown;have HT:=yD e2;clear hown e1 e2
 go_wp2
 go_ret
 exact ⟨ku HT.out,HO.out,ht⟩
theorem kRv {w:World} {ca:List Value} {x:kW} {k:Int} {S:Nat→Prop} (ha:kL.own w ca x S) (hk0:0≤k) (hk1:k + (kL.cnt:Nat)≤Top) :
    Calls Tryz.prog 88 #[.agg ca.toArray,.int .i64 k] w (zZ kL false x k ca S w):=by
 have hl:=ha.live
 obtain ⟨av0,rfl,a_0⟩:=kM ha.raw
 obtain ⟨x0,rfl⟩:∃ x0,x0=x:=⟨_,rfl⟩
 clear a_0
 have HQ:=yD hk1;clear hk1
 have k2:k≤4611686018427387904:=gP
 go_enter Tryz.func88,Tryz.ntmps88
 go_wp2_with fail
 have O0:=yD (fun o=>Rep.own.alloc hl o)
 obtain ⟨A1,hA1,hAB1,bk1⟩:=kPe (O0.out _)
 refine (jl (k:=k) hA1 rP (by have:=HQ.out;have e:kL.cnt=(Rep.slice 9 Rep.str).cnt:=rfl;omega)).mono ?_
 rintro e w1 ⟨rfl,P1,X1⟩
 have O1x:=bk1 P1 X1
 have g1:=(Rep.slice 9 Rep.str).mark_ge (e:=true) (x:=x0) (k:=k)
 have l1:((Rep.slice 9 Rep.str).mark true x0 (k)).2≤k + ((Rep.slice 9 Rep.str).cnt:Nat):=(Rep.slice 9 Rep.str).mark_le (e:=true) (k:=k) hA1.2
 have u1:((Rep.slice 9 Rep.str).mark true x0 (k)).2≤4611686018427387904:=by have:=HQ.out;have e:kL.cnt=(Rep.slice 9 Rep.str).cnt:=rfl;unfold Top at *;omega
 have M1:=yD l1;clear l1
 have T1x:Touch S w w1:=(Touch.of_below (Rep.zy w _)).trans (X1.wide (fun i hi=>(hAB1 i hi).1))
 have hz1:w.heap.size + 1≤w1.heap.size:=nG
 have hc1:∀ o,w1.cell? ⟨w.heap.size,o,none⟩=_:=fun o=>World.cell?_of_block (a:=⟨w.heap.size,o,none⟩) (X1.block w.heap.size rQ mR)
 have hf1:∀ o,w1.frozen? ⟨w.heap.size,o,none⟩=_:=fun o=>World.frozen?_of_block (a:=⟨w.heap.size,o,none⟩) (X1.block w.heap.size rQ mR)
 simp [go_sem] at hc1
 clear hA1 hAB1 bk1 P1 X1
 have OF:=yD (Rep.own.wide (T:=S) O1x (fun j hj=>hj.1));have TF:=yD T1x
 clear ha hl
 go_wp2
 go_ret
 exact ⟨rfl,OF.out,TF.out⟩
theorem markNameS_c {w:World} {va:Value} {x:List kW} {k:Int} {S:Nat→Prop} (ha:(Rep.slice 64 kL).own w [va] x S) (hk0:0≤k) (hk1:k + ((Rep.slice 64 kL).cnt:Nat)≤Top) :
    Calls Tryz.prog 87 #[va,.int .i64 k] w (zZ (Rep.slice 64 kL) true x k [va] S w):=by
 obtain ⟨aa,capa,rfl,la⟩:=Rep.sl ha.raw
 have lb:x.length≤16777216:=ha.2.1
 have hbd:=yD ha.2
 have HK:=yD hk1;clear hk1
 have hk2:k≤4611686018427387904:=gQ
 go_enter Tryz.func87,Tryz.ntmps87
 go_wp2
 go_loopw [1,5] (fun l i wr=>∃ (j:Nat),j≤x.length∧i=.int .i64 j∧l=.int .i64 (Rep.mkL kL (x.take j) k).2∧(Rep.slice 64 kL).own wr [.slice aa x.length capa] ((Rep.mkL kL (x.take j) k).1++x.drop j) S∧Touch S w wr) (fun _ i _=>x.length - (intOf i).toNat)
 case atStart=>exact ⟨0,Nat.zero_le _,rfl,rfl,by simpa [Rep.mkL] using ha,Touch.refl _ _⟩
 obtain ⟨j,hj,rfl,rfl,hown,ht⟩:=hrel
 by_cases hlt:j < x.length
 · obtain ⟨hln,b,off,rfl,hSb,hbw⟩:=Rep.zw hown qE
   clear hln
   rw [Rep.zn hlt] at hown
   obtain ⟨q0,q1⟩:=Rep.zo (e:=64) (r:=kL) hbd.out hlt HK.out hk0
   have HE:∀ y,y=(kL.mark true x[j] (Rep.mkL kL (x.take j) k).2).1→Hid (((Rep.mkL kL (x.take j) k).1++x.drop j).set j y=(Rep.mkL kL (x.take (j + 1)) k).1++x.drop (j + 1)):=fun y hy=>yD (Rep.kBc hlt hy)
   have HF:=yD (Rep.kAq (r:=kL) (k:=k) hlt)
   have hLl:j < ((Rep.mkL kL (x.take j) k).1++x.drop j).length:=pM
   have HL:=yD hLl;clear hLl
   generalize (Rep.mkL kL (x.take j) k).2=q at *
   generalize (Rep.mkL kL (x.take j) k).1++x.drop j=M at *
   generalize hx:x[j]=y at *
   have HX:=yD hx;clear hx
   obtain ⟨y0,rfl⟩:∃ y0,y0=y:=⟨_,rfl⟩
   have HEH:=yD HE;clear HE
   have HQ:=yD q1;clear q1
   have q2:q≤4611686018427387904:=gP
   obtain ⟨c,B,hc,hB,hSb',hcell,hfz,back⟩:=Rep.jH hown HL.out
   obtain ⟨d0_0,rfl⟩:∃ d0_0,c=[d0_0]:=by have h:=kL.len hc.1;match c,h with | [d0_0],_=>exact ⟨_,rfl⟩
   have C0_0:wr.cell? ⟨b,off + j,none⟩=some d0_0:=(by have h:wr.cell? ⟨b,off + j * 1 + 0,none⟩=_:=hcell 0 _ rfl;simpa using h)
   have Z0_0:=hfz (off + j)
   clear hB hSb' hcell hfz back
   obtain ⟨s0v0,hce,s0_0⟩:=kM hc.raw
   simp only [List.cons.injEq,and_true] at hce
   obtain rfl:=hce
   obtain ⟨s0a0,s0p0,rfl,_⟩:=Rep.sl s0_0
   clear s0_0
   clear hc
   go_wp2_with fail
   obtain ⟨c1,B1,hc1,hB1,_,hcell1,_,back1⟩:=Rep.jH hown HL.out
   obtain ⟨e1_0,rfl⟩:∃ e1_0,c1=[e1_0]:=by have h:=kL.len hc1.1;match c1,h with | [e1_0],_=>exact ⟨_,rfl⟩
   have hd1:=hcell1 0 _ rfl
   obtain rfl:e1_0=_:=by simpa [go_sem,C0_0,RName_n] using hd1.symm
   obtain ⟨A1,hA1,hAB1,bk1⟩:=kPe hc1
   refine (jl (k:=q) hA1 rP (by have:=HQ.out;have e:kL.cnt=(Rep.slice 9 Rep.str).cnt:=rfl;omega)).mono ?_
   rintro e w1 ⟨rfl,P1,X1⟩
   have Ox1:=back1 (bk1 P1 X1) (X1.wide hAB1)
   have Tx1:=ht.trans (X1.wide (fun i hi=>(hB1 i (hAB1 i hi)).1))
   have g1:=(Rep.slice 9 Rep.str).mark_ge (e:=true) (x:=y0) (k:=q)
   have l1:((Rep.slice 9 Rep.str).mark true y0 (q)).2≤q + ((Rep.slice 9 Rep.str).cnt:Nat):=(Rep.slice 9 Rep.str).mark_le (e:=true) (k:=q) hA1.2
   have u1:((Rep.slice 9 Rep.str).mark true y0 (q)).2≤4611686018427387904:=by have:=HQ.out;have e:kL.cnt=(Rep.slice 9 Rep.str).cnt:=rfl;unfold Top at *;omega
   have M1:=yD l1;clear l1
   clear C0_0 Z0_0 hA1 bk1 back1 hc1 hB1 hAB1 P1 X1 hcell1 hd1
   obtain ⟨c,B,hc,hB,hSb',hcell,hfz,back⟩:=Rep.jH Ox1 HL.out
   obtain ⟨d1_0,rfl⟩:∃ d1_0,c=[d1_0]:=by have h:=kL.len hc.1;match c,h with | [d1_0],_=>exact ⟨_,rfl⟩
   have C1_0:w1.cell? ⟨b,off + j,none⟩=some d1_0:=(by have h:w1.cell? ⟨b,off + j * 1 + 0,none⟩=_:=hcell 0 _ rfl;simpa using h)
   have Z1_0:=hfz (off + j)
   clear hB hSb' hcell hfz back
   obtain ⟨s1v0,hce,s1_0⟩:=kM hc.raw
   simp only [List.cons.injEq,and_true] at hce
   obtain rfl:=hce
   obtain ⟨s1a0,s1p0,rfl,_⟩:=Rep.sl s1_0
   clear s1_0
   clear hc
   have EQ:=HEH.out _ rfl
   have OF:=yD (EQ.out ▸ Ox1);have TF:=yD Tx1
   have QF:Hid ((((Rep.slice 9 Rep.str).mark true y0 (q)).2)=(Rep.mkL kL (x.take (j + 1)) k).2):=yD qL
   go_wp2
   go_roundw
   case rel=>exact ⟨j + 1,by omega,by go_num,by rw [← QF.out],OF.out,TF.out⟩
   simp [intOf];omega
 obtain ⟨e1,e2⟩:=Rep.kAp (r:=kL) (k:=k) hlt
 rw [e1] at hown
 have HO:=yD hown;have HT:=yD e2;clear hown e1 e2
 go_wp2
 go_ret
 exact ⟨ku HT.out,HO.out,ht⟩
theorem kKr {w:World} {va:Value} {x:List kZ} {k:Int} {S:Nat→Prop} (ha:(Rep.slice 184 kF).own w [va] x S) (hk0:0≤k) (hk1:k + ((Rep.slice 184 kF).cnt:Nat)≤Top) :
    Calls Tryz.prog 84 #[va,.int .i64 k] w (zZ (Rep.slice 184 kF) true x k [va] S w):=by
 obtain ⟨aa,capa,rfl,la⟩:=Rep.sl ha.raw
 have lb:x.length≤16777216:=ha.2.1
 have hbd:=yD ha.2
 have HK:=yD hk1;clear hk1
 have hk2:k≤4611686018427387904:=gQ
 go_enter Tryz.func84,Tryz.ntmps84
 go_wp2
 go_loopw [1,5] (fun l i wr=>∃ (j:Nat),j≤x.length∧i=.int .i64 j∧l=.int .i64 (Rep.mkL kF (x.take j) k).2∧(Rep.slice 184 kF).own wr [.slice aa x.length capa] ((Rep.mkL kF (x.take j) k).1++x.drop j) S∧Touch S w wr) (fun _ i _=>x.length - (intOf i).toNat)
 case atStart=>exact ⟨0,Nat.zero_le _,rfl,rfl,by simpa [Rep.mkL] using ha,Touch.refl _ _⟩
 obtain ⟨j,hj,rfl,rfl,hown,ht⟩:=hrel
 by_cases hlt:j < x.length
 · obtain ⟨hln,b,off,rfl,hSb,hbw⟩:=Rep.zw hown qE
   clear hln
   rw [Rep.zn hlt] at hown
   obtain ⟨q0,q1⟩:=Rep.zo (e:=184) (r:=kF) hbd.out hlt HK.out hk0
   have HE:∀ y,y=(kF.mark true x[j] (Rep.mkL kF (x.take j) k).2).1→Hid (((Rep.mkL kF (x.take j) k).1++x.drop j).set j y=(Rep.mkL kF (x.take (j + 1)) k).1++x.drop (j + 1)):=fun y hy=>yD (Rep.kBc hlt hy)
   have HF:=yD (Rep.kAq (r:=kF) (k:=k) hlt)
   have hLl:j < ((Rep.mkL kF (x.take j) k).1++x.drop j).length:=pM
   have HL:=yD hLl;clear hLl
   generalize (Rep.mkL kF (x.take j) k).2=q at *
   generalize (Rep.mkL kF (x.take j) k).1++x.drop j=M at *
   generalize hx:x[j]=y at *
   have HX:=yD hx;clear hx
   obtain ⟨y0,y1,y2⟩:=y
   have HEH:=yD HE;clear HE
   have HQ:=yD q1;clear q1
   have q2:q≤4611686018427387904:=gP
   obtain ⟨c,B,hc,hB,hSb',hcell,hfz,back⟩:=Rep.jH hown HL.out
   obtain ⟨d0_0,d0_1,d0_2,rfl⟩:∃ d0_0 d0_1 d0_2,c=[d0_0,d0_1,d0_2]:=by have h:=kF.len hc.1;match c,h with | [d0_0,d0_1,d0_2],_=>exact ⟨_,_,_,rfl⟩
   try simp only [kCg,yH] at hc
   have C0_0:wr.cell? ⟨b,off + j * 3,none⟩=some d0_0:=hcell 0 _ rfl
   have Z0_0:=hfz (off + j * 3)
   have C0_1:wr.cell? ⟨b,off + j * 3 + 1,none⟩=some d0_1:=hcell 1 _ rfl
   have Z0_1:=hfz (off + j * 3 + 1)
   have C0_2:wr.cell? ⟨b,off + j * 3 + 2,none⟩=some d0_2:=hcell 2 _ rfl
   have Z0_2:=hfz (off + j * 3 + 2)
   clear hB hSb' hcell hfz back
   obtain ⟨s0v0,hce,s0_0,s0_1,s0_2,s0_3⟩:=jX hc.raw
   simp only [List.cons.injEq,and_true] at hce
   obtain ⟨rfl,rfl,rfl⟩:=hce
   obtain ⟨s0a0,s0p0,rfl,_⟩:=Rep.sl s0_1
   clear s0_0 s0_1 s0_2 s0_3
   clear hc
   go_wp2_with fail
   obtain ⟨c1,B1,hc1,hB1,_,hcell1,_,back1⟩:=Rep.jH hown HL.out
   obtain ⟨e1_0,e1_1,e1_2,rfl⟩:∃ e1_0 e1_1 e1_2,c1=[e1_0,e1_1,e1_2]:=by have h:=kF.len hc1.1;match c1,h with | [e1_0,e1_1,e1_2],_=>exact ⟨_,_,_,rfl⟩
   have hd1:=hcell1 0 _ rfl
   obtain rfl:e1_0=_:=by simpa [go_sem,C0_0,kSz] using hd1.symm
   obtain ⟨A1,hA1,hAB1,bk1⟩:=kIx hc1
   try simp only [kCg,yH] at hA1
   refine (jl (k:=q) hA1 rP (by have:=HQ.out;have e:kF.cnt=(Rep.slice 9 Rep.str).cnt + (1 + (1)):=rfl;omega)).mono ?_
   rintro e w1 ⟨rfl,P1,X1⟩
   have Ox1:=back1 (bk1 P1 X1) (X1.wide hAB1)
   have Tx1:=ht.trans (X1.wide (fun i hi=>(hB1 i (hAB1 i hi)).1))
   have g1:=(Rep.slice 9 Rep.str).mark_ge (e:=true) (x:=y0) (k:=q)
   have l1:((Rep.slice 9 Rep.str).mark true y0 (q)).2≤q + ((Rep.slice 9 Rep.str).cnt:Nat):=(Rep.slice 9 Rep.str).mark_le (e:=true) (k:=q) hA1.2
   have u1:((Rep.slice 9 Rep.str).mark true y0 (q)).2≤4611686018427387904:=by have:=HQ.out;have e:kF.cnt=(Rep.slice 9 Rep.str).cnt + (1 + (1)):=rfl;unfold Top at *;omega
   have M1:=yD l1;clear l1
   clear C0_0 C0_1 C0_2 Z0_0 Z0_1 Z0_2 hA1 bk1 back1 hc1 hB1 hAB1 P1 X1 hcell1 hd1
   obtain ⟨c,B,hc,hB,hSb',hcell,hfz,back⟩:=Rep.jH Ox1 HL.out
   obtain ⟨d1_0,d1_1,d1_2,rfl⟩:∃ d1_0 d1_1 d1_2,c=[d1_0,d1_1,d1_2]:=by have h:=kF.len hc.1;match c,h with | [d1_0,d1_1,d1_2],_=>exact ⟨_,_,_,rfl⟩
   try simp only [kCg,yH] at hc
   have C1_0:w1.cell? ⟨b,off + j * 3,none⟩=some d1_0:=hcell 0 _ rfl
   have Z1_0:=hfz (off + j * 3)
   have C1_1:w1.cell? ⟨b,off + j * 3 + 1,none⟩=some d1_1:=hcell 1 _ rfl
   have Z1_1:=hfz (off + j * 3 + 1)
   have C1_2:w1.cell? ⟨b,off + j * 3 + 2,none⟩=some d1_2:=hcell 2 _ rfl
   have Z1_2:=hfz (off + j * 3 + 2)
   clear hB hSb' hcell hfz back
   obtain ⟨s1v0,hce,s1_0,s1_1,s1_2,s1_3⟩:=jX hc.raw
   simp only [List.cons.injEq,and_true] at hce
   obtain ⟨rfl,rfl,rfl⟩:=hce
   obtain ⟨s1a0,s1p0,rfl,_⟩:=Rep.sl s1_1
   clear s1_0 s1_1 s1_2 s1_3
   clear hc
   obtain ⟨O1,T1⟩:=Rep.jU (v:=.int .i64 (((Rep.slice 9 Rep.str).mark true y0 (q)).2)) (p:=off + j * 3 + 1) Ox1 HL.out (show 1 < kF.n by decide) (kMu _ ⟨by omega,by omega⟩) (fun h=>h) (show off + j * 3 + 1=off + j * 3 + 1 by omega)
   have T1:=Tx1.trans (T1.wide nR)
   obtain ⟨O2,T2⟩:=Rep.jU (v:=.int .i64 (((Rep.slice 9 Rep.str).mark true y0 (q)).2 + 1)) (p:=off + j * 3 + 2) O1 HL.out (show 2 < kF.n by decide) (kDr _ ⟨by omega,by omega⟩) (fun h=>h) (show off + j * 3 + 2=off + j * 3 + 2 by omega)
   have T2:=T1.trans (T2.wide nR)
   have EQ:=HEH.out _ rfl
   have OF:=yD (EQ.out ▸ O2);have TF:=yD T2
   have QF:Hid ((((Rep.slice 9 Rep.str).mark true y0 (q)).2 + 1 + 1)=(Rep.mkL kF (x.take (j + 1)) k).2):=yD qL
   go_wp2
   go_roundw
   case rel=>exact ⟨j + 1,by omega,by go_num,by rw [← QF.out],OF.out,TF.out⟩
   simp [intOf];omega
 obtain ⟨e1,e2⟩:=Rep.kAp (r:=kF) (k:=k) hlt
 rw [e1] at hown
 have HO:=yD hown;have HT:=yD e2;clear hown e1 e2
 go_wp2
 go_ret
 exact ⟨ku HT.out,HO.out,ht⟩
theorem kVs {w:World} {va:Value} {x:List yA} {k:Int} {S:Nat→Prop} (ha:(Rep.slice 181 kX).own w [va] x S) (hk0:0≤k) (hk1:k + ((Rep.slice 181 kX).cnt:Nat)≤Top) :
    Calls Tryz.prog 83 #[va,.int .i64 k] w (zZ (Rep.slice 181 kX) true x k [va] S w):=by
 obtain ⟨aa,capa,rfl,la⟩:=Rep.sl ha.raw
 have lb:x.length≤16777216:=ha.2.1
 have hbd:=yD ha.2
 have HK:=yD hk1;clear hk1
 have hk2:k≤4611686018427387904:=gQ
 go_enter Tryz.func83,Tryz.ntmps83
 go_wp2
 go_loopw [1,5] (fun l i wr=>∃ (j:Nat),j≤x.length∧i=.int .i64 j∧l=.int .i64 (Rep.mkL kX (x.take j) k).2∧(Rep.slice 181 kX).own wr [.slice aa x.length capa] ((Rep.mkL kX (x.take j) k).1++x.drop j) S∧Touch S w wr) (fun _ i _=>x.length - (intOf i).toNat)
 case atStart=>exact ⟨0,Nat.zero_le _,rfl,rfl,by simpa [Rep.mkL] using ha,Touch.refl _ _⟩
 obtain ⟨j,hj,rfl,rfl,hown,ht⟩:=hrel
 by_cases hlt:j < x.length
 · obtain ⟨hln,b,off,rfl,hSb,hbw⟩:=Rep.zw hown qE
   clear hln
   rw [Rep.zn hlt] at hown
   obtain ⟨q0,q1⟩:=Rep.zo (e:=181) (r:=kX) hbd.out hlt HK.out hk0
   have HE:∀ y,y=(kX.mark true x[j] (Rep.mkL kX (x.take j) k).2).1→Hid (((Rep.mkL kX (x.take j) k).1++x.drop j).set j y=(Rep.mkL kX (x.take (j + 1)) k).1++x.drop (j + 1)):=fun y hy=>yD (Rep.kBc hlt hy)
   have HF:=yD (Rep.kAq (r:=kX) (k:=k) hlt)
   have hLl:j < ((Rep.mkL kX (x.take j) k).1++x.drop j).length:=pM
   have HL:=yD hLl;clear hLl
   generalize (Rep.mkL kX (x.take j) k).2=q at *
   generalize (Rep.mkL kX (x.take j) k).1++x.drop j=M at *
   generalize hx:x[j]=y at *
   have HX:=yD hx;clear hx
   obtain ⟨y0,y1,y2⟩:=y
   have HEH:=yD HE;clear HE
   have HQ:=yD q1;clear q1
   have q2:q≤4611686018427387904:=gP
   obtain ⟨c,B,hc,hB,hSb',hcell,hfz,back⟩:=Rep.jH hown HL.out
   obtain ⟨d0_0,d0_1,d0_2,rfl⟩:∃ d0_0 d0_1 d0_2,c=[d0_0,d0_1,d0_2]:=by have h:=kX.len hc.1;match c,h with | [d0_0,d0_1,d0_2],_=>exact ⟨_,_,_,rfl⟩
   try simp only [kGy,kGx] at hc
   have C0_0:wr.cell? ⟨b,off + j * 3,none⟩=some d0_0:=hcell 0 _ rfl
   have Z0_0:=hfz (off + j * 3)
   have C0_1:wr.cell? ⟨b,off + j * 3 + 1,none⟩=some d0_1:=hcell 1 _ rfl
   have Z0_1:=hfz (off + j * 3 + 1)
   have C0_2:wr.cell? ⟨b,off + j * 3 + 2,none⟩=some d0_2:=hcell 2 _ rfl
   have Z0_2:=hfz (off + j * 3 + 2)
   clear hB hSb' hcell hfz back
   obtain ⟨s0v0,hce,s0_0,s0_1,s0_2,s0_3⟩:=yg hc.raw
   simp only [List.cons.injEq,and_true] at hce
   obtain ⟨rfl,rfl,rfl⟩:=hce
   obtain ⟨s0a0,s0p0,rfl,_⟩:=Rep.sl s0_1
   clear s0_0 s0_1 s0_2 s0_3
   clear hc
   go_wp2_with fail
   obtain ⟨c1,B1,hc1,hB1,_,hcell1,_,back1⟩:=Rep.jH hown HL.out
   obtain ⟨e1_0,e1_1,e1_2,rfl⟩:∃ e1_0 e1_1 e1_2,c1=[e1_0,e1_1,e1_2]:=by have h:=kX.len hc1.1;match c1,h with | [e1_0,e1_1,e1_2],_=>exact ⟨_,_,_,rfl⟩
   have hd1:=hcell1 0 _ rfl
   obtain rfl:e1_0=_:=by simpa [go_sem,C0_0,RRoute_n] using hd1.symm
   obtain ⟨A1,hA1,hAB1,bk1⟩:=kSs hc1
   try simp only [kGy,kGx] at hA1
   refine (jl (k:=q) hA1 rP (by have:=HQ.out;have e:kX.cnt=(Rep.slice 9 Rep.str).cnt + (1 + (1)):=rfl;omega)).mono ?_
   rintro e w1 ⟨rfl,P1,X1⟩
   have Ox1:=back1 (bk1 P1 X1) (X1.wide hAB1)
   have Tx1:=ht.trans (X1.wide (fun i hi=>(hB1 i (hAB1 i hi)).1))
   have g1:=(Rep.slice 9 Rep.str).mark_ge (e:=true) (x:=y0) (k:=q)
   have l1:((Rep.slice 9 Rep.str).mark true y0 (q)).2≤q + ((Rep.slice 9 Rep.str).cnt:Nat):=(Rep.slice 9 Rep.str).mark_le (e:=true) (k:=q) hA1.2
   have u1:((Rep.slice 9 Rep.str).mark true y0 (q)).2≤4611686018427387904:=by have:=HQ.out;have e:kX.cnt=(Rep.slice 9 Rep.str).cnt + (1 + (1)):=rfl;unfold Top at *;omega
   have M1:=yD l1;clear l1
   clear C0_0 C0_1 C0_2 Z0_0 Z0_1 Z0_2 hA1 bk1 back1 hc1 hB1 hAB1 P1 X1 hcell1 hd1
   obtain ⟨c,B,hc,hB,hSb',hcell,hfz,back⟩:=Rep.jH Ox1 HL.out
   obtain ⟨d1_0,d1_1,d1_2,rfl⟩:∃ d1_0 d1_1 d1_2,c=[d1_0,d1_1,d1_2]:=by have h:=kX.len hc.1;match c,h with | [d1_0,d1_1,d1_2],_=>exact ⟨_,_,_,rfl⟩
   try simp only [kGy,kGx] at hc
   have C1_0:w1.cell? ⟨b,off + j * 3,none⟩=some d1_0:=hcell 0 _ rfl
   have Z1_0:=hfz (off + j * 3)
   have C1_1:w1.cell? ⟨b,off + j * 3 + 1,none⟩=some d1_1:=hcell 1 _ rfl
   have Z1_1:=hfz (off + j * 3 + 1)
   have C1_2:w1.cell? ⟨b,off + j * 3 + 2,none⟩=some d1_2:=hcell 2 _ rfl
   have Z1_2:=hfz (off + j * 3 + 2)
   clear hB hSb' hcell hfz back
   obtain ⟨s1v0,hce,s1_0,s1_1,s1_2,s1_3⟩:=yg hc.raw
   simp only [List.cons.injEq,and_true] at hce
   obtain ⟨rfl,rfl,rfl⟩:=hce
   obtain ⟨s1a0,s1p0,rfl,_⟩:=Rep.sl s1_1
   clear s1_0 s1_1 s1_2 s1_3
   clear hc
   obtain ⟨O1,T1⟩:=Rep.jU (v:=.int .i64 (((Rep.slice 9 Rep.str).mark true y0 (q)).2)) (p:=off + j * 3 + 1) Ox1 HL.out (show 1 < kX.n by decide) (RRoute_set1 _ ⟨by omega,by omega⟩) (fun h=>h) (show off + j * 3 + 1=off + j * 3 + 1 by omega)
   have T1:=Tx1.trans (T1.wide nR)
   obtain ⟨O2,T2⟩:=Rep.jU (v:=.int .i64 (((Rep.slice 9 Rep.str).mark true y0 (q)).2 + 1)) (p:=off + j * 3 + 2) O1 HL.out (show 2 < kX.n by decide) (RRoute_set2 _ ⟨by omega,by omega⟩) (fun h=>h) (show off + j * 3 + 2=off + j * 3 + 2 by omega)
   have T2:=T1.trans (T2.wide nR)
   have EQ:=HEH.out _ rfl
   have OF:=yD (EQ.out ▸ O2);have TF:=yD T2
   have QF:Hid ((((Rep.slice 9 Rep.str).mark true y0 (q)).2 + 1 + 1)=(Rep.mkL kX (x.take (j + 1)) k).2):=yD qL
   go_wp2
   go_roundw
   case rel=>exact ⟨j + 1,by omega,by go_num,by rw [← QF.out],OF.out,TF.out⟩
   simp [intOf];omega
 obtain ⟨e1,e2⟩:=Rep.kAp (r:=kX) (k:=k) hlt
 rw [e1] at hown
 have HO:=yD hown;have HT:=yD e2;clear hown e1 e2
 go_wp2
 go_ret
 exact ⟨ku HT.out,HO.out,ht⟩
theorem kNn {w:World} {va:Value} {x:List jP} {k:Int} {S:Nat→Prop} (ha:(Rep.slice 123 kQ).own w [va] x S) (hk0:0≤k) (hk1:k + ((Rep.slice 123 kQ).cnt:Nat)≤Top) :
    Calls Tryz.prog 156 #[va,.int .i64 k] w (zZ (Rep.slice 123 kQ) true x k [va] S w):=by
 obtain ⟨aa,capa,rfl,la⟩:=Rep.sl ha.raw
 have lb:x.length≤16777216:=ha.2.1
 have hbd:=yD ha.2
 have HK:=yD hk1;clear hk1
 have hk2:k≤4611686018427387904:=gQ
 go_enter Tryz.func156,Tryz.ntmps156
 go_wp2
 go_loopw [1,5] (fun l i wr=>∃ (j:Nat),j≤x.length∧i=.int .i64 j∧l=.int .i64 (Rep.mkL kQ (x.take j) k).2∧(Rep.slice 123 kQ).own wr [.slice aa x.length capa] ((Rep.mkL kQ (x.take j) k).1++x.drop j) S∧Touch S w wr) (fun _ i _=>x.length - (intOf i).toNat)
 case atStart=>exact ⟨0,Nat.zero_le _,rfl,rfl,by simpa [Rep.mkL] using ha,Touch.refl _ _⟩
 obtain ⟨j,hj,rfl,rfl,hown,ht⟩:=hrel
 by_cases hlt:j < x.length
 · obtain ⟨hln,b,off,rfl,hSb,hbw⟩:=Rep.zw hown qE
   clear hln
   rw [Rep.zn hlt] at hown
   obtain ⟨q0,q1⟩:=Rep.zo (e:=123) (r:=kQ) hbd.out hlt HK.out hk0
   have HE:∀ y,y=(kQ.mark true x[j] (Rep.mkL kQ (x.take j) k).2).1→Hid (((Rep.mkL kQ (x.take j) k).1++x.drop j).set j y=(Rep.mkL kQ (x.take (j + 1)) k).1++x.drop (j + 1)):=fun y hy=>yD (Rep.kBc hlt hy)
   have HF:=yD (Rep.kAq (r:=kQ) (k:=k) hlt)
   have hLl:j < ((Rep.mkL kQ (x.take j) k).1++x.drop j).length:=pM
   have HL:=yD hLl;clear hLl
   generalize (Rep.mkL kQ (x.take j) k).2=q at *
   generalize (Rep.mkL kQ (x.take j) k).1++x.drop j=M at *
   generalize hx:x[j]=y at *
   have HX:=yD hx;clear hx
   obtain ⟨y0,y1,y2⟩:=y
   have HEH:=yD HE;clear HE
   have HQ:=yD q1;clear q1
   have q2:q≤4611686018427387904:=gP
   obtain ⟨c,B,hc,hB,hSb',hcell,hfz,back⟩:=Rep.jH hown HL.out
   obtain ⟨d0_0,d0_1,d0_2,rfl⟩:∃ d0_0 d0_1 d0_2,c=[d0_0,d0_1,d0_2]:=by have h:=kQ.len hc.1;match c,h with | [d0_0,d0_1,d0_2],_=>exact ⟨_,_,_,rfl⟩
   try simp only [kIi,kIh,kIg] at hc
   have C0_0:wr.cell? ⟨b,off + j * 3,none⟩=some d0_0:=hcell 0 _ rfl
   have Z0_0:=hfz (off + j * 3)
   have C0_1:wr.cell? ⟨b,off + j * 3 + 1,none⟩=some d0_1:=hcell 1 _ rfl
   have Z0_1:=hfz (off + j * 3 + 1)
   have C0_2:wr.cell? ⟨b,off + j * 3 + 2,none⟩=some d0_2:=hcell 2 _ rfl
   have Z0_2:=hfz (off + j * 3 + 2)
   clear hB hSb' hcell hfz back
   obtain ⟨hce,s0_0,s0_1,s0_2⟩:=kAa hc.raw
   simp only [List.cons.injEq,and_true] at hce
   obtain ⟨rfl,rfl,rfl⟩:=hce
   clear s0_0 s0_1 s0_2
   clear hc
   obtain ⟨O1,T1⟩:=Rep.jU (v:=.int .i64 (q)) (p:=off + j * 3) hown HL.out (show 0 < kQ.n by decide) (kQi _ ⟨by omega,by omega⟩) (fun h=>h) (show off + j * 3=off + j * 3 + 0 by omega)
   have T1:=ht.trans (T1.wide nR)
   obtain ⟨O2,T2⟩:=Rep.jU (v:=.int .i64 (q + 1)) (p:=off + j * 3 + 1) O1 HL.out (show 1 < kQ.n by decide) (kQh _ ⟨by omega,by omega⟩) (fun h=>h) (show off + j * 3 + 1=off + j * 3 + 1 by omega)
   have T2:=T1.trans (T2.wide nR)
   obtain ⟨O3,T3⟩:=Rep.jU (v:=.int .i64 (q + 1 + 1)) (p:=off + j * 3 + 2) O2 HL.out (show 2 < kQ.n by decide) (kQg _ ⟨by omega,by omega⟩) (fun h=>h) (show off + j * 3 + 2=off + j * 3 + 2 by omega)
   have T3:=T2.trans (T3.wide nR)
   have EQ:=HEH.out _ rfl
   have OF:=yD (EQ.out ▸ O3);have TF:=yD T3
   have QF:Hid ((q + 1 + 1 + 1)=(Rep.mkL kQ (x.take (j + 1)) k).2):=yD qL
   go_wp2
   go_roundw
   case rel=>exact ⟨j + 1,by omega,by go_num,by rw [← QF.out],OF.out,TF.out⟩
   simp [intOf];omega
 obtain ⟨e1,e2⟩:=Rep.kAp (r:=kQ) (k:=k) hlt
 rw [e1] at hown
 have HO:=yD hown;have HT:=yD e2;clear hown e1 e2
 go_wp2
 go_ret
 exact ⟨ku HT.out,HO.out,ht⟩
theorem kGz {w:World} {va:Value} {x:List kS} {k:Int} {S:Nat→Prop} (ha:(Rep.slice 175 kE).own w [va] x S) (hk0:0≤k) (hk1:k + ((Rep.slice 175 kE).cnt:Nat)≤Top) :
    Calls Tryz.prog 81 #[va,.int .i64 k] w (zZ (Rep.slice 175 kE) true x k [va] S w):=by
 obtain ⟨aa,capa,rfl,la⟩:=Rep.sl ha.raw
 have lb:x.length≤16777216:=ha.2.1
 have hbd:=yD ha.2
 have HK:=yD hk1;clear hk1
 have hk2:k≤4611686018427387904:=gQ
 go_enter Tryz.func81,Tryz.ntmps81
 go_wp2
 go_loopw [1,5] (fun l i wr=>∃ (j:Nat),j≤x.length∧i=.int .i64 j∧l=.int .i64 (Rep.mkL kE (x.take j) k).2∧(Rep.slice 175 kE).own wr [.slice aa x.length capa] ((Rep.mkL kE (x.take j) k).1++x.drop j) S∧Touch S w wr) (fun _ i _=>x.length - (intOf i).toNat)
 case atStart=>exact ⟨0,Nat.zero_le _,rfl,rfl,by simpa [Rep.mkL] using ha,Touch.refl _ _⟩
 obtain ⟨j,hj,rfl,rfl,hown,ht⟩:=hrel
 by_cases hlt:j < x.length
 · obtain ⟨hln,b,off,rfl,hSb,hbw⟩:=Rep.zw hown qE
   clear hln
   rw [Rep.zn hlt] at hown
   obtain ⟨q0,q1⟩:=Rep.zo (e:=175) (r:=kE) hbd.out hlt HK.out hk0
   have HE:∀ y,y=(kE.mark true x[j] (Rep.mkL kE (x.take j) k).2).1→Hid (((Rep.mkL kE (x.take j) k).1++x.drop j).set j y=(Rep.mkL kE (x.take (j + 1)) k).1++x.drop (j + 1)):=fun y hy=>yD (Rep.kBc hlt hy)
   have HF:=yD (Rep.kAq (r:=kE) (k:=k) hlt)
   have hLl:j < ((Rep.mkL kE (x.take j) k).1++x.drop j).length:=pM
   have HL:=yD hLl;clear hLl
   generalize (Rep.mkL kE (x.take j) k).2=q at *
   generalize (Rep.mkL kE (x.take j) k).1++x.drop j=M at *
   generalize hx:x[j]=y at *
   have HX:=yD hx;clear hx
   obtain ⟨y0,y1,y2⟩:=y
   have HEH:=yD HE;clear HE
   have HQ:=yD q1;clear q1
   have q2:q≤4611686018427387904:=gP
   obtain ⟨c,B,hc,hB,hSb',hcell,hfz,back⟩:=Rep.jH hown HL.out
   obtain ⟨d0_0,d0_1,d0_2,rfl⟩:∃ d0_0 d0_1 d0_2,c=[d0_0,d0_1,d0_2]:=by have h:=kE.len hc.1;match c,h with | [d0_0,d0_1,d0_2],_=>exact ⟨_,_,_,rfl⟩
   try simp only [zF] at hc
   have C0_0:wr.cell? ⟨b,off + j * 3,none⟩=some d0_0:=hcell 0 _ rfl
   have Z0_0:=hfz (off + j * 3)
   have C0_1:wr.cell? ⟨b,off + j * 3 + 1,none⟩=some d0_1:=hcell 1 _ rfl
   have Z0_1:=hfz (off + j * 3 + 1)
   have C0_2:wr.cell? ⟨b,off + j * 3 + 2,none⟩=some d0_2:=hcell 2 _ rfl
   have Z0_2:=hfz (off + j * 3 + 2)
   clear hB hSb' hcell hfz back
   obtain ⟨s0v0,s0v1,hce,s0_0,s0_1,s0_2,s0_3⟩:=jN hc.raw
   simp only [List.cons.injEq,and_true] at hce
   obtain ⟨rfl,rfl,rfl⟩:=hce
   obtain ⟨s0a0,s0p0,rfl,_⟩:=Rep.sl s0_1
   obtain ⟨s0a1,s0p1,rfl,_⟩:=Rep.sl s0_2
   clear s0_0 s0_1 s0_2 s0_3
   clear hc
   go_wp2_with fail
   obtain ⟨c1,B1,hc1,hB1,_,hcell1,_,back1⟩:=Rep.jH hown HL.out
   obtain ⟨e1_0,e1_1,e1_2,rfl⟩:∃ e1_0 e1_1 e1_2,c1=[e1_0,e1_1,e1_2]:=by have h:=kE.len hc1.1;match c1,h with | [e1_0,e1_1,e1_2],_=>exact ⟨_,_,_,rfl⟩
   have hd1:=hcell1 0 _ rfl
   obtain rfl:e1_0=_:=by simpa [go_sem,C0_0,kFk] using hd1.symm
   obtain ⟨A1,hA1,hAB1,bk1⟩:=kGb hc1
   try simp only [zF] at hA1
   refine (jl (k:=q) hA1 rP (by have:=HQ.out;have e:kE.cnt=(Rep.slice 9 Rep.str).cnt + ((Rep.slice 123 kQ).cnt + (1)):=rfl;omega)).mono ?_
   rintro e w1 ⟨rfl,P1,X1⟩
   have Ox1:=back1 (bk1 P1 X1) (X1.wide hAB1)
   have Tx1:=ht.trans (X1.wide (fun i hi=>(hB1 i (hAB1 i hi)).1))
   have g1:=(Rep.slice 9 Rep.str).mark_ge (e:=true) (x:=y0) (k:=q)
   have l1:((Rep.slice 9 Rep.str).mark true y0 (q)).2≤q + ((Rep.slice 9 Rep.str).cnt:Nat):=(Rep.slice 9 Rep.str).mark_le (e:=true) (k:=q) hA1.2
   have u1:((Rep.slice 9 Rep.str).mark true y0 (q)).2≤4611686018427387904:=by have:=HQ.out;have e:kE.cnt=(Rep.slice 9 Rep.str).cnt + ((Rep.slice 123 kQ).cnt + (1)):=rfl;unfold Top at *;omega
   have M1:=yD l1;clear l1
   clear C0_0 C0_1 C0_2 Z0_0 Z0_1 Z0_2 hA1 bk1 back1 hc1 hB1 hAB1 P1 X1 hcell1 hd1
   obtain ⟨c,B,hc,hB,hSb',hcell,hfz,back⟩:=Rep.jH Ox1 HL.out
   obtain ⟨d1_0,d1_1,d1_2,rfl⟩:∃ d1_0 d1_1 d1_2,c=[d1_0,d1_1,d1_2]:=by have h:=kE.len hc.1;match c,h with | [d1_0,d1_1,d1_2],_=>exact ⟨_,_,_,rfl⟩
   try simp only [zF] at hc
   have C1_0:w1.cell? ⟨b,off + j * 3,none⟩=some d1_0:=hcell 0 _ rfl
   have Z1_0:=hfz (off + j * 3)
   have C1_1:w1.cell? ⟨b,off + j * 3 + 1,none⟩=some d1_1:=hcell 1 _ rfl
   have Z1_1:=hfz (off + j * 3 + 1)
   have C1_2:w1.cell? ⟨b,off + j * 3 + 2,none⟩=some d1_2:=hcell 2 _ rfl
   have Z1_2:=hfz (off + j * 3 + 2)
   clear hB hSb' hcell hfz back
   obtain ⟨s1v0,s1v1,hce,s1_0,s1_1,s1_2,s1_3⟩:=jN hc.raw
   simp only [List.cons.injEq,and_true] at hce
   obtain ⟨rfl,rfl,rfl⟩:=hce
   obtain ⟨s1a0,s1p0,rfl,_⟩:=Rep.sl s1_1
   obtain ⟨s1a1,s1p1,rfl,_⟩:=Rep.sl s1_2
   clear s1_0 s1_1 s1_2 s1_3
   clear hc
   go_wp2_with fail
   obtain ⟨c2,B2,hc2,hB2,_,hcell2,_,back2⟩:=Rep.jH Ox1 HL.out
   obtain ⟨e2_0,e2_1,e2_2,rfl⟩:∃ e2_0 e2_1 e2_2,c2=[e2_0,e2_1,e2_2]:=by have h:=kE.len hc2.1;match c2,h with | [e2_0,e2_1,e2_2],_=>exact ⟨_,_,_,rfl⟩
   have hd2:=hcell2 1 _ rfl
   obtain rfl:e2_1=_:=by simpa [go_sem,C1_1,kFk] using hd2.symm
   obtain ⟨A2,hA2,hAB2,bk2⟩:=kDq hc2
   try simp only [zF] at hA2
   refine (kNn (k:=((Rep.slice 9 Rep.str).mark true y0 (q)).2) hA2 rP (by have:=HQ.out;have:=M1.out;have e:kE.cnt=(Rep.slice 9 Rep.str).cnt + ((Rep.slice 123 kQ).cnt + (1)):=rfl;omega)).mono ?_
   rintro e w2 ⟨rfl,P2,X2⟩
   have Ox2:=back2 (bk2 P2 X2) (X2.wide hAB2)
   have Tx2:=Tx1.trans (X2.wide (fun i hi=>(hB2 i (hAB2 i hi)).1))
   have g2:=(Rep.slice 123 kQ).mark_ge (e:=true) (x:=y1) (k:=((Rep.slice 9 Rep.str).mark true y0 (q)).2)
   have l2:((Rep.slice 123 kQ).mark true y1 (((Rep.slice 9 Rep.str).mark true y0 (q)).2)).2≤((Rep.slice 9 Rep.str).mark true y0 (q)).2 + ((Rep.slice 123 kQ).cnt:Nat):=(Rep.slice 123 kQ).mark_le (e:=true) (k:=((Rep.slice 9 Rep.str).mark true y0 (q)).2) hA2.2
   have u2:((Rep.slice 123 kQ).mark true y1 (((Rep.slice 9 Rep.str).mark true y0 (q)).2)).2≤4611686018427387904:=by have:=HQ.out;have:=M1.out;have e:kE.cnt=(Rep.slice 9 Rep.str).cnt + ((Rep.slice 123 kQ).cnt + (1)):=rfl;unfold Top at *;omega
   have M2:=yD l2;clear l2
   clear C1_0 C1_1 C1_2 Z1_0 Z1_1 Z1_2 hA2 bk2 back2 hc2 hB2 hAB2 P2 X2 hcell2 hd2
   obtain ⟨c,B,hc,hB,hSb',hcell,hfz,back⟩:=Rep.jH Ox2 HL.out
   obtain ⟨d2_0,d2_1,d2_2,rfl⟩:∃ d2_0 d2_1 d2_2,c=[d2_0,d2_1,d2_2]:=by have h:=kE.len hc.1;match c,h with | [d2_0,d2_1,d2_2],_=>exact ⟨_,_,_,rfl⟩
   try simp only [zF] at hc
   have C2_0:w2.cell? ⟨b,off + j * 3,none⟩=some d2_0:=hcell 0 _ rfl
   have Z2_0:=hfz (off + j * 3)
   have C2_1:w2.cell? ⟨b,off + j * 3 + 1,none⟩=some d2_1:=hcell 1 _ rfl
   have Z2_1:=hfz (off + j * 3 + 1)
   have C2_2:w2.cell? ⟨b,off + j * 3 + 2,none⟩=some d2_2:=hcell 2 _ rfl
   have Z2_2:=hfz (off + j * 3 + 2)
   clear hB hSb' hcell hfz back
   obtain ⟨s2v0,s2v1,hce,s2_0,s2_1,s2_2,s2_3⟩:=jN hc.raw
   simp only [List.cons.injEq,and_true] at hce
   obtain ⟨rfl,rfl,rfl⟩:=hce
   obtain ⟨s2a0,s2p0,rfl,_⟩:=Rep.sl s2_1
   obtain ⟨s2a1,s2p1,rfl,_⟩:=Rep.sl s2_2
   clear s2_0 s2_1 s2_2 s2_3
   clear hc
   obtain ⟨O1,T1⟩:=Rep.jU (v:=.int .i64 (((Rep.slice 123 kQ).mark true y1 (((Rep.slice 9 Rep.str).mark true y0 (q)).2)).2)) (p:=off + j * 3 + 2) Ox2 HL.out (show 2 < kE.n by decide) (kHy _ ⟨by omega,by omega⟩) (fun h=>h) (show off + j * 3 + 2=off + j * 3 + 2 by omega)
   have T1:=Tx2.trans (T1.wide nR)
   have EQ:=HEH.out _ rfl
   have OF:=yD (EQ.out ▸ O1);have TF:=yD T1
   have QF:Hid ((((Rep.slice 123 kQ).mark true y1 (((Rep.slice 9 Rep.str).mark true y0 (q)).2)).2 + 1)=(Rep.mkL kE (x.take (j + 1)) k).2):=yD qL
   go_wp2
   go_roundw
   case rel=>exact ⟨j + 1,by omega,by go_num,by rw [← QF.out],OF.out,TF.out⟩
   simp [intOf];omega
 obtain ⟨e1,e2⟩:=Rep.kAp (r:=kE) (k:=k) hlt
 rw [e1] at hown
 have HO:=yD hown;have HT:=yD e2;clear hown e1 e2
 go_wp2
 go_ret
 exact ⟨ku HT.out,HO.out,ht⟩
theorem kNm {w:World} {va:Value} {x:List jK} {k:Int} {S:Nat→Prop} (ha:(Rep.slice 178 kJ).own w [va] x S) (hk0:0≤k) (hk1:k + ((Rep.slice 178 kJ).cnt:Nat)≤Top) :
    Calls Tryz.prog 82 #[va,.int .i64 k] w (zZ (Rep.slice 178 kJ) true x k [va] S w):=by
 obtain ⟨aa,capa,rfl,la⟩:=Rep.sl ha.raw
 have lb:x.length≤16777216:=ha.2.1
 have hbd:=yD ha.2
 have HK:=yD hk1;clear hk1
 have hk2:k≤4611686018427387904:=gQ
 go_enter Tryz.func82,Tryz.ntmps82
 go_wp2
 go_loopw [1,5] (fun l i wr=>∃ (j:Nat),j≤x.length∧i=.int .i64 j∧l=.int .i64 (Rep.mkL kJ (x.take j) k).2∧(Rep.slice 178 kJ).own wr [.slice aa x.length capa] ((Rep.mkL kJ (x.take j) k).1++x.drop j) S∧Touch S w wr) (fun _ i _=>x.length - (intOf i).toNat)
 case atStart=>exact ⟨0,Nat.zero_le _,rfl,rfl,by simpa [Rep.mkL] using ha,Touch.refl _ _⟩
 obtain ⟨j,hj,rfl,rfl,hown,ht⟩:=hrel
 by_cases hlt:j < x.length
 · obtain ⟨hln,b,off,rfl,hSb,hbw⟩:=Rep.zw hown qE
   clear hln
   rw [Rep.zn hlt] at hown
   obtain ⟨q0,q1⟩:=Rep.zo (e:=178) (r:=kJ) hbd.out hlt HK.out hk0
   have HE:∀ y,y=(kJ.mark true x[j] (Rep.mkL kJ (x.take j) k).2).1→Hid (((Rep.mkL kJ (x.take j) k).1++x.drop j).set j y=(Rep.mkL kJ (x.take (j + 1)) k).1++x.drop (j + 1)):=fun y hy=>yD (Rep.kBc hlt hy)
   have HF:=yD (Rep.kAq (r:=kJ) (k:=k) hlt)
   have hLl:j < ((Rep.mkL kJ (x.take j) k).1++x.drop j).length:=pM
   have HL:=yD hLl;clear hLl
   generalize (Rep.mkL kJ (x.take j) k).2=q at *
   generalize (Rep.mkL kJ (x.take j) k).1++x.drop j=M at *
   generalize hx:x[j]=y at *
   have HX:=yD hx;clear hx
   obtain ⟨y0,y1⟩:=y
   have HEH:=yD HE;clear HE
   have HQ:=yD q1;clear q1
   have q2:q≤4611686018427387904:=gP
   obtain ⟨c,B,hc,hB,hSb',hcell,hfz,back⟩:=Rep.jH hown HL.out
   obtain ⟨d0_0,d0_1,rfl⟩:∃ d0_0 d0_1,c=[d0_0,d0_1]:=by have h:=kJ.len hc.1;match c,h with | [d0_0,d0_1],_=>exact ⟨_,_,rfl⟩
   try simp only [kDk] at hc
   have C0_0:wr.cell? ⟨b,off + j * 2,none⟩=some d0_0:=hcell 0 _ rfl
   have Z0_0:=hfz (off + j * 2)
   have C0_1:wr.cell? ⟨b,off + j * 2 + 1,none⟩=some d0_1:=hcell 1 _ rfl
   have Z0_1:=hfz (off + j * 2 + 1)
   clear hB hSb' hcell hfz back
   obtain ⟨s0v0,hce,s0_0,s0_1,s0_2⟩:=yt hc.raw
   simp only [List.cons.injEq,and_true] at hce
   obtain ⟨rfl,rfl⟩:=hce
   obtain ⟨s0a0,s0p0,rfl,_⟩:=Rep.sl s0_1
   clear s0_0 s0_1 s0_2
   clear hc
   go_wp2_with fail
   obtain ⟨c1,B1,hc1,hB1,_,hcell1,_,back1⟩:=Rep.jH hown HL.out
   obtain ⟨e1_0,e1_1,rfl⟩:∃ e1_0 e1_1,c1=[e1_0,e1_1]:=by have h:=kJ.len hc1.1;match c1,h with | [e1_0,e1_1],_=>exact ⟨_,_,rfl⟩
   have hd1:=hcell1 0 _ rfl
   obtain rfl:e1_0=_:=by simpa [go_sem,C0_0,kWf] using hd1.symm
   obtain ⟨A1,hA1,hAB1,bk1⟩:=kLg hc1
   try simp only [kDk] at hA1
   refine (jl (k:=q) hA1 rP (by have:=HQ.out;have e:kJ.cnt=(Rep.slice 9 Rep.str).cnt + (1):=rfl;omega)).mono ?_
   rintro e w1 ⟨rfl,P1,X1⟩
   have Ox1:=back1 (bk1 P1 X1) (X1.wide hAB1)
   have Tx1:=ht.trans (X1.wide (fun i hi=>(hB1 i (hAB1 i hi)).1))
   have g1:=(Rep.slice 9 Rep.str).mark_ge (e:=true) (x:=y0) (k:=q)
   have l1:((Rep.slice 9 Rep.str).mark true y0 (q)).2≤q + ((Rep.slice 9 Rep.str).cnt:Nat):=(Rep.slice 9 Rep.str).mark_le (e:=true) (k:=q) hA1.2
   have u1:((Rep.slice 9 Rep.str).mark true y0 (q)).2≤4611686018427387904:=by have:=HQ.out;have e:kJ.cnt=(Rep.slice 9 Rep.str).cnt + (1):=rfl;unfold Top at *;omega
   have M1:=yD l1;clear l1
   clear C0_0 C0_1 Z0_0 Z0_1 hA1 bk1 back1 hc1 hB1 hAB1 P1 X1 hcell1 hd1
   obtain ⟨c,B,hc,hB,hSb',hcell,hfz,back⟩:=Rep.jH Ox1 HL.out
   obtain ⟨d1_0,d1_1,rfl⟩:∃ d1_0 d1_1,c=[d1_0,d1_1]:=by have h:=kJ.len hc.1;match c,h with | [d1_0,d1_1],_=>exact ⟨_,_,rfl⟩
   try simp only [kDk] at hc
   have C1_0:w1.cell? ⟨b,off + j * 2,none⟩=some d1_0:=hcell 0 _ rfl
   have Z1_0:=hfz (off + j * 2)
   have C1_1:w1.cell? ⟨b,off + j * 2 + 1,none⟩=some d1_1:=hcell 1 _ rfl
   have Z1_1:=hfz (off + j * 2 + 1)
   clear hB hSb' hcell hfz back
   obtain ⟨s1v0,hce,s1_0,s1_1,s1_2⟩:=yt hc.raw
   simp only [List.cons.injEq,and_true] at hce
   obtain ⟨rfl,rfl⟩:=hce
   obtain ⟨s1a0,s1p0,rfl,_⟩:=Rep.sl s1_1
   clear s1_0 s1_1 s1_2
   clear hc
   obtain ⟨O1,T1⟩:=Rep.jU (v:=.int .i64 (((Rep.slice 9 Rep.str).mark true y0 (q)).2)) (p:=off + j * 2 + 1) Ox1 HL.out (show 1 < kJ.n by decide) (kQf _ ⟨by omega,by omega⟩) (fun h=>h) (show off + j * 2 + 1=off + j * 2 + 1 by omega)
   have T1:=Tx1.trans (T1.wide nR)
   have EQ:=HEH.out _ rfl
   have OF:=yD (EQ.out ▸ O1);have TF:=yD T1
   have QF:Hid ((((Rep.slice 9 Rep.str).mark true y0 (q)).2 + 1)=(Rep.mkL kJ (x.take (j + 1)) k).2):=yD qL
   go_wp2
   go_roundw
   case rel=>exact ⟨j + 1,by omega,by go_num,by rw [← QF.out],OF.out,TF.out⟩
   simp [intOf];omega
 obtain ⟨e1,e2⟩:=Rep.kAp (r:=kJ) (k:=k) hlt
 rw [e1] at hown
 have HO:=yD hown;have HT:=yD e2;clear hown e1 e2
 go_wp2
 go_ret
 exact ⟨ku HT.out,HO.out,ht⟩
end Go.Proofs.YtlfblpgkegeaeaaGreat

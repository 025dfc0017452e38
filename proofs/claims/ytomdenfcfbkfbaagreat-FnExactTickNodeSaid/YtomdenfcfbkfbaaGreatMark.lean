/-
  The laws' markings: each writes new numbers into all that its argument leads to, and into nothing else. Printed by genmark.py.
-/
import Derived.Test.YtomdenfcfbkfbaaGreatBase
import Derived.Test.YtomdenfcfbkfbaaGreatProg
import Derived.Test.YtomdenfcfbkfbaaGreatTypes
import Derived.Test.YtomdenfcfbkfbaaGreatMarkT
import Derived.WalkKit
import Derived.WalkSpells
import Derived.WalkLawsBesides
import Derived.BigQuiet
import Derived.Deep.QuietTactic
import Derived.StillTailTactics
namespace Go.Proofs.YtomdenfcfbkfbaaGreat
open Go.RowKit
set_option linter.unusedVariables false
set_option linter.unusedSimpArgs false
set_option linter.unnecessarySimpa false
theorem set_str {E v:ByteArray} (hv:v.size≤maxLen) {w:World} {cs:List Value} {S:Nat→Prop} (h:Rep.str.is true w cs E S):Rep.str.is true w (cs.set 0 (.string v)) v S:=by
 obtain ⟨rfl,_⟩:=h;exact ⟨rfl,hv⟩
theorem set_byte {E v:UInt8} {w:World} {cs:List Value} {S:Nat→Prop} (h:Rep.byte.is true w cs E S):Rep.byte.is true w (cs.set 0 (.int .u8 v.toNat)) v S:=by
 obtain rfl:=(show _=_ from h);rfl
theorem mt_max (k:Int):(mt k).size≤maxLen:=by have:=size_mt k;unfold maxLen;omega
theorem mt_big (k:Int):(mt k).size≤Big:=by have:=size_mt k;unfold Big;omega
theorem u8_mark (k:Int):((UInt8.ofNat (k % 256).toNat).toNat:Int)=k % 256:=by
 rw [UInt8.toNat_ofNat'];omega
theorem set_byteQ {E:UInt8} {q:Int} {w:World} {cs:List Value} {S:Nat→Prop} (h:Rep.byte.is true w cs E S):Rep.byte.is true w (cs.set 0 (.int .u8 (q % 256))) (UInt8.ofNat (q % 256).toNat) S:=by
 have:=set_byte (v:=UInt8.ofNat (q % 256).toNat) h
 rwa [u8_mark q] at this
set_option maxRecDepth 100000 in
set_option maxHeartbeats 16000000 in
theorem markStringS_c {w:World} {va:Value} {x:List ByteArray} {k:Int} {S:Nat→Prop} (ha:(Rep.slice 9 Rep.str).own w [va] x S) (hk0:0≤k) (hk1:k + ((Rep.slice 9 Rep.str).cnt:Nat)≤Top) :
    Calls Tryz.prog 151 #[va,.int .i64 k] w (MarkPost (Rep.slice 9 Rep.str) true x k [va] S w):=by
 obtain ⟨aa,capa,hva,la⟩:=Rep.kR ha.raw;obtain rfl:va=_:=by simpa using hva
 clear hva
 have lb:x.length≤16777216:=ha.2.1
 have hbd:=hD ha.2
 have HK:=hD hk1;clear hk1
 have hk2:k≤4611686018427387904:=by have:=HK.out;unfold Top at this;omega
 go_enter Tryz.func151,Tryz.ntmps151
 go_wp2
 go_loopw [1,5] (fun l i wr=>∃ (j:Nat),j≤x.length∧i=.int .i64 j∧l=.int .i64 (Rep.mkL Rep.str (x.take j) k).2∧(Rep.slice 9 Rep.str).own wr [.slice aa x.length capa] ((Rep.mkL Rep.str (x.take j) k).1++x.drop j) S∧Touch S w wr) (fun _ i _=>x.length - (intOf i).toNat)
 case atStart=>exact ⟨0,Nat.zero_le _,rfl,rfl,by simpa [Rep.mkL] using ha,Touch.refl _ _⟩
 obtain ⟨j,hj,rfl,rfl,hown,ht⟩:=hrel
 by_cases hlt:j < x.length
 · obtain ⟨hln,b,off,rfl,hSb,hbw⟩:=Rep.own_addr hown (by rw [Rep.mark_len];omega)
   clear hln
   rw [Rep.mark_start hlt] at hown
   obtain ⟨q0,q1⟩:=Rep.mark_bound (e:=9) (r:=Rep.str) hbd.out hlt HK.out hk0
   have HE:∀ y,y=(Rep.str.mark true x[j] (Rep.mkL Rep.str (x.take j) k).2).1→Hid (((Rep.mkL Rep.str (x.take j) k).1++x.drop j).set j y=(Rep.mkL Rep.str (x.take (j + 1)) k).1++x.drop (j + 1)):=fun y hy=>hD (Rep.mark_end hlt hy)
   have HF:=hD (Rep.mark_end2 (r:=Rep.str) (k:=k) hlt)
   have hLl:j < ((Rep.mkL Rep.str (x.take j) k).1++x.drop j).length:=by rw [Rep.mark_len];exact hlt
   have HL:=hD hLl;clear hLl
   generalize (Rep.mkL Rep.str (x.take j) k).2=q at *
   generalize (Rep.mkL Rep.str (x.take j) k).1++x.drop j=M at *
   generalize hx:x[j]=y at *
   have HX:=hD hx;clear hx
   obtain ⟨y0,rfl⟩:∃ y0,y0=y:=⟨_,rfl⟩
   have HEH:=hD HE;clear HE
   have HQ:=hD q1;clear q1
   have q2:q≤4611686018427387904:=by have:=HQ.out;unfold Top at this;omega
   obtain ⟨c,B,hc,hB,hSb',hcell,hfz,back⟩:=Rep.own_get' hown HL.out
   obtain ⟨d0_0,rfl⟩:∃ d0_0,c=[d0_0]:=by have h:=Rep.str.len hc.1;match c,h with | [d0_0],_=>exact ⟨_,rfl⟩
   have C0_0:wr.cell? ⟨b,off + j,none⟩=some d0_0:=(by have h:wr.cell? ⟨b,off + j * 1 + 0,none⟩=_:=hcell 0 _ rfl;simpa using h)
   have Z0_0:=hfz (off + j)
   clear hB hSb' hcell hfz back
   obtain ⟨hce,_⟩:=Rep.str_raw hc.raw
   obtain rfl:d0_0=_:=by simpa using hce
   clear hce
   clear hc
   go_wp2_with fail
   refine (markText_c (k:=q) (by omega) (by omega)).mono ?_
   clear C0_0 Z0_0
   rintro e w1 ⟨rfl,hb1⟩
   have Ox1:=hown.below hb1
   have Tx1:=ht.trans (Touch.of_below hb1)
   clear hb1
   obtain ⟨c,B,hc,hB,hSb',hcell,hfz,back⟩:=Rep.own_get' Ox1 HL.out
   obtain ⟨d1_0,rfl⟩:∃ d1_0,c=[d1_0]:=by have h:=Rep.str.len hc.1;match c,h with | [d1_0],_=>exact ⟨_,rfl⟩
   have C1_0:w1.cell? ⟨b,off + j,none⟩=some d1_0:=(by have h:w1.cell? ⟨b,off + j * 1 + 0,none⟩=_:=hcell 0 _ rfl;simpa using h)
   have Z1_0:=hfz (off + j)
   clear hB hSb' hcell hfz back
   obtain ⟨hce,_⟩:=Rep.str_raw hc.raw
   obtain rfl:d1_0=_:=by simpa using hce
   clear hce
   clear hc
   obtain ⟨O1,T1⟩:=Rep.own_setCell' (v:=.string (mt (q))) (p:=off + j) Ox1 HL.out (show 0 < Rep.str.n by decide) (set_str (mt_max _)) (fun _=>mt_big _) (show off + j=off + j * 1 + 0 by omega)
   have T1:=Tx1.trans (T1.wide (fun i hi=>by rw [hi];exact hSb))
   have EQ:=HEH.out _ rfl
   have OF:=hD (EQ.out ▸ O1);have TF:=hD T1
   have QF:Hid ((q + 1)=(Rep.mkL Rep.str (x.take (j + 1)) k).2):=hD (by rw [HF.out];rfl)
   go_wp2
   go_roundw
   case rel=>exact ⟨j + 1,by omega,by go_num,by rw [← QF.out],OF.out,TF.out⟩
   simp [intOf];omega
 obtain ⟨e1,e2⟩:=Rep.mark_full (r:=Rep.str) (k:=k) hlt
 rw [e1] at hown
 have HO:=hD hown;have HT:=hD e2;clear hown e1 e2
 go_wp2
 go_ret
 exact ⟨ret_int HT.out,HO.out,ht⟩
set_option maxRecDepth 100000 in
set_option maxHeartbeats 16000000 in
theorem markByteS_c {w:World} {va:Value} {x:List UInt8} {k:Int} {S:Nat→Prop} (ha:(Rep.slice 5 Rep.byte).own w [va] x S) (hk0:0≤k) (hk1:k + ((Rep.slice 5 Rep.byte).cnt:Nat)≤Top) :
    Calls Tryz.prog 152 #[va,.int .i64 k] w (MarkPost (Rep.slice 5 Rep.byte) true x k [va] S w):=by
 obtain ⟨aa,capa,hva,la⟩:=Rep.kR ha.raw;obtain rfl:va=_:=by simpa using hva
 clear hva
 have lb:x.length≤16777216:=ha.2.1
 have hbd:=hD ha.2
 have HK:=hD hk1;clear hk1
 have hk2:k≤4611686018427387904:=by have:=HK.out;unfold Top at this;omega
 go_enter Tryz.func152,Tryz.ntmps152
 go_wp2
 go_loopw [1,5] (fun l i wr=>∃ (j:Nat),j≤x.length∧i=.int .i64 j∧l=.int .i64 (Rep.mkL Rep.byte (x.take j) k).2∧(Rep.slice 5 Rep.byte).own wr [.slice aa x.length capa] ((Rep.mkL Rep.byte (x.take j) k).1++x.drop j) S∧Touch S w wr) (fun _ i _=>x.length - (intOf i).toNat)
 case atStart=>exact ⟨0,Nat.zero_le _,rfl,rfl,by simpa [Rep.mkL] using ha,Touch.refl _ _⟩
 obtain ⟨j,hj,rfl,rfl,hown,ht⟩:=hrel
 by_cases hlt:j < x.length
 · obtain ⟨hln,b,off,rfl,hSb,hbw⟩:=Rep.own_addr hown (by rw [Rep.mark_len];omega)
   clear hln
   rw [Rep.mark_start hlt] at hown
   obtain ⟨q0,q1⟩:=Rep.mark_bound (e:=5) (r:=Rep.byte) hbd.out hlt HK.out hk0
   have HE:∀ y,y=(Rep.byte.mark true x[j] (Rep.mkL Rep.byte (x.take j) k).2).1→Hid (((Rep.mkL Rep.byte (x.take j) k).1++x.drop j).set j y=(Rep.mkL Rep.byte (x.take (j + 1)) k).1++x.drop (j + 1)):=fun y hy=>hD (Rep.mark_end hlt hy)
   have HF:=hD (Rep.mark_end2 (r:=Rep.byte) (k:=k) hlt)
   have hLl:j < ((Rep.mkL Rep.byte (x.take j) k).1++x.drop j).length:=by rw [Rep.mark_len];exact hlt
   have HL:=hD hLl;clear hLl
   generalize (Rep.mkL Rep.byte (x.take j) k).2=q at *
   generalize (Rep.mkL Rep.byte (x.take j) k).1++x.drop j=M at *
   generalize hx:x[j]=y at *
   have HX:=hD hx;clear hx
   obtain ⟨y0,rfl⟩:∃ y0,y0=y:=⟨_,rfl⟩
   have HEH:=hD HE;clear HE
   have HQ:=hD q1;clear q1
   have q2:q≤4611686018427387904:=by have:=HQ.out;unfold Top at this;omega
   obtain ⟨c,B,hc,hB,hSb',hcell,hfz,back⟩:=Rep.own_get' hown HL.out
   obtain ⟨d0_0,rfl⟩:∃ d0_0,c=[d0_0]:=by have h:=Rep.byte.len hc.1;match c,h with | [d0_0],_=>exact ⟨_,rfl⟩
   have C0_0:wr.cell? ⟨b,off + j,none⟩=some d0_0:=(by have h:wr.cell? ⟨b,off + j * 1 + 0,none⟩=_:=hcell 0 _ rfl;simpa using h)
   have Z0_0:=hfz (off + j)
   clear hB hSb' hcell hfz back
   obtain hce:=Rep.byte_raw hc.raw
   obtain rfl:d0_0=_:=by simpa using hce
   clear hce
   clear hc
   obtain ⟨O1,T1⟩:=Rep.own_setCell' (v:=.int .u8 ((q) % 256)) (p:=off + j) hown HL.out (show 0 < Rep.byte.n by decide) (set_byteQ) (fun h=>h) (show off + j=off + j * 1 + 0 by omega)
   have T1:=ht.trans (T1.wide (fun i hi=>by rw [hi];exact hSb))
   have EQ:=HEH.out _ rfl
   have OF:=hD (EQ.out ▸ O1);have TF:=hD T1
   have QF:Hid ((q + 1)=(Rep.mkL Rep.byte (x.take (j + 1)) k).2):=hD (by rw [HF.out];rfl)
   go_wp2
   go_roundw
   case rel=>exact ⟨j + 1,by omega,by go_num,by rw [← QF.out],OF.out,TF.out⟩
   simp [intOf];omega
 obtain ⟨e1,e2⟩:=Rep.mark_full (r:=Rep.byte) (k:=k) hlt
 rw [e1] at hown
 have HO:=hD hown;have HT:=hD e2;clear hown e1 e2
 go_wp2
 go_ret
 exact ⟨ret_int HT.out,HO.out,ht⟩
set_option maxRecDepth 100000 in
set_option maxHeartbeats 16000000 in
theorem markMeasurementS_c {w:World} {va:Value} {x:List kQ} {k:Int} {S:Nat→Prop} (ha:(Rep.slice 166 kI).own w [va] x S) (hk0:0≤k) (hk1:k + ((Rep.slice 166 kI).cnt:Nat)≤Top) :
    Calls Tryz.prog 60 #[va,.int .i64 k] w (MarkPost (Rep.slice 166 kI) true x k [va] S w):=by
 obtain ⟨aa,capa,hva,la⟩:=Rep.kR ha.raw;obtain rfl:va=_:=by simpa using hva
 clear hva
 have lb:x.length≤16777216:=ha.2.1
 have hbd:=hD ha.2
 have HK:=hD hk1;clear hk1
 have hk2:k≤4611686018427387904:=by have:=HK.out;unfold Top at this;omega
 go_enter Tryz.func60,Tryz.ntmps60
 go_wp2
 go_loopw [1,5] (fun l i wr=>∃ (j:Nat),j≤x.length∧i=.int .i64 j∧l=.int .i64 (Rep.mkL kI (x.take j) k).2∧(Rep.slice 166 kI).own wr [.slice aa x.length capa] ((Rep.mkL kI (x.take j) k).1++x.drop j) S∧Touch S w wr) (fun _ i _=>x.length - (intOf i).toNat)
 case atStart=>exact ⟨0,Nat.zero_le _,rfl,rfl,by simpa [Rep.mkL] using ha,Touch.refl _ _⟩
 obtain ⟨j,hj,rfl,rfl,hown,ht⟩:=hrel
 by_cases hlt:j < x.length
 · obtain ⟨hln,b,off,rfl,hSb,hbw⟩:=Rep.own_addr hown (by rw [Rep.mark_len];omega)
   clear hln
   rw [Rep.mark_start hlt] at hown
   obtain ⟨q0,q1⟩:=Rep.mark_bound (e:=166) (r:=kI) hbd.out hlt HK.out hk0
   have HE:∀ y,y=(kI.mark true x[j] (Rep.mkL kI (x.take j) k).2).1→Hid (((Rep.mkL kI (x.take j) k).1++x.drop j).set j y=(Rep.mkL kI (x.take (j + 1)) k).1++x.drop (j + 1)):=fun y hy=>hD (Rep.mark_end hlt hy)
   have HF:=hD (Rep.mark_end2 (r:=kI) (k:=k) hlt)
   have hLl:j < ((Rep.mkL kI (x.take j) k).1++x.drop j).length:=by rw [Rep.mark_len];exact hlt
   have HL:=hD hLl;clear hLl
   generalize (Rep.mkL kI (x.take j) k).2=q at *
   generalize (Rep.mkL kI (x.take j) k).1++x.drop j=M at *
   generalize hx:x[j]=y at *
   have HX:=hD hx;clear hx
   obtain ⟨y0,y1,y2⟩:=y
   have HEH:=hD HE;clear HE
   have HQ:=hD q1;clear q1
   have q2:q≤4611686018427387904:=by have:=HQ.out;unfold Top at this;omega
   obtain ⟨c,B,hc,hB,hSb',hcell,hfz,back⟩:=Rep.own_get' hown HL.out
   obtain ⟨d0_0,d0_1,d0_2,rfl⟩:∃ d0_0 d0_1 d0_2,c=[d0_0,d0_1,d0_2]:=by have h:=kI.len hc.1;match c,h with | [d0_0,d0_1,d0_2],_=>exact ⟨_,_,_,rfl⟩
   try simp only [setMeasurement_1,setMeasurement_2] at hc
   have C0_0:wr.cell? ⟨b,off + j * 3,none⟩=some d0_0:=hcell 0 _ rfl
   have Z0_0:=hfz (off + j * 3)
   have C0_1:wr.cell? ⟨b,off + j * 3 + 1,none⟩=some d0_1:=hcell 1 _ rfl
   have Z0_1:=hfz (off + j * 3 + 1)
   have C0_2:wr.cell? ⟨b,off + j * 3 + 2,none⟩=some d0_2:=hcell 2 _ rfl
   have Z0_2:=hfz (off + j * 3 + 2)
   clear hB hSb' hcell hfz back
   obtain ⟨s0v0,hce,s0_0,s0_1,s0_2,s0_3⟩:=RMeasurement_raw hc.raw
   simp only [List.cons.injEq,and_true] at hce
   obtain ⟨rfl,rfl,rfl⟩:=hce
   obtain ⟨s0a0,s0p0,s0h0,_⟩:=Rep.kR s0_1;obtain rfl:d0_0=_:=by simpa using s0h0
   clear s0h0
   clear s0_0 s0_1 s0_2 s0_3
   clear hc
   go_wp2_with fail
   obtain ⟨c1,B1,hc1,hB1,_,hcell1,_,back1⟩:=Rep.own_get' hown HL.out
   obtain ⟨e1_0,e1_1,e1_2,rfl⟩:∃ e1_0 e1_1 e1_2,c1=[e1_0,e1_1,e1_2]:=by have h:=kI.len hc1.1;match c1,h with | [e1_0,e1_1,e1_2],_=>exact ⟨_,_,_,rfl⟩
   have hd1:=hcell1 0 _ rfl
   obtain rfl:e1_0=_:=by simpa [go_sem,C0_0,RMeasurement_n] using hd1.symm
   obtain ⟨A1,hA1,hAB1,bk1⟩:=RMeasurement_sub_0_0 hc1
   try simp only [setMeasurement_1,setMeasurement_2] at hA1
   refine (markStringS_c (k:=q) hA1 (by omega) (by have:=HQ.out;have e:kI.cnt=(Rep.slice 9 Rep.str).cnt + (1 + (1)):=rfl;omega)).mono ?_
   rintro e w1 ⟨rfl,P1,X1⟩
   have Ox1:=back1 (bk1 P1 X1) (X1.wide hAB1)
   have Tx1:=ht.trans (X1.wide (fun i hi=>(hB1 i (hAB1 i hi)).1))
   have g1:=(Rep.slice 9 Rep.str).mark_ge (e:=true) (x:=y0) (k:=q)
   have l1:((Rep.slice 9 Rep.str).mark true y0 (q)).2≤q + ((Rep.slice 9 Rep.str).cnt:Nat):=(Rep.slice 9 Rep.str).mark_le (e:=true) (k:=q) hA1.2
   have u1:((Rep.slice 9 Rep.str).mark true y0 (q)).2≤4611686018427387904:=by have:=HQ.out;have e:kI.cnt=(Rep.slice 9 Rep.str).cnt + (1 + (1)):=rfl;unfold Top at *;omega
   have M1:=hD l1;clear l1
   clear C0_0 C0_1 C0_2 Z0_0 Z0_1 Z0_2 hA1 bk1 back1 hc1 hB1 hAB1 P1 X1 hcell1 hd1
   obtain ⟨c,B,hc,hB,hSb',hcell,hfz,back⟩:=Rep.own_get' Ox1 HL.out
   obtain ⟨d1_0,d1_1,d1_2,rfl⟩:∃ d1_0 d1_1 d1_2,c=[d1_0,d1_1,d1_2]:=by have h:=kI.len hc.1;match c,h with | [d1_0,d1_1,d1_2],_=>exact ⟨_,_,_,rfl⟩
   try simp only [setMeasurement_1,setMeasurement_2] at hc
   have C1_0:w1.cell? ⟨b,off + j * 3,none⟩=some d1_0:=hcell 0 _ rfl
   have Z1_0:=hfz (off + j * 3)
   have C1_1:w1.cell? ⟨b,off + j * 3 + 1,none⟩=some d1_1:=hcell 1 _ rfl
   have Z1_1:=hfz (off + j * 3 + 1)
   have C1_2:w1.cell? ⟨b,off + j * 3 + 2,none⟩=some d1_2:=hcell 2 _ rfl
   have Z1_2:=hfz (off + j * 3 + 2)
   clear hB hSb' hcell hfz back
   obtain ⟨s1v0,hce,s1_0,s1_1,s1_2,s1_3⟩:=RMeasurement_raw hc.raw
   simp only [List.cons.injEq,and_true] at hce
   obtain ⟨rfl,rfl,rfl⟩:=hce
   obtain ⟨s1a0,s1p0,s1h0,_⟩:=Rep.kR s1_1;obtain rfl:d1_0=_:=by simpa using s1h0
   clear s1h0
   clear s1_0 s1_1 s1_2 s1_3
   clear hc
   obtain ⟨O1,T1⟩:=Rep.own_setCell' (v:=.int .i64 (((Rep.slice 9 Rep.str).mark true y0 (q)).2)) (p:=off + j * 3 + 1) Ox1 HL.out (show 1 < kI.n by decide) (RMeasurement_set1 _ ⟨by omega,by omega⟩) (fun h=>h) (show off + j * 3 + 1=off + j * 3 + 1 by omega)
   have T1:=Tx1.trans (T1.wide (fun i hi=>by rw [hi];exact hSb))
   obtain ⟨O2,T2⟩:=Rep.own_setCell' (v:=.int .i64 (((Rep.slice 9 Rep.str).mark true y0 (q)).2 + 1)) (p:=off + j * 3 + 2) O1 HL.out (show 2 < kI.n by decide) (RMeasurement_set2 _ ⟨by omega,by omega⟩) (fun h=>h) (show off + j * 3 + 2=off + j * 3 + 2 by omega)
   have T2:=T1.trans (T2.wide (fun i hi=>by rw [hi];exact hSb))
   have EQ:=HEH.out _ rfl
   have OF:=hD (EQ.out ▸ O2);have TF:=hD T2
   have QF:Hid ((((Rep.slice 9 Rep.str).mark true y0 (q)).2 + 1 + 1)=(Rep.mkL kI (x.take (j + 1)) k).2):=hD (by rw [HF.out];rfl)
   go_wp2
   go_roundw
   case rel=>exact ⟨j + 1,by omega,by go_num,by rw [← QF.out],OF.out,TF.out⟩
   simp [intOf];omega
 obtain ⟨e1,e2⟩:=Rep.mark_full (r:=kI) (k:=k) hlt
 rw [e1] at hown
 have HO:=hD hown;have HT:=hD e2;clear hown e1 e2
 go_wp2
 go_ret
 exact ⟨ret_int HT.out,HO.out,ht⟩
set_option maxRecDepth 100000 in
set_option maxHeartbeats 16000000 in
theorem markRouteS_c {w:World} {va:Value} {x:List LRoute} {k:Int} {S:Nat→Prop} (ha:(Rep.slice 159 RRoute).own w [va] x S) (hk0:0≤k) (hk1:k + ((Rep.slice 159 RRoute).cnt:Nat)≤Top) :
    Calls Tryz.prog 59 #[va,.int .i64 k] w (MarkPost (Rep.slice 159 RRoute) true x k [va] S w):=by
 obtain ⟨aa,capa,hva,la⟩:=Rep.kR ha.raw;obtain rfl:va=_:=by simpa using hva
 clear hva
 have lb:x.length≤16777216:=ha.2.1
 have hbd:=hD ha.2
 have HK:=hD hk1;clear hk1
 have hk2:k≤4611686018427387904:=by have:=HK.out;unfold Top at this;omega
 go_enter Tryz.func59,Tryz.ntmps59
 go_wp2
 go_loopw [1,5] (fun l i wr=>∃ (j:Nat),j≤x.length∧i=.int .i64 j∧l=.int .i64 (Rep.mkL RRoute (x.take j) k).2∧(Rep.slice 159 RRoute).own wr [.slice aa x.length capa] ((Rep.mkL RRoute (x.take j) k).1++x.drop j) S∧Touch S w wr) (fun _ i _=>x.length - (intOf i).toNat)
 case atStart=>exact ⟨0,Nat.zero_le _,rfl,rfl,by simpa [Rep.mkL] using ha,Touch.refl _ _⟩
 obtain ⟨j,hj,rfl,rfl,hown,ht⟩:=hrel
 by_cases hlt:j < x.length
 · obtain ⟨hln,b,off,rfl,hSb,hbw⟩:=Rep.own_addr hown (by rw [Rep.mark_len];omega)
   clear hln
   rw [Rep.mark_start hlt] at hown
   obtain ⟨q0,q1⟩:=Rep.mark_bound (e:=159) (r:=RRoute) hbd.out hlt HK.out hk0
   have HE:∀ y,y=(RRoute.mark true x[j] (Rep.mkL RRoute (x.take j) k).2).1→Hid (((Rep.mkL RRoute (x.take j) k).1++x.drop j).set j y=(Rep.mkL RRoute (x.take (j + 1)) k).1++x.drop (j + 1)):=fun y hy=>hD (Rep.mark_end hlt hy)
   have HF:=hD (Rep.mark_end2 (r:=RRoute) (k:=k) hlt)
   have hLl:j < ((Rep.mkL RRoute (x.take j) k).1++x.drop j).length:=by rw [Rep.mark_len];exact hlt
   have HL:=hD hLl;clear hLl
   generalize (Rep.mkL RRoute (x.take j) k).2=q at *
   generalize (Rep.mkL RRoute (x.take j) k).1++x.drop j=M at *
   generalize hx:x[j]=y at *
   have HX:=hD hx;clear hx
   obtain ⟨y0,y1,y2⟩:=y
   have HEH:=hD HE;clear HE
   have HQ:=hD q1;clear q1
   have q2:q≤4611686018427387904:=by have:=HQ.out;unfold Top at this;omega
   obtain ⟨c,B,hc,hB,hSb',hcell,hfz,back⟩:=Rep.own_get' hown HL.out
   obtain ⟨d0_0,d0_1,d0_2,rfl⟩:∃ d0_0 d0_1 d0_2,c=[d0_0,d0_1,d0_2]:=by have h:=RRoute.len hc.1;match c,h with | [d0_0,d0_1,d0_2],_=>exact ⟨_,_,_,rfl⟩
   try simp only [setRoute_1,setRoute_2] at hc
   have C0_0:wr.cell? ⟨b,off + j * 3,none⟩=some d0_0:=hcell 0 _ rfl
   have Z0_0:=hfz (off + j * 3)
   have C0_1:wr.cell? ⟨b,off + j * 3 + 1,none⟩=some d0_1:=hcell 1 _ rfl
   have Z0_1:=hfz (off + j * 3 + 1)
   have C0_2:wr.cell? ⟨b,off + j * 3 + 2,none⟩=some d0_2:=hcell 2 _ rfl
   have Z0_2:=hfz (off + j * 3 + 2)
   clear hB hSb' hcell hfz back
   obtain ⟨s0v0,hce,s0_0,s0_1,s0_2,s0_3⟩:=RRoute_raw hc.raw
   simp only [List.cons.injEq,and_true] at hce
   obtain ⟨rfl,rfl,rfl⟩:=hce
   obtain ⟨s0a0,s0p0,s0h0,_⟩:=Rep.kR s0_1;obtain rfl:d0_0=_:=by simpa using s0h0
   clear s0h0
   clear s0_0 s0_1 s0_2 s0_3
   clear hc
   go_wp2_with fail
   obtain ⟨c1,B1,hc1,hB1,_,hcell1,_,back1⟩:=Rep.own_get' hown HL.out
   obtain ⟨e1_0,e1_1,e1_2,rfl⟩:∃ e1_0 e1_1 e1_2,c1=[e1_0,e1_1,e1_2]:=by have h:=RRoute.len hc1.1;match c1,h with | [e1_0,e1_1,e1_2],_=>exact ⟨_,_,_,rfl⟩
   have hd1:=hcell1 0 _ rfl
   obtain rfl:e1_0=_:=by simpa [go_sem,C0_0,RRoute_n] using hd1.symm
   obtain ⟨A1,hA1,hAB1,bk1⟩:=RRoute_sub_0_0 hc1
   try simp only [setRoute_1,setRoute_2] at hA1
   refine (markStringS_c (k:=q) hA1 (by omega) (by have:=HQ.out;have e:RRoute.cnt=(Rep.slice 9 Rep.str).cnt + (1 + (1)):=rfl;omega)).mono ?_
   rintro e w1 ⟨rfl,P1,X1⟩
   have Ox1:=back1 (bk1 P1 X1) (X1.wide hAB1)
   have Tx1:=ht.trans (X1.wide (fun i hi=>(hB1 i (hAB1 i hi)).1))
   have g1:=(Rep.slice 9 Rep.str).mark_ge (e:=true) (x:=y0) (k:=q)
   have l1:((Rep.slice 9 Rep.str).mark true y0 (q)).2≤q + ((Rep.slice 9 Rep.str).cnt:Nat):=(Rep.slice 9 Rep.str).mark_le (e:=true) (k:=q) hA1.2
   have u1:((Rep.slice 9 Rep.str).mark true y0 (q)).2≤4611686018427387904:=by have:=HQ.out;have e:RRoute.cnt=(Rep.slice 9 Rep.str).cnt + (1 + (1)):=rfl;unfold Top at *;omega
   have M1:=hD l1;clear l1
   clear C0_0 C0_1 C0_2 Z0_0 Z0_1 Z0_2 hA1 bk1 back1 hc1 hB1 hAB1 P1 X1 hcell1 hd1
   obtain ⟨c,B,hc,hB,hSb',hcell,hfz,back⟩:=Rep.own_get' Ox1 HL.out
   obtain ⟨d1_0,d1_1,d1_2,rfl⟩:∃ d1_0 d1_1 d1_2,c=[d1_0,d1_1,d1_2]:=by have h:=RRoute.len hc.1;match c,h with | [d1_0,d1_1,d1_2],_=>exact ⟨_,_,_,rfl⟩
   try simp only [setRoute_1,setRoute_2] at hc
   have C1_0:w1.cell? ⟨b,off + j * 3,none⟩=some d1_0:=hcell 0 _ rfl
   have Z1_0:=hfz (off + j * 3)
   have C1_1:w1.cell? ⟨b,off + j * 3 + 1,none⟩=some d1_1:=hcell 1 _ rfl
   have Z1_1:=hfz (off + j * 3 + 1)
   have C1_2:w1.cell? ⟨b,off + j * 3 + 2,none⟩=some d1_2:=hcell 2 _ rfl
   have Z1_2:=hfz (off + j * 3 + 2)
   clear hB hSb' hcell hfz back
   obtain ⟨s1v0,hce,s1_0,s1_1,s1_2,s1_3⟩:=RRoute_raw hc.raw
   simp only [List.cons.injEq,and_true] at hce
   obtain ⟨rfl,rfl,rfl⟩:=hce
   obtain ⟨s1a0,s1p0,s1h0,_⟩:=Rep.kR s1_1;obtain rfl:d1_0=_:=by simpa using s1h0
   clear s1h0
   clear s1_0 s1_1 s1_2 s1_3
   clear hc
   obtain ⟨O1,T1⟩:=Rep.own_setCell' (v:=.int .i64 (((Rep.slice 9 Rep.str).mark true y0 (q)).2)) (p:=off + j * 3 + 1) Ox1 HL.out (show 1 < RRoute.n by decide) (RRoute_set1 _ ⟨by omega,by omega⟩) (fun h=>h) (show off + j * 3 + 1=off + j * 3 + 1 by omega)
   have T1:=Tx1.trans (T1.wide (fun i hi=>by rw [hi];exact hSb))
   obtain ⟨O2,T2⟩:=Rep.own_setCell' (v:=.int .i64 (((Rep.slice 9 Rep.str).mark true y0 (q)).2 + 1)) (p:=off + j * 3 + 2) O1 HL.out (show 2 < RRoute.n by decide) (RRoute_set2 _ ⟨by omega,by omega⟩) (fun h=>h) (show off + j * 3 + 2=off + j * 3 + 2 by omega)
   have T2:=T1.trans (T2.wide (fun i hi=>by rw [hi];exact hSb))
   have EQ:=HEH.out _ rfl
   have OF:=hD (EQ.out ▸ O2);have TF:=hD T2
   have QF:Hid ((((Rep.slice 9 Rep.str).mark true y0 (q)).2 + 1 + 1)=(Rep.mkL RRoute (x.take (j + 1)) k).2):=hD (by rw [HF.out];rfl)
   go_wp2
   go_roundw
   case rel=>exact ⟨j + 1,by omega,by go_num,by rw [← QF.out],OF.out,TF.out⟩
   simp [intOf];omega
 obtain ⟨e1,e2⟩:=Rep.mark_full (r:=RRoute) (k:=k) hlt
 rw [e1] at hown
 have HO:=hD hown;have HT:=hD e2;clear hown e1 e2
 go_wp2
 go_ret
 exact ⟨ret_int HT.out,HO.out,ht⟩
set_option maxRecDepth 100000 in
set_option maxHeartbeats 16000000 in
theorem markRequesterS_c {w:World} {va:Value} {x:List LRequester} {k:Int} {S:Nat→Prop} (ha:(Rep.slice 81 kM).own w [va] x S) (hk0:0≤k) (hk1:k + ((Rep.slice 81 kM).cnt:Nat)≤Top) :
    Calls Tryz.prog 154 #[va,.int .i64 k] w (MarkPost (Rep.slice 81 kM) true x k [va] S w):=by
 obtain ⟨aa,capa,hva,la⟩:=Rep.kR ha.raw;obtain rfl:va=_:=by simpa using hva
 clear hva
 have lb:x.length≤16777216:=ha.2.1
 have hbd:=hD ha.2
 have HK:=hD hk1;clear hk1
 have hk2:k≤4611686018427387904:=by have:=HK.out;unfold Top at this;omega
 go_enter Tryz.func154,Tryz.ntmps154
 go_wp2
 go_loopw [1,5] (fun l i wr=>∃ (j:Nat),j≤x.length∧i=.int .i64 j∧l=.int .i64 (Rep.mkL kM (x.take j) k).2∧(Rep.slice 81 kM).own wr [.slice aa x.length capa] ((Rep.mkL kM (x.take j) k).1++x.drop j) S∧Touch S w wr) (fun _ i _=>x.length - (intOf i).toNat)
 case atStart=>exact ⟨0,Nat.zero_le _,rfl,rfl,by simpa [Rep.mkL] using ha,Touch.refl _ _⟩
 obtain ⟨j,hj,rfl,rfl,hown,ht⟩:=hrel
 by_cases hlt:j < x.length
 · obtain ⟨hln,b,off,rfl,hSb,hbw⟩:=Rep.own_addr hown (by rw [Rep.mark_len];omega)
   clear hln
   rw [Rep.mark_start hlt] at hown
   obtain ⟨q0,q1⟩:=Rep.mark_bound (e:=81) (r:=kM) hbd.out hlt HK.out hk0
   have HE:∀ y,y=(kM.mark true x[j] (Rep.mkL kM (x.take j) k).2).1→Hid (((Rep.mkL kM (x.take j) k).1++x.drop j).set j y=(Rep.mkL kM (x.take (j + 1)) k).1++x.drop (j + 1)):=fun y hy=>hD (Rep.mark_end hlt hy)
   have HF:=hD (Rep.mark_end2 (r:=kM) (k:=k) hlt)
   have hLl:j < ((Rep.mkL kM (x.take j) k).1++x.drop j).length:=by rw [Rep.mark_len];exact hlt
   have HL:=hD hLl;clear hLl
   generalize (Rep.mkL kM (x.take j) k).2=q at *
   generalize (Rep.mkL kM (x.take j) k).1++x.drop j=M at *
   generalize hx:x[j]=y at *
   have HX:=hD hx;clear hx
   obtain ⟨y0,y1,y2⟩:=y
   have HEH:=hD HE;clear HE
   have HQ:=hD q1;clear q1
   have q2:q≤4611686018427387904:=by have:=HQ.out;unfold Top at this;omega
   obtain ⟨c,B,hc,hB,hSb',hcell,hfz,back⟩:=Rep.own_get' hown HL.out
   obtain ⟨d0_0,d0_1,d0_2,rfl⟩:∃ d0_0 d0_1 d0_2,c=[d0_0,d0_1,d0_2]:=by have h:=kM.len hc.1;match c,h with | [d0_0,d0_1,d0_2],_=>exact ⟨_,_,_,rfl⟩
   try simp only [setRequester_0,setRequester_1,setRequester_2] at hc
   have C0_0:wr.cell? ⟨b,off + j * 3,none⟩=some d0_0:=hcell 0 _ rfl
   have Z0_0:=hfz (off + j * 3)
   have C0_1:wr.cell? ⟨b,off + j * 3 + 1,none⟩=some d0_1:=hcell 1 _ rfl
   have Z0_1:=hfz (off + j * 3 + 1)
   have C0_2:wr.cell? ⟨b,off + j * 3 + 2,none⟩=some d0_2:=hcell 2 _ rfl
   have Z0_2:=hfz (off + j * 3 + 2)
   clear hB hSb' hcell hfz back
   obtain ⟨hce,s0_0,s0_1,s0_2⟩:=RRequester_raw hc.raw
   simp only [List.cons.injEq,and_true] at hce
   obtain ⟨rfl,rfl,rfl⟩:=hce
   clear s0_0 s0_1 s0_2
   clear hc
   obtain ⟨O1,T1⟩:=Rep.own_setCell' (v:=.int .i64 (q)) (p:=off + j * 3) hown HL.out (show 0 < kM.n by decide) (RRequester_set0 _ ⟨by omega,by omega⟩) (fun h=>h) (show off + j * 3=off + j * 3 + 0 by omega)
   have T1:=ht.trans (T1.wide (fun i hi=>by rw [hi];exact hSb))
   obtain ⟨O2,T2⟩:=Rep.own_setCell' (v:=.int .i64 (q + 1)) (p:=off + j * 3 + 1) O1 HL.out (show 1 < kM.n by decide) (RRequester_set1 _ ⟨by omega,by omega⟩) (fun h=>h) (show off + j * 3 + 1=off + j * 3 + 1 by omega)
   have T2:=T1.trans (T2.wide (fun i hi=>by rw [hi];exact hSb))
   obtain ⟨O3,T3⟩:=Rep.own_setCell' (v:=.int .i64 (q + 1 + 1)) (p:=off + j * 3 + 2) O2 HL.out (show 2 < kM.n by decide) (RRequester_set2 _ ⟨by omega,by omega⟩) (fun h=>h) (show off + j * 3 + 2=off + j * 3 + 2 by omega)
   have T3:=T2.trans (T3.wide (fun i hi=>by rw [hi];exact hSb))
   have EQ:=HEH.out _ rfl
   have OF:=hD (EQ.out ▸ O3);have TF:=hD T3
   have QF:Hid ((q + 1 + 1 + 1)=(Rep.mkL kM (x.take (j + 1)) k).2):=hD (by rw [HF.out];rfl)
   go_wp2
   go_roundw
   case rel=>exact ⟨j + 1,by omega,by go_num,by rw [← QF.out],OF.out,TF.out⟩
   simp [intOf];omega
 obtain ⟨e1,e2⟩:=Rep.mark_full (r:=kM) (k:=k) hlt
 rw [e1] at hown
 have HO:=hD hown;have HT:=hD e2;clear hown e1 e2
 go_wp2
 go_ret
 exact ⟨ret_int HT.out,HO.out,ht⟩
set_option maxRecDepth 100000 in
set_option maxHeartbeats 16000000 in
theorem markPendingInterestS_c {w:World} {va:Value} {x:List kP} {k:Int} {S:Nat→Prop} (ha:(Rep.slice 77 kH).own w [va] x S) (hk0:0≤k) (hk1:k + ((Rep.slice 77 kH).cnt:Nat)≤Top) :
    Calls Tryz.prog 57 #[va,.int .i64 k] w (MarkPost (Rep.slice 77 kH) true x k [va] S w):=by
 obtain ⟨aa,capa,hva,la⟩:=Rep.kR ha.raw;obtain rfl:va=_:=by simpa using hva
 clear hva
 have lb:x.length≤16777216:=ha.2.1
 have hbd:=hD ha.2
 have HK:=hD hk1;clear hk1
 have hk2:k≤4611686018427387904:=by have:=HK.out;unfold Top at this;omega
 go_enter Tryz.func57,Tryz.ntmps57
 go_wp2
 go_loopw [1,5] (fun l i wr=>∃ (j:Nat),j≤x.length∧i=.int .i64 j∧l=.int .i64 (Rep.mkL kH (x.take j) k).2∧(Rep.slice 77 kH).own wr [.slice aa x.length capa] ((Rep.mkL kH (x.take j) k).1++x.drop j) S∧Touch S w wr) (fun _ i _=>x.length - (intOf i).toNat)
 case atStart=>exact ⟨0,Nat.zero_le _,rfl,rfl,by simpa [Rep.mkL] using ha,Touch.refl _ _⟩
 obtain ⟨j,hj,rfl,rfl,hown,ht⟩:=hrel
 by_cases hlt:j < x.length
 · obtain ⟨hln,b,off,rfl,hSb,hbw⟩:=Rep.own_addr hown (by rw [Rep.mark_len];omega)
   clear hln
   rw [Rep.mark_start hlt] at hown
   obtain ⟨q0,q1⟩:=Rep.mark_bound (e:=77) (r:=kH) hbd.out hlt HK.out hk0
   have HE:∀ y,y=(kH.mark true x[j] (Rep.mkL kH (x.take j) k).2).1→Hid (((Rep.mkL kH (x.take j) k).1++x.drop j).set j y=(Rep.mkL kH (x.take (j + 1)) k).1++x.drop (j + 1)):=fun y hy=>hD (Rep.mark_end hlt hy)
   have HF:=hD (Rep.mark_end2 (r:=kH) (k:=k) hlt)
   have hLl:j < ((Rep.mkL kH (x.take j) k).1++x.drop j).length:=by rw [Rep.mark_len];exact hlt
   have HL:=hD hLl;clear hLl
   generalize (Rep.mkL kH (x.take j) k).2=q at *
   generalize (Rep.mkL kH (x.take j) k).1++x.drop j=M at *
   generalize hx:x[j]=y at *
   have HX:=hD hx;clear hx
   obtain ⟨y0,y1,y2⟩:=y
   have HEH:=hD HE;clear HE
   have HQ:=hD q1;clear q1
   have q2:q≤4611686018427387904:=by have:=HQ.out;unfold Top at this;omega
   obtain ⟨c,B,hc,hB,hSb',hcell,hfz,back⟩:=Rep.own_get' hown HL.out
   obtain ⟨d0_0,d0_1,d0_2,rfl⟩:∃ d0_0 d0_1 d0_2,c=[d0_0,d0_1,d0_2]:=by have h:=kH.len hc.1;match c,h with | [d0_0,d0_1,d0_2],_=>exact ⟨_,_,_,rfl⟩
   try simp only [setPendingInterest_2] at hc
   have C0_0:wr.cell? ⟨b,off + j * 3,none⟩=some d0_0:=hcell 0 _ rfl
   have Z0_0:=hfz (off + j * 3)
   have C0_1:wr.cell? ⟨b,off + j * 3 + 1,none⟩=some d0_1:=hcell 1 _ rfl
   have Z0_1:=hfz (off + j * 3 + 1)
   have C0_2:wr.cell? ⟨b,off + j * 3 + 2,none⟩=some d0_2:=hcell 2 _ rfl
   have Z0_2:=hfz (off + j * 3 + 2)
   clear hB hSb' hcell hfz back
   obtain ⟨s0v0,s0v1,hce,s0_0,s0_1,s0_2,s0_3⟩:=RPendingInterest_raw hc.raw
   simp only [List.cons.injEq,and_true] at hce
   obtain ⟨rfl,rfl,rfl⟩:=hce
   obtain ⟨s0a0,s0p0,s0h0,_⟩:=Rep.kR s0_1;obtain rfl:d0_0=_:=by simpa using s0h0
   clear s0h0
   obtain ⟨s0a1,s0p1,s0h1,_⟩:=Rep.kR s0_2;obtain rfl:d0_1=_:=by simpa using s0h1
   clear s0h1
   clear s0_0 s0_1 s0_2 s0_3
   clear hc
   go_wp2_with fail
   obtain ⟨c1,B1,hc1,hB1,_,hcell1,_,back1⟩:=Rep.own_get' hown HL.out
   obtain ⟨e1_0,e1_1,e1_2,rfl⟩:∃ e1_0 e1_1 e1_2,c1=[e1_0,e1_1,e1_2]:=by have h:=kH.len hc1.1;match c1,h with | [e1_0,e1_1,e1_2],_=>exact ⟨_,_,_,rfl⟩
   have hd1:=hcell1 0 _ rfl
   obtain rfl:e1_0=_:=by simpa [go_sem,C0_0,RPendingInterest_n] using hd1.symm
   obtain ⟨A1,hA1,hAB1,bk1⟩:=RPendingInterest_sub_0_0 hc1
   try simp only [setPendingInterest_2] at hA1
   refine (markStringS_c (k:=q) hA1 (by omega) (by have:=HQ.out;have e:kH.cnt=(Rep.slice 9 Rep.str).cnt + ((Rep.slice 81 kM).cnt + (1)):=rfl;omega)).mono ?_
   rintro e w1 ⟨rfl,P1,X1⟩
   have Ox1:=back1 (bk1 P1 X1) (X1.wide hAB1)
   have Tx1:=ht.trans (X1.wide (fun i hi=>(hB1 i (hAB1 i hi)).1))
   have g1:=(Rep.slice 9 Rep.str).mark_ge (e:=true) (x:=y0) (k:=q)
   have l1:((Rep.slice 9 Rep.str).mark true y0 (q)).2≤q + ((Rep.slice 9 Rep.str).cnt:Nat):=(Rep.slice 9 Rep.str).mark_le (e:=true) (k:=q) hA1.2
   have u1:((Rep.slice 9 Rep.str).mark true y0 (q)).2≤4611686018427387904:=by have:=HQ.out;have e:kH.cnt=(Rep.slice 9 Rep.str).cnt + ((Rep.slice 81 kM).cnt + (1)):=rfl;unfold Top at *;omega
   have M1:=hD l1;clear l1
   clear C0_0 C0_1 C0_2 Z0_0 Z0_1 Z0_2 hA1 bk1 back1 hc1 hB1 hAB1 P1 X1 hcell1 hd1
   obtain ⟨c,B,hc,hB,hSb',hcell,hfz,back⟩:=Rep.own_get' Ox1 HL.out
   obtain ⟨d1_0,d1_1,d1_2,rfl⟩:∃ d1_0 d1_1 d1_2,c=[d1_0,d1_1,d1_2]:=by have h:=kH.len hc.1;match c,h with | [d1_0,d1_1,d1_2],_=>exact ⟨_,_,_,rfl⟩
   try simp only [setPendingInterest_2] at hc
   have C1_0:w1.cell? ⟨b,off + j * 3,none⟩=some d1_0:=hcell 0 _ rfl
   have Z1_0:=hfz (off + j * 3)
   have C1_1:w1.cell? ⟨b,off + j * 3 + 1,none⟩=some d1_1:=hcell 1 _ rfl
   have Z1_1:=hfz (off + j * 3 + 1)
   have C1_2:w1.cell? ⟨b,off + j * 3 + 2,none⟩=some d1_2:=hcell 2 _ rfl
   have Z1_2:=hfz (off + j * 3 + 2)
   clear hB hSb' hcell hfz back
   obtain ⟨s1v0,s1v1,hce,s1_0,s1_1,s1_2,s1_3⟩:=RPendingInterest_raw hc.raw
   simp only [List.cons.injEq,and_true] at hce
   obtain ⟨rfl,rfl,rfl⟩:=hce
   obtain ⟨s1a0,s1p0,s1h0,_⟩:=Rep.kR s1_1;obtain rfl:d1_0=_:=by simpa using s1h0
   clear s1h0
   obtain ⟨s1a1,s1p1,s1h1,_⟩:=Rep.kR s1_2;obtain rfl:d1_1=_:=by simpa using s1h1
   clear s1h1
   clear s1_0 s1_1 s1_2 s1_3
   clear hc
   go_wp2_with fail
   obtain ⟨c2,B2,hc2,hB2,_,hcell2,_,back2⟩:=Rep.own_get' Ox1 HL.out
   obtain ⟨e2_0,e2_1,e2_2,rfl⟩:∃ e2_0 e2_1 e2_2,c2=[e2_0,e2_1,e2_2]:=by have h:=kH.len hc2.1;match c2,h with | [e2_0,e2_1,e2_2],_=>exact ⟨_,_,_,rfl⟩
   have hd2:=hcell2 1 _ rfl
   obtain rfl:e2_1=_:=by simpa [go_sem,C1_1,RPendingInterest_n] using hd2.symm
   obtain ⟨A2,hA2,hAB2,bk2⟩:=RPendingInterest_sub_1 hc2
   try simp only [setPendingInterest_2] at hA2
   refine (markRequesterS_c (k:=((Rep.slice 9 Rep.str).mark true y0 (q)).2) hA2 (by omega) (by have:=HQ.out;have:=M1.out;have e:kH.cnt=(Rep.slice 9 Rep.str).cnt + ((Rep.slice 81 kM).cnt + (1)):=rfl;omega)).mono ?_
   rintro e w2 ⟨rfl,P2,X2⟩
   have Ox2:=back2 (bk2 P2 X2) (X2.wide hAB2)
   have Tx2:=Tx1.trans (X2.wide (fun i hi=>(hB2 i (hAB2 i hi)).1))
   have g2:=(Rep.slice 81 kM).mark_ge (e:=true) (x:=y1) (k:=((Rep.slice 9 Rep.str).mark true y0 (q)).2)
   have l2:((Rep.slice 81 kM).mark true y1 (((Rep.slice 9 Rep.str).mark true y0 (q)).2)).2≤((Rep.slice 9 Rep.str).mark true y0 (q)).2 + ((Rep.slice 81 kM).cnt:Nat):=(Rep.slice 81 kM).mark_le (e:=true) (k:=((Rep.slice 9 Rep.str).mark true y0 (q)).2) hA2.2
   have u2:((Rep.slice 81 kM).mark true y1 (((Rep.slice 9 Rep.str).mark true y0 (q)).2)).2≤4611686018427387904:=by have:=HQ.out;have:=M1.out;have e:kH.cnt=(Rep.slice 9 Rep.str).cnt + ((Rep.slice 81 kM).cnt + (1)):=rfl;unfold Top at *;omega
   have M2:=hD l2;clear l2
   clear C1_0 C1_1 C1_2 Z1_0 Z1_1 Z1_2 hA2 bk2 back2 hc2 hB2 hAB2 P2 X2 hcell2 hd2
   obtain ⟨c,B,hc,hB,hSb',hcell,hfz,back⟩:=Rep.own_get' Ox2 HL.out
   obtain ⟨d2_0,d2_1,d2_2,rfl⟩:∃ d2_0 d2_1 d2_2,c=[d2_0,d2_1,d2_2]:=by have h:=kH.len hc.1;match c,h with | [d2_0,d2_1,d2_2],_=>exact ⟨_,_,_,rfl⟩
   try simp only [setPendingInterest_2] at hc
   have C2_0:w2.cell? ⟨b,off + j * 3,none⟩=some d2_0:=hcell 0 _ rfl
   have Z2_0:=hfz (off + j * 3)
   have C2_1:w2.cell? ⟨b,off + j * 3 + 1,none⟩=some d2_1:=hcell 1 _ rfl
   have Z2_1:=hfz (off + j * 3 + 1)
   have C2_2:w2.cell? ⟨b,off + j * 3 + 2,none⟩=some d2_2:=hcell 2 _ rfl
   have Z2_2:=hfz (off + j * 3 + 2)
   clear hB hSb' hcell hfz back
   obtain ⟨s2v0,s2v1,hce,s2_0,s2_1,s2_2,s2_3⟩:=RPendingInterest_raw hc.raw
   simp only [List.cons.injEq,and_true] at hce
   obtain ⟨rfl,rfl,rfl⟩:=hce
   obtain ⟨s2a0,s2p0,s2h0,_⟩:=Rep.kR s2_1;obtain rfl:d2_0=_:=by simpa using s2h0
   clear s2h0
   obtain ⟨s2a1,s2p1,s2h1,_⟩:=Rep.kR s2_2;obtain rfl:d2_1=_:=by simpa using s2h1
   clear s2h1
   clear s2_0 s2_1 s2_2 s2_3
   clear hc
   obtain ⟨O1,T1⟩:=Rep.own_setCell' (v:=.int .i64 (((Rep.slice 81 kM).mark true y1 (((Rep.slice 9 Rep.str).mark true y0 (q)).2)).2)) (p:=off + j * 3 + 2) Ox2 HL.out (show 2 < kH.n by decide) (RPendingInterest_set2 _ ⟨by omega,by omega⟩) (fun h=>h) (show off + j * 3 + 2=off + j * 3 + 2 by omega)
   have T1:=Tx2.trans (T1.wide (fun i hi=>by rw [hi];exact hSb))
   have EQ:=HEH.out _ rfl
   have OF:=hD (EQ.out ▸ O1);have TF:=hD T1
   have QF:Hid ((((Rep.slice 81 kM).mark true y1 (((Rep.slice 9 Rep.str).mark true y0 (q)).2)).2 + 1)=(Rep.mkL kH (x.take (j + 1)) k).2):=hD (by rw [HF.out];rfl)
   go_wp2
   go_roundw
   case rel=>exact ⟨j + 1,by omega,by go_num,by rw [← QF.out],OF.out,TF.out⟩
   simp [intOf];omega
 obtain ⟨e1,e2⟩:=Rep.mark_full (r:=kH) (k:=k) hlt
 rw [e1] at hown
 have HO:=hD hown;have HT:=hD e2;clear hown e1 e2
 go_wp2
 go_ret
 exact ⟨ret_int HT.out,HO.out,ht⟩
set_option maxRecDepth 100000 in
set_option maxHeartbeats 16000000 in
theorem markSeenNonceS_c {w:World} {va:Value} {x:List LSeenNonce} {k:Int} {S:Nat→Prop} (ha:(Rep.slice 157 kK).own w [va] x S) (hk0:0≤k) (hk1:k + ((Rep.slice 157 kK).cnt:Nat)≤Top) :
    Calls Tryz.prog 58 #[va,.int .i64 k] w (MarkPost (Rep.slice 157 kK) true x k [va] S w):=by
 obtain ⟨aa,capa,hva,la⟩:=Rep.kR ha.raw;obtain rfl:va=_:=by simpa using hva
 clear hva
 have lb:x.length≤16777216:=ha.2.1
 have hbd:=hD ha.2
 have HK:=hD hk1;clear hk1
 have hk2:k≤4611686018427387904:=by have:=HK.out;unfold Top at this;omega
 go_enter Tryz.func58,Tryz.ntmps58
 go_wp2
 go_loopw [1,5] (fun l i wr=>∃ (j:Nat),j≤x.length∧i=.int .i64 j∧l=.int .i64 (Rep.mkL kK (x.take j) k).2∧(Rep.slice 157 kK).own wr [.slice aa x.length capa] ((Rep.mkL kK (x.take j) k).1++x.drop j) S∧Touch S w wr) (fun _ i _=>x.length - (intOf i).toNat)
 case atStart=>exact ⟨0,Nat.zero_le _,rfl,rfl,by simpa [Rep.mkL] using ha,Touch.refl _ _⟩
 obtain ⟨j,hj,rfl,rfl,hown,ht⟩:=hrel
 by_cases hlt:j < x.length
 · obtain ⟨hln,b,off,rfl,hSb,hbw⟩:=Rep.own_addr hown (by rw [Rep.mark_len];omega)
   clear hln
   rw [Rep.mark_start hlt] at hown
   obtain ⟨q0,q1⟩:=Rep.mark_bound (e:=157) (r:=kK) hbd.out hlt HK.out hk0
   have HE:∀ y,y=(kK.mark true x[j] (Rep.mkL kK (x.take j) k).2).1→Hid (((Rep.mkL kK (x.take j) k).1++x.drop j).set j y=(Rep.mkL kK (x.take (j + 1)) k).1++x.drop (j + 1)):=fun y hy=>hD (Rep.mark_end hlt hy)
   have HF:=hD (Rep.mark_end2 (r:=kK) (k:=k) hlt)
   have hLl:j < ((Rep.mkL kK (x.take j) k).1++x.drop j).length:=by rw [Rep.mark_len];exact hlt
   have HL:=hD hLl;clear hLl
   generalize (Rep.mkL kK (x.take j) k).2=q at *
   generalize (Rep.mkL kK (x.take j) k).1++x.drop j=M at *
   generalize hx:x[j]=y at *
   have HX:=hD hx;clear hx
   obtain ⟨y0,y1⟩:=y
   have HEH:=hD HE;clear HE
   have HQ:=hD q1;clear q1
   have q2:q≤4611686018427387904:=by have:=HQ.out;unfold Top at this;omega
   obtain ⟨c,B,hc,hB,hSb',hcell,hfz,back⟩:=Rep.own_get' hown HL.out
   obtain ⟨d0_0,d0_1,rfl⟩:∃ d0_0 d0_1,c=[d0_0,d0_1]:=by have h:=kK.len hc.1;match c,h with | [d0_0,d0_1],_=>exact ⟨_,_,rfl⟩
   try simp only [setSeenNonce_1] at hc
   have C0_0:wr.cell? ⟨b,off + j * 2,none⟩=some d0_0:=hcell 0 _ rfl
   have Z0_0:=hfz (off + j * 2)
   have C0_1:wr.cell? ⟨b,off + j * 2 + 1,none⟩=some d0_1:=hcell 1 _ rfl
   have Z0_1:=hfz (off + j * 2 + 1)
   clear hB hSb' hcell hfz back
   obtain ⟨s0v0,hce,s0_0,s0_1,s0_2⟩:=RSeenNonce_raw hc.raw
   simp only [List.cons.injEq,and_true] at hce
   obtain ⟨rfl,rfl⟩:=hce
   obtain ⟨s0a0,s0p0,s0h0,_⟩:=Rep.kR s0_1;obtain rfl:d0_0=_:=by simpa using s0h0
   clear s0h0
   clear s0_0 s0_1 s0_2
   clear hc
   go_wp2_with fail
   obtain ⟨c1,B1,hc1,hB1,_,hcell1,_,back1⟩:=Rep.own_get' hown HL.out
   obtain ⟨e1_0,e1_1,rfl⟩:∃ e1_0 e1_1,c1=[e1_0,e1_1]:=by have h:=kK.len hc1.1;match c1,h with | [e1_0,e1_1],_=>exact ⟨_,_,rfl⟩
   have hd1:=hcell1 0 _ rfl
   obtain rfl:e1_0=_:=by simpa [go_sem,C0_0,RSeenNonce_n] using hd1.symm
   obtain ⟨A1,hA1,hAB1,bk1⟩:=RSeenNonce_sub_0_0 hc1
   try simp only [setSeenNonce_1] at hA1
   refine (markStringS_c (k:=q) hA1 (by omega) (by have:=HQ.out;have e:kK.cnt=(Rep.slice 9 Rep.str).cnt + (1):=rfl;omega)).mono ?_
   rintro e w1 ⟨rfl,P1,X1⟩
   have Ox1:=back1 (bk1 P1 X1) (X1.wide hAB1)
   have Tx1:=ht.trans (X1.wide (fun i hi=>(hB1 i (hAB1 i hi)).1))
   have g1:=(Rep.slice 9 Rep.str).mark_ge (e:=true) (x:=y0) (k:=q)
   have l1:((Rep.slice 9 Rep.str).mark true y0 (q)).2≤q + ((Rep.slice 9 Rep.str).cnt:Nat):=(Rep.slice 9 Rep.str).mark_le (e:=true) (k:=q) hA1.2
   have u1:((Rep.slice 9 Rep.str).mark true y0 (q)).2≤4611686018427387904:=by have:=HQ.out;have e:kK.cnt=(Rep.slice 9 Rep.str).cnt + (1):=rfl;unfold Top at *;omega
   have M1:=hD l1;clear l1
   clear C0_0 C0_1 Z0_0 Z0_1 hA1 bk1 back1 hc1 hB1 hAB1 P1 X1 hcell1 hd1
   obtain ⟨c,B,hc,hB,hSb',hcell,hfz,back⟩:=Rep.own_get' Ox1 HL.out
   obtain ⟨d1_0,d1_1,rfl⟩:∃ d1_0 d1_1,c=[d1_0,d1_1]:=by have h:=kK.len hc.1;match c,h with | [d1_0,d1_1],_=>exact ⟨_,_,rfl⟩
   try simp only [setSeenNonce_1] at hc
   have C1_0:w1.cell? ⟨b,off + j * 2,none⟩=some d1_0:=hcell 0 _ rfl
   have Z1_0:=hfz (off + j * 2)
   have C1_1:w1.cell? ⟨b,off + j * 2 + 1,none⟩=some d1_1:=hcell 1 _ rfl
   have Z1_1:=hfz (off + j * 2 + 1)
   clear hB hSb' hcell hfz back
   obtain ⟨s1v0,hce,s1_0,s1_1,s1_2⟩:=RSeenNonce_raw hc.raw
   simp only [List.cons.injEq,and_true] at hce
   obtain ⟨rfl,rfl⟩:=hce
   obtain ⟨s1a0,s1p0,s1h0,_⟩:=Rep.kR s1_1;obtain rfl:d1_0=_:=by simpa using s1h0
   clear s1h0
   clear s1_0 s1_1 s1_2
   clear hc
   obtain ⟨O1,T1⟩:=Rep.own_setCell' (v:=.int .i64 (((Rep.slice 9 Rep.str).mark true y0 (q)).2)) (p:=off + j * 2 + 1) Ox1 HL.out (show 1 < kK.n by decide) (RSeenNonce_set1 _ ⟨by omega,by omega⟩) (fun h=>h) (show off + j * 2 + 1=off + j * 2 + 1 by omega)
   have T1:=Tx1.trans (T1.wide (fun i hi=>by rw [hi];exact hSb))
   have EQ:=HEH.out _ rfl
   have OF:=hD (EQ.out ▸ O1);have TF:=hD T1
   have QF:Hid ((((Rep.slice 9 Rep.str).mark true y0 (q)).2 + 1)=(Rep.mkL kK (x.take (j + 1)) k).2):=hD (by rw [HF.out];rfl)
   go_wp2
   go_roundw
   case rel=>exact ⟨j + 1,by omega,by go_num,by rw [← QF.out],OF.out,TF.out⟩
   simp [intOf];omega
 obtain ⟨e1,e2⟩:=Rep.mark_full (r:=kK) (k:=k) hlt
 rw [e1] at hown
 have HO:=hD hown;have HT:=hD e2;clear hown e1 e2
 go_wp2
 go_ret
 exact ⟨ret_int HT.out,HO.out,ht⟩
end Go.Proofs.YtomdenfcfbkfbaaGreat

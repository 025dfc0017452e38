/-
  What is signed, and the check of a signature.
-/
import Derived.Test.YtlfblpgkegeaeaaGreatDig
import Derived.Lib.AppendZeros
import Derived.Laws.AppendOwn
set_option linter.unusedVariables false
set_option linter.unusedSimpArgs false
set_option linter.unnecessarySimpa false
set_option maxRecDepth 100000
set_option maxHeartbeats 4000000
namespace Go.Proofs.YtlfblpgkegeaeaaGreat
open Go.RowKit
def macOf (s:Int) (l:List Int):Int:=digest ([s]++l++[s])
def bInt (c:UInt8):Int:=c.toNat
def kDi (l:List UInt8) (k:Nat):List Int:=(l.length:Int) :: (l.take k).map bInt
theorem kOr (l:List UInt8) (k:Nat):(kDi l k).length≤k + 1:=by simp [kDi];omega
def yR (l:List UInt8):List Int:=(l.length:Int) :: l.map bInt
def kBw (n:kW):List UInt8:=if kAu n=true then kMk n else []
def signed (x:jJ):List Int:=yR (kBw x.1)++yR x.2.1++yR (kBw x.2.2.1)++[x.2.2.2.1]
def verify (s:Int) (x:jJ):Bool:=okSec s && (x.2.2.2.2==macOf s (signed x))
theorem kOq {l:List UInt8} {k:Nat} (h:k < l.length):kDi l (k + 1)=(kDi l k)++[bInt l[k]]:=by
 unfold kDi;rw [List.take_succ_eq_append_getElem h,List.map_append];rfl
theorem kQv {l:List UInt8} {k:Nat} (h:¬ k < l.length):(kDi l k)=yR l:=by unfold kDi;rw [List.take_of_length_le rP];rfl
theorem kCq (l:List UInt8):(yR l).length=l.length + 1:=by simp [yR]
theorem kGn (n:kW):(kBw n).length≤90:=by
 unfold kBw
 split
 · rename_i h;exact encNm_len h
 simp
theorem kRg (x:jJ):(signed x).length≤x.2.1.length + 190:=by
 have h1:=kGn x.1
 have h2:=kGn x.2.2.1
 unfold signed
 simp only [List.length_append,kCq,List.length_cons,List.length_nil]
 omega
theorem kVb {α:Type} {l:List (List α)} {k:Nat} (h:k < l.length):(l.take (k + 1)).flatten=(l.take k).flatten++l[k]:=by
 rw [List.take_succ_eq_append_getElem h,List.flatten_append];simp
theorem kMi {α:Type} (l:List (List α)) (k:Nat):(l.take k).flatten.length≤l.flatten.length:=by
 have h:(l.take k).flatten++(l.drop k).flatten=l.flatten:=by rw [← List.flatten_append,List.take_append_drop]
 have:=congrArg List.length h
 rw [List.length_append] at this
 omega
theorem flat_end {α:Type} {l:List (List α)} {k:Nat} (h:¬ k < l.length):(l.take k).flatten=l.flatten:=by rw [List.take_of_length_le rP]
theorem own0_zeros {w:World} {n c:Nat} {e:TypeId} (hn:n≤c) (hc:c≤maxLen):Rep.kg e Rep.int (w.alloc (.cells (Builtin.zeroCells (Value.int .i64 0).cells n++Builtin.zeroCells (Value.int .i64 0).cells (c - n)) e)) (.slice (some ⟨w.heap.size,0,none⟩) 0 c) [] (fun k=>k=w.heap.size):=by
 refine ⟨by simp,.inr ⟨w.heap.size,c,_,[],_,rfl,Nat.zero_le _,hc,heap_alloc_new w _,rfl,?_,rfl,rfl⟩⟩
 have h1:(Value.int .i64 0).cells.size=1:=rM
 have h2:Rep.int.n=1:=rfl
 rw [Array.size_append,size_zeroCells,size_zeroCells,h1,h2]
 omega
theorem kAb {w:World} {vl:Value} {l:List UInt8} (hl:(Rep.slice 5 Rep.byte).raw w [vl] l) (hn:l.length≤2000000) :
    Calls Tryz.prog 241 #[vl] w (kAt 3 Rep.int (yR l) w):=by
 obtain ⟨al,pl,rfl,ll⟩:=Rep.sl hl
 have O0:=kFv (w:=w) (x:=(l.length:Int)) (e:=3) (by unfold I64q;omega)
 go_enter Tryz.func241,Tryz.ntmps241
 go_wp2
 go_loopw [3,4] (fun v i wr=>∃ k:Nat,k≤l.length∧i=.int .i64 k∧Hid (Rep.kg 3 Rep.int wr v (kDi l k) (Btw w.heap.size wr.heap.size))∧Below w.heap.size w wr) (fun _ i _=>l.length - (intOf i).toNat)
 case atStart=>exact ⟨0,Nat.zero_le _,rfl,yD (by simpa [kDi] using O0.wide (T:=Btw w.heap.size (w.alloc (.cells #[.int .i64 (l.length:Int)] 3)).heap.size) mQ),bH⟩
 clear O0
 obtain ⟨k,hk,rfl,HO,hbel⟩:=hrel
 obtain ⟨oa,on,oc,ho,HON⟩:=HO.out.parts;obtain rfl:=ho
 by_cases hlt:k < l.length
 · obtain ⟨ba,offa,rfl,c0,hr,A0⟩:=Rep.kAy (hl.below hbel) hlt rfl
   have he:=Rep.kCn hr
   obtain rfl:c0=_:=by simpa using he
   clear he hr
   have HS:=yD (kOq hlt)
   generalize l[k]=c at *
   have hcl:=c.toNat_lt
   have hzz:=hbel.size
   have hkl:=kOr l k
   have HC:Hid ((c.toNat:Int)=bInt c):=yD rfl
   go_wp2_with (at_builtin;refine Rep.jZ rfl _ _ 265 rfl (r:=Rep.int) (e:=3) Tryz.underlying265 kAh rfl rM rM (B:=w.heap.size) HO.out rR rR rfl (Rep.jG (n:=bInt c) (by unfold bInt;have:=c.toNat_lt;omega) _) rfl (fun _ _ h=>h) mH (fun _ h=>h.elim) rP rG ?_)
   intro v2 w2 ho2 hb2 hz2
   have HO2:=yD (ho2.cast HS.out.symm)
   obtain ⟨oa2,on2,oc2,hv2,HON2⟩:=ho2.parts;obtain rfl:=hv2
   have hbel2:=hbel.trans hb2
   clear ho2 hb2 HO hbel
   go_wp2
   go_roundw
   case rel=>exact ⟨k + 1,by omega,by go_num,HO2,hbel2⟩
   simp [intOf];omega
 have HT:=yD (kQv hlt)
 go_wp2
 go_ret
 exact ⟨_,rfl,HO.out.cast HT.out,hbel⟩
theorem jc {w:World} {vl:Value} {l:List UInt8} (hl:(Rep.slice 5 Rep.byte).raw w [vl] l) (hn:l.length≤2000000) :
    Calls Tryz.prog 247 #[vl] w (kAt 3 Rep.int (yR l) w):=by
 obtain ⟨al,pl,rfl,ll⟩:=Rep.sl hl
 have O0:=kFv (w:=w) (x:=(l.length:Int)) (e:=3) (by unfold I64q;omega)
 go_enter Tryz.func247,Tryz.ntmps247
 go_wp2
 go_loopw [3,11] (fun v i wr=>∃ k:Nat,k≤l.length∧i=.int .i64 k∧Hid (Rep.kg 3 Rep.int wr v (kDi l k) (Btw w.heap.size wr.heap.size))∧Below w.heap.size w wr) (fun _ i _=>l.length - (intOf i).toNat)
 case atStart=>exact ⟨0,Nat.zero_le _,rfl,yD (by simpa [kDi] using O0.wide (T:=Btw w.heap.size (w.alloc (.cells #[.int .i64 (l.length:Int)] 3)).heap.size) mQ),bH⟩
 clear O0
 obtain ⟨k,hk,rfl,HO,hbel⟩:=hrel
 obtain ⟨oa,on,oc,ho,HON⟩:=HO.out.parts;obtain rfl:=ho
 by_cases hlt:k < l.length
 · obtain ⟨ba,offa,rfl,c0,hr,A0⟩:=Rep.kAy (hl.below hbel) hlt rfl
   have he:=Rep.kCn hr
   obtain rfl:c0=_:=by simpa using he
   clear he hr
   have HS:=yD (kOq hlt)
   generalize l[k]=c at *
   have hcl:=c.toNat_lt
   have hzz:=hbel.size
   have hkl:=kOr l k
   have HC:Hid ((c.toNat:Int)=bInt c):=yD rfl
   go_wp2_with (at_builtin;refine Rep.jZ rfl _ _ 265 rfl (r:=Rep.int) (e:=3) Tryz.underlying265 kAh rfl rM rM (B:=w.heap.size) HO.out rR rR rfl (Rep.jG (n:=bInt c) (by unfold bInt;have:=c.toNat_lt;omega) _) rfl (fun _ _ h=>h) mH (fun _ h=>h.elim) rP rG ?_)
   intro v2 w2 ho2 hb2 hz2
   have HO2:=yD (ho2.cast HS.out.symm)
   obtain ⟨oa2,on2,oc2,hv2,HON2⟩:=ho2.parts;obtain rfl:=hv2
   have hbel2:=hbel.trans hb2
   clear ho2 hb2 HO hbel
   go_wp2
   go_roundw
   case rel=>exact ⟨k + 1,by omega,by go_num,HO2,hbel2⟩
   simp [intOf];omega
 have HT:=yD (kQv hlt)
 go_wp2
 go_ret
 exact ⟨_,rfl,HO.out.cast HT.out,hbel⟩
theorem kNi {w:World} {va:Value} {cn:List Value} {n:kW} (ha:(Rep.slice 5 Rep.byte).rd w [va] []) (hn:kL.raw w cn n) (hv:kAu n=false) :
    Calls Tryz.prog 242 #[va,.agg cn.toArray] w (kAt 5 Rep.byte [] w):=by
 obtain ⟨av,rfl,a_0⟩:=kM hn
 obtain ⟨an,capn,rfl,ln⟩:=Rep.sl a_0
 obtain ⟨aa,capa,rfl,la⟩:=Rep.sl ha.1
 have HA:=yD ha
 have HNR:=yD hn
 have HV:=yD hv
 clear ha hn a_0 hv
 go_enter Tryz.func242,Tryz.ntmps242
 have O0:Rep.kg 5 Rep.byte ((w.alloc (.cells #[.slice an n.length capn] 64)).alloc (.cells #[] 5)) (.slice (some ⟨w.heap.size + 1,0,none⟩) 0 0) [] (fun k=>k=w.heap.size + 1):=by
  have h:=Rep.yj (e:=5) (r:=Rep.byte) (w:=w.alloc (.cells #[.slice an n.length capn] 64)) (cs:=[]) (xs:=[]) (T:=fun _=>False) (S:=fun k=>k=w.heap.size + 1) rQ rQ rfl (fun _ h=>h.elim) rQ
  simpa using h
 go_wp2_with (at_builtin;refine Rep.je rfl _ _ 40 rfl (r:=Rep.byte) (e:=5) Tryz.underlying40 kCp rfl rM rM Rep.kCa (B:=w.heap.size + 1) O0 rR rR (HA.out.below bH) mQ rQ rQ ?_)
 intro v2 w2 hown hbel hz
 have HO:Hid (Rep.kg 5 Rep.byte w2 v2 [] (Btw w.heap.size w2.heap.size)):=yD ((hown.cast rQ).wide mI)
 have K0:w2.cell? ⟨w.heap.size,0,none⟩=some (.slice an n.length capn):=(hbel.cell (p:=⟨w.heap.size,0,none⟩) rQ).trans rE
 have EG:Below w.heap.size w w2:=Below.trans bH (hbel.mono nE)
 obtain ⟨a2,n2,c2,hv2,HN2⟩:=HO.out.parts
 obtain rfl:=hv2
 clear hown O0 hbel hz
 go_wp2_with fail
 refine (kBi (HNR.out.below EG)).mono ?_
 rintro e w3 ⟨rfl,hb3⟩
 rw [HV.out]
 have HO3:=HO.out.below hb3
 go_wp2
 go_ret
 exact ⟨_,rfl,HO3.wide (fun j hj=>⟨hj.1,by have:=hj.2;have:=hb3.size;omega⟩),(tQ EG hb3)⟩
theorem kCf {w:World} {va:Value} {cn:List Value} {n:kW} (ha:(Rep.slice 5 Rep.byte).rd w [va] []) (hn:kL.raw w cn n) :
    Calls Tryz.prog 242 #[va,.agg cn.toArray] w (kAt 5 Rep.byte (kBw n) w):=by
 cases hv:kAu n
 · rw [show kBw n=[] by unfold kBw;rw [hv];rfl];exact kNi ha hn hv
 rw [show kBw n=[]++kMk n by unfold kBw;rw [hv];rfl];exact kNj ha hn hv rQ
theorem kOb {w:World} {va:Value} {cn:List Value} {n:kW} (ha:(Rep.slice 5 Rep.byte).rd w [va] []) (hn:kL.raw w cn n) (hv:kAu n=false) :
    Calls Tryz.prog 248 #[va,.agg cn.toArray] w (kAt 5 Rep.byte [] w):=by
 obtain ⟨av,rfl,a_0⟩:=kM hn
 obtain ⟨an,capn,rfl,ln⟩:=Rep.sl a_0
 obtain ⟨aa,capa,rfl,la⟩:=Rep.sl ha.1
 have HA:=yD ha
 have HNR:=yD hn
 have HV:=yD hv
 clear ha hn a_0 hv
 go_enter Tryz.func248,Tryz.ntmps248
 go_upto_region 1 with fail
 generalize hwB:World.alloc w _=w2
 have EG:Below w.heap.size w w2:=by rw [← hwB];exact bH
 have K0:w2.cell? ⟨w.heap.size,0,none⟩=some (.slice an n.length capn):=nV
 clear hwB
 go_wp2_with fail
 refine (kBl (HNR.out.below EG)).mono ?_
 rintro e w3 ⟨rfl,hb3⟩
 rw [HV.out]
 have E3:=(tQ EG hb3)
 clear EG hb3
 go_wp2_with fail
 refine (kMv (HA.out.below E3)).mono ?_
 rintro e w4 ⟨v4,rfl,O4,hb4⟩
 obtain ⟨a4,n4,c4,hv4,HN4⟩:=O4.parts
 obtain rfl:=hv4
 have HO4:=yD (O4.wide (T:=Btw w.heap.size w4.heap.size) (fun j hj=>⟨by have:=hj.1;have:=E3.size;omega,hj.2⟩))
 have E4:=(tQ E3 hb4)
 clear O4 hb4
 go_wp2
 go_ret
 exact ⟨_,rfl,HO4.out,E4⟩
theorem zt {w:World} {va:Value} {cn:List Value} {n:kW} (ha:(Rep.slice 5 Rep.byte).rd w [va] []) (hn:kL.raw w cn n) :
    Calls Tryz.prog 248 #[va,.agg cn.toArray] w (kAt 5 Rep.byte (kBw n) w):=by
 cases hv:kAu n
 · rw [show kBw n=[] by unfold kBw;rw [hv];rfl];exact kOb ha hn hv
 rw [show kBw n=[]++kMk n by unfold kBw;rw [hv];rfl];exact kOc ha hn hv rQ
theorem Grow_int_c {w:World} {n:Nat} (h0:0 < n) (hn:n≤1000000000) :
    Calls Tryz.prog 257 #[.slice none 0 0,.int .i64 n] w fun e w'=>∃ c,e=.returned (.slice (some ⟨w.heap.size,0,none⟩) 0 c)∧Hid (Rep.kg 3 Rep.int w' (.slice (some ⟨w.heap.size,0,none⟩) 0 c) [] (Btw w.heap.size w'.heap.size))∧Below w.heap.size w w':=by
 obtain ⟨ti,hti,hz,hsz,hbb⟩:=info_parts (P:=Tryz.prog) kAh
 have hgn:=grownCap_ge w n 0 3
 have hgm:=grownCap_le_maxLen w n 0 3 pW
 have hr:=fun ty=>Lib.run_append_nil_zeros (P:=Tryz.prog) w 265 3 ty 3 ti (.int .i64 0) .i64 .i64 Tryz.underlying265 Tryz.underlying3 hti hz n h0 (by rw [hsz];omega) rP (by rw [hbb];omega)
 have HZ:=yD (own0_zeros (w:=w.drew) (n:=n) (c:=grownCap w n 0 3) (e:=3) hgn hgm)
 have EZ:Below w.heap.size w (w.drew.alloc (.cells (Builtin.zeroCells (Value.int .i64 0).cells n++Builtin.zeroCells (Value.int .i64 0).cells (grownCap w n 0 3 - n)) 3)):=(bR.drew).alloc rQ _
 have hz2:w.heap.size < (w.drew.alloc (.cells (Builtin.zeroCells (Value.int .i64 0).cells n++Builtin.zeroCells (Value.int .i64 0).cells (grownCap w n 0 3 - n)) 3)).heap.size:=rQ
 generalize (w.drew.alloc (.cells (Builtin.zeroCells (Value.int .i64 0).cells n++Builtin.zeroCells (Value.int .i64 0).cells (grownCap w n 0 3 - n)) 3))=w2 at hr HZ EZ hz2
 generalize grownCap w n 0 3=c at *
 have hn0:(0:Int) < n:=rP
 have hnn:¬ ((n:Int) < 0):=rP
 clear hti hz hsz hbb hgm
 go_enter Tryz.func257,Tryz.ntmps257
 go_wp2_with (at_builtin;refine Lib.wpList_append_run _ rfl _ _ _ _ rfl _ _ rfl rfl _ _ (hr _) ?_)
 go_wp2
 go_ret
 exact ⟨c,rfl,yD (HZ.out.wide (fun k hk=>by subst hk;exact ⟨Nat.le_refl _,hz2⟩)),EZ⟩
theorem kAl {w:World} {vl:Value} {l:List (List Int)} (hl:(Rep.slice 265 (Rep.slice 3 Rep.int)).rd w [vl] l) (h0:0 < l.flatten.length) (hn:l.flatten.length≤16700000) :
    Calls Tryz.prog 246 #[vl] w (kAt 3 Rep.int l.flatten w):=by
 obtain ⟨al,pl,rfl,ll⟩:=Rep.sl hl.1
 have HL:=yD hl
 clear hl
 go_enter Tryz.func246,Tryz.ntmps246
 go_wp2
 go_loopw [3,11] (fun s i wr=>∃ k:Nat,k≤l.length∧i=.int .i64 k∧s=.int .i64 ((l.take k).flatten.length:Int)∧Below w.heap.size w wr) (fun _ i _=>l.length - (intOf i).toNat)
 case atStart=>exact ⟨0,Nat.zero_le _,rfl,rfl,bR⟩
 obtain ⟨k,hk,rfl,rfl,hbel⟩:=hrel
 by_cases hlt:k < l.length
 · obtain ⟨ba,offa,rfl,c0,hr,A0⟩:=Rep.kAy (HL.out.1.below hbel) hlt rfl
   obtain ⟨qa,qp,rfl,ql⟩:=Rep.sl hr
   clear hr
   have hs:=kVb hlt
   have hle:=kMi l (k + 1)
   rw [hs] at hle
   rw [List.length_append] at hle
   have HS:Hid ((l.take (k + 1)).flatten.length=(l.take k).flatten.length + l[k].length):=yD (by rw [hs,List.length_append])
   clear hs
   generalize (l.take k).flatten.length=m at *
   generalize l[k].length=q at *
   go_wp2
   go_roundw
   case rel=>exact ⟨k + 1,by omega,by go_num,by rw [HS.out,Int.natCast_add],hbel⟩
   simp [intOf];omega
 rw [flat_end hlt]
 obtain ⟨N,hN⟩:∃ N,l.flatten.length=N:=⟨_,rfl⟩
 rw [hN] at h0 hn ⊢
 have HN:=yD hN
 clear hN
 have hlI:(0:Int) < N:=rP
 go_wp2_with fail
 refine (Grow_int_c h0 rP).mono ?_
 rintro e w2 ⟨gc,rfl,HG,hb2⟩
 have E2:=(tQ hbel hb2)
 replace HG:=yD (HG.out.wide (T:=Btw w.heap.size w2.heap.size) fF)
 clear hbel hb2 hlI
 go_wp2
 go_loopw [6,27] (fun v i wr=>∃ k:Nat,k≤l.length∧i=.int .i64 k∧Hid (Rep.kg 3 Rep.int wr v (l.take k).flatten (Btw w.heap.size wr.heap.size))∧Below w.heap.size w wr) (fun _ i _=>l.length - (intOf i).toNat)
 case atStart=>exact ⟨0,Nat.zero_le _,rfl,HG,E2⟩
 clear HG E2
 obtain ⟨k,hk,rfl,HO,hbel⟩:=hrel
 obtain ⟨oa,on,oc,ho,HON⟩:=HO.out.parts;obtain rfl:=ho
 by_cases hlt:k < l.length
 · obtain ⟨ba,offa,rfl,c0,hr,A0⟩:=Rep.kAy (HL.out.1.below hbel) hlt rfl
   have hq:=HL.out.2.2 l[k] (List.getElem_mem _)
   have HR:Hid ((Rep.slice 3 Rep.int).rd wr [c0] l[k]):=yD ⟨hr,hq⟩
   obtain ⟨qa,qp,rfl,ql⟩:=Rep.sl hr
   clear hr hq
   have hs:=kVb hlt
   have hle:=kMi l (k + 1)
   rw [hs,List.length_append,HN.out] at hle
   have HS:=yD hs
   clear hs
   generalize (l.take k).flatten=m at *
   generalize l[k]=q at *
   go_wp2_with (at_builtin;refine Rep.je rfl _ _ 265 rfl (r:=Rep.int) (e:=3) Tryz.underlying265 kAh rfl rM rM Rep.jd (B:=w.heap.size) HO.out rR rR HR.out (fun k hk=>hk) pO rP ?_)
   intro v3 w3 ho3 hb3 hz3
   have HO3:=yD (ho3.cast HS.out.symm)
   obtain ⟨oa3,on3,oc3,hv3,HON3⟩:=ho3.parts;obtain rfl:=hv3
   have hbel3:=hbel.trans hb3
   clear ho3 hb3 HO hbel HR
   go_wp2
   go_roundw
   case rel=>exact ⟨k + 1,by omega,by go_num,HO3,hbel3⟩
   simp [intOf];omega
 have HT:=yD (flat_end hlt)
 go_wp2
 go_ret
 exact ⟨_,rfl,HO.out.cast HT.out,hbel⟩
theorem kNh {w:World} {s:Int} (hs:-9223372036854775808≤s∧s≤9223372036854775807) {vl:Value} {l:List Int} (hl:(Rep.slice 3 Rep.int).rd w [vl] l) (hn:l.length≤16000000) :
    Calls Tryz.prog 225 #[.int .i64 s,vl] w fun e w'=>e=.returned (.int .i64 (macOf s l))∧Below w.heap.size w w':=by
 obtain ⟨al,pl,rfl,ll⟩:=Rep.sl hl.1
 have hb:=hl.2.1
 unfold Big at hb
 have O0:=kFv (w:=w) (x:=s) (e:=3) hs
 go_enter Tryz.func225,Tryz.ntmps225
 go_wp2_with (at_builtin;refine Rep.je rfl _ _ 265 rfl (r:=Rep.int) (e:=3) Tryz.underlying265 kAh rfl rM rM Rep.jd (B:=w.heap.size) O0 rR rR (hl.below bH) mQ rQ rG ?_)
 intro v2 w2 ho2 hb2 hz2
 obtain ⟨oa2,on2,oc2,hv2,HON2⟩:=ho2.parts;obtain rfl:=hv2
 have O1:=kFv (w:=w2) (x:=s) (e:=3) hs
 have HO2:=yD ho2
 have E2:Below w.heap.size w w2:=Below.trans bH hb2
 clear ho2 hb2 O0 hl
 go_wp2_with (at_builtin;refine Rep.je rfl _ _ 265 rfl (r:=Rep.int) (e:=3) Tryz.underlying265 kAh rfl rM rM Rep.jd (B:=w.heap.size) (HO2.out.below (by repeat (first|(with_reducible exact bR) | refine Below.alloc ?_ qO _))) rR rR (O1.own nT).rd (fun k hk=>⟨hk.1,by have:=hk.2;simp;omega⟩) (by have:=E2.size;simp;omega) rG ?_)
 intro v3 w3 ho3 hb3 hz3
 obtain ⟨oa3,on3,oc3,hv3,HON3⟩:=ho3.parts;obtain rfl:=hv3
 have HO3:=yD ((ho3.own pQ).raw)
 have E3:Below w.heap.size w w3:=E2.trans (Below.trans (bR.alloc E2.size _) hb3)
 clear ho3 hb3 O1 HO2
 go_wp2_with fail
 refine (kLo HO3.out).mono ?_
 rintro e w4 ⟨rfl,hw⟩
 obtain rfl:=hw.symm
 go_wp2
 go_ret
 exact ⟨rfl,E3⟩
theorem kNz {w:World} {s:Int} (hs:-9223372036854775808≤s∧s≤9223372036854775807) {vl:Value} {l:List Int} (hl:(Rep.slice 3 Rep.int).rd w [vl] l) (hn:l.length≤16000000) :
    Calls Tryz.prog 232 #[.int .i64 s,vl] w fun e w'=>e=.returned (.int .i64 (macOf s l))∧Below w.heap.size w w':=by
 obtain ⟨al,pl,rfl,ll⟩:=Rep.sl hl.1
 have HB:=yD hl.2
 go_enter Tryz.func232,Tryz.ntmps232
 go_wp2_with fail
 have R0:=((((kFv (w:=w) (x:=s) (e:=3) hs).own nT).raw.alloc (.cells #[.int .i64 s] 3)).alloc (.cells #[.slice (some ⟨w.heap.size,0,none⟩) 1 1,.slice al l.length pl,.slice (some ⟨w.heap.size + 1,0,none⟩) 1 1] 265))
 have R1:=(((kFv (w:=w.alloc (.cells #[.int .i64 s] 3)) (x:=s) (e:=3) hs).own nT).raw.alloc (.cells #[.slice (some ⟨w.heap.size,0,none⟩) 1 1,.slice al l.length pl,.slice (some ⟨w.heap.size + 1,0,none⟩) 1 1] 265))
 have R2:=((hl.1.alloc (.cells #[.int .i64 s] 3)).alloc (.cells #[.int .i64 s] 3)).alloc (.cells #[.slice (some ⟨w.heap.size,0,none⟩) 1 1,.slice al l.length pl,.slice (some ⟨w.heap.size + 1,0,none⟩) 1 1] 265)
 have R3:=kDe (e:=265) (r:=(Rep.slice 3 Rep.int)) rfl (kN (w:=(w.alloc (.cells #[.int .i64 s] 3)).alloc (.cells #[.int .i64 s] 3)) (o:=.cells #[.slice (some ⟨w.heap.size,0,none⟩) 1 1,.slice al l.length pl,.slice (some ⟨w.heap.size + 1,0,none⟩) 1 1] 265) rfl) R0 R2 (by simpa using R1)
 refine (kAl (l:=[[s],l,[s]]) ⟨by simpa using R3,by show 3≤_;unfold Big;omega,?_⟩ rQ rG).mono ?_
 · intro y hy
   simp only [List.mem_cons,List.not_mem_nil,or_false] at hy
   rcases hy with rfl | rfl | rfl
   · exact ⟨by show 1≤_;unfold Big;omega,fun _ _=>trivial⟩
   · exact HB.out
   exact ⟨by show 1≤_;unfold Big;omega,fun _ _=>trivial⟩
 rintro e w4 ⟨v4,rfl,O4,hb4⟩
 obtain ⟨oa4,on4,oc4,hv4,HON4⟩:=O4.parts;obtain rfl:=hv4
 have HO4:=yD ((O4.own pQ).raw)
 have E4:Below w.heap.size w w4:=Below.trans bH (hb4.mono rG)
 clear R0 R1 R2 R3 hl O4 hb4
 go_wp2_with fail
 refine (kMe HO4.out).mono ?_
 rintro e w5 ⟨rfl,hw⟩
 obtain rfl:=hw.symm
 go_wp2
 go_ret
 exact ⟨ku (by show digest ([s]++(l++([s]++[])))=digest ([s]++l++[s]);simp),E4⟩
theorem kJk {w:World} {cx:List Value} {x:jJ} (hx:kP.rd w cx x) (hc:x.2.1.length≤2000000) :
    Calls Tryz.prog 226 #[.agg cx.toArray] w (kAt 3 Rep.int (signed x) w):=by
 have hy:=hx.1
 obtain ⟨av0,av1,av2,rfl,a_0,a_1,a_2,a_3,a_4,a_5,a_6⟩:=kY hy
 obtain ⟨aa0,ap0,rfl,al0⟩:=Rep.sl a_1
 obtain ⟨aa1,ap1,rfl,al1⟩:=Rep.sl a_2
 obtain ⟨aa2,ap2,rfl,al2⟩:=Rep.sl a_4
 have HN:=yD a_0
 have HC:=yD a_2
 have HK:=yD a_3
 have HF:=yD (show I64q x.2.2.2.1 from a_5)
 have l1:=kGn x.1
 have l2:=kGn x.2.2.1
 have HD:=yD (show signed x=yR (kBw x.1)++yR x.2.1++yR (kBw x.2.2.1)++[x.2.2.2.1] from rfl)
 have m1:=kCq (kBw x.1)
 have m2:=kCq x.2.1
 have m3:=kCq (kBw x.2.2.1)
 clear hx hy a_0 a_1 a_2 a_3 a_4 a_5 a_6
 go_enter Tryz.func226,Tryz.ntmps226
 go_upto_region 1 with fail
 generalize hwB:World.alloc w _=wB
 have EB:Below w.heap.size w wB:=by rw [← hwB];exact bH
 have zB:w.heap.size + 1≤wB.heap.size:=qK
 have K0:wB.cell? ⟨w.heap.size,0,none⟩=some (.slice aa0 x.1.length ap0):=nV
 have K1:wB.cell? ⟨w.heap.size,1,none⟩=some (.slice aa1 x.2.1.length ap1):=nV
 have K2:wB.cell? ⟨w.heap.size,2,none⟩=some (.slice aa2 x.2.2.1.length ap2):=nV
 have K3:wB.cell? ⟨w.heap.size,3,none⟩=some (.int .i64 x.2.2.2.1):=nV
 have K4:wB.cell? ⟨w.heap.size,4,none⟩=some (.int .i64 x.2.2.2.2):=nV
 clear hwB
 have FX:=yD (fun (W:World) (hW:Below wB.heap.size wB W)=>kMn hW K0 K1 K2 K3 K4)
 refine kDh (fun W=>Below wB.heap.size wB W) rF (bR.drew) ?_
 intro wS HS
 try have zS_:=HS.size
 refine ja 1 ?_
 refine wkP ?_
 refine ja 2 ?_
 refine wkP ?_
 refine ja 5 ?_
 refine wkP ?_
 refine ja 6 ?_
 refine wkP ?_
 refine kV (k:=0) rfl rF rfl (fun K hK=>?_)
 have bn:=HS.size
 go_simp
 have bN:Below wS.heap.size wS (World.alloc wS (.cells #[] 5)):=bR.alloc nL _
 have zN0:wS.heap.size + 1≤(World.alloc wS (.cells #[] 5)).heap.size:=(by simp)
 have RV:=((Rep.kg.void (e:=5) (r:=Rep.byte) (w:=(World.alloc wS (.cells #[] 5))) (a:=some ⟨wS.heap.size,0,none⟩) (S:=fun _=>False)).own (Nat.zero_le _)).rd
 generalize hwN:World.alloc wS (.cells #[] 5)=t0 at bN zN0 RV ⊢
 clear hwN
 replace HS:=(tQ HS bN)
 refine hK _ _ HS ?_
 clear hK K bN
 clear bn
 refine wkP ?_
 refine kV (k:=3) rfl rF rfl (fun K hK=>?_)
 go_simp
 refine (kCf RV (HN.out.below (tQ EB HS))).mono ?_
 rintro e t1 ⟨vOA,rfl,OOA_,hb⟩
 obtain ⟨aOA,nOA,cOA,hvOA,HNOA⟩:=OOA_.parts
 obtain rfl:=hvOA
 have zN1:=hb.size
 have OA:=OOA_.wide (T:=Btw t0.heap.size t1.heap.size) fH
 clear OOA_
 clear RV
 replace HS:=(tQ HS hb)
 refine hK _ _ HS ?_
 clear hK K hb
 refine wkP ?_
 refine kV (k:=4) rfl rF rfl (fun K hK=>?_)
 go_simp
 refine (kAb (OA.own qF).rd.1 rP).mono ?_
 rintro e t2 ⟨vOB,rfl,OOB_,hb⟩
 obtain ⟨aOB,nOB,cOB,hvOB,HNOB⟩:=OOB_.parts
 obtain rfl:=hvOB
 have zN2:=hb.size
 have OB:=OOB_.wide (T:=Btw t1.heap.size t2.heap.size) fH
 clear OOB_
 clear OA
 replace HS:=(tQ HS hb)
 refine hK _ _ HS ?_
 clear hK K hb
 refine wkP ?_
 refine kV (k:=7) rfl rF rfl (fun K hK=>?_)
 go_simp
 refine (kAb (HC.out.below (tQ EB HS)) hc).mono ?_
 rintro e t3 ⟨vOC,rfl,OOC_,hb⟩
 obtain ⟨aOC,nOC,cOC,hvOC,HNOC⟩:=OOC_.parts
 obtain rfl:=hvOC
 have zN3:=hb.size
 have OC:=OOC_.wide (T:=Btw t2.heap.size t3.heap.size) fH
 clear OOC_
 replace OB:=OB.below hb
 replace HS:=(tQ HS hb)
 refine hK _ _ HS ?_
 clear hK K hb
 refine wkP ?_
 refine kV (k:=8) rfl rF rfl (fun K hK=>?_)
 have bn:=HS.size
 obtain ⟨v_,t4,hr,HV2,hbN,zN4,hfr⟩:=Rep.yZ (P:=Tryz.prog) (t:=265) (ty:=265) (r:=Rep.int) (e:=3) (w:=t3) (B:=wB.heap.size) Tryz.underlying265 kAh rfl rM rM Rep.jd OB (OC.own qF).rd dG HS.size bQ
 refine Rep.jR _ _ _ rfl rR rR hr ?_
 obtain ⟨a_4,n_4,c_4,hv_,HN_4⟩:=HV2.parts
 obtain rfl:=hv_
 replace HS:=HS.trans hbN
 clear hr hbN hfr OB OC
 have HV:=HV2
 clear HV2
 refine hK _ _ HS ?_
 clear hK K bn
 refine wkP ?_
 refine ja 9 ?_
 refine wkP ?_
 refine yN rF ?_
 have HS1:=HS
 clear HS
 go_upto_region 2 with fail
 replace HV:=HV.wide (T:=Btw wB.heap.size t4.heap.size) (fun j hj=>hj)
 have FX:=yD (fun (W:World) (hW:Below wB.heap.size wB W)=>kMn hW K0 K1 K2 K3 K4)
 refine kPg (fun W=>Below wB.heap.size wB W) rF (HS1.drew) ?_
 intro wS HE_ HS
 have bD:Below t4.heap.size t4 wS:=(by rw [HE_];exact bR.drew)
 have zD_:=bD.size
 clear HE_
 try have zS_:=HS.size
 replace HV:=HV.below bD
 clear bD
 refine ja 0 ?_
 refine wkP ?_
 refine ja 2 ?_
 refine wkP ?_
 refine ja 3 ?_
 refine wkP ?_
 refine ja 7 ?_
 refine wkP ?_
 refine ja 8 ?_
 refine wkP ?_
 refine zT (i:=1) (j:=9) rfl rfl rF rfl rfl (fun K hK=>?_) (fun K hK=>?_)
 · have bn:=HS.size
   go_simp
   have bN:Below wS.heap.size wS (World.alloc wS (.cells #[] 5)):=bR.alloc nL _
   have zN0:wS.heap.size + 1≤(World.alloc wS (.cells #[] 5)).heap.size:=(by simp)
   have RV:=((Rep.kg.void (e:=5) (r:=Rep.byte) (w:=(World.alloc wS (.cells #[] 5))) (a:=some ⟨wS.heap.size,0,none⟩) (S:=fun _=>False)).own (Nat.zero_le _)).rd
   generalize hwN:World.alloc wS (.cells #[] 5)=t0 at bN zN0 RV ⊢
   clear hwN
   replace HV:=HV.below bN
   replace HS:=(tQ HS bN)
   refine hK _ _ HS ?_
   clear hK K bN
   clear bn
   refine wkP ?_
   refine zT (i:=4) (j:=9) rfl rfl rF rfl rfl (fun K hK=>?_) (fun K hK=>?_)
   · go_simp
     refine (kCf RV (HK.out.below (tQ EB HS))).mono ?_
     rintro e t1 ⟨vOA,rfl,OOA_,hb⟩
     obtain ⟨aOA,nOA,cOA,hvOA,HNOA⟩:=OOA_.parts
     obtain rfl:=hvOA
     have zN1:=hb.size
     have OA:=OOA_.wide (T:=Btw t0.heap.size t1.heap.size) fH
     clear OOA_
     clear RV
     replace HV:=HV.below hb
     replace HS:=(tQ HS hb)
     refine hK _ _ HS ?_
     clear hK K hb
     refine wkP ?_
     refine zT (i:=5) (j:=9) rfl rfl rF rfl rfl (fun K hK=>?_) (fun K hK=>?_)
     · go_simp
       refine (kAb (OA.own qF).rd.1 rP).mono ?_
       rintro e t2 ⟨vOB,rfl,OOB_,hb⟩
       obtain ⟨aOB,nOB,cOB,hvOB,HNOB⟩:=OOB_.parts
       obtain rfl:=hvOB
       have zN2:=hb.size
       have OB:=OOB_.wide (T:=Btw t1.heap.size t2.heap.size) fH
       clear OOB_
       clear OA
       replace HV:=HV.below hb
       replace HS:=(tQ HS hb)
       refine hK _ _ HS ?_
       clear hK K hb
       refine wkP ?_
       refine zT (i:=6) (j:=9) rfl rfl rF rfl rfl (fun K hK=>?_) (fun K hK=>?_)
       · have bn:=HS.size
         obtain ⟨v_,t3,hr,HV2,hbN,zN3,hfr⟩:=Rep.yZ (P:=Tryz.prog) (t:=265) (ty:=265) (r:=Rep.int) (e:=3) (w:=t2) (B:=wB.heap.size) Tryz.underlying265 kAh rfl rM rM Rep.jd HV (OB.own qF).rd dG HS.size bQ
         refine Rep.jR _ _ _ rfl rR rR hr ?_
         obtain ⟨a_3,n_3,c_3,hv_,HN_3⟩:=HV2.parts
         obtain rfl:=hv_
         replace HS:=HS.trans hbN
         clear hr hbN hfr HV OB
         have HV3:=HV2
         clear HV2
         refine hK _ _ HS ?_
         clear hK K bn
         refine wkP ?_
         refine kV (k:=9) rfl rF rfl (fun K hK=>?_)
         have bn:=HS.size
         go_simp
         have bN:Below t3.heap.size t3 (World.alloc t3 (.cells #[.int .i64 x.2.2.2.1] 3)):=bR.alloc nL _
         have zN4:t3.heap.size + 1≤(World.alloc t3 (.cells #[.int .i64 x.2.2.2.1] 3)).heap.size:=(by simp)
         have RL:=kFv (w:=t3) (x:=x.2.2.2.1) (e:=3) HF.out
         generalize hwN:World.alloc t3 (.cells #[.int .i64 x.2.2.2.1] 3)=t4 at bN zN4 RL ⊢
         clear hwN
         replace HV3:=HV3.below bN
         replace HS:=(tQ HS bN)
         refine hK _ _ HS ?_
         clear hK K bN
         clear bn
         refine wkP ?_
         refine kV (k:=10) rfl rF rfl (fun K hK=>?_)
         have bn:=HS.size
         obtain ⟨v_,t5,hr,HV2,hbN,zN5,hfr⟩:=Rep.yZ (P:=Tryz.prog) (t:=265) (ty:=265) (r:=Rep.int) (e:=3) (w:=t4) (B:=wB.heap.size) Tryz.underlying265 kAh rfl rM rM Rep.jd HV3 (RL.own nT).rd dG HS.size bQ
         refine Rep.jR _ _ _ rfl rR rR hr ?_
         obtain ⟨a_5,n_5,c_5,hv_,HN_5⟩:=HV2.parts
         obtain rfl:=hv_
         replace HS:=HS.trans hbN
         clear hr hbN hfr HV3 RL
         have HV4:=HV2
         clear HV2
         refine hK _ _ HS ?_
         clear hK K bn
         refine wkP ?_
         refine ja 11 ?_
         refine wkP ?_
         refine yN rF ?_
         go_wp2
         go_ret
         exact ⟨_,rfl,(HV4.cast (by rw [HD.out])).wide mI,(tQ EB HS)⟩
       have bn:=HS.size
       go_simp
       have bN:Below t2.heap.size t2 (World.alloc t2 (.cells #[.int .i64 x.2.2.2.1] 3)):=bR.alloc nL _
       have zN3:t2.heap.size + 1≤(World.alloc t2 (.cells #[.int .i64 x.2.2.2.1] 3)).heap.size:=(by simp)
       have RL:=kFv (w:=t2) (x:=x.2.2.2.1) (e:=3) HF.out
       generalize hwN:World.alloc t2 (.cells #[.int .i64 x.2.2.2.1] 3)=t3 at bN zN3 RL ⊢
       clear hwN
       replace HV:=HV.below bN
       replace OB:=OB.below bN
       replace HS:=(tQ HS bN)
       refine hK _ _ HS ?_
       clear hK K bN
       clear bn
       refine wkP ?_
       refine kV (k:=6) rfl rF rfl (fun K hK=>?_)
       have bn:=HS.size
       obtain ⟨v_,t4,hr,HV2,hbN,zN4,hfr⟩:=Rep.yZ (P:=Tryz.prog) (t:=265) (ty:=265) (r:=Rep.int) (e:=3) (w:=t3) (B:=wB.heap.size) Tryz.underlying265 kAh rfl rM rM Rep.jd HV (OB.own qF).rd dG HS.size bQ
       refine Rep.jR _ _ _ rfl rR rR hr ?_
       obtain ⟨a_4,n_4,c_4,hv_,HN_4⟩:=HV2.parts
       obtain rfl:=hv_
       replace RL:=RL.keep bL
       replace HS:=HS.trans hbN
       clear hr hbN hfr HV OB
       have HV3:=HV2
       clear HV2
       refine hK _ _ HS ?_
       clear hK K bn
       refine wkP ?_
       refine kV (k:=10) rfl rF rfl (fun K hK=>?_)
       have bn:=HS.size
       obtain ⟨v_,t5,hr,HV2,hbN,zN5,hfr⟩:=Rep.yZ (P:=Tryz.prog) (t:=265) (ty:=265) (r:=Rep.int) (e:=3) (w:=t4) (B:=wB.heap.size) Tryz.underlying265 kAh rfl rM rM Rep.jd HV3 (RL.own nT).rd dG HS.size bQ
       refine Rep.jR _ _ _ rfl rR rR hr ?_
       obtain ⟨a_5,n_5,c_5,hv_,HN_5⟩:=HV2.parts
       obtain rfl:=hv_
       replace HS:=HS.trans hbN
       clear hr hbN hfr HV3 RL
       have HV4:=HV2
       clear HV2
       refine hK _ _ HS ?_
       clear hK K bn
       refine wkP ?_
       refine ja 11 ?_
       refine wkP ?_
       refine yN rF ?_
       go_wp2
       go_ret
       exact ⟨_,rfl,(HV4.cast (by rw [HD.out])).wide mI,(tQ EB HS)⟩
     have bn:=HS.size
     go_simp
     have bN:Below t1.heap.size t1 (World.alloc t1 (.cells #[.int .i64 x.2.2.2.1] 3)):=bR.alloc nL _
     have zN2:t1.heap.size + 1≤(World.alloc t1 (.cells #[.int .i64 x.2.2.2.1] 3)).heap.size:=(by simp)
     have RL:=kFv (w:=t1) (x:=x.2.2.2.1) (e:=3) HF.out
     generalize hwN:World.alloc t1 (.cells #[.int .i64 x.2.2.2.1] 3)=t2 at bN zN2 RL ⊢
     clear hwN
     replace HV:=HV.below bN
     replace OA:=OA.below bN
     replace HS:=(tQ HS bN)
     refine hK _ _ HS ?_
     clear hK K bN
     clear bn
     refine wkP ?_
     refine kV (k:=5) rfl rF rfl (fun K hK=>?_)
     go_simp
     refine (kAb (OA.own qF).rd.1 rP).mono ?_
     rintro e t3 ⟨vOB,rfl,OOB_,hb⟩
     obtain ⟨aOB,nOB,cOB,hvOB,HNOB⟩:=OOB_.parts
     obtain rfl:=hvOB
     have zN3:=hb.size
     have OB:=OOB_.wide (T:=Btw t2.heap.size t3.heap.size) fH
     clear OOB_
     clear OA
     replace HV:=HV.below hb
     replace RL:=RL.below hb
     replace HS:=(tQ HS hb)
     refine hK _ _ HS ?_
     clear hK K hb
     refine wkP ?_
     refine kV (k:=6) rfl rF rfl (fun K hK=>?_)
     have bn:=HS.size
     obtain ⟨v_,t4,hr,HV2,hbN,zN4,hfr⟩:=Rep.yZ (P:=Tryz.prog) (t:=265) (ty:=265) (r:=Rep.int) (e:=3) (w:=t3) (B:=wB.heap.size) Tryz.underlying265 kAh rfl rM rM Rep.jd HV (OB.own qF).rd dG HS.size bQ
     refine Rep.jR _ _ _ rfl rR rR hr ?_
     obtain ⟨a_4,n_4,c_4,hv_,HN_4⟩:=HV2.parts
     obtain rfl:=hv_
     replace RL:=RL.keep bL
     replace HS:=HS.trans hbN
     clear hr hbN hfr HV OB
     have HV3:=HV2
     clear HV2
     refine hK _ _ HS ?_
     clear hK K bn
     refine wkP ?_
     refine kV (k:=10) rfl rF rfl (fun K hK=>?_)
     have bn:=HS.size
     obtain ⟨v_,t5,hr,HV2,hbN,zN5,hfr⟩:=Rep.yZ (P:=Tryz.prog) (t:=265) (ty:=265) (r:=Rep.int) (e:=3) (w:=t4) (B:=wB.heap.size) Tryz.underlying265 kAh rfl rM rM Rep.jd HV3 (RL.own nT).rd dG HS.size bQ
     refine Rep.jR _ _ _ rfl rR rR hr ?_
     obtain ⟨a_5,n_5,c_5,hv_,HN_5⟩:=HV2.parts
     obtain rfl:=hv_
     replace HS:=HS.trans hbN
     clear hr hbN hfr HV3 RL
     have HV4:=HV2
     clear HV2
     refine hK _ _ HS ?_
     clear hK K bn
     refine wkP ?_
     refine ja 11 ?_
     refine wkP ?_
     refine yN rF ?_
     go_wp2
     go_ret
     exact ⟨_,rfl,(HV4.cast (by rw [HD.out])).wide mI,(tQ EB HS)⟩
   have bn:=HS.size
   go_simp
   have bN:Below t0.heap.size t0 (World.alloc t0 (.cells #[.int .i64 x.2.2.2.1] 3)):=bR.alloc nL _
   have zN1:t0.heap.size + 1≤(World.alloc t0 (.cells #[.int .i64 x.2.2.2.1] 3)).heap.size:=(by simp)
   have RL:=kFv (w:=t0) (x:=x.2.2.2.1) (e:=3) HF.out
   generalize hwN:World.alloc t0 (.cells #[.int .i64 x.2.2.2.1] 3)=t1 at bN zN1 RL ⊢
   clear hwN
   replace HV:=HV.below bN
   replace RV:=RV.below bN
   replace HS:=(tQ HS bN)
   refine hK _ _ HS ?_
   clear hK K bN
   clear bn
   refine wkP ?_
   refine kV (k:=4) rfl rF rfl (fun K hK=>?_)
   go_simp
   refine (kCf RV (HK.out.below (tQ EB HS))).mono ?_
   rintro e t2 ⟨vOA,rfl,OOA_,hb⟩
   obtain ⟨aOA,nOA,cOA,hvOA,HNOA⟩:=OOA_.parts
   obtain rfl:=hvOA
   have zN2:=hb.size
   have OA:=OOA_.wide (T:=Btw t1.heap.size t2.heap.size) fH
   clear OOA_
   clear RV
   replace HV:=HV.below hb
   replace RL:=RL.below hb
   replace HS:=(tQ HS hb)
   refine hK _ _ HS ?_
   clear hK K hb
   refine wkP ?_
   refine kV (k:=5) rfl rF rfl (fun K hK=>?_)
   go_simp
   refine (kAb (OA.own qF).rd.1 rP).mono ?_
   rintro e t3 ⟨vOB,rfl,OOB_,hb⟩
   obtain ⟨aOB,nOB,cOB,hvOB,HNOB⟩:=OOB_.parts
   obtain rfl:=hvOB
   have zN3:=hb.size
   have OB:=OOB_.wide (T:=Btw t2.heap.size t3.heap.size) fH
   clear OOB_
   clear OA
   replace HV:=HV.below hb
   replace RL:=RL.below hb
   replace HS:=(tQ HS hb)
   refine hK _ _ HS ?_
   clear hK K hb
   refine wkP ?_
   refine kV (k:=6) rfl rF rfl (fun K hK=>?_)
   have bn:=HS.size
   obtain ⟨v_,t4,hr,HV2,hbN,zN4,hfr⟩:=Rep.yZ (P:=Tryz.prog) (t:=265) (ty:=265) (r:=Rep.int) (e:=3) (w:=t3) (B:=wB.heap.size) Tryz.underlying265 kAh rfl rM rM Rep.jd HV (OB.own qF).rd dG HS.size bQ
   refine Rep.jR _ _ _ rfl rR rR hr ?_
   obtain ⟨a_4,n_4,c_4,hv_,HN_4⟩:=HV2.parts
   obtain rfl:=hv_
   replace RL:=RL.keep bL
   replace HS:=HS.trans hbN
   clear hr hbN hfr HV OB
   have HV3:=HV2
   clear HV2
   refine hK _ _ HS ?_
   clear hK K bn
   refine wkP ?_
   refine kV (k:=10) rfl rF rfl (fun K hK=>?_)
   have bn:=HS.size
   obtain ⟨v_,t5,hr,HV2,hbN,zN5,hfr⟩:=Rep.yZ (P:=Tryz.prog) (t:=265) (ty:=265) (r:=Rep.int) (e:=3) (w:=t4) (B:=wB.heap.size) Tryz.underlying265 kAh rfl rM rM Rep.jd HV3 (RL.own nT).rd dG HS.size bQ
   refine Rep.jR _ _ _ rfl rR rR hr ?_
   obtain ⟨a_5,n_5,c_5,hv_,HN_5⟩:=HV2.parts
   obtain rfl:=hv_
   replace HS:=HS.trans hbN
   clear hr hbN hfr HV3 RL
   have HV4:=HV2
   clear HV2
   refine hK _ _ HS ?_
   clear hK K bn
   refine wkP ?_
   refine ja 11 ?_
   refine wkP ?_
   refine yN rF ?_
   go_wp2
   go_ret
   exact ⟨_,rfl,(HV4.cast (by rw [HD.out])).wide mI,(tQ EB HS)⟩
 have bn:=HS.size
 go_simp
 have bN:Below wS.heap.size wS (World.alloc wS (.cells #[.int .i64 x.2.2.2.1] 3)):=bR.alloc nL _
 have zN0:wS.heap.size + 1≤(World.alloc wS (.cells #[.int .i64 x.2.2.2.1] 3)).heap.size:=(by simp)
 have RL:=kFv (w:=wS) (x:=x.2.2.2.1) (e:=3) HF.out
 generalize hwN:World.alloc wS (.cells #[.int .i64 x.2.2.2.1] 3)=t0 at bN zN0 RL ⊢
 clear hwN
 replace HV:=HV.below bN
 replace HS:=(tQ HS bN)
 refine hK _ _ HS ?_
 clear hK K bN
 clear bn
 refine wkP ?_
 refine kV (k:=1) rfl rF rfl (fun K hK=>?_)
 have bn:=HS.size
 go_simp
 have bN:Below t0.heap.size t0 (World.alloc t0 (.cells #[] 5)):=bR.alloc nL _
 have zN1:t0.heap.size + 1≤(World.alloc t0 (.cells #[] 5)).heap.size:=(by simp)
 have RV:=((Rep.kg.void (e:=5) (r:=Rep.byte) (w:=(World.alloc t0 (.cells #[] 5))) (a:=some ⟨t0.heap.size,0,none⟩) (S:=fun _=>False)).own (Nat.zero_le _)).rd
 generalize hwN:World.alloc t0 (.cells #[] 5)=t1 at bN zN1 RV ⊢
 clear hwN
 replace HV:=HV.below bN
 replace RL:=RL.below bN
 replace HS:=(tQ HS bN)
 refine hK _ _ HS ?_
 clear hK K bN
 clear bn
 refine wkP ?_
 refine kV (k:=4) rfl rF rfl (fun K hK=>?_)
 go_simp
 refine (kCf RV (HK.out.below (tQ EB HS))).mono ?_
 rintro e t2 ⟨vOA,rfl,OOA_,hb⟩
 obtain ⟨aOA,nOA,cOA,hvOA,HNOA⟩:=OOA_.parts
 obtain rfl:=hvOA
 have zN2:=hb.size
 have OA:=OOA_.wide (T:=Btw t1.heap.size t2.heap.size) fH
 clear OOA_
 clear RV
 replace HV:=HV.below hb
 replace RL:=RL.below hb
 replace HS:=(tQ HS hb)
 refine hK _ _ HS ?_
 clear hK K hb
 refine wkP ?_
 refine kV (k:=5) rfl rF rfl (fun K hK=>?_)
 go_simp
 refine (kAb (OA.own qF).rd.1 rP).mono ?_
 rintro e t3 ⟨vOB,rfl,OOB_,hb⟩
 obtain ⟨aOB,nOB,cOB,hvOB,HNOB⟩:=OOB_.parts
 obtain rfl:=hvOB
 have zN3:=hb.size
 have OB:=OOB_.wide (T:=Btw t2.heap.size t3.heap.size) fH
 clear OOB_
 clear OA
 replace HV:=HV.below hb
 replace RL:=RL.below hb
 replace HS:=(tQ HS hb)
 refine hK _ _ HS ?_
 clear hK K hb
 refine wkP ?_
 refine kV (k:=6) rfl rF rfl (fun K hK=>?_)
 have bn:=HS.size
 obtain ⟨v_,t4,hr,HV2,hbN,zN4,hfr⟩:=Rep.yZ (P:=Tryz.prog) (t:=265) (ty:=265) (r:=Rep.int) (e:=3) (w:=t3) (B:=wB.heap.size) Tryz.underlying265 kAh rfl rM rM Rep.jd HV (OB.own qF).rd dG HS.size bQ
 refine Rep.jR _ _ _ rfl rR rR hr ?_
 obtain ⟨a_4,n_4,c_4,hv_,HN_4⟩:=HV2.parts
 obtain rfl:=hv_
 replace RL:=RL.keep bL
 replace HS:=HS.trans hbN
 clear hr hbN hfr HV OB
 have HV3:=HV2
 clear HV2
 refine hK _ _ HS ?_
 clear hK K bn
 refine wkP ?_
 refine kV (k:=10) rfl rF rfl (fun K hK=>?_)
 have bn:=HS.size
 obtain ⟨v_,t5,hr,HV2,hbN,zN5,hfr⟩:=Rep.yZ (P:=Tryz.prog) (t:=265) (ty:=265) (r:=Rep.int) (e:=3) (w:=t4) (B:=wB.heap.size) Tryz.underlying265 kAh rfl rM rM Rep.jd HV3 (RL.own nT).rd dG HS.size bQ
 refine Rep.jR _ _ _ rfl rR rR hr ?_
 obtain ⟨a_5,n_5,c_5,hv_,HN_5⟩:=HV2.parts
 obtain rfl:=hv_
 replace HS:=HS.trans hbN
 clear hr hbN hfr HV3 RL
 have HV4:=HV2
 clear HV2
 refine hK _ _ HS ?_
 clear hK K bn
 refine wkP ?_
 refine ja 11 ?_
 refine wkP ?_
 refine yN rF ?_
 go_wp2
 go_ret
 exact ⟨_,rfl,(HV4.cast (by rw [HD.out])).wide mI,(tQ EB HS)⟩
theorem kJn {w:World} {cx:List Value} {x:jJ} (hx:kP.rd w cx x) (hc:x.2.1.length≤2000000) :
    Calls Tryz.prog 233 #[.agg cx.toArray] w (kAt 3 Rep.int (signed x) w):=by
 have hy:=hx.1
 obtain ⟨av0,av1,av2,rfl,a_0,a_1,a_2,a_3,a_4,a_5,a_6⟩:=kY hy
 obtain ⟨aa0,ap0,rfl,al0⟩:=Rep.sl a_1
 obtain ⟨aa1,ap1,rfl,al1⟩:=Rep.sl a_2
 obtain ⟨aa2,ap2,rfl,al2⟩:=Rep.sl a_4
 have HN:=yD a_0
 have HC:=yD a_2
 have HK:=yD a_3
 have HF:=yD (show I64q x.2.2.2.1 from a_5)
 have l1:=kGn x.1
 have l2:=kGn x.2.2.1
 have HD:=yD (show signed x=yR (kBw x.1)++yR x.2.1++yR (kBw x.2.2.1)++[x.2.2.2.1] from rfl)
 have m1:=kCq (kBw x.1)
 have m2:=kCq x.2.1
 have m3:=kCq (kBw x.2.2.1)
 clear hx hy a_0 a_1 a_2 a_3 a_4 a_5 a_6
 go_enter Tryz.func233,Tryz.ntmps233
 go_upto_region 1 with fail
 generalize hwB:World.alloc w _=wB
 have EB:Below w.heap.size w wB:=by rw [← hwB];exact bH
 have zB:w.heap.size + 1≤wB.heap.size:=qK
 have K0:wB.cell? ⟨w.heap.size,0,none⟩=some (.slice aa0 x.1.length ap0):=nV
 have K1:wB.cell? ⟨w.heap.size,1,none⟩=some (.slice aa1 x.2.1.length ap1):=nV
 have K2:wB.cell? ⟨w.heap.size,2,none⟩=some (.slice aa2 x.2.2.1.length ap2):=nV
 have K3:wB.cell? ⟨w.heap.size,3,none⟩=some (.int .i64 x.2.2.2.1):=nV
 have K4:wB.cell? ⟨w.heap.size,4,none⟩=some (.int .i64 x.2.2.2.2):=nV
 clear hwB
 have FX:=yD (fun (W:World) (hW:Below wB.heap.size wB W)=>kMn hW K0 K1 K2 K3 K4)
 refine kDh (fun W=>Below wB.heap.size wB W) rF (bR.drew) ?_
 intro wS HS
 try have zS_:=HS.size
 refine ja 0 ?_
 refine wkP ?_
 refine ja 1 ?_
 refine wkP ?_
 refine ja 4 ?_
 refine wkP ?_
 refine ja 5 ?_
 refine wkP ?_
 refine ja 7 ?_
 refine wkP ?_
 refine ja 8 ?_
 refine wkP ?_
 refine ja 13 ?_
 refine wkP ?_
 refine ja 14 ?_
 refine wkP ?_
 refine zT (i:=2) (j:=15) rfl rfl rF rfl rfl (fun K hK=>?_) (fun K hK=>?_)
 · go_simp
   refine (zt ((Rep.kg.void (e:=5) (r:=Rep.byte) (a:=none) (S:=fun _=>False)).own (Nat.zero_le _)).rd (HN.out.below (tQ EB HS))).mono ?_
   rintro e t0 ⟨vOA,rfl,OOA_,hb⟩
   obtain ⟨aOA,nOA,cOA,hvOA,HNOA⟩:=OOA_.parts
   obtain rfl:=hvOA
   have zN0:=hb.size
   have OA:=OOA_.wide (T:=Btw wS.heap.size t0.heap.size) fH
   clear OOA_
   replace HS:=(tQ HS hb)
   refine hK _ _ HS ?_
   clear hK K hb
   refine wkP ?_
   refine zT (i:=3) (j:=15) rfl rfl rF rfl rfl (fun K hK=>?_) (fun K hK=>?_)
   · go_simp
     refine (jc (OA.own qF).rd.1 rP).mono ?_
     rintro e t1 ⟨vOB,rfl,OOB_,hb⟩
     obtain ⟨aOB,nOB,cOB,hvOB,HNOB⟩:=OOB_.parts
     obtain rfl:=hvOB
     have zN1:=hb.size
     have OB:=OOB_.wide (T:=Btw t0.heap.size t1.heap.size) fH
     clear OOB_
     clear OA
     replace HS:=(tQ HS hb)
     refine hK _ _ HS ?_
     clear hK K hb
     refine wkP ?_
     refine zT (i:=6) (j:=15) rfl rfl rF rfl rfl (fun K hK=>?_) (fun K hK=>?_)
     · go_simp
       refine (jc (HC.out.below (tQ EB HS)) hc).mono ?_
       rintro e t2 ⟨vOE,rfl,OOE_,hb⟩
       obtain ⟨aOE,nOE,cOE,hvOE,HNOE⟩:=OOE_.parts
       obtain rfl:=hvOE
       have zN2:=hb.size
       have OE:=OOE_.wide (T:=Btw t1.heap.size t2.heap.size) fH
       clear OOE_
       replace OB:=OB.below hb
       replace HS:=(tQ HS hb)
       refine hK _ _ HS ?_
       clear hK K hb
       refine wkP ?_
       refine zT (i:=9) (j:=15) rfl rfl rF rfl rfl (fun K hK=>?_) (fun K hK=>?_)
       · go_simp
         refine (zt ((Rep.kg.void (e:=5) (r:=Rep.byte) (a:=none) (S:=fun _=>False)).own (Nat.zero_le _)).rd (HK.out.below (tQ EB HS))).mono ?_
         rintro e t3 ⟨vOF,rfl,OOF_,hb⟩
         obtain ⟨aOF,nOF,cOF,hvOF,HNOF⟩:=OOF_.parts
         obtain rfl:=hvOF
         have zN3:=hb.size
         have OF:=OOF_.wide (T:=Btw t2.heap.size t3.heap.size) fH
         clear OOF_
         replace OB:=OB.below hb
         replace OE:=OE.below hb
         replace HS:=(tQ HS hb)
         refine hK _ _ HS ?_
         clear hK K hb
         refine wkP ?_
         refine zT (i:=10) (j:=15) rfl rfl rF rfl rfl (fun K hK=>?_) (fun K hK=>?_)
         · go_simp
           refine (jc (OF.own qF).rd.1 rP).mono ?_
           rintro e t4 ⟨vOG,rfl,OOG_,hb⟩
           obtain ⟨aOG,nOG,cOG,hvOG,HNOG⟩:=OOG_.parts
           obtain rfl:=hvOG
           have zN4:=hb.size
           have OG:=OOG_.wide (T:=Btw t3.heap.size t4.heap.size) fH
           clear OOG_
           clear OF
           replace OB:=OB.below hb
           replace OE:=OE.below hb
           replace HS:=(tQ HS hb)
           refine hK _ _ HS ?_
           clear hK K hb
           refine wkP ?_
           refine zT (i:=11) (j:=15) rfl rfl rF rfl rfl (fun K hK=>?_) (fun K hK=>?_)
           · have bn:=HS.size
             go_simp
             have bN:Below t4.heap.size t4 (World.alloc t4 (.cells #[.slice aOB nOB cOB,.slice aOE nOE cOE,.slice aOG nOG cOG] 265)):=bR.alloc nL _
             have zN5:t4.heap.size + 1≤(World.alloc t4 (.cells #[.slice aOB nOB cOB,.slice aOE nOE cOE,.slice aOG nOG cOG] 265)).heap.size:=(by simp)
             have X0:=(OB.own qF).rd
             have X1:=(OE.own qF).rd
             have X2:=(OG.own qF).rd
             have Y0:=kDe (e:=265) (r:=(Rep.slice 3 Rep.int)) rfl (kN (w:=t4) (o:=(.cells #[.slice aOB nOB cOB,.slice aOE nOE cOE,.slice aOG nOG cOG] 265)) rfl) (X0.1.alloc (.cells #[.slice aOB nOB cOB,.slice aOE nOE cOE,.slice aOG nOG cOG] 265)) (X1.1.alloc (.cells #[.slice aOB nOB cOB,.slice aOE nOE cOE,.slice aOG nOG cOG] 265)) (X2.1.alloc (.cells #[.slice aOB nOB cOB,.slice aOE nOE cOE,.slice aOG nOG cOG] 265))
             have RT:(Rep.slice 265 (Rep.slice 3 Rep.int)).rd (World.alloc t4 (.cells #[.slice aOB nOB cOB,.slice aOE nOE cOE,.slice aOG nOG cOG] 265)) [.slice (some ⟨t4.heap.size,0,none⟩) 3 3] [yR (kBw x.1),yR x.2.1,yR (kBw x.2.2.1)]:=⟨Y0,by show 3≤_;unfold Big;omega,fun y hy=>bO⟩
             clear X0 X1 X2 Y0 OB OE OG
             generalize hwN:World.alloc t4 (.cells #[.slice aOB nOB cOB,.slice aOE nOE cOE,.slice aOG nOG cOG] 265)=t5 at bN zN5 RT ⊢
             clear hwN
             replace HS:=(tQ HS bN)
             refine hK _ _ HS ?_
             clear hK K bN
             clear bn
             refine wkP ?_
             refine zT (i:=12) (j:=15) rfl rfl rF rfl rfl (fun K hK=>?_) (fun K hK=>?_)
             · go_simp
               refine (kAl RT rG rG).mono ?_
               rintro e t6 ⟨vOT,rfl,OOT_,hb⟩
               obtain ⟨aOT,nOT,cOT,hvOT,HNOT⟩:=OOT_.parts
               obtain rfl:=hvOT
               have zN6:=hb.size
               have OT:=OOT_.wide (T:=Btw t5.heap.size t6.heap.size) fH
               clear OOT_
               clear RT
               replace HS:=(tQ HS hb)
               refine hK _ _ HS ?_
               clear hK K hb
               refine wkP ?_
               refine kV (k:=15) rfl rF rfl (fun K hK=>?_)
               have bn:=HS.size
               go_simp
               have bN:Below t6.heap.size t6 (World.alloc t6 (.cells #[.int .i64 x.2.2.2.1] 3)):=bR.alloc nL _
               have zN7:t6.heap.size + 1≤(World.alloc t6 (.cells #[.int .i64 x.2.2.2.1] 3)).heap.size:=(by simp)
               have RL:=kFv (w:=t6) (x:=x.2.2.2.1) (e:=3) HF.out
               generalize hwN:World.alloc t6 (.cells #[.int .i64 x.2.2.2.1] 3)=t7 at bN zN7 RL ⊢
               clear hwN
               replace OT:=OT.below bN
               replace HS:=(tQ HS bN)
               refine hK _ _ HS ?_
               clear hK K bN
               clear bn
               refine wkP ?_
               refine kV (k:=16) rfl rF rfl (fun K hK=>?_)
               have bn:=HS.size
               obtain ⟨v_,t8,hr,HV2,hbN,zN8,hfr⟩:=Rep.yZ (P:=Tryz.prog) (t:=265) (ty:=265) (r:=Rep.int) (e:=3) (w:=t7) (B:=wB.heap.size) Tryz.underlying265 kAh rfl rM rM Rep.jd OT (RL.own nT).rd dG HS.size bQ
               refine Rep.jR _ _ _ rfl rR rR hr ?_
               obtain ⟨a_8,n_8,c_8,hv_,HN_8⟩:=HV2.parts
               obtain rfl:=hv_
               replace HS:=HS.trans hbN
               clear hr hbN hfr OT RL
               have HV:=HV2
               clear HV2
               refine hK _ _ HS ?_
               clear hK K bn
               refine wkP ?_
               refine ja 17 ?_
               refine wkP ?_
               refine yN rF ?_
               go_wp2
               go_ret
               exact ⟨_,rfl,(HV.cast qG).wide mI,(tQ EB HS)⟩
             have bn:=HS.size
             go_simp
             have bN:Below t5.heap.size t5 (World.alloc t5 (.cells #[.int .i64 x.2.2.2.1] 3)):=bR.alloc nL _
             have zN6:t5.heap.size + 1≤(World.alloc t5 (.cells #[.int .i64 x.2.2.2.1] 3)).heap.size:=(by simp)
             have RL:=kFv (w:=t5) (x:=x.2.2.2.1) (e:=3) HF.out
             generalize hwN:World.alloc t5 (.cells #[.int .i64 x.2.2.2.1] 3)=t6 at bN zN6 RL ⊢
             clear hwN
             replace RT:=RT.below bN
             replace HS:=(tQ HS bN)
             refine hK _ _ HS ?_
             clear hK K bN
             clear bn
             refine wkP ?_
             refine kV (k:=12) rfl rF rfl (fun K hK=>?_)
             go_simp
             refine (kAl RT rG rG).mono ?_
             rintro e t7 ⟨vOT,rfl,OOT_,hb⟩
             obtain ⟨aOT,nOT,cOT,hvOT,HNOT⟩:=OOT_.parts
             obtain rfl:=hvOT
             have zN7:=hb.size
             have OT:=OOT_.wide (T:=Btw t6.heap.size t7.heap.size) fH
             clear OOT_
             clear RT
             replace RL:=RL.below hb
             replace HS:=(tQ HS hb)
             refine hK _ _ HS ?_
             clear hK K hb
             refine wkP ?_
             refine kV (k:=16) rfl rF rfl (fun K hK=>?_)
             have bn:=HS.size
             obtain ⟨v_,t8,hr,HV2,hbN,zN8,hfr⟩:=Rep.yZ (P:=Tryz.prog) (t:=265) (ty:=265) (r:=Rep.int) (e:=3) (w:=t7) (B:=wB.heap.size) Tryz.underlying265 kAh rfl rM rM Rep.jd OT (RL.own nT).rd dG HS.size bQ
             refine Rep.jR _ _ _ rfl rR rR hr ?_
             obtain ⟨a_8,n_8,c_8,hv_,HN_8⟩:=HV2.parts
             obtain rfl:=hv_
             replace HS:=HS.trans hbN
             clear hr hbN hfr OT RL
             have HV:=HV2
             clear HV2
             refine hK _ _ HS ?_
             clear hK K bn
             refine wkP ?_
             refine ja 17 ?_
             refine wkP ?_
             refine yN rF ?_
             go_wp2
             go_ret
             exact ⟨_,rfl,(HV.cast qG).wide mI,(tQ EB HS)⟩
           have bn:=HS.size
           go_simp
           have bN:Below t4.heap.size t4 (World.alloc t4 (.cells #[.int .i64 x.2.2.2.1] 3)):=bR.alloc nL _
           have zN5:t4.heap.size + 1≤(World.alloc t4 (.cells #[.int .i64 x.2.2.2.1] 3)).heap.size:=(by simp)
           have RL:=kFv (w:=t4) (x:=x.2.2.2.1) (e:=3) HF.out
           generalize hwN:World.alloc t4 (.cells #[.int .i64 x.2.2.2.1] 3)=t5 at bN zN5 RL ⊢
           clear hwN
           replace OB:=OB.below bN
           replace OE:=OE.below bN
           replace OG:=OG.below bN
           replace HS:=(tQ HS bN)
           refine hK _ _ HS ?_
           clear hK K bN
           clear bn
           refine wkP ?_
           refine kV (k:=11) rfl rF rfl (fun K hK=>?_)
           have bn:=HS.size
           go_simp
           have bN:Below t5.heap.size t5 (World.alloc t5 (.cells #[.slice aOB nOB cOB,.slice aOE nOE cOE,.slice aOG nOG cOG] 265)):=bR.alloc nL _
           have zN6:t5.heap.size + 1≤(World.alloc t5 (.cells #[.slice aOB nOB cOB,.slice aOE nOE cOE,.slice aOG nOG cOG] 265)).heap.size:=(by simp)
           have X0:=(OB.own qF).rd
           have X1:=(OE.own qF).rd
           have X2:=(OG.own qF).rd
           have Y0:=kDe (e:=265) (r:=(Rep.slice 3 Rep.int)) rfl (kN (w:=t5) (o:=(.cells #[.slice aOB nOB cOB,.slice aOE nOE cOE,.slice aOG nOG cOG] 265)) rfl) (X0.1.alloc (.cells #[.slice aOB nOB cOB,.slice aOE nOE cOE,.slice aOG nOG cOG] 265)) (X1.1.alloc (.cells #[.slice aOB nOB cOB,.slice aOE nOE cOE,.slice aOG nOG cOG] 265)) (X2.1.alloc (.cells #[.slice aOB nOB cOB,.slice aOE nOE cOE,.slice aOG nOG cOG] 265))
           have RT:(Rep.slice 265 (Rep.slice 3 Rep.int)).rd (World.alloc t5 (.cells #[.slice aOB nOB cOB,.slice aOE nOE cOE,.slice aOG nOG cOG] 265)) [.slice (some ⟨t5.heap.size,0,none⟩) 3 3] [yR (kBw x.1),yR x.2.1,yR (kBw x.2.2.1)]:=⟨Y0,by show 3≤_;unfold Big;omega,fun y hy=>bO⟩
           clear X0 X1 X2 Y0 OB OE OG
           generalize hwN:World.alloc t5 (.cells #[.slice aOB nOB cOB,.slice aOE nOE cOE,.slice aOG nOG cOG] 265)=t6 at bN zN6 RT ⊢
           clear hwN
           replace RL:=RL.below bN
           replace HS:=(tQ HS bN)
           refine hK _ _ HS ?_
           clear hK K bN
           clear bn
           refine wkP ?_
           refine kV (k:=12) rfl rF rfl (fun K hK=>?_)
           go_simp
           refine (kAl RT rG rG).mono ?_
           rintro e t7 ⟨vOT,rfl,OOT_,hb⟩
           obtain ⟨aOT,nOT,cOT,hvOT,HNOT⟩:=OOT_.parts
           obtain rfl:=hvOT
           have zN7:=hb.size
           have OT:=OOT_.wide (T:=Btw t6.heap.size t7.heap.size) fH
           clear OOT_
           clear RT
           replace RL:=RL.below hb
           replace HS:=(tQ HS hb)
           refine hK _ _ HS ?_
           clear hK K hb
           refine wkP ?_
           refine kV (k:=16) rfl rF rfl (fun K hK=>?_)
           have bn:=HS.size
           obtain ⟨v_,t8,hr,HV2,hbN,zN8,hfr⟩:=Rep.yZ (P:=Tryz.prog) (t:=265) (ty:=265) (r:=Rep.int) (e:=3) (w:=t7) (B:=wB.heap.size) Tryz.underlying265 kAh rfl rM rM Rep.jd OT (RL.own nT).rd dG HS.size bQ
           refine Rep.jR _ _ _ rfl rR rR hr ?_
           obtain ⟨a_8,n_8,c_8,hv_,HN_8⟩:=HV2.parts
           obtain rfl:=hv_
           replace HS:=HS.trans hbN
           clear hr hbN hfr OT RL
           have HV:=HV2
           clear HV2
           refine hK _ _ HS ?_
           clear hK K bn
           refine wkP ?_
           refine ja 17 ?_
           refine wkP ?_
           refine yN rF ?_
           go_wp2
           go_ret
           exact ⟨_,rfl,(HV.cast qG).wide mI,(tQ EB HS)⟩
         have bn:=HS.size
         go_simp
         have bN:Below t3.heap.size t3 (World.alloc t3 (.cells #[.int .i64 x.2.2.2.1] 3)):=bR.alloc nL _
         have zN4:t3.heap.size + 1≤(World.alloc t3 (.cells #[.int .i64 x.2.2.2.1] 3)).heap.size:=(by simp)
         have RL:=kFv (w:=t3) (x:=x.2.2.2.1) (e:=3) HF.out
         generalize hwN:World.alloc t3 (.cells #[.int .i64 x.2.2.2.1] 3)=t4 at bN zN4 RL ⊢
         clear hwN
         replace OB:=OB.below bN
         replace OE:=OE.below bN
         replace OF:=OF.below bN
         replace HS:=(tQ HS bN)
         refine hK _ _ HS ?_
         clear hK K bN
         clear bn
         refine wkP ?_
         refine kV (k:=10) rfl rF rfl (fun K hK=>?_)
         go_simp
         refine (jc (OF.own qF).rd.1 rP).mono ?_
         rintro e t5 ⟨vOG,rfl,OOG_,hb⟩
         obtain ⟨aOG,nOG,cOG,hvOG,HNOG⟩:=OOG_.parts
         obtain rfl:=hvOG
         have zN5:=hb.size
         have OG:=OOG_.wide (T:=Btw t4.heap.size t5.heap.size) fH
         clear OOG_
         clear OF
         replace OB:=OB.below hb
         replace OE:=OE.below hb
         replace RL:=RL.below hb
         replace HS:=(tQ HS hb)
         refine hK _ _ HS ?_
         clear hK K hb
         refine wkP ?_
         refine kV (k:=11) rfl rF rfl (fun K hK=>?_)
         have bn:=HS.size
         go_simp
         have bN:Below t5.heap.size t5 (World.alloc t5 (.cells #[.slice aOB nOB cOB,.slice aOE nOE cOE,.slice aOG nOG cOG] 265)):=bR.alloc nL _
         have zN6:t5.heap.size + 1≤(World.alloc t5 (.cells #[.slice aOB nOB cOB,.slice aOE nOE cOE,.slice aOG nOG cOG] 265)).heap.size:=(by simp)
         have X0:=(OB.own qF).rd
         have X1:=(OE.own qF).rd
         have X2:=(OG.own qF).rd
         have Y0:=kDe (e:=265) (r:=(Rep.slice 3 Rep.int)) rfl (kN (w:=t5) (o:=(.cells #[.slice aOB nOB cOB,.slice aOE nOE cOE,.slice aOG nOG cOG] 265)) rfl) (X0.1.alloc (.cells #[.slice aOB nOB cOB,.slice aOE nOE cOE,.slice aOG nOG cOG] 265)) (X1.1.alloc (.cells #[.slice aOB nOB cOB,.slice aOE nOE cOE,.slice aOG nOG cOG] 265)) (X2.1.alloc (.cells #[.slice aOB nOB cOB,.slice aOE nOE cOE,.slice aOG nOG cOG] 265))
         have RT:(Rep.slice 265 (Rep.slice 3 Rep.int)).rd (World.alloc t5 (.cells #[.slice aOB nOB cOB,.slice aOE nOE cOE,.slice aOG nOG cOG] 265)) [.slice (some ⟨t5.heap.size,0,none⟩) 3 3] [yR (kBw x.1),yR x.2.1,yR (kBw x.2.2.1)]:=⟨Y0,by show 3≤_;unfold Big;omega,fun y hy=>bO⟩
         clear X0 X1 X2 Y0 OB OE OG
         generalize hwN:World.alloc t5 (.cells #[.slice aOB nOB cOB,.slice aOE nOE cOE,.slice aOG nOG cOG] 265)=t6 at bN zN6 RT ⊢
         clear hwN
         replace RL:=RL.below bN
         replace HS:=(tQ HS bN)
         refine hK _ _ HS ?_
         clear hK K bN
         clear bn
         refine wkP ?_
         refine kV (k:=12) rfl rF rfl (fun K hK=>?_)
         go_simp
         refine (kAl RT rG rG).mono ?_
         rintro e t7 ⟨vOT,rfl,OOT_,hb⟩
         obtain ⟨aOT,nOT,cOT,hvOT,HNOT⟩:=OOT_.parts
         obtain rfl:=hvOT
         have zN7:=hb.size
         have OT:=OOT_.wide (T:=Btw t6.heap.size t7.heap.size) fH
         clear OOT_
         clear RT
         replace RL:=RL.below hb
         replace HS:=(tQ HS hb)
         refine hK _ _ HS ?_
         clear hK K hb
         refine wkP ?_
         refine kV (k:=16) rfl rF rfl (fun K hK=>?_)
         have bn:=HS.size
         obtain ⟨v_,t8,hr,HV2,hbN,zN8,hfr⟩:=Rep.yZ (P:=Tryz.prog) (t:=265) (ty:=265) (r:=Rep.int) (e:=3) (w:=t7) (B:=wB.heap.size) Tryz.underlying265 kAh rfl rM rM Rep.jd OT (RL.own nT).rd dG HS.size bQ
         refine Rep.jR _ _ _ rfl rR rR hr ?_
         obtain ⟨a_8,n_8,c_8,hv_,HN_8⟩:=HV2.parts
         obtain rfl:=hv_
         replace HS:=HS.trans hbN
         clear hr hbN hfr OT RL
         have HV:=HV2
         clear HV2
         refine hK _ _ HS ?_
         clear hK K bn
         refine wkP ?_
         refine ja 17 ?_
         refine wkP ?_
         refine yN rF ?_
         go_wp2
         go_ret
         exact ⟨_,rfl,(HV.cast qG).wide mI,(tQ EB HS)⟩
       have bn:=HS.size
       go_simp
       have bN:Below t2.heap.size t2 (World.alloc t2 (.cells #[.int .i64 x.2.2.2.1] 3)):=bR.alloc nL _
       have zN3:t2.heap.size + 1≤(World.alloc t2 (.cells #[.int .i64 x.2.2.2.1] 3)).heap.size:=(by simp)
       have RL:=kFv (w:=t2) (x:=x.2.2.2.1) (e:=3) HF.out
       generalize hwN:World.alloc t2 (.cells #[.int .i64 x.2.2.2.1] 3)=t3 at bN zN3 RL ⊢
       clear hwN
       replace OB:=OB.below bN
       replace OE:=OE.below bN
       replace HS:=(tQ HS bN)
       refine hK _ _ HS ?_
       clear hK K bN
       clear bn
       refine wkP ?_
       refine kV (k:=9) rfl rF rfl (fun K hK=>?_)
       go_simp
       refine (zt ((Rep.kg.void (e:=5) (r:=Rep.byte) (a:=none) (S:=fun _=>False)).own (Nat.zero_le _)).rd (HK.out.below (tQ EB HS))).mono ?_
       rintro e t4 ⟨vOF,rfl,OOF_,hb⟩
       obtain ⟨aOF,nOF,cOF,hvOF,HNOF⟩:=OOF_.parts
       obtain rfl:=hvOF
       have zN4:=hb.size
       have OF:=OOF_.wide (T:=Btw t3.heap.size t4.heap.size) fH
       clear OOF_
       replace OB:=OB.below hb
       replace OE:=OE.below hb
       replace RL:=RL.below hb
       replace HS:=(tQ HS hb)
       refine hK _ _ HS ?_
       clear hK K hb
       refine wkP ?_
       refine kV (k:=10) rfl rF rfl (fun K hK=>?_)
       go_simp
       refine (jc (OF.own qF).rd.1 rP).mono ?_
       rintro e t5 ⟨vOG,rfl,OOG_,hb⟩
       obtain ⟨aOG,nOG,cOG,hvOG,HNOG⟩:=OOG_.parts
       obtain rfl:=hvOG
       have zN5:=hb.size
       have OG:=OOG_.wide (T:=Btw t4.heap.size t5.heap.size) fH
       clear OOG_
       clear OF
       replace OB:=OB.below hb
       replace OE:=OE.below hb
       replace RL:=RL.below hb
       replace HS:=(tQ HS hb)
       refine hK _ _ HS ?_
       clear hK K hb
       refine wkP ?_
       refine kV (k:=11) rfl rF rfl (fun K hK=>?_)
       have bn:=HS.size
       go_simp
       have bN:Below t5.heap.size t5 (World.alloc t5 (.cells #[.slice aOB nOB cOB,.slice aOE nOE cOE,.slice aOG nOG cOG] 265)):=bR.alloc nL _
       have zN6:t5.heap.size + 1≤(World.alloc t5 (.cells #[.slice aOB nOB cOB,.slice aOE nOE cOE,.slice aOG nOG cOG] 265)).heap.size:=(by simp)
       have X0:=(OB.own qF).rd
       have X1:=(OE.own qF).rd
       have X2:=(OG.own qF).rd
       have Y0:=kDe (e:=265) (r:=(Rep.slice 3 Rep.int)) rfl (kN (w:=t5) (o:=(.cells #[.slice aOB nOB cOB,.slice aOE nOE cOE,.slice aOG nOG cOG] 265)) rfl) (X0.1.alloc (.cells #[.slice aOB nOB cOB,.slice aOE nOE cOE,.slice aOG nOG cOG] 265)) (X1.1.alloc (.cells #[.slice aOB nOB cOB,.slice aOE nOE cOE,.slice aOG nOG cOG] 265)) (X2.1.alloc (.cells #[.slice aOB nOB cOB,.slice aOE nOE cOE,.slice aOG nOG cOG] 265))
       have RT:(Rep.slice 265 (Rep.slice 3 Rep.int)).rd (World.alloc t5 (.cells #[.slice aOB nOB cOB,.slice aOE nOE cOE,.slice aOG nOG cOG] 265)) [.slice (some ⟨t5.heap.size,0,none⟩) 3 3] [yR (kBw x.1),yR x.2.1,yR (kBw x.2.2.1)]:=⟨Y0,by show 3≤_;unfold Big;omega,fun y hy=>bO⟩
       clear X0 X1 X2 Y0 OB OE OG
       generalize hwN:World.alloc t5 (.cells #[.slice aOB nOB cOB,.slice aOE nOE cOE,.slice aOG nOG cOG] 265)=t6 at bN zN6 RT ⊢
       clear hwN
       replace RL:=RL.below bN
       replace HS:=(tQ HS bN)
       refine hK _ _ HS ?_
       clear hK K bN
       clear bn
       refine wkP ?_
       refine kV (k:=12) rfl rF rfl (fun K hK=>?_)
       go_simp
       refine (kAl RT rG rG).mono ?_
       rintro e t7 ⟨vOT,rfl,OOT_,hb⟩
       obtain ⟨aOT,nOT,cOT,hvOT,HNOT⟩:=OOT_.parts
       obtain rfl:=hvOT
       have zN7:=hb.size
       have OT:=OOT_.wide (T:=Btw t6.heap.size t7.heap.size) fH
       clear OOT_
       clear RT
       replace RL:=RL.below hb
       replace HS:=(tQ HS hb)
       refine hK _ _ HS ?_
       clear hK K hb
       refine wkP ?_
       refine kV (k:=16) rfl rF rfl (fun K hK=>?_)
       have bn:=HS.size
       obtain ⟨v_,t8,hr,HV2,hbN,zN8,hfr⟩:=Rep.yZ (P:=Tryz.prog) (t:=265) (ty:=265) (r:=Rep.int) (e:=3) (w:=t7) (B:=wB.heap.size) Tryz.underlying265 kAh rfl rM rM Rep.jd OT (RL.own nT).rd dG HS.size bQ
       refine Rep.jR _ _ _ rfl rR rR hr ?_
       obtain ⟨a_8,n_8,c_8,hv_,HN_8⟩:=HV2.parts
       obtain rfl:=hv_
       replace HS:=HS.trans hbN
       clear hr hbN hfr OT RL
       have HV:=HV2
       clear HV2
       refine hK _ _ HS ?_
       clear hK K bn
       refine wkP ?_
       refine ja 17 ?_
       refine wkP ?_
       refine yN rF ?_
       go_wp2
       go_ret
       exact ⟨_,rfl,(HV.cast qG).wide mI,(tQ EB HS)⟩
     have bn:=HS.size
     go_simp
     have bN:Below t1.heap.size t1 (World.alloc t1 (.cells #[.int .i64 x.2.2.2.1] 3)):=bR.alloc nL _
     have zN2:t1.heap.size + 1≤(World.alloc t1 (.cells #[.int .i64 x.2.2.2.1] 3)).heap.size:=(by simp)
     have RL:=kFv (w:=t1) (x:=x.2.2.2.1) (e:=3) HF.out
     generalize hwN:World.alloc t1 (.cells #[.int .i64 x.2.2.2.1] 3)=t2 at bN zN2 RL ⊢
     clear hwN
     replace OB:=OB.below bN
     replace HS:=(tQ HS bN)
     refine hK _ _ HS ?_
     clear hK K bN
     clear bn
     refine wkP ?_
     refine kV (k:=6) rfl rF rfl (fun K hK=>?_)
     go_simp
     refine (jc (HC.out.below (tQ EB HS)) hc).mono ?_
     rintro e t3 ⟨vOE,rfl,OOE_,hb⟩
     obtain ⟨aOE,nOE,cOE,hvOE,HNOE⟩:=OOE_.parts
     obtain rfl:=hvOE
     have zN3:=hb.size
     have OE:=OOE_.wide (T:=Btw t2.heap.size t3.heap.size) fH
     clear OOE_
     replace OB:=OB.below hb
     replace RL:=RL.below hb
     replace HS:=(tQ HS hb)
     refine hK _ _ HS ?_
     clear hK K hb
     refine wkP ?_
     refine kV (k:=9) rfl rF rfl (fun K hK=>?_)
     go_simp
     refine (zt ((Rep.kg.void (e:=5) (r:=Rep.byte) (a:=none) (S:=fun _=>False)).own (Nat.zero_le _)).rd (HK.out.below (tQ EB HS))).mono ?_
     rintro e t4 ⟨vOF,rfl,OOF_,hb⟩
     obtain ⟨aOF,nOF,cOF,hvOF,HNOF⟩:=OOF_.parts
     obtain rfl:=hvOF
     have zN4:=hb.size
     have OF:=OOF_.wide (T:=Btw t3.heap.size t4.heap.size) fH
     clear OOF_
     replace OB:=OB.below hb
     replace RL:=RL.below hb
     replace OE:=OE.below hb
     replace HS:=(tQ HS hb)
     refine hK _ _ HS ?_
     clear hK K hb
     refine wkP ?_
     refine kV (k:=10) rfl rF rfl (fun K hK=>?_)
     go_simp
     refine (jc (OF.own qF).rd.1 rP).mono ?_
     rintro e t5 ⟨vOG,rfl,OOG_,hb⟩
     obtain ⟨aOG,nOG,cOG,hvOG,HNOG⟩:=OOG_.parts
     obtain rfl:=hvOG
     have zN5:=hb.size
     have OG:=OOG_.wide (T:=Btw t4.heap.size t5.heap.size) fH
     clear OOG_
     clear OF
     replace OB:=OB.below hb
     replace RL:=RL.below hb
     replace OE:=OE.below hb
     replace HS:=(tQ HS hb)
     refine hK _ _ HS ?_
     clear hK K hb
     refine wkP ?_
     refine kV (k:=11) rfl rF rfl (fun K hK=>?_)
     have bn:=HS.size
     go_simp
     have bN:Below t5.heap.size t5 (World.alloc t5 (.cells #[.slice aOB nOB cOB,.slice aOE nOE cOE,.slice aOG nOG cOG] 265)):=bR.alloc nL _
     have zN6:t5.heap.size + 1≤(World.alloc t5 (.cells #[.slice aOB nOB cOB,.slice aOE nOE cOE,.slice aOG nOG cOG] 265)).heap.size:=(by simp)
     have X0:=(OB.own qF).rd
     have X1:=(OE.own qF).rd
     have X2:=(OG.own qF).rd
     have Y0:=kDe (e:=265) (r:=(Rep.slice 3 Rep.int)) rfl (kN (w:=t5) (o:=(.cells #[.slice aOB nOB cOB,.slice aOE nOE cOE,.slice aOG nOG cOG] 265)) rfl) (X0.1.alloc (.cells #[.slice aOB nOB cOB,.slice aOE nOE cOE,.slice aOG nOG cOG] 265)) (X1.1.alloc (.cells #[.slice aOB nOB cOB,.slice aOE nOE cOE,.slice aOG nOG cOG] 265)) (X2.1.alloc (.cells #[.slice aOB nOB cOB,.slice aOE nOE cOE,.slice aOG nOG cOG] 265))
     have RT:(Rep.slice 265 (Rep.slice 3 Rep.int)).rd (World.alloc t5 (.cells #[.slice aOB nOB cOB,.slice aOE nOE cOE,.slice aOG nOG cOG] 265)) [.slice (some ⟨t5.heap.size,0,none⟩) 3 3] [yR (kBw x.1),yR x.2.1,yR (kBw x.2.2.1)]:=⟨Y0,by show 3≤_;unfold Big;omega,fun y hy=>bO⟩
     clear X0 X1 X2 Y0 OB OE OG
     generalize hwN:World.alloc t5 (.cells #[.slice aOB nOB cOB,.slice aOE nOE cOE,.slice aOG nOG cOG] 265)=t6 at bN zN6 RT ⊢
     clear hwN
     replace RL:=RL.below bN
     replace HS:=(tQ HS bN)
     refine hK _ _ HS ?_
     clear hK K bN
     clear bn
     refine wkP ?_
     refine kV (k:=12) rfl rF rfl (fun K hK=>?_)
     go_simp
     refine (kAl RT rG rG).mono ?_
     rintro e t7 ⟨vOT,rfl,OOT_,hb⟩
     obtain ⟨aOT,nOT,cOT,hvOT,HNOT⟩:=OOT_.parts
     obtain rfl:=hvOT
     have zN7:=hb.size
     have OT:=OOT_.wide (T:=Btw t6.heap.size t7.heap.size) fH
     clear OOT_
     clear RT
     replace RL:=RL.below hb
     replace HS:=(tQ HS hb)
     refine hK _ _ HS ?_
     clear hK K hb
     refine wkP ?_
     refine kV (k:=16) rfl rF rfl (fun K hK=>?_)
     have bn:=HS.size
     obtain ⟨v_,t8,hr,HV2,hbN,zN8,hfr⟩:=Rep.yZ (P:=Tryz.prog) (t:=265) (ty:=265) (r:=Rep.int) (e:=3) (w:=t7) (B:=wB.heap.size) Tryz.underlying265 kAh rfl rM rM Rep.jd OT (RL.own nT).rd dG HS.size bQ
     refine Rep.jR _ _ _ rfl rR rR hr ?_
     obtain ⟨a_8,n_8,c_8,hv_,HN_8⟩:=HV2.parts
     obtain rfl:=hv_
     replace HS:=HS.trans hbN
     clear hr hbN hfr OT RL
     have HV:=HV2
     clear HV2
     refine hK _ _ HS ?_
     clear hK K bn
     refine wkP ?_
     refine ja 17 ?_
     refine wkP ?_
     refine yN rF ?_
     go_wp2
     go_ret
     exact ⟨_,rfl,(HV.cast qG).wide mI,(tQ EB HS)⟩
   have bn:=HS.size
   go_simp
   have bN:Below t0.heap.size t0 (World.alloc t0 (.cells #[.int .i64 x.2.2.2.1] 3)):=bR.alloc nL _
   have zN1:t0.heap.size + 1≤(World.alloc t0 (.cells #[.int .i64 x.2.2.2.1] 3)).heap.size:=(by simp)
   have RL:=kFv (w:=t0) (x:=x.2.2.2.1) (e:=3) HF.out
   generalize hwN:World.alloc t0 (.cells #[.int .i64 x.2.2.2.1] 3)=t1 at bN zN1 RL ⊢
   clear hwN
   replace OA:=OA.below bN
   replace HS:=(tQ HS bN)
   refine hK _ _ HS ?_
   clear hK K bN
   clear bn
   refine wkP ?_
   refine kV (k:=3) rfl rF rfl (fun K hK=>?_)
   go_simp
   refine (jc (OA.own qF).rd.1 rP).mono ?_
   rintro e t2 ⟨vOB,rfl,OOB_,hb⟩
   obtain ⟨aOB,nOB,cOB,hvOB,HNOB⟩:=OOB_.parts
   obtain rfl:=hvOB
   have zN2:=hb.size
   have OB:=OOB_.wide (T:=Btw t1.heap.size t2.heap.size) fH
   clear OOB_
   clear OA
   replace RL:=RL.below hb
   replace HS:=(tQ HS hb)
   refine hK _ _ HS ?_
   clear hK K hb
   refine wkP ?_
   refine kV (k:=6) rfl rF rfl (fun K hK=>?_)
   go_simp
   refine (jc (HC.out.below (tQ EB HS)) hc).mono ?_
   rintro e t3 ⟨vOE,rfl,OOE_,hb⟩
   obtain ⟨aOE,nOE,cOE,hvOE,HNOE⟩:=OOE_.parts
   obtain rfl:=hvOE
   have zN3:=hb.size
   have OE:=OOE_.wide (T:=Btw t2.heap.size t3.heap.size) fH
   clear OOE_
   replace RL:=RL.below hb
   replace OB:=OB.below hb
   replace HS:=(tQ HS hb)
   refine hK _ _ HS ?_
   clear hK K hb
   refine wkP ?_
   refine kV (k:=9) rfl rF rfl (fun K hK=>?_)
   go_simp
   refine (zt ((Rep.kg.void (e:=5) (r:=Rep.byte) (a:=none) (S:=fun _=>False)).own (Nat.zero_le _)).rd (HK.out.below (tQ EB HS))).mono ?_
   rintro e t4 ⟨vOF,rfl,OOF_,hb⟩
   obtain ⟨aOF,nOF,cOF,hvOF,HNOF⟩:=OOF_.parts
   obtain rfl:=hvOF
   have zN4:=hb.size
   have OF:=OOF_.wide (T:=Btw t3.heap.size t4.heap.size) fH
   clear OOF_
   replace RL:=RL.below hb
   replace OB:=OB.below hb
   replace OE:=OE.below hb
   replace HS:=(tQ HS hb)
   refine hK _ _ HS ?_
   clear hK K hb
   refine wkP ?_
   refine kV (k:=10) rfl rF rfl (fun K hK=>?_)
   go_simp
   refine (jc (OF.own qF).rd.1 rP).mono ?_
   rintro e t5 ⟨vOG,rfl,OOG_,hb⟩
   obtain ⟨aOG,nOG,cOG,hvOG,HNOG⟩:=OOG_.parts
   obtain rfl:=hvOG
   have zN5:=hb.size
   have OG:=OOG_.wide (T:=Btw t4.heap.size t5.heap.size) fH
   clear OOG_
   clear OF
   replace RL:=RL.below hb
   replace OB:=OB.below hb
   replace OE:=OE.below hb
   replace HS:=(tQ HS hb)
   refine hK _ _ HS ?_
   clear hK K hb
   refine wkP ?_
   refine kV (k:=11) rfl rF rfl (fun K hK=>?_)
   have bn:=HS.size
   go_simp
   have bN:Below t5.heap.size t5 (World.alloc t5 (.cells #[.slice aOB nOB cOB,.slice aOE nOE cOE,.slice aOG nOG cOG] 265)):=bR.alloc nL _
   have zN6:t5.heap.size + 1≤(World.alloc t5 (.cells #[.slice aOB nOB cOB,.slice aOE nOE cOE,.slice aOG nOG cOG] 265)).heap.size:=(by simp)
   have X0:=(OB.own qF).rd
   have X1:=(OE.own qF).rd
   have X2:=(OG.own qF).rd
   have Y0:=kDe (e:=265) (r:=(Rep.slice 3 Rep.int)) rfl (kN (w:=t5) (o:=(.cells #[.slice aOB nOB cOB,.slice aOE nOE cOE,.slice aOG nOG cOG] 265)) rfl) (X0.1.alloc (.cells #[.slice aOB nOB cOB,.slice aOE nOE cOE,.slice aOG nOG cOG] 265)) (X1.1.alloc (.cells #[.slice aOB nOB cOB,.slice aOE nOE cOE,.slice aOG nOG cOG] 265)) (X2.1.alloc (.cells #[.slice aOB nOB cOB,.slice aOE nOE cOE,.slice aOG nOG cOG] 265))
   have RT:(Rep.slice 265 (Rep.slice 3 Rep.int)).rd (World.alloc t5 (.cells #[.slice aOB nOB cOB,.slice aOE nOE cOE,.slice aOG nOG cOG] 265)) [.slice (some ⟨t5.heap.size,0,none⟩) 3 3] [yR (kBw x.1),yR x.2.1,yR (kBw x.2.2.1)]:=⟨Y0,by show 3≤_;unfold Big;omega,fun y hy=>bO⟩
   clear X0 X1 X2 Y0 OB OE OG
   generalize hwN:World.alloc t5 (.cells #[.slice aOB nOB cOB,.slice aOE nOE cOE,.slice aOG nOG cOG] 265)=t6 at bN zN6 RT ⊢
   clear hwN
   replace RL:=RL.below bN
   replace HS:=(tQ HS bN)
   refine hK _ _ HS ?_
   clear hK K bN
   clear bn
   refine wkP ?_
   refine kV (k:=12) rfl rF rfl (fun K hK=>?_)
   go_simp
   refine (kAl RT rG rG).mono ?_
   rintro e t7 ⟨vOT,rfl,OOT_,hb⟩
   obtain ⟨aOT,nOT,cOT,hvOT,HNOT⟩:=OOT_.parts
   obtain rfl:=hvOT
   have zN7:=hb.size
   have OT:=OOT_.wide (T:=Btw t6.heap.size t7.heap.size) fH
   clear OOT_
   clear RT
   replace RL:=RL.below hb
   replace HS:=(tQ HS hb)
   refine hK _ _ HS ?_
   clear hK K hb
   refine wkP ?_
   refine kV (k:=16) rfl rF rfl (fun K hK=>?_)
   have bn:=HS.size
   obtain ⟨v_,t8,hr,HV2,hbN,zN8,hfr⟩:=Rep.yZ (P:=Tryz.prog) (t:=265) (ty:=265) (r:=Rep.int) (e:=3) (w:=t7) (B:=wB.heap.size) Tryz.underlying265 kAh rfl rM rM Rep.jd OT (RL.own nT).rd dG HS.size bQ
   refine Rep.jR _ _ _ rfl rR rR hr ?_
   obtain ⟨a_8,n_8,c_8,hv_,HN_8⟩:=HV2.parts
   obtain rfl:=hv_
   replace HS:=HS.trans hbN
   clear hr hbN hfr OT RL
   have HV:=HV2
   clear HV2
   refine hK _ _ HS ?_
   clear hK K bn
   refine wkP ?_
   refine ja 17 ?_
   refine wkP ?_
   refine yN rF ?_
   go_wp2
   go_ret
   exact ⟨_,rfl,(HV.cast qG).wide mI,(tQ EB HS)⟩
 have bn:=HS.size
 go_simp
 have bN:Below wS.heap.size wS (World.alloc wS (.cells #[.int .i64 x.2.2.2.1] 3)):=bR.alloc nL _
 have zN0:wS.heap.size + 1≤(World.alloc wS (.cells #[.int .i64 x.2.2.2.1] 3)).heap.size:=(by simp)
 have RL:=kFv (w:=wS) (x:=x.2.2.2.1) (e:=3) HF.out
 generalize hwN:World.alloc wS (.cells #[.int .i64 x.2.2.2.1] 3)=t0 at bN zN0 RL ⊢
 clear hwN
 replace HS:=(tQ HS bN)
 refine hK _ _ HS ?_
 clear hK K bN
 clear bn
 refine wkP ?_
 refine kV (k:=2) rfl rF rfl (fun K hK=>?_)
 go_simp
 refine (zt ((Rep.kg.void (e:=5) (r:=Rep.byte) (a:=none) (S:=fun _=>False)).own (Nat.zero_le _)).rd (HN.out.below (tQ EB HS))).mono ?_
 rintro e t1 ⟨vOA,rfl,OOA_,hb⟩
 obtain ⟨aOA,nOA,cOA,hvOA,HNOA⟩:=OOA_.parts
 obtain rfl:=hvOA
 have zN1:=hb.size
 have OA:=OOA_.wide (T:=Btw t0.heap.size t1.heap.size) fH
 clear OOA_
 replace RL:=RL.below hb
 replace HS:=(tQ HS hb)
 refine hK _ _ HS ?_
 clear hK K hb
 refine wkP ?_
 refine kV (k:=3) rfl rF rfl (fun K hK=>?_)
 go_simp
 refine (jc (OA.own qF).rd.1 rP).mono ?_
 rintro e t2 ⟨vOB,rfl,OOB_,hb⟩
 obtain ⟨aOB,nOB,cOB,hvOB,HNOB⟩:=OOB_.parts
 obtain rfl:=hvOB
 have zN2:=hb.size
 have OB:=OOB_.wide (T:=Btw t1.heap.size t2.heap.size) fH
 clear OOB_
 clear OA
 replace RL:=RL.below hb
 replace HS:=(tQ HS hb)
 refine hK _ _ HS ?_
 clear hK K hb
 refine wkP ?_
 refine kV (k:=6) rfl rF rfl (fun K hK=>?_)
 go_simp
 refine (jc (HC.out.below (tQ EB HS)) hc).mono ?_
 rintro e t3 ⟨vOE,rfl,OOE_,hb⟩
 obtain ⟨aOE,nOE,cOE,hvOE,HNOE⟩:=OOE_.parts
 obtain rfl:=hvOE
 have zN3:=hb.size
 have OE:=OOE_.wide (T:=Btw t2.heap.size t3.heap.size) fH
 clear OOE_
 replace RL:=RL.below hb
 replace OB:=OB.below hb
 replace HS:=(tQ HS hb)
 refine hK _ _ HS ?_
 clear hK K hb
 refine wkP ?_
 refine kV (k:=9) rfl rF rfl (fun K hK=>?_)
 go_simp
 refine (zt ((Rep.kg.void (e:=5) (r:=Rep.byte) (a:=none) (S:=fun _=>False)).own (Nat.zero_le _)).rd (HK.out.below (tQ EB HS))).mono ?_
 rintro e t4 ⟨vOF,rfl,OOF_,hb⟩
 obtain ⟨aOF,nOF,cOF,hvOF,HNOF⟩:=OOF_.parts
 obtain rfl:=hvOF
 have zN4:=hb.size
 have OF:=OOF_.wide (T:=Btw t3.heap.size t4.heap.size) fH
 clear OOF_
 replace RL:=RL.below hb
 replace OB:=OB.below hb
 replace OE:=OE.below hb
 replace HS:=(tQ HS hb)
 refine hK _ _ HS ?_
 clear hK K hb
 refine wkP ?_
 refine kV (k:=10) rfl rF rfl (fun K hK=>?_)
 go_simp
 refine (jc (OF.own qF).rd.1 rP).mono ?_
 rintro e t5 ⟨vOG,rfl,OOG_,hb⟩
 obtain ⟨aOG,nOG,cOG,hvOG,HNOG⟩:=OOG_.parts
 obtain rfl:=hvOG
 have zN5:=hb.size
 have OG:=OOG_.wide (T:=Btw t4.heap.size t5.heap.size) fH
 clear OOG_
 clear OF
 replace RL:=RL.below hb
 replace OB:=OB.below hb
 replace OE:=OE.below hb
 replace HS:=(tQ HS hb)
 refine hK _ _ HS ?_
 clear hK K hb
 refine wkP ?_
 refine kV (k:=11) rfl rF rfl (fun K hK=>?_)
 have bn:=HS.size
 go_simp
 have bN:Below t5.heap.size t5 (World.alloc t5 (.cells #[.slice aOB nOB cOB,.slice aOE nOE cOE,.slice aOG nOG cOG] 265)):=bR.alloc nL _
 have zN6:t5.heap.size + 1≤(World.alloc t5 (.cells #[.slice aOB nOB cOB,.slice aOE nOE cOE,.slice aOG nOG cOG] 265)).heap.size:=(by simp)
 have X0:=(OB.own qF).rd
 have X1:=(OE.own qF).rd
 have X2:=(OG.own qF).rd
 have Y0:=kDe (e:=265) (r:=(Rep.slice 3 Rep.int)) rfl (kN (w:=t5) (o:=(.cells #[.slice aOB nOB cOB,.slice aOE nOE cOE,.slice aOG nOG cOG] 265)) rfl) (X0.1.alloc (.cells #[.slice aOB nOB cOB,.slice aOE nOE cOE,.slice aOG nOG cOG] 265)) (X1.1.alloc (.cells #[.slice aOB nOB cOB,.slice aOE nOE cOE,.slice aOG nOG cOG] 265)) (X2.1.alloc (.cells #[.slice aOB nOB cOB,.slice aOE nOE cOE,.slice aOG nOG cOG] 265))
 have RT:(Rep.slice 265 (Rep.slice 3 Rep.int)).rd (World.alloc t5 (.cells #[.slice aOB nOB cOB,.slice aOE nOE cOE,.slice aOG nOG cOG] 265)) [.slice (some ⟨t5.heap.size,0,none⟩) 3 3] [yR (kBw x.1),yR x.2.1,yR (kBw x.2.2.1)]:=⟨Y0,by show 3≤_;unfold Big;omega,fun y hy=>bO⟩
 clear X0 X1 X2 Y0 OB OE OG
 generalize hwN:World.alloc t5 (.cells #[.slice aOB nOB cOB,.slice aOE nOE cOE,.slice aOG nOG cOG] 265)=t6 at bN zN6 RT ⊢
 clear hwN
 replace RL:=RL.below bN
 replace HS:=(tQ HS bN)
 refine hK _ _ HS ?_
 clear hK K bN
 clear bn
 refine wkP ?_
 refine kV (k:=12) rfl rF rfl (fun K hK=>?_)
 go_simp
 refine (kAl RT rG rG).mono ?_
 rintro e t7 ⟨vOT,rfl,OOT_,hb⟩
 obtain ⟨aOT,nOT,cOT,hvOT,HNOT⟩:=OOT_.parts
 obtain rfl:=hvOT
 have zN7:=hb.size
 have OT:=OOT_.wide (T:=Btw t6.heap.size t7.heap.size) fH
 clear OOT_
 clear RT
 replace RL:=RL.below hb
 replace HS:=(tQ HS hb)
 refine hK _ _ HS ?_
 clear hK K hb
 refine wkP ?_
 refine kV (k:=16) rfl rF rfl (fun K hK=>?_)
 have bn:=HS.size
 obtain ⟨v_,t8,hr,HV2,hbN,zN8,hfr⟩:=Rep.yZ (P:=Tryz.prog) (t:=265) (ty:=265) (r:=Rep.int) (e:=3) (w:=t7) (B:=wB.heap.size) Tryz.underlying265 kAh rfl rM rM Rep.jd OT (RL.own nT).rd dG HS.size bQ
 refine Rep.jR _ _ _ rfl rR rR hr ?_
 obtain ⟨a_8,n_8,c_8,hv_,HN_8⟩:=HV2.parts
 obtain rfl:=hv_
 replace HS:=HS.trans hbN
 clear hr hbN hfr OT RL
 have HV:=HV2
 clear HV2
 refine hK _ _ HS ?_
 clear hK K bn
 refine wkP ?_
 refine ja 17 ?_
 refine wkP ?_
 refine yN rF ?_
 go_wp2
 go_ret
 exact ⟨_,rfl,(HV.cast qG).wide mI,(tQ EB HS)⟩
theorem kNc {w:World} {s:Int} (hs:-9223372036854775808≤s∧s≤9223372036854775807) {cx:List Value} {x:jJ} (hx:kP.rd w cx x) (hc:x.2.1.length≤2000000) :
    Calls Tryz.prog 200 #[.int .i64 s,.agg cx.toArray] w fun e w'=>e=.returned (.bool (verify s x))∧Below w.heap.size w w':=by
 have hy:=hx.1
 obtain ⟨av0,av1,av2,rfl,a_0,a_1,a_2,a_3,a_4,a_5,a_6⟩:=kY hy
 obtain ⟨aa0,ap0,rfl,al0⟩:=Rep.sl a_1
 obtain ⟨aa1,ap1,rfl,al1⟩:=Rep.sl a_2
 obtain ⟨aa2,ap2,rfl,al2⟩:=Rep.sl a_4
 have HX:=yD hx
 have hl:=kRg x
 clear hx hy a_0 a_1 a_2 a_3 a_4 a_5 a_6
 go_enter Tryz.func200,Tryz.ntmps200
 go_upto_region 1 with fail
 generalize hwB:World.alloc w _=wB
 have EB:Below w.heap.size w wB:=by rw [← hwB];exact bH
 have K0:wB.cell? ⟨w.heap.size,0,none⟩=some (.slice aa0 x.1.length ap0):=nV
 have K1:wB.cell? ⟨w.heap.size,1,none⟩=some (.slice aa1 x.2.1.length ap1):=nV
 have K2:wB.cell? ⟨w.heap.size,2,none⟩=some (.slice aa2 x.2.2.1.length ap2):=nV
 have K3:wB.cell? ⟨w.heap.size,3,none⟩=some (.int .i64 x.2.2.2.1):=nV
 have K4:wB.cell? ⟨w.heap.size,4,none⟩=some (.int .i64 x.2.2.2.2):=nV
 clear hwB
 have FX:=yD (fun (W:World) (hW:Below wB.heap.size wB W)=>kMn hW K0 K1 K2 K3 K4)
 refine jB (fun W=>Below wB.heap.size wB W) [true,false,true,true,true,true,true,false,false,true,true,true] rF rF gX (bR.drew) ?_
 intro wS HS
 all_goals refine wkR ?_
 all_goals first | refine wkC (kLl) ?_ | refine wkR ?_
 all_goals (have hg2:=True.intro;first|(refine wkG (fun b hg2=>?_);cases b;all_goals first | exact Bool.noConfusion hg2 | simp only [zU,zV] at hg2 | skip) | refine wkR ?_)
 all_goals refine wkP ?_
 iterate 4
  all_goals refine wkR ?_
 all_goals first|(refine kU rfl HS ?_)|(refine ky rfl (fun K hK=>?_);go_simp;refine (kJk (HX.out.below (tQ EB HS)) hc).mono ?_;rintro e wS1 ⟨vg,rfl,OG,hbS⟩;obtain ⟨ag,ng,cg,hvg,HNg⟩:=OG.parts;obtain rfl:=hvg;have RG:=(OG.own qF).rd;clear OG;replace HS:=(tQ HS hbS);refine hK _ _ HS ?_;clear hK K hbS)
 all_goals refine wkP ?_
 all_goals first|(refine kU rfl HS ?_)|(refine ky rfl (fun K hK=>?_);go_simp;refine (kNh hs RG rP).mono ?_;rintro e wS2 ⟨rfl,hbS⟩;replace HS:=(tQ HS hbS);refine hK _ _ HS ?_;clear hK K hbS RG)
 all_goals refine wkP ?_
 iterate 3
  all_goals refine wkR ?_
 all_goals refine jA ?_
 all_goals have EG:=(tQ EB HS)
 all_goals first
   | (have HT:=yD (show verify s x=false by simp only [verify,Bool.not_true,Bool.not_false,Bool.and_true,Bool.true_and,Bool.and_false,Bool.false_and,Bool.or_true,Bool.true_or,Bool.or_false,Bool.false_or,Bool.not_not,hg2]);go_wp2;go_ret;exact ⟨kG HT.out.symm,EG⟩)
   | (have HT:=yD (show verify s x=(x.2.2.2.2==macOf s (signed x)) by simp only [verify,Bool.not_true,Bool.not_false,Bool.and_true,Bool.true_and,Bool.and_false,Bool.false_and,Bool.or_true,Bool.true_or,Bool.or_false,Bool.false_or,Bool.not_not,hg2]);go_wp2;go_ret;exact ⟨kG HT.out.symm,EG⟩)
theorem kNu {w:World} {s:Int} (hs:-9223372036854775808≤s∧s≤9223372036854775807) {cx:List Value} {x:jJ} (hx:kP.rd w cx x) (hc:x.2.1.length≤2000000) :
    Calls Tryz.prog 208 #[.int .i64 s,.agg cx.toArray] w fun e w'=>e=.returned (.bool (verify s x))∧Below w.heap.size w w':=by
 have hy:=hx.1
 obtain ⟨av0,av1,av2,rfl,a_0,a_1,a_2,a_3,a_4,a_5,a_6⟩:=kY hy
 obtain ⟨aa0,ap0,rfl,al0⟩:=Rep.sl a_1
 obtain ⟨aa1,ap1,rfl,al1⟩:=Rep.sl a_2
 obtain ⟨aa2,ap2,rfl,al2⟩:=Rep.sl a_4
 have HX:=yD hx
 have hl:=kRg x
 clear hx hy a_0 a_1 a_2 a_3 a_4 a_5 a_6
 go_enter Tryz.func208,Tryz.ntmps208
 go_upto_region 1 with fail
 generalize hwB:World.alloc w _=wB
 have EB:Below w.heap.size w wB:=by rw [← hwB];exact bH
 have K0:wB.cell? ⟨w.heap.size,0,none⟩=some (.slice aa0 x.1.length ap0):=nV
 have K1:wB.cell? ⟨w.heap.size,1,none⟩=some (.slice aa1 x.2.1.length ap1):=nV
 have K2:wB.cell? ⟨w.heap.size,2,none⟩=some (.slice aa2 x.2.2.1.length ap2):=nV
 have K3:wB.cell? ⟨w.heap.size,3,none⟩=some (.int .i64 x.2.2.2.1):=nV
 have K4:wB.cell? ⟨w.heap.size,4,none⟩=some (.int .i64 x.2.2.2.2):=nV
 clear hwB
 have FX:=yD (fun (W:World) (hW:Below wB.heap.size wB W)=>kMn hW K0 K1 K2 K3 K4)
 refine jB (fun W=>Below wB.heap.size wB W) [true,false,true,true,true,true,true,false,false,true,true,true] rF rF gX (bR.drew) ?_
 intro wS HS
 all_goals refine wkR ?_
 all_goals first | refine wkC (kMb) ?_ | refine wkR ?_
 all_goals (have hg2:=True.intro;first|(refine wkG (fun b hg2=>?_);cases b;all_goals first | exact Bool.noConfusion hg2 | simp only [zU,zV] at hg2 | skip) | refine wkR ?_)
 all_goals refine wkP ?_
 iterate 4
  all_goals refine wkR ?_
 all_goals first|(refine kU rfl HS ?_)|(refine ky rfl (fun K hK=>?_);go_simp;refine (kJn (HX.out.below (tQ EB HS)) hc).mono ?_;rintro e wS1 ⟨vg,rfl,OG,hbS⟩;obtain ⟨ag,ng,cg,hvg,HNg⟩:=OG.parts;obtain rfl:=hvg;have RG:=(OG.own qF).rd;clear OG;replace HS:=(tQ HS hbS);refine hK _ _ HS ?_;clear hK K hbS)
 all_goals refine wkP ?_
 all_goals first|(refine kU rfl HS ?_)|(refine ky rfl (fun K hK=>?_);go_simp;refine (kNz hs RG rP).mono ?_;rintro e wS2 ⟨rfl,hbS⟩;replace HS:=(tQ HS hbS);refine hK _ _ HS ?_;clear hK K hbS RG)
 all_goals refine wkP ?_
 iterate 3
  all_goals refine wkR ?_
 all_goals refine jA ?_
 all_goals have EG:=(tQ EB HS)
 all_goals first
   | (have HT:=yD (show verify s x=false by simp only [verify,Bool.not_true,Bool.not_false,Bool.and_true,Bool.true_and,Bool.and_false,Bool.false_and,Bool.or_true,Bool.true_or,Bool.or_false,Bool.false_or,Bool.not_not,hg2]);go_wp2;go_ret;exact ⟨kG HT.out.symm,EG⟩)
   | (have HT:=yD (show verify s x=(x.2.2.2.2==macOf s (signed x)) by simp only [verify,Bool.not_true,Bool.not_false,Bool.and_true,Bool.true_and,Bool.and_false,Bool.false_and,Bool.or_true,Bool.true_or,Bool.or_false,Bool.false_or,Bool.not_not,hg2]);go_wp2;go_ret;exact ⟨kG HT.out.symm,EG⟩)
end Go.Proofs.YtlfblpgkegeaeaaGreat

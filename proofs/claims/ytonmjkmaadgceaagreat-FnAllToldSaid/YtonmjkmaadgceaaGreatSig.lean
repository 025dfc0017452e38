/-
  What is signed, and the check of a signature.
-/
import Derived.Test.YtonmjkmaadgceaaGreatVData
set_option linter.unusedVariables false
set_option linter.unusedSimpArgs false
set_option linter.unnecessarySimpa false
set_option maxRecDepth 100000
set_option maxHeartbeats 4000000
namespace Go.Proofs.YtonmjkmaadgceaaGreat
open Go.RowKit _root_.Go.Proofs.Tryz
def kTa (s:Int) (l:List Int):Int:=digest ([s]++l++[s])
def bInt (c:UInt8):Int:=c.toNat
def kDz (l:List UInt8) (k:Nat):List Int:=(l.length:Int) :: (l.take k).map bInt
theorem kQc (l:List UInt8) (k:Nat):(kDz l k).length≤k + 1:=by simp [kDz];omega
def yf (l:List UInt8):List Int:=(l.length:Int) :: l.map bInt
def kCa (n:kQ):List UInt8:=if yZ n=true then kOb n else []
def signed (x:jG):List Int:=yf (kCa x.1)++yf x.2.1++yf (kCa x.2.2.1)++[x.2.2.2.1]
def verify (s:Int) (x:jG):Bool:=okSec s && (x.2.2.2.2==kTa s (signed x))
theorem kQb {l:List UInt8} {k:Nat} (h:k < l.length):kDz l (k + 1)=(kDz l k)++[bInt l[k]]:=by
 unfold kDz;rw [List.take_succ_eq_append_getElem h,List.map_append];rfl
theorem kSc {l:List UInt8} {k:Nat} (h:¬ k < l.length):(kDz l k)=yf l:=by unfold kDz;rw [List.take_of_length_le bB9];rfl
theorem kDk (l:List UInt8):(yf l).length=l.length + 1:=by simp [yf]
theorem kIb (n:kQ):(kCa n).length≤90:=by
 unfold kCa
 split
 · rename_i h;exact encNm_len h
 simp
theorem kSn (x:jG):(signed x).length≤x.2.1.length + 190:=by
 have h1:=kIb x.1
 have h2:=kIb x.2.2.1
 unfold signed
 simp only [List.length_append,kDk,List.length_cons,List.length_nil]
 omega
theorem kVs {α:Type} {l:List (List α)} {k:Nat} (h:k < l.length):(l.take (k + 1)).flatten=(l.take k).flatten++l[k]:=by
 rw [List.take_succ_eq_append_getElem h,List.flatten_append];simp
theorem kOa {α:Type} (l:List (List α)) (k:Nat):(l.take k).flatten.length≤l.flatten.length:=by
 have h:(l.take k).flatten++(l.drop k).flatten=l.flatten:=by rw [← List.flatten_append,List.take_append_drop]
 have:=congrArg List.length h
 rw [List.length_append] at this
 omega
theorem flat_end {α:Type} {l:List (List α)} {k:Nat} (h:¬ k < l.length):(l.take k).flatten=l.flatten:=by rw [List.take_of_length_le bB9]
theorem own0_zeros {w:World} {n c:Nat} {e:TypeId} (hn:n≤c) (hc:c≤maxLen):kE.ku e kE.int (w.alloc (.cells (Builtin.zeroCells (Value.int .i64 0).cells n++Builtin.zeroCells (Value.int .i64 0).cells (c - n)) e)) (.slice (some ⟨w.heap.size,0,none⟩) 0 c) [] (fun k=>k=w.heap.size):=by
 refine ⟨by simp,.inr ⟨w.heap.size,c,_,[],_,rfl,Nat.zero_le _,hc,heap_alloc_new w _,rfl,?_,rfl,rfl⟩⟩
 have h1:(Value.int .i64 0).cells.size=1:=bB8
 have h2:kE.int.n=1:=rfl
 rw [Array.size_append,size_zeroCells,size_zeroCells,h1,h2]
 omega
theorem zx {w:World} {vl:Value} {l:List UInt8} (hl:(kE.slice 5 kE.byte).raw w [vl] l) (hn:l.length≤2000000) :
    Calls prog 181 #[vl] w (zz 3 kE.int (yf l) w):=by
 obtain ⟨al,pl,rfl,ll⟩:=kE.sl hl
 have O0:=kHf (w:=w) (x:=(l.length:Int)) (e:=3) (by unfold I64q;omega)
 go_enter func181,ntmps181
 go_wp2
 go_loopw [3,4] (fun v i wr=>∃ k:Nat,k≤l.length∧i=.int .i64 k∧Hid (kE.ku 3 kE.int wr v (kDz l k) (jR w.heap.size wr.heap.size))∧Below w.heap.size w wr) (fun _ i _=>l.length - (intOf i).toNat)
 case atStart=>exact ⟨0,Nat.zero_le _,rfl,yD bK,bI⟩
 exact lU
theorem jg {w:World} {vl:Value} {l:List UInt8} (hl:(kE.slice 5 kE.byte).raw w [vl] l) (hn:l.length≤2000000) :
    Calls prog 184 #[vl] w (zz 3 kE.int (yf l) w):=by
 obtain ⟨al,pl,rfl,ll⟩:=kE.sl hl
 have O0:=kHf (w:=w) (x:=(l.length:Int)) (e:=3) (by unfold I64q;omega)
 go_enter func184,ntmps184
 go_wp2
 go_loopw [3,11] (fun v i wr=>∃ k:Nat,k≤l.length∧i=.int .i64 k∧Hid (kE.ku 3 kE.int wr v (kDz l k) (jR w.heap.size wr.heap.size))∧Below w.heap.size w wr) (fun _ i _=>l.length - (intOf i).toNat)
 case atStart=>exact ⟨0,Nat.zero_le _,rfl,yD bK,bI⟩
 exact lU
theorem kOr {w:World} {va:Value} {cn:List Value} {n:kQ} (ha:(kE.slice 5 kE.byte).rd w [va] []) (hn:kM.raw w cn n) (hv:yZ n=false) :
    Calls prog 182 #[va,.agg cn.toArray] w (zz 5 kE.byte [] w):=by
 obtain ⟨av,rfl,ac⟩:=kU hn
 obtain ⟨an,aj,rfl,ln⟩:=kE.sl ac
 obtain ⟨aa,J,rfl,la⟩:=kE.sl ha.1
 have HA:=yD ha
 have U:=yD hn
 have HV:=yD hv
 clear ha hn ac hv
 go_enter func182,ntmps182
 have O0:kE.ku 5 kE.byte ((w.alloc (.cells #[.slice an n.length aj] 41)).alloc (.cells #[] 5)) (.slice (some ⟨w.heap.size + 1,0,none⟩) 0 0) [] (fun k=>k=w.heap.size + 1):=by
  exact iK
 go_wp2_with (at_builtin;refine kE.yF rfl _ _ 22 rfl (r:=kE.byte) (e:=5) underlying22 kBl rfl bB8 bB8 kE.kCh (B:=w.heap.size + 1) O0 bC1 bC1 (HA.out.below bI) qZ bC0 bC0 ?_)
 intro v2 V hown D hz
 have L:Hid (kE.ku 5 kE.byte V v2 [] (jR w.heap.size V.heap.size)):=yD ((hown.cast bC0).wide rF)
 obtain ⟨K0,G⟩:=CO
 obtain ⟨a2,n2,c2,b5,al⟩:=L.out.parts
 obtain rfl:=b5
 clear hown O0 D hz
 go_wp2_with fail
 refine (yS (U.out.below G)).mono ?_
 rintro e w3 ⟨rfl,Y⟩
 rw [HV.out]
 have ae:=L.out.below Y
 go_wp2
 go_ret
 exact ⟨_,rfl,ae.wide (fun j I=>⟨I.1,by have:=I.2;have:=Y.size;omega⟩),(tQ G Y)⟩
theorem kCo {w:World} {va:Value} {cn:List Value} {n:kQ} (ha:(kE.slice 5 kE.byte).rd w [va] []) (hn:kM.raw w cn n) :
    Calls prog 182 #[va,.agg cn.toArray] w (zz 5 kE.byte (kCa n) w):=by
 cases hv:yZ n
 · rw [show kCa n=[] by unfold kCa;rw [hv];rfl];exact kOr ha hn hv
 rw [show kCa n=[]++kOb n by unfold kCa;rw [hv];rfl];exact kOs ha hn hv bC0
theorem kPl {w:World} {va:Value} {cn:List Value} {n:kQ} (ha:(kE.slice 5 kE.byte).rd w [va] []) (hn:kM.raw w cn n) (hv:yZ n=false) :
    Calls prog 185 #[va,.agg cn.toArray] w (zz 5 kE.byte [] w):=by
 obtain ⟨av,rfl,ac⟩:=kU hn
 obtain ⟨an,aj,rfl,ln⟩:=kE.sl ac
 obtain ⟨aa,J,rfl,la⟩:=kE.sl ha.1
 have HA:=yD ha
 have U:=yD hn
 have HV:=yD hv
 clear ha hn ac hv
 go_enter func185,ntmps185
 go_upto_region 1 with fail
 generalize H:World.alloc w _=V
 have G:Below w.heap.size w V:=by rw [← H];exact bI
 have K0:V.cell? ⟨w.heap.size,0,none⟩=some (.slice an n.length aj):=tN
 clear H
 go_wp2_with fail
 refine (zX (U.out.below G)).mono ?_
 rintro e w3 ⟨rfl,Y⟩
 rw [HV.out]
 have E3:=(tQ G Y)
 clear G Y
 go_wp2_with fail
 refine (kOm (HA.out.below E3)).mono ?_
 rintro e w4 ⟨v4,rfl,O4,X⟩
 obtain ⟨a4,n4,c4,ab,ak⟩:=O4.parts
 obtain rfl:=ab
 have au:=yD (O4.wide (T:=jR w.heap.size w4.heap.size) (fun j I=>⟨by have:=I.1;have:=E3.size;omega,I.2⟩))
 have E4:=(tQ E3 X)
 clear O4 X
 go_wp2
 go_ret
 exact ⟨_,rfl,au.out,E4⟩
theorem zZ {w:World} {va:Value} {cn:List Value} {n:kQ} (ha:(kE.slice 5 kE.byte).rd w [va] []) (hn:kM.raw w cn n) :
    Calls prog 185 #[va,.agg cn.toArray] w (zz 5 kE.byte (kCa n) w):=by
 cases hv:yZ n
 · rw [show kCa n=[] by unfold kCa;rw [hv];rfl];exact kPl ha hn hv
 rw [show kCa n=[]++kOb n by unfold kCa;rw [hv];rfl];exact kPm ha hn hv bC0
theorem Grow_int_c {w:World} {n:Nat} (h0:0 < n) (hn:n≤1000000000) :
    Calls prog 195 #[.slice none 0 0,.int .i64 n] w fun e w'=>∃ c,e=.returned (.slice (some ⟨w.heap.size,0,none⟩) 0 c)∧Hid (kE.ku 3 kE.int w' (.slice (some ⟨w.heap.size,0,none⟩) 0 c) [] (jR w.heap.size w'.heap.size))∧Below w.heap.size w w':=by
 obtain ⟨G,E,hz,b0,ck⟩:=info_parts (P:=prog) zu
 have F:=grownCap_ge w n 0 3
 have D:=grownCap_le_maxLen w n 0 3 vI
 have hr:=fun ty=>Lib.run_append_nil_zeros (P:=prog) w 48 3 ty 3 G (.int .i64 0) .i64 .i64 underlying48 underlying3 E hz n h0 (by rw [b0];omega) bB9 (by rw [ck];omega)
 have HZ:=yD (own0_zeros (w:=w.drew) (n:=n) (c:=grownCap w n 0 3) (e:=3) F D)
 have EZ:Below w.heap.size w (w.drew.alloc (.cells (Builtin.zeroCells (Value.int .i64 0).cells n++Builtin.zeroCells (Value.int .i64 0).cells (grownCap w n 0 3 - n)) 3)):=(bR.drew).alloc bC0 _
 have an:w.heap.size < (w.drew.alloc (.cells (Builtin.zeroCells (Value.int .i64 0).cells n++Builtin.zeroCells (Value.int .i64 0).cells (grownCap w n 0 3 - n)) 3)).heap.size:=bC0
 generalize (w.drew.alloc (.cells (Builtin.zeroCells (Value.int .i64 0).cells n++Builtin.zeroCells (Value.int .i64 0).cells (grownCap w n 0 3 - n)) 3))=V at hr HZ EZ an
 generalize grownCap w n 0 3=c at *
 have W:(0:Int) < n:=bB9
 have J:¬ ((n:Int) < 0):=bB9
 clear E hz b0 ck D
 go_enter func195,ntmps195
 go_wp2_with (at_builtin;refine Lib.wpList_append_run _ rfl _ _ _ _ rfl _ _ rfl rfl _ _ (hr _) ?_)
 go_wp2
 go_ret
 exact ⟨c,rfl,yD (HZ.out.wide (fun k hk=>by subst hk;exact ⟨Nat.le_refl _,an⟩)),EZ⟩
theorem kAc {w:World} {vl:Value} {l:List (List Int)} (hl:(kE.slice 48 (kE.slice 3 kE.int)).rd w [vl] l) (h0:0 < l.flatten.length) (hn:l.flatten.length≤16700000) :
    Calls prog 183 #[vl] w (zz 3 kE.int l.flatten w):=by
 obtain ⟨al,pl,rfl,ll⟩:=kE.sl hl.1
 have HL:=yD hl
 clear hl
 go_enter func183,ntmps183
 go_wp2
 go_loopw [3,11] (fun s i wr=>∃ k:Nat,k≤l.length∧i=.int .i64 k∧s=.int .i64 ((l.take k).flatten.length:Int)∧Below w.heap.size w wr) (fun _ i _=>l.length - (intOf i).toNat)
 case atStart=>exact ⟨0,Nat.zero_le _,rfl,rfl,bR⟩
 obtain ⟨k,hk,rfl,rfl,D⟩:=hrel
 by_cases hlt:k < l.length
 · obtain ⟨ba,ah,rfl,c0,hr,A0⟩:=kE.kBo (HL.out.1.below D) hlt rfl
   obtain ⟨qa,G,rfl,F⟩:=kE.sl hr
   clear hr
   have hs:=kVs hlt
   have am:=kOa l (k + 1)
   rw [hs] at am
   rw [List.length_append] at am
   have E:Hid ((l.take (k + 1)).flatten.length=(l.take k).flatten.length + l[k].length):=yD (by rw [hs,List.length_append])
   clear hs
   generalize (l.take k).flatten.length=m at *
   generalize l[k].length=q at *
   go_wp2
   go_roundw
   case rel=>exact ⟨k + 1,by omega,by go_num,by rw [E.out,Int.natCast_add],D⟩
   simp [intOf];omega
 rw [flat_end hlt]
 obtain ⟨N,hN⟩:∃ N,l.flatten.length=N:=⟨_,rfl⟩
 rw [hN] at h0 hn ⊢
 have HN:=yD hN
 clear hN
 have de:(0:Int) < N:=bB9
 go_wp2_with fail
 refine (Grow_int_c h0 bB9).mono ?_
 rintro e V ⟨gc,rfl,HG,ab⟩
 have E2:=(tQ D ab)
 replace HG:=yD (HG.out.wide (T:=jR w.heap.size V.heap.size) nN)
 clear D ab de
 go_wp2
 go_loopw [6,27] (fun v i wr=>∃ k:Nat,k≤l.length∧i=.int .i64 k∧Hid (kE.ku 3 kE.int wr v (l.take k).flatten (jR w.heap.size wr.heap.size))∧Below w.heap.size w wr) (fun _ i _=>l.length - (intOf i).toNat)
 case atStart=>exact ⟨0,Nat.zero_le _,rfl,HG,E2⟩
 clear HG E2
 obtain ⟨k,hk,rfl,L,D⟩:=hrel
 obtain ⟨oa,on,oc,ho,bl⟩:=L.out.parts;obtain rfl:=ho
 by_cases hlt:k < l.length
 · obtain ⟨ba,ah,rfl,c0,hr,A0⟩:=kE.kBo (HL.out.1.below D) hlt rfl
   have hq:=HL.out.2.2 l[k] (List.getElem_mem _)
   have HR:Hid ((kE.slice 3 kE.int).rd wr [c0] l[k]):=yD ⟨hr,hq⟩
   obtain ⟨qa,G,rfl,F⟩:=kE.sl hr
   clear hr hq
   have hs:=kVs hlt
   have am:=kOa l (k + 1)
   rw [hs,List.length_append,HN.out] at am
   have E:=yD hs
   clear hs
   generalize (l.take k).flatten=m at *
   generalize l[k]=q at *
   go_wp2_with (at_builtin;refine kE.yF rfl _ _ 48 rfl (r:=kE.int) (e:=3) underlying48 zu rfl bB8 bB8 kE.jl (B:=w.heap.size) L.out bC1 bC1 HR.out (fun k hk=>hk) vL bB9 ?_)
   intro v3 w3 af Y a7
   have ae:=yD (af.cast E.out.symm)
   obtain ⟨gb,O,R,ac,J⟩:=af.parts;obtain rfl:=ac
   have H:=D.trans Y
   clear af Y L D HR
   go_wp2
   go_roundw
   case rel=>exact ⟨k + 1,by omega,by go_num,ae,H⟩
   simp [intOf];omega
 have U:=yD (flat_end hlt)
 go_wp2
 go_ret
 exact ⟨_,rfl,L.out.cast U.out,D⟩
theorem kOq {w:World} {s:Int} (hs:-9223372036854775808≤s∧s≤9223372036854775807) {vl:Value} {l:List Int} (hl:(kE.slice 3 kE.int).rd w [vl] l) (hn:l.length≤16000000) :
    Calls prog 161 #[.int .i64 s,vl] w (bQ w (.int .i64 (kTa s l))):=by
 obtain ⟨al,pl,rfl,ll⟩:=kE.sl hl.1
 have hb:=hl.2.1
 unfold Big at hb
 have O0:=kHf (w:=w) (x:=s) (e:=3) hs
 go_enter func161,ntmps161
 go_wp2_with (at_builtin;refine kE.yF rfl _ _ 48 rfl (r:=kE.int) (e:=3) underlying48 zu rfl bB8 bB8 kE.jl (B:=w.heap.size) O0 bC1 bC1 (hl.below bI) qZ bC0 bB5 ?_)
 intro v2 V G ab an
 obtain ⟨df,H,ci,b5,F⟩:=G.parts;obtain rfl:=b5
 have O1:=kHf (w:=V) (x:=s) (e:=3) hs
 have ag:=yD G
 have E2:Below w.heap.size w V:=Below.trans bI ab
 clear G ab O0 hl
 go_wp2_with (at_builtin;refine kE.yF rfl _ _ 48 rfl (r:=kE.int) (e:=3) underlying48 zu rfl bB8 bB8 kE.jl (B:=w.heap.size) (ag.out.below (by repeat (first|(with_reducible exact bR) | refine Below.alloc ?_ wF _))) bC1 bC1 (O1.own sS).rd (fun k hk=>⟨hk.1,by have:=hk.2;simp;omega⟩) (by have:=E2.size;simp;omega) bB5 ?_)
 intro v3 w3 af Y a7
 obtain ⟨gb,O,R,ac,J⟩:=af.parts;obtain rfl:=ac
 have ae:=yD ((af.own vD).raw)
 have E3:Below w.heap.size w w3:=E2.trans (Below.trans (bR.alloc E2.size _) Y)
 clear af Y O1 ag
 go_wp2_with fail
 refine (kNd ae.out).mono ?_
 rintro e w4 ⟨rfl,hw⟩
 obtain rfl:=hw.symm
 go_wp2
 go_ret
 exact ⟨rfl,E3⟩
theorem kPj {w:World} {s:Int} (hs:-9223372036854775808≤s∧s≤9223372036854775807) {vl:Value} {l:List Int} (hl:(kE.slice 3 kE.int).rd w [vl] l) (hn:l.length≤16000000) :
    Calls prog 166 #[.int .i64 s,vl] w (bQ w (.int .i64 (kTa s l))):=by
 obtain ⟨al,pl,rfl,ll⟩:=kE.sl hl.1
 have HB:=yD hl.2
 go_enter func166,ntmps166
 go_wp2_with fail
 have R0:=((((kHf (w:=w) (x:=s) (e:=3) hs).own sS).raw.alloc (.cells #[.int .i64 s] 3)).alloc (.cells #[.slice (some ⟨w.heap.size,0,none⟩) 1 1,.slice al l.length pl,.slice (some ⟨w.heap.size + 1,0,none⟩) 1 1] 48))
 have R1:=(((kHf (w:=w.alloc (.cells #[.int .i64 s] 3)) (x:=s) (e:=3) hs).own sS).raw.alloc (.cells #[.slice (some ⟨w.heap.size,0,none⟩) 1 1,.slice al l.length pl,.slice (some ⟨w.heap.size + 1,0,none⟩) 1 1] 48))
 have R2:=((hl.1.alloc (.cells #[.int .i64 s] 3)).alloc (.cells #[.int .i64 s] 3)).alloc (.cells #[.slice (some ⟨w.heap.size,0,none⟩) 1 1,.slice al l.length pl,.slice (some ⟨w.heap.size + 1,0,none⟩) 1 1] 48)
 have R3:=kDs (e:=48) (r:=(kE.slice 3 kE.int)) rfl (kG (w:=(w.alloc (.cells #[.int .i64 s] 3)).alloc (.cells #[.int .i64 s] 3)) (o:=.cells #[.slice (some ⟨w.heap.size,0,none⟩) 1 1,.slice al l.length pl,.slice (some ⟨w.heap.size + 1,0,none⟩) 1 1] 48) rfl) R0 R2 (by simpa using R1)
 refine (kAc (l:=[[s],l,[s]]) ⟨by simpa using R3,by show 3≤_;unfold Big;omega,?_⟩ bC0 bB5).mono ?_
 · intro y hy
   simp only [List.mem_cons,List.not_mem_nil,or_false] at hy
   rcases hy with rfl | rfl | rfl
   · exact ⟨by show 1≤_;unfold Big;omega,fun _ _=>trivial⟩
   · exact HB.out
   exact ⟨by show 1≤_;unfold Big;omega,fun _ _=>trivial⟩
 rintro e w4 ⟨v4,rfl,O4,X⟩
 obtain ⟨fw,F,E,ab,D⟩:=O4.parts;obtain rfl:=ab
 have au:=yD ((O4.own vD).raw)
 have E4:Below w.heap.size w w4:=Below.trans bI (X.mono bB5)
 clear R0 R1 R2 R3 hl O4 X
 go_wp2_with fail
 refine (kNx au.out).mono ?_
 rintro e w5 ⟨rfl,hw⟩
 obtain rfl:=hw.symm
 go_wp2
 go_ret
 exact ⟨jW (by show digest ([s]++(l++([s]++[])))=digest ([s]++l++[s]);simp),E4⟩
theorem kKy {w:World} {cx:List Value} {x:jG} (hx:jA.rd w cx x) (hc:x.2.1.length≤2000000) :
    Calls prog 162 #[.agg cx.toArray] w (zz 3 kE.int (signed x) w):=by
 have hy:=hx.1
 obtain ⟨ez,bh,e9,rfl,ac,ay,a3,a5,ba,bg,b2⟩:=jN hy
 obtain ⟨cl,b6,rfl,e1⟩:=kE.sl ay
 obtain ⟨av,au,rfl,bi⟩:=kE.sl a3
 obtain ⟨c6,c5,rfl,fa⟩:=kE.sl ba
 obtain ⟨HN,HC,HK,HF,l1,l2,HD,m1,m2,m3⟩:=D8
 clear hx hy ac ay a3 a5 ba bg b2
 go_enter func162,ntmps162
 go_upto_region 1 with fail
 generalize H:World.alloc w _=N
 have Z:Below w.heap.size w N:=by rw [← H];exact bI
 have zB:w.heap.size + 1≤N.heap.size:=bA4
 obtain ⟨K0,K1,K2,K3,K4⟩:=oU
 clear H
 have FX:=yD (fun (W:World) (hW:Below N.heap.size N W)=>cLs5 hW K0 K1 K2 K3 K4)
 refine kAf (fun W=>Below N.heap.size N W) bB4 (bR.drew) ?_
 intro wS E
 try have b8:=E.size
 refine jB 1 ?_
 refine kX ?_
 refine jB 2 ?_
 refine kX ?_
 refine jB 5 ?_
 refine kX ?_
 refine jB 6 ?_
 refine kX ?_
 refine kY (k:=0) rfl bB4 rfl (fun K J=>?_)
 have bn:=E.size
 go_simp
 obtain ⟨Y,bf,X⟩:=xI
 generalize ai:World.alloc wS (.cells #[] 5)=t0 at Y bf X ⊢
 clear ai
 replace E:=(tQ E Y)
 refine J _ _ E ?_
 clear J K Y
 clear bn
 refine kX ?_
 refine kY (k:=3) rfl bB4 rfl (fun K J=>?_)
 go_simp
 refine (kCo X (HN.out.below (tQ Z E))).mono ?_
 rintro e t1 ⟨bw,rfl,al,hb⟩
 obtain ⟨bu,bz,bv,aq,be⟩:=al.parts
 obtain rfl:=aq
 have bb:=hb.size
 have OA:=al.wide (T:=jR t0.heap.size t1.heap.size) nA
 clear al
 clear X
 replace E:=(tQ E hb)
 refine J _ _ E ?_
 clear J K hb
 refine kX ?_
 refine kY (k:=4) rfl bB4 rfl (fun K J=>?_)
 go_simp
 refine (zx (OA.own vV).rd.1 bB9).mono ?_
 rintro e t2 ⟨br,rfl,af,hb⟩
 obtain ⟨F,G,R,ao,a6⟩:=af.parts
 obtain rfl:=ao
 have a9:=hb.size
 have OB:=af.wide (T:=jR t1.heap.size t2.heap.size) nA
 clear af
 clear OA
 replace E:=(tQ E hb)
 refine J _ _ E ?_
 clear J K hb
 refine kX ?_
 refine kY (k:=7) rfl bB4 rfl (fun K J=>?_)
 go_simp
 refine (zx (HC.out.below (tQ Z E)) hc).mono ?_
 rintro e t3 ⟨a7,rfl,ag,hb⟩
 obtain ⟨a4,bc,aw,an,ap⟩:=ag.parts
 obtain rfl:=an
 have a2:=hb.size
 have OC:=ag.wide (T:=jR t2.heap.size t3.heap.size) nA
 clear ag
 replace OB:=OB.below hb
 replace E:=(tQ E hb)
 refine J _ _ E ?_
 clear J K hb
 refine kX ?_
 refine kY (k:=8) rfl bB4 rfl (fun K J=>?_)
 have bn:=E.size
 obtain ⟨v_,t4,hr,D,O,az,ah⟩:=kE.yh (P:=prog) (t:=48) (ty:=48) (r:=kE.int) (e:=3) (w:=t3) (B:=N.heap.size) underlying48 zu rfl bB8 bB8 kE.jl OB (OC.own vV).rd dN E.size bS
 refine kE.jP _ _ _ rfl bC1 bC1 hr ?_
 obtain ⟨ba,am,fi,aj,ab⟩:=D.parts
 obtain rfl:=aj
 replace E:=E.trans O
 clear hr O ah OB OC
 have HV:=D
 clear D
 refine J _ _ E ?_
 clear J K bn
 refine kX ?_
 refine jB 9 ?_
 refine kX ?_
 refine yR bB4 ?_
 have ae:=E
 clear E
 go_upto_region 2 with fail
 replace HV:=HV.wide (T:=jR N.heap.size t4.heap.size) (fun j I=>I)
 have FX:=yD (fun (W:World) (hW:Below N.heap.size N W)=>cLs5 hW K0 K1 K2 K3 K4)
 refine kAp (fun W=>Below N.heap.size N W) bB4 (ae.drew) ?_
 intro wS dj E
 have bD:Below t4.heap.size t4 wS:=(by rw [dj];exact bR.drew)
 have a8:=bD.size
 clear dj
 try have b8:=E.size
 replace HV:=HV.below bD
 clear bD
 refine jB 0 ?_
 refine kX ?_
 refine jB 2 ?_
 refine kX ?_
 refine jB 3 ?_
 refine kX ?_
 refine jB 7 ?_
 refine kX ?_
 refine jB 8 ?_
 refine kX ?_
 refine yG (i:=1) (j:=9) rfl rfl bB4 rfl rfl (fun K J=>?_) (fun K J=>?_)
 · have bn:=E.size
   go_simp
   obtain ⟨Y,bf,X⟩:=xI
   generalize ai:World.alloc wS (.cells #[] 5)=t0 at Y bf X ⊢
   clear ai
   replace HV:=HV.below Y
   replace E:=(tQ E Y)
   refine J _ _ E ?_
   clear J K Y
   clear bn
   refine kX ?_
   refine yG (i:=4) (j:=9) rfl rfl bB4 rfl rfl (fun K J=>?_) (fun K J=>?_)
   · go_simp
     refine (kCo X (HK.out.below (tQ Z E))).mono ?_
     rintro e t1 ⟨bw,rfl,al,hb⟩
     obtain ⟨bu,bz,bv,aq,be⟩:=al.parts
     obtain rfl:=aq
     have bb:=hb.size
     have OA:=al.wide (T:=jR t0.heap.size t1.heap.size) nA
     clear al
     clear X
     replace HV:=HV.below hb
     replace E:=(tQ E hb)
     refine J _ _ E ?_
     clear J K hb
     refine kX ?_
     refine yG (i:=5) (j:=9) rfl rfl bB4 rfl rfl (fun K J=>?_) (fun K J=>?_)
     · go_simp
       refine (zx (OA.own vV).rd.1 bB9).mono ?_
       rintro e t2 ⟨br,rfl,af,hb⟩
       obtain ⟨F,G,R,ao,a6⟩:=af.parts
       obtain rfl:=ao
       have a9:=hb.size
       have OB:=af.wide (T:=jR t1.heap.size t2.heap.size) nA
       clear af
       clear OA
       replace HV:=HV.below hb
       replace E:=(tQ E hb)
       refine J _ _ E ?_
       clear J K hb
       refine kX ?_
       refine yG (i:=6) (j:=9) rfl rfl bB4 rfl rfl (fun K J=>?_) (fun K J=>?_)
       · have bn:=E.size
         obtain ⟨v_,t3,hr,D,O,a2,ah⟩:=kE.yh (P:=prog) (t:=48) (ty:=48) (r:=kE.int) (e:=3) (w:=t2) (B:=N.heap.size) underlying48 zu rfl bB8 bB8 kE.jl HV (OB.own vV).rd dN E.size bS
         refine kE.jP _ _ _ rfl bC1 bC1 hr ?_
         obtain ⟨a5,ax,gl,aj,ar⟩:=D.parts
         obtain rfl:=aj
         replace E:=E.trans O
         clear hr O ah HV OB
         have U:=D
         clear D
         refine J _ _ E ?_
         clear J K bn
         refine kX ?_
         refine kY (k:=9) rfl bB4 rfl (fun K J=>?_)
         have bn:=E.size
         go_simp
         obtain ⟨Y,az,L⟩:=A9
         generalize ai:World.alloc t3 (.cells #[.int .i64 x.2.2.2.1] 3)=t4 at Y az L ⊢
         clear ai
         replace U:=U.below Y
         replace E:=(tQ E Y)
         refine J _ _ E ?_
         clear J K Y
         clear bn
         exact oG
       have bn:=E.size
       go_simp
       obtain ⟨Y,a2,L⟩:=AA
       generalize ai:World.alloc t2 (.cells #[.int .i64 x.2.2.2.1] 3)=t3 at Y a2 L ⊢
       clear ai
       replace HV:=HV.below Y
       replace OB:=OB.below Y
       replace E:=(tQ E Y)
       refine J _ _ E ?_
       clear J K Y
       clear bn
       refine kX ?_
       refine kY (k:=6) rfl bB4 rfl (fun K J=>?_)
       have bn:=E.size
       obtain ⟨v_,t4,hr,D,O,az,ah⟩:=kE.yh (P:=prog) (t:=48) (ty:=48) (r:=kE.int) (e:=3) (w:=t3) (B:=N.heap.size) underlying48 zu rfl bB8 bB8 kE.jl HV (OB.own vV).rd dN E.size bS
       refine kE.jP _ _ _ rfl bC1 bC1 hr ?_
       obtain ⟨ba,am,fi,aj,ab⟩:=D.parts
       obtain rfl:=aj
       replace L:=L.keep bM
       replace E:=E.trans O
       clear hr O ah HV OB
       have U:=D
       clear D
       refine J _ _ E ?_
       clear J K bn
       exact oG
     have bn:=E.size
     go_simp
     obtain ⟨Y,a9,L⟩:=AB
     generalize ai:World.alloc t1 (.cells #[.int .i64 x.2.2.2.1] 3)=t2 at Y a9 L ⊢
     clear ai
     replace HV:=HV.below Y
     replace OA:=OA.below Y
     replace E:=(tQ E Y)
     refine J _ _ E ?_
     clear J K Y
     clear bn
     refine kX ?_
     refine kY (k:=5) rfl bB4 rfl (fun K J=>?_)
     go_simp
     refine (zx (OA.own vV).rd.1 bB9).mono ?_
     rintro e t3 ⟨br,rfl,af,hb⟩
     obtain ⟨F,G,R,ao,a6⟩:=af.parts
     obtain rfl:=ao
     have a2:=hb.size
     have OB:=af.wide (T:=jR t2.heap.size t3.heap.size) nA
     clear af
     exact lV
   have bn:=E.size
   go_simp
   obtain ⟨Y,bb,L⟩:=AJ
   generalize ai:World.alloc t0 (.cells #[.int .i64 x.2.2.2.1] 3)=t1 at Y bb L ⊢
   clear ai
   replace HV:=HV.below Y
   replace X:=X.below Y
   exact oH
 have bn:=E.size
 go_simp
 obtain ⟨Y,bf,L⟩:=AL
 generalize ai:World.alloc wS (.cells #[.int .i64 x.2.2.2.1] 3)=t0 at Y bf L ⊢
 clear ai
 replace HV:=HV.below Y
 replace E:=(tQ E Y)
 refine J _ _ E ?_
 clear J K Y
 clear bn
 refine kX ?_
 refine kY (k:=1) rfl bB4 rfl (fun K J=>?_)
 have bn:=E.size
 go_simp
 have Y:Below t0.heap.size t0 (World.alloc t0 (.cells #[] 5)):=bR.alloc nL _
 have bb:t0.heap.size + 1≤(World.alloc t0 (.cells #[] 5)).heap.size:=(by simp)
 have X:=((kE.ku.void (e:=5) (r:=kE.byte) (w:=(World.alloc t0 (.cells #[] 5))) (a:=some ⟨t0.heap.size,0,none⟩) (S:=fun _=>False)).own (Nat.zero_le _)).rd
 generalize ai:World.alloc t0 (.cells #[] 5)=t1 at Y bb X ⊢
 clear ai
 replace HV:=HV.below Y
 replace L:=L.below Y
 exact oH
theorem kLb {w:World} {cx:List Value} {x:jG} (hx:jA.rd w cx x) (hc:x.2.1.length≤2000000) :
    Calls prog 167 #[.agg cx.toArray] w (zz 3 kE.int (signed x) w):=by
 have hy:=hx.1
 obtain ⟨ez,bh,e9,rfl,ac,ay,a3,a5,ba,bg,b2⟩:=jN hy
 obtain ⟨cl,b6,rfl,e1⟩:=kE.sl ay
 obtain ⟨av,au,rfl,bi⟩:=kE.sl a3
 obtain ⟨c6,c5,rfl,fa⟩:=kE.sl ba
 obtain ⟨HN,HC,HK,HF,l1,l2,HD,m1,m2,m3⟩:=D8
 clear hx hy ac ay a3 a5 ba bg b2
 go_enter func167,ntmps167
 go_upto_region 1 with fail
 generalize H:World.alloc w _=N
 have Z:Below w.heap.size w N:=by rw [← H];exact bI
 have zB:w.heap.size + 1≤N.heap.size:=bA4
 obtain ⟨K0,K1,K2,K3,K4⟩:=oU
 clear H
 have FX:=yD (fun (W:World) (hW:Below N.heap.size N W)=>cLs5 hW K0 K1 K2 K3 K4)
 refine kAf (fun W=>Below N.heap.size N W) bB4 (bR.drew) ?_
 intro wS E
 try have b8:=E.size
 refine jB 0 ?_
 refine kX ?_
 refine jB 1 ?_
 refine kX ?_
 refine jB 4 ?_
 refine kX ?_
 refine jB 5 ?_
 refine kX ?_
 refine jB 7 ?_
 refine kX ?_
 refine jB 8 ?_
 refine kX ?_
 refine jB 13 ?_
 refine kX ?_
 refine jB 14 ?_
 refine kX ?_
 refine yG (i:=2) (j:=15) rfl rfl bB4 rfl rfl (fun K J=>?_) (fun K J=>?_)
 · go_simp
   refine (zZ ((kE.ku.void (e:=5) (r:=kE.byte) (a:=none) (S:=fun _=>False)).own (Nat.zero_le _)).rd (HN.out.below (tQ Z E))).mono ?_
   rintro e t0 ⟨bw,rfl,al,hb⟩
   obtain ⟨bu,bz,bv,aq,be⟩:=al.parts
   obtain rfl:=aq
   have bf:=hb.size
   have OA:=al.wide (T:=jR wS.heap.size t0.heap.size) nA
   clear al
   replace E:=(tQ E hb)
   refine J _ _ E ?_
   clear J K hb
   refine kX ?_
   refine yG (i:=3) (j:=15) rfl rfl bB4 rfl rfl (fun K J=>?_) (fun K J=>?_)
   · go_simp
     refine (jg (OA.own vV).rd.1 bB9).mono ?_
     rintro e t1 ⟨br,rfl,af,hb⟩
     obtain ⟨F,G,R,ao,a6⟩:=af.parts
     obtain rfl:=ao
     have bb:=hb.size
     have OB:=af.wide (T:=jR t0.heap.size t1.heap.size) nA
     clear af
     clear OA
     replace E:=(tQ E hb)
     refine J _ _ E ?_
     clear J K hb
     refine kX ?_
     refine yG (i:=6) (j:=15) rfl rfl bB4 rfl rfl (fun K J=>?_) (fun K J=>?_)
     · go_simp
       refine (jg (HC.out.below (tQ Z E)) hc).mono ?_
       rintro e t2 ⟨b7,rfl,ap,hb⟩
       obtain ⟨ab,aa,ae,a8,b0⟩:=ap.parts
       obtain rfl:=a8
       have a9:=hb.size
       have OE:=ap.wide (T:=jR t1.heap.size t2.heap.size) nA
       clear ap
       replace OB:=OB.below hb
       replace E:=(tQ E hb)
       refine J _ _ E ?_
       clear J K hb
       refine kX ?_
       refine yG (i:=9) (j:=15) rfl rfl bB4 rfl rfl (fun K J=>?_) (fun K J=>?_)
       · go_simp
         refine (zZ ((kE.ku.void (e:=5) (r:=kE.byte) (a:=none) (S:=fun _=>False)).own (Nat.zero_le _)).rd (HK.out.below (tQ Z E))).mono ?_
         rintro e t3 ⟨b4,rfl,am,hb⟩
         obtain ⟨b5,b1,b3,aw,bt⟩:=am.parts
         obtain rfl:=aw
         have a2:=hb.size
         have OF:=am.wide (T:=jR t2.heap.size t3.heap.size) nA
         clear am
         replace OB:=OB.below hb
         replace OE:=OE.below hb
         replace E:=(tQ E hb)
         refine J _ _ E ?_
         clear J K hb
         refine kX ?_
         refine yG (i:=10) (j:=15) rfl rfl bB4 rfl rfl (fun K J=>?_) (fun K J=>?_)
         · go_simp
           refine (jg (OF.own vV).rd.1 bB9).mono ?_
           rintro e t4 ⟨bx,rfl,ak,hb⟩
           obtain ⟨V,U,X,ar,bc⟩:=ak.parts
           obtain rfl:=ar
           have az:=hb.size
           have OG:=ak.wide (T:=jR t3.heap.size t4.heap.size) nA
           clear ak
           clear OF
           replace OB:=OB.below hb
           replace OE:=OE.below hb
           replace E:=(tQ E hb)
           refine J _ _ E ?_
           clear J K hb
           refine kX ?_
           refine yG (i:=11) (j:=15) rfl rfl bB4 rfl rfl (fun K J=>?_) (fun K J=>?_)
           · have bn:=E.size
             go_simp
             have Y:Below t4.heap.size t4 (World.alloc t4 (.cells #[.slice F G R,.slice ab aa ae,.slice V U X] 48)):=bR.alloc nL _
             have a1:t4.heap.size + 1≤(World.alloc t4 (.cells #[.slice F G R,.slice ab aa ae,.slice V U X] 48)).heap.size:=(by simp)
             have X0:=(OB.own vV).rd
             have X1:=(OE.own vV).rd
             have X2:=(OG.own vV).rd
             have Y0:=kDs (e:=48) (r:=(kE.slice 3 kE.int)) rfl (kG (w:=t4) (o:=(.cells #[.slice F G R,.slice ab aa ae,.slice V U X] 48)) rfl) (X0.1.alloc (.cells #[.slice F G R,.slice ab aa ae,.slice V U X] 48)) (X1.1.alloc (.cells #[.slice F G R,.slice ab aa ae,.slice V U X] 48)) (X2.1.alloc (.cells #[.slice F G R,.slice ab aa ae,.slice V U X] 48))
             have RT:(kE.slice 48 (kE.slice 3 kE.int)).rd (World.alloc t4 (.cells #[.slice F G R,.slice ab aa ae,.slice V U X] 48)) [.slice (some ⟨t4.heap.size,0,none⟩) 3 3] [yf (kCa x.1),yf x.2.1,yf (kCa x.2.2.1)]:=⟨Y0,by show 3≤_;unfold Big;omega,fun y hy=>bO⟩
             clear X0 X1 X2 Y0 OB OE OG
             generalize ai:World.alloc t4 (.cells #[.slice F G R,.slice ab aa ae,.slice V U X] 48)=t5 at Y a1 RT ⊢
             clear ai
             replace E:=(tQ E Y)
             refine J _ _ E ?_
             clear J K Y
             clear bn
             refine kX ?_
             refine yG (i:=12) (j:=15) rfl rfl bB4 rfl rfl (fun K J=>?_) (fun K J=>?_)
             · go_simp
               refine (kAc RT bB5 bB5).mono ?_
               rintro e t6 ⟨bq,rfl,ag,hb⟩
               obtain ⟨bj,bo,bm,an,a7⟩:=ag.parts
               obtain rfl:=an
               have ax:=hb.size
               have OT:=ag.wide (T:=jR t5.heap.size t6.heap.size) nA
               clear ag
               clear RT
               replace E:=(tQ E hb)
               refine J _ _ E ?_
               clear J K hb
               refine kX ?_
               refine kY (k:=15) rfl bB4 rfl (fun K J=>?_)
               have bn:=E.size
               go_simp
               have Y:Below t6.heap.size t6 (World.alloc t6 (.cells #[.int .i64 x.2.2.2.1] 3)):=bR.alloc nL _
               have bd:t6.heap.size + 1≤(World.alloc t6 (.cells #[.int .i64 x.2.2.2.1] 3)).heap.size:=(by simp)
               have L:=kHf (w:=t6) (x:=x.2.2.2.1) (e:=3) HF.out
               generalize ai:World.alloc t6 (.cells #[.int .i64 x.2.2.2.1] 3)=t7 at Y bd L ⊢
               clear ai
               replace OT:=OT.below Y
               replace E:=(tQ E Y)
               refine J _ _ E ?_
               clear J K Y
               clear bn
               exact oI
             have bn:=E.size
             go_simp
             have Y:Below t5.heap.size t5 (World.alloc t5 (.cells #[.int .i64 x.2.2.2.1] 3)):=bR.alloc nL _
             have ax:t5.heap.size + 1≤(World.alloc t5 (.cells #[.int .i64 x.2.2.2.1] 3)).heap.size:=(by simp)
             have L:=kHf (w:=t5) (x:=x.2.2.2.1) (e:=3) HF.out
             generalize ai:World.alloc t5 (.cells #[.int .i64 x.2.2.2.1] 3)=t6 at Y ax L ⊢
             clear ai
             replace RT:=RT.below Y
             replace E:=(tQ E Y)
             refine J _ _ E ?_
             clear J K Y
             clear bn
             refine kX ?_
             refine kY (k:=12) rfl bB4 rfl (fun K J=>?_)
             go_simp
             refine (kAc RT bB5 bB5).mono ?_
             rintro e t7 ⟨bq,rfl,ag,hb⟩
             obtain ⟨bj,bo,bm,an,a7⟩:=ag.parts
             obtain rfl:=an
             have bd:=hb.size
             have OT:=ag.wide (T:=jR t6.heap.size t7.heap.size) nA
             clear ag
             clear RT
             replace L:=L.below hb
             replace E:=(tQ E hb)
             refine J _ _ E ?_
             clear J K hb
             exact oI
           have bn:=E.size
           go_simp
           have Y:Below t4.heap.size t4 (World.alloc t4 (.cells #[.int .i64 x.2.2.2.1] 3)):=bR.alloc nL _
           have a1:t4.heap.size + 1≤(World.alloc t4 (.cells #[.int .i64 x.2.2.2.1] 3)).heap.size:=(by simp)
           have L:=kHf (w:=t4) (x:=x.2.2.2.1) (e:=3) HF.out
           generalize ai:World.alloc t4 (.cells #[.int .i64 x.2.2.2.1] 3)=t5 at Y a1 L ⊢
           clear ai
           replace OB:=OB.below Y
           replace OE:=OE.below Y
           replace OG:=OG.below Y
           replace E:=(tQ E Y)
           refine J _ _ E ?_
           clear J K Y
           clear bn
           exact oL
         have bn:=E.size
         go_simp
         obtain ⟨Y,az,L⟩:=A9
         generalize ai:World.alloc t3 (.cells #[.int .i64 x.2.2.2.1] 3)=t4 at Y az L ⊢
         clear ai
         replace OB:=OB.below Y
         replace OE:=OE.below Y
         replace OF:=OF.below Y
         replace E:=(tQ E Y)
         refine J _ _ E ?_
         clear J K Y
         clear bn
         exact oJ
       have bn:=E.size
       go_simp
       obtain ⟨Y,a2,L⟩:=AA
       generalize ai:World.alloc t2 (.cells #[.int .i64 x.2.2.2.1] 3)=t3 at Y a2 L ⊢
       clear ai
       replace OB:=OB.below Y
       replace OE:=OE.below Y
       replace E:=(tQ E Y)
       refine J _ _ E ?_
       clear J K Y
       clear bn
       refine kX ?_
       refine kY (k:=9) rfl bB4 rfl (fun K J=>?_)
       go_simp
       refine (zZ ((kE.ku.void (e:=5) (r:=kE.byte) (a:=none) (S:=fun _=>False)).own (Nat.zero_le _)).rd (HK.out.below (tQ Z E))).mono ?_
       rintro e t4 ⟨b4,rfl,am,hb⟩
       obtain ⟨b5,b1,b3,aw,bt⟩:=am.parts
       obtain rfl:=aw
       have az:=hb.size
       have OF:=am.wide (T:=jR t3.heap.size t4.heap.size) nA
       clear am
       replace OB:=OB.below hb
       replace OE:=OE.below hb
       replace L:=L.below hb
       replace E:=(tQ E hb)
       refine J _ _ E ?_
       clear J K hb
       exact oJ
     have bn:=E.size
     go_simp
     obtain ⟨Y,a9,L⟩:=AB
     generalize ai:World.alloc t1 (.cells #[.int .i64 x.2.2.2.1] 3)=t2 at Y a9 L ⊢
     clear ai
     replace OB:=OB.below Y
     replace E:=(tQ E Y)
     refine J _ _ E ?_
     clear J K Y
     clear bn
     refine kX ?_
     refine kY (k:=6) rfl bB4 rfl (fun K J=>?_)
     go_simp
     refine (jg (HC.out.below (tQ Z E)) hc).mono ?_
     rintro e t3 ⟨b7,rfl,ap,hb⟩
     obtain ⟨ab,aa,ae,a8,b0⟩:=ap.parts
     obtain rfl:=a8
     have a2:=hb.size
     have OE:=ap.wide (T:=jR t2.heap.size t3.heap.size) nA
     clear ap
     replace OB:=OB.below hb
     replace L:=L.below hb
     replace E:=(tQ E hb)
     refine J _ _ E ?_
     clear J K hb
     refine kX ?_
     refine kY (k:=9) rfl bB4 rfl (fun K J=>?_)
     go_simp
     refine (zZ ((kE.ku.void (e:=5) (r:=kE.byte) (a:=none) (S:=fun _=>False)).own (Nat.zero_le _)).rd (HK.out.below (tQ Z E))).mono ?_
     rintro e t4 ⟨b4,rfl,am,hb⟩
     obtain ⟨b5,b1,b3,aw,bt⟩:=am.parts
     obtain rfl:=aw
     have az:=hb.size
     have OF:=am.wide (T:=jR t3.heap.size t4.heap.size) nA
     clear am
     replace OB:=OB.below hb
     replace L:=L.below hb
     replace OE:=OE.below hb
     replace E:=(tQ E hb)
     refine J _ _ E ?_
     clear J K hb
     refine kX ?_
     refine kY (k:=10) rfl bB4 rfl (fun K J=>?_)
     go_simp
     refine (jg (OF.own vV).rd.1 bB9).mono ?_
     rintro e t5 ⟨bx,rfl,ak,hb⟩
     obtain ⟨V,U,X,ar,bc⟩:=ak.parts
     obtain rfl:=ar
     have a1:=hb.size
     have OG:=ak.wide (T:=jR t4.heap.size t5.heap.size) nA
     clear ak
     clear OF
     replace OB:=OB.below hb
     replace L:=L.below hb
     replace OE:=OE.below hb
     replace E:=(tQ E hb)
     refine J _ _ E ?_
     clear J K hb
     exact oL
   have bn:=E.size
   go_simp
   obtain ⟨Y,bb,L⟩:=AJ
   generalize ai:World.alloc t0 (.cells #[.int .i64 x.2.2.2.1] 3)=t1 at Y bb L ⊢
   clear ai
   replace OA:=OA.below Y
   replace E:=(tQ E Y)
   refine J _ _ E ?_
   clear J K Y
   clear bn
   exact oM
 have bn:=E.size
 go_simp
 obtain ⟨Y,bf,L⟩:=AL
 generalize ai:World.alloc wS (.cells #[.int .i64 x.2.2.2.1] 3)=t0 at Y bf L ⊢
 clear ai
 replace E:=(tQ E Y)
 refine J _ _ E ?_
 clear J K Y
 clear bn
 refine kX ?_
 refine kY (k:=2) rfl bB4 rfl (fun K J=>?_)
 go_simp
 refine (zZ ((kE.ku.void (e:=5) (r:=kE.byte) (a:=none) (S:=fun _=>False)).own (Nat.zero_le _)).rd (HN.out.below (tQ Z E))).mono ?_
 rintro e t1 ⟨bw,rfl,al,hb⟩
 obtain ⟨bu,bz,bv,aq,be⟩:=al.parts
 obtain rfl:=aq
 have bb:=hb.size
 have OA:=al.wide (T:=jR t0.heap.size t1.heap.size) nA
 clear al
 replace L:=L.below hb
 replace E:=(tQ E hb)
 refine J _ _ E ?_
 clear J K hb
 exact oM
theorem kPe {w:World} {s:Int} (hs:-9223372036854775808≤s∧s≤9223372036854775807) {cx:List Value} {x:jG} (hx:jA.rd w cx x) (hc:x.2.1.length≤2000000) :
    Calls prog 130 #[.int .i64 s,.agg cx.toArray] w (bQ w (.bool (verify s x))):=by
 have hy:=hx.1
 obtain ⟨ez,bh,e9,rfl,ac,ay,a3,a5,ba,bg,b2⟩:=jN hy
 obtain ⟨cl,b6,rfl,e1⟩:=kE.sl ay
 obtain ⟨av,au,rfl,bi⟩:=kE.sl a3
 obtain ⟨c6,c5,rfl,fa⟩:=kE.sl ba
 have HX:=yD hx
 have hl:=kSn x
 clear hx hy ac ay a3 a5 ba bg b2
 go_enter func130,ntmps130
 go_upto_region 1 with fail
 generalize H:World.alloc w _=N
 have Z:Below w.heap.size w N:=by rw [← H];exact bI
 obtain ⟨K0,K1,K2,K3,K4⟩:=oU
 clear H
 have FX:=yD (fun (W:World) (hW:Below N.heap.size N W)=>cLs5 hW K0 K1 K2 K3 K4)
 refine kW (fun W=>Below N.heap.size N W) [true,false,true,true,true,true,true,false,false,true,true,true] bB4 bB4 qD (bR.drew) ?_
 intro wS E
 all_goals refine kS ?_
 all_goals first | refine wkC (kNu) ?_ | refine kS ?_
 all_goals (have R:=True.intro;first|(refine yT (fun b R=>?_);cases b;all_goals first | exact Bool.noConfusion R | simp only [zU,zV] at R | skip) | refine kS ?_)
 all_goals refine kX ?_
 iterate 4
  all_goals refine kS ?_
 all_goals first|(refine kK rfl E ?_)|(refine ko rfl (fun K J=>?_);go_simp;refine (kLb (HX.out.below (tQ Z E)) hc).mono ?_;rintro e wS1 ⟨vg,rfl,OG,af⟩;obtain ⟨ag,ng,cg,Y,aw⟩:=OG.parts;obtain rfl:=Y;have RG:=(OG.own vV).rd;clear OG;replace E:=(tQ E af);refine J _ _ E ?_;clear J K af)
 all_goals refine kX ?_
 all_goals first|(refine kK rfl E ?_)|(refine ko rfl (fun K J=>?_);go_simp;refine (kPj hs RG bB9).mono ?_;rintro e bj ⟨rfl,af⟩;replace E:=(tQ E af);refine J _ _ E ?_;clear J K af RG)
 all_goals refine kX ?_
 iterate 3
  all_goals refine kS ?_
 all_goals refine kZ ?_
 all_goals have G:=(tQ Z E)
 all_goals first
   | (have U:=yD (show verify s x=false by simp only [verify,Bool.not_true,Bool.not_false,Bool.and_true,Bool.true_and,Bool.and_false,Bool.false_and,Bool.or_true,Bool.true_or,Bool.or_false,Bool.false_or,Bool.not_not,R]);go_wp2;go_ret;exact ⟨kR U.out.symm,G⟩)
   | (have U:=yD (show verify s x=(x.2.2.2.2==kTa s (signed x)) by simp only [verify,Bool.not_true,Bool.not_false,Bool.and_true,Bool.true_and,Bool.and_false,Bool.false_and,Bool.or_true,Bool.true_or,Bool.or_false,Bool.false_or,Bool.not_not,R]);go_wp2;go_ret;exact ⟨kR U.out.symm,G⟩)
end Go.Proofs.YtonmjkmaadgceaaGreat

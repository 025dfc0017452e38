/-
  A success recorded.
-/
import Derived.Test.YtonmjkmaadgceaaGreatAddR
set_option linter.unusedVariables false
set_option linter.unusedSimpArgs false
set_option linter.unnecessarySimpa false
set_option maxRecDepth 100000
set_option maxHeartbeats 4000000
namespace Go.Proofs.YtonmjkmaadgceaaGreat
open Go.RowKit _root_.Go.Proofs.Tryz
def kAl (m:Nat) (l:List jL):Prop:=l.length≤m∧∀ r∈l,yM r.1∧r.1.length≤64
theorem kAl.addR {l:List jL} {r:jL} (h:kAl 24 l) (hr:yM r.1∧r.1.length≤64):kAl 24 (addR r l):=by
 have key:∀ x∈kIg r l,yM x.1∧x.1.length≤64:=by
  intro x hx
  by_cases q:idxOf (zm r.1 r.2.1) l < 0
  · rw [kWa q] at hx
    rcases List.mem_append.1 hx with hx | hx
    · exact h.2 x hx
    rw [List.mem_singleton.1 hx];exact hr
  obtain ⟨k,hk,e⟩:=kIa q
  rw [kVz e hk] at hx
  rcases List.mem_or_eq_of_mem_set hx with hx | hx
  · exact h.2 x hx
  rw [hx];exact h.2 l[k] (List.getElem_mem hk)
 cases q:kAz (kIg r l)
 · rw [(kXd q).1];exact h
 rw [(kTr q).1];exact ⟨kJv q,key⟩
theorem kAl.snoc {m:Nat} {l:List jL} {r:jL} (h:kAl m l) (hr:yM r.1∧r.1.length≤64):kAl (m + 1) (l++[r]):=by
 refine ⟨by have:=h.1;simp;omega,fun x hx=>?_⟩
 rcases List.mem_append.1 hx with hx | hx
 · exact h.2 x hx
 rw [List.mem_singleton.1 hx];exact hr
theorem kAl.twice {m:Nat} {l:List jL} (h:kAl m l):kAl (m + m) (l++l):=by
 refine ⟨by have:=h.1;simp;omega,fun x hx=>?_⟩
 rcases List.mem_append.1 hx with hx | hx <;> exact h.2 x hx
theorem kAl.mono {m k:Nat} {l:List jL} (h:kAl m l) (hk:m≤k):kAl k l:=⟨Nat.le_trans h.1 hk,h.2⟩
theorem kAl.nil:kAl 24 []:=⟨by simp,fun r hr=>by simp at hr⟩
theorem kVf {w:World} {v:Value} {ps:kQ} {f c:Int} {S:Nat→Prop} (k:kM.own w [v] ps S) (hf:-9223372036854775808≤f∧f≤9223372036854775807) (hc:-9223372036854775808≤c∧c≤9223372036854775807):jT.own w [v,.int .i64 f,.int .i64 c] (ps,f,c) S :=
  kE.jw (r:=kM) (cs:=[v]) (ds:=[.int .i64 f,.int .i64 c]) k (kE.jr (cs:=[.int .i64 f]) (kE.ky hf) (kE.ky hc))
theorem kWi {w0 w:World} {p:Nat} (hc:yK w0 w p) :
    Calls prog 147 #[.pointer (some ⟨p,0,none⟩)] w fun e w'=>∃ a c ps f J,e=.returned (.agg #[.slice a ps.length c,.int .i64 f,.int .i64 J])∧kM.own w' [.slice a ps.length c] ps (jR w.heap.size w'.heap.size)∧yM ps∧ps.length≤64∧(1≤f∧f≤4)∧(0≤J∧J≤4)∧yK w0 w' p∧Touch (fun k=>k=p) w w':=by
 go_enter func147,ntmps147
 obtain ⟨b7,cj⟩:=hc.lt
 go_upto_region 1 with fail
 generalize F:World.alloc w _=w1
 have ak:Below w.heap.size w w1:=rX
 have R:w1.heap[w.heap.size]?=some (.cells #[.slice none 0 0,.int .i64 0,.int .i64 0] 102 (0,0)):=tX
 have bn:w.heap.size + 1≤w1.heap.size:=bA3
 clear F
 obtain ⟨hc,H⟩:=q8
 clear ak
 go_wp2_with fail
 refine (zo (hc.below (bR.alloc nL _)) (kE.kAw _ [{ data:=#[47] },{ data:=#[47,97] },{ data:=#[47,98] },{ data:=#[47,97,47,110,101,119,115] },{ data:=#[47,110,101,119,115] }] bB8 bB8) bB9 bB8 bB8).mono ?_
 rintro e V ⟨y,al,a8,rfl,G,D⟩
 replace D:=(Touch.of_below (S:=fun k=>k=p) (bR.alloc nL _)).trans D
 obtain ⟨bo,R,H⟩:=xE
 clear hc D
 have hc:=G
 clear G
 go_wp2_with fail
 refine (yP (kE.kBz bB8 al)).mono ?_
 rintro e w3 ⟨a,c,ps,rfl,hr,hl,db,hb⟩
 have bp:=hb.size
 replace R:=kD R hb
 obtain ⟨hc,H⟩:=oP
 clear hb
 have HR:=yD (hr)
 clear hr
 go_wp2_with fail
 refine (kV (n:=4) hc bB8).mono ?_
 rintro e w4 ⟨x,ax,Z,b4,rfl,G,D⟩
 have b9:=D.size
 replace R:=D.kD R bB9
 replace HR:=yD (HR.out.touch D qB)
 replace H:=H.trans D
 clear hc D
 have hc:=G
 clear G
 replace Z:=Z bB8
 clear b4
 have hw:IntKind.i64.wrap (1 + x)=1 + x:=IntWalk.i64_in _ bB9
 go_wp2_with fail
 refine (kV (n:=5) hc bB8).mono ?_
 rintro e w5 ⟨y,b6,a4,a6,rfl,G,D⟩
 have cd:=D.size
 replace R:=D.kD R bB9
 replace HR:=yD (HR.out.touch D qB)
 replace H:=H.trans D
 clear hc D
 have hc:=G
 clear G
 replace a4:=a4 bB8
 clear a6
 obtain ⟨ac,au,bi⟩:=rowC3 R
 obtain ⟨aq,ar,bh⟩:=rowF3 R
 go_wp2
 refine bodyPost_ret (v:=.agg #[.slice a ps.length c,.int .i64 (1 + x),.int .i64 y]) (by simp [results,results147,go_sem,ac,au,bi,aq,ar,bh]) rfl ⟨_,_,ps,1 + x,y,rfl,?_,db,hl,by omega,by omega,hc.touch (((kC _ _ _ _).trans (kC _ _ _ _)).trans (kC _ _ _ _)) bB9 wB,H.jJ (((kC _ _ _ _).trans (kC _ _ _ _)).trans (kC _ _ _ _)) bB9⟩
 exact (HR.out.touch (((kC _ _ _ _).trans (kC _ _ _ _)).trans (kC _ _ _ _)) sM).wide fK
theorem kLp {w0 w:World} {p:Nat} (hc:yK w0 w p) :
    Calls prog 108 #[.pointer (some ⟨p,0,none⟩)] w fun e w'=>∃ a c l,e=.returned (.slice a l.length c)∧(kE.slice 102 jT).own w' [.slice a l.length c] l (jR w.heap.size w'.heap.size)∧kAl 24 l∧yK w0 w' p∧Touch (fun k=>k=p) w w':=by
 go_enter func108,ntmps108
 obtain ⟨b7,cj⟩:=hc.lt
 go_upto_region 2 with fail
 generalize F:World.alloc w _=w1
 obtain ⟨ak,bn⟩:=EB
 clear F
 obtain ⟨hc,H⟩:=q8
 clear ak
 go_wp2_with fail
 refine (kV (n:=8) hc bB8).mono ?_
 rintro e V ⟨m,bq,ao,ck,rfl,G,D⟩
 have bo:=D.size
 replace H:=H.trans D
 clear hc D
 have hc:=G
 clear G
 replace ao:=ao bB8
 clear ck
 obtain ⟨m,rfl⟩:=Int.eq_ofNat_of_zero_le bq
 go_wp2
 go_loopw [3,4] (fun v i wr=>∃ (j:Nat) (a:Option Addr) (n c:Nat) (l:List jL),v=.slice a n c∧i=.int .i64 j∧Hid (kAl 24 l)∧Hid (n=l.length)∧j < 8∧Hid ((kE.slice 102 jT).own wr [.slice a n c] l (jR w.heap.size wr.heap.size))∧V.heap.size≤wr.heap.size∧yK w0 wr p∧Touch (fun k=>k=p) w wr) (fun _ i _=>(intOf i).toNat)
 case atStart=>exact ⟨m,_,0,0,[],rfl,rfl,yD kAl.nil,yD rfl,by omega,yD kE.jf,Nat.le_refl _,hc,H⟩
 clear hc H
 obtain ⟨j,a,n,c,l,rfl,rfl,ah,HN,I,L,dh,hc,H⟩:=hrel
 have aa:=H.size
 cases j with
 | zero =>
   go_wp2
   go_ret
   have hn:=HN.out
   subst hn
   exact ⟨_,_,l,rfl,L.out,ah.out,hc,H⟩
 | succ j =>
   have dn:(0:Int) < (j:Int) + 1:=bB9
   go_wp2_with fail
   refine (kWi hc).mono ?_
   rintro e w4 ⟨na,nc,ps,f,J,rfl,hr,db,dz,hf,E,G,D⟩
   have b9:=D.size
   obtain ⟨L,H⟩:=oZ
   clear hc D
   have hc:=G
   clear G
   have HR:=yD (kVf hr (f:=f) (c:=J) bB9 bB9)
   clear hr
   go_wp2_with fail
   refine (kSk L.out.rd HR.out.rd).mono ?_
   rintro e w5 ⟨v2,rfl,cc,hb⟩
   have cd:=hb.size
   replace L:=yD (L.out.below hb)
   replace HR:=yD (HR.out.below hb)
   obtain ⟨hc,H⟩:=oP
   clear hb
   have c4:=yD (ah.out.addR (r:=(ps,f,J)) ⟨db,dz⟩)
   generalize addR (ps,f,J) l=l2 at *
   generalize kTt (ps,f,J) l=ok at *
   obtain ⟨a2,c2,rfl,_⟩:=kE.sl cc.raw
   have ag:=yD (cc.wide (T:=jR w.heap.size w5.heap.size) qU)
   clear cc L HR
   go_wp2
   go_roundw
   case rel=>exact ⟨j,a2,l2.length,c2,l2,rfl,by go_num,c4,yD rfl,by omega,ag,by omega,hc,H⟩
   case measure=>simp [intOf]
theorem kWj {w0 w:World} {p:Nat} (hc:yK w0 w p) :
    Calls prog 78 #[.pointer (some ⟨p,0,none⟩)] w fun e w'=>∃ a c l,e=.returned (.slice a l.length c)∧(kE.slice 102 jT).own w' [.slice a l.length c] l (jR w.heap.size w'.heap.size)∧kAl 48 l∧yK w0 w' p∧Touch (fun k=>k=p) w w':=by
 go_enter func78,ntmps78
 obtain ⟨b7,cj⟩:=hc.lt
 go_wp2_with fail
 refine (kLp hc).mono ?_
 rintro e w1 ⟨a,c,l,rfl,hO,db,G,D⟩
 have bn:=D.size
 have H:=D
 clear hc D
 have hc:=G
 clear G
 have L:=yD (hO)
 clear hO
 have Y:=db.1
 have ah:=yD db
 clear db
 go_wp2_with fail
 refine (kV (n:=10) hc bB8).mono ?_
 rintro e V ⟨m,bq,ao,ck,rfl,G,D⟩
 have bo:=D.size
 obtain ⟨L,H⟩:=oZ
 clear hc D
 have hc:=G
 clear G
 replace ao:=ao bB8
 clear ck
 obtain ⟨m,rfl⟩:=Int.eq_ofNat_of_zero_le bq
 by_cases b5:m=0
 · subst b5
   go_wp2_with fail
   refine (kEy hc).mono ?_
   rintro e w3 ⟨na,nc,N,rfl,hr,cq,W,G,D⟩
   have bp:=D.size
   obtain ⟨L,H⟩:=oZ
   clear hc D
   have hc:=G
   clear G
   have HR:=yD (hr)
   clear hr
   go_wp2_with fail
   refine (kBh (hc.below (bR.alloc nL _)) (kE.kGs _ [0,1,6,7] bB8 bB8) bB9 bB8 bB8).mono ?_
   rintro e w4 ⟨f,U,Z,rfl,G,D⟩
   obtain ⟨D,b9⟩:=DN
   obtain ⟨L,HR,H⟩:=xC
   clear hc D
   have hc:=G
   clear G
   have hf:=kE.kGq (lo:=0) (hi:=7) bB8 U
   clear U
   go_wp2_with fail
   refine (kBh (hc.below (bR.alloc nL _)) (kE.kGs _ [-1,0,1000,1001] bB8 bB8) bB9 bB8 bB8).mono ?_
   rintro e w5 ⟨y,al,a8,rfl,G,D⟩
   obtain ⟨D,cd⟩:=xQ
   obtain ⟨L,HR,H⟩:=xC
   clear hc D
   have hc:=G
   clear G
   have hy:=kE.kGq (lo:=-1) (hi:=1001) bB8 al
   clear al
   go_wp2_with (at_builtin;refine kE.zO rfl _ _ 30 rfl (r:=jT) (e:=102) underlying30 kKj rfl bB8 bB8 L.out bR (kVf HR.out bB9 bB9) bC1 bC1 nW bB9 ?_)
   intro v9 w9 a5 an
   have R:=an.size
   have ce:=yD ((ah.out.snoc (r:=(N,f,y)) ⟨W,by show N.length≤64;omega⟩).mono (k:=48) bB9)
   generalize l++[(N,f,y)]=q at *
   obtain ⟨a9,c9,bb,_⟩:=kE.kAx a5.raw
   obtain rfl:v9=_:=by simpa using bb
   have br:=yD (a5.wide (T:=jR w.heap.size w9.heap.size) bL)
   have J:=hc.touch an tF sQ
   have E:=H.kBj an (fun k q=>q.1.1)
   clear a5 an bb
   go_wp2
   go_ret
   exact ⟨_,_,q,rfl,br.out,ce.out,J,E⟩
 have I:¬ (m:Int)=0:=bB9
 by_cases O:m=1
 · subst O
   go_wp2_with fail
   refine (kCv L.out.rd).mono ?_
   rintro e w3 ⟨vc,rfl,hr,hb⟩
   have bp:=hb.size
   replace L:=yD (L.out.below hb)
   obtain ⟨hc,H⟩:=oP
   clear hb
   have HR:=yD (hr)
   clear hr
   obtain ⟨ya,yn,yc,hv,X⟩:=HR.out.parts
   obtain rfl:=hv
   go_wp2_with (at_builtin;refine kE.kLh rfl _ _ 30 rfl (r:=jT) (e:=102) underlying30 kKj rfl bB8 bB8 L.out HR.out bC1 bC1 nW bB9 ?_)
   intro v9 w9 a5 an
   have R:=an.size
   have ce:=yD (ah.out.twice)
   generalize l++l=q at *
   obtain ⟨a9,c9,bb,_⟩:=kE.kAx a5.raw
   obtain rfl:v9=_:=by simpa using bb
   have br:=yD (a5.wide (T:=jR w.heap.size w9.heap.size) bL)
   have J:=hc.touch an tT sZ
   have E:=H.kBj an (fun k q=>q.1)
   clear a5 an bb
   go_wp2
   go_ret
   exact ⟨_,_,q,rfl,br.out,ce.out,J,E⟩
 have F:¬ (m:Int)=1:=bB9
 go_wp2
 go_ret
 exact ⟨_,_,l,rfl,L.out.wide rM,ah.out.mono bB9,hc,H⟩
theorem specMin_c {w:World} {a b:Int}:Calls prog 179 #[.int .i64 a,.int .i64 b] w fun e w'=>e=.returned (.int .i64 (min a b))∧w'=w:=by
 go_enter func179,ntmps179
 by_cases h:b < a
 · have hd:decide (b < a)=true:=bA5
   have U:=yD (show min a b=b by omega)
   exact lC
 have hd:decide (b < a)=false:=bA5
 have U:=yD (show min a b=a by omega)
 exact lC
def upF (x:Int):Int:=min 50 (wrap64 (x + 1))
theorem upF_rng {x:Int}:-9223372036854775808≤upF x∧upF x≤9223372036854775807:=by
 unfold upF
 unfold wrap64
 omega
def recF (n:kQ) (f:Int) (l:List kT):List kT :=
  if yZ n && inR f 1 6 then
    (if idxOf (yj n f) l < 0 then (if l.length < 24 then l++[(n,f,1)] else l)
     else l.set (idxOf (yj n f) l).toNat (yJ (l.getD (idxOf (yj n f) l).toNat ([],0,0)) (upF (l.getD (idxOf (yj n f) l).toNat ([],0,0)).2.2)))
  else l
theorem recF_no {n:kQ} {f:Int} {l:List kT} (h:(yZ n && inR f 1 6)=false):recF n f l=l:=by unfold recF;rw [h];rfl
theorem recF_new {n:kQ} {f:Int} {l:List kT} (h:(yZ n && inR f 1 6)=true) (h2:idxOf (yj n f) l < 0) (h3:l.length < 24):recF n f l=l++[(n,f,1)]:=by unfold recF;rw [if_pos h,if_pos h2,if_pos h3]
theorem recF_full {n:kQ} {f:Int} {l:List kT} (h:(yZ n && inR f 1 6)=true) (h2:idxOf (yj n f) l < 0) (h3:¬ l.length < 24):recF n f l=l:=by unfold recF;rw [if_pos h,if_pos h2,if_neg h3]
theorem recF_up {n:kQ} {f:Int} {l:List kT} {k:Nat} (h:(yZ n && inR f 1 6)=true) (h2:idxOf (yj n f) l=k) (hk:k < l.length):recF n f l=l.set k (yJ l[k] (upF l[k].2.2)):=by
 unfold recF
 simp only [h,h2,Int.toNat_natCast,jM hk]
 rw [if_pos trivial,if_neg bB9]
theorem kLa {w:World} {vl:Value} {l:List kT} (hl:(kE.slice 105 kL).rd w [vl] l) {cn:List Value} {n:kQ} (hn:kM.rd w cn n) {f:Int} (hf:-9223372036854775808≤f∧f≤9223372036854775807) :
    Calls prog 149 #[vl,.agg cn.toArray,.int .i64 f] w (kCk (kE.slice 105 kL) (recF n f l) w):=by
 obtain ⟨HL,HN,bj⟩:=CP
 obtain ⟨nv,rfl,am⟩:=kU hn.1
 obtain ⟨na,np,rfl,_⟩:=kE.sl am
 obtain ⟨va,vp,rfl,bm⟩:=kE.sl hl.1
 clear am hl hn
 go_enter func149,ntmps149
 go_wp2_with fail
 generalize H:World.alloc w _=N
 obtain ⟨Z,K0,b8⟩:=uD
 clear H
 refine (kEu (HL.out.below Z)).mono ?_
 rintro e w1 ⟨v1,rfl,O1,O⟩
 replace K0:=cL O K0
 obtain ⟨E1,az,L⟩:=AX
 obtain ⟨oa,on,oc,ho,bl⟩:=O1.parts;obtain rfl:=ho
 clear O1 O Z
 have HF:=yD hf
 clear hf
 go_wp2_with fail
 refine (yS (HN.out.1.below E1)).mono ?_
 rintro e V ⟨rfl,ab⟩
 replace K0:=cL ab K0
 have E2:=(tQ E1 ab)
 have an:=ab.size
 replace L:=yD ((L.out.below ab).wide (T:=jR w.heap.size V.heap.size) rE)
 clear ab E1
 cases hv:yZ n
 · have U:=yD (recF_no (f:=f) (l:=l) (by rw [hv];rfl))
   go_wp2
   go_ret
   exact ⟨_,rfl,(L.out.cast U.out.symm).own vJ,E2⟩
 go_wp2_with fail
 refine ji.mono ?_
 rintro e w3 ⟨rfl,bn⟩
 obtain rfl:=bn.symm
 clear bn
 cases hi:inR f 1 6
 · have U:=yD (recF_no (f:=f) (l:=l) (by rw [hv,hi];rfl))
   go_wp2
   go_ret
   exact ⟨_,rfl,(L.out.cast U.out.symm).own vJ,E2⟩
 have HB:Hid ((yZ n && inR f 1 6)=true):=yD (by rw [hv,hi];rfl)
 clear hv hi
 go_wp2_with fail
 refine (kGz (HL.out.1.below E2) (HN.out.1.below E2)).mono ?_
 rintro e w4 ⟨rfl,X⟩
 replace K0:=cL X K0
 have E4:=(tQ E2 X)
 obtain ⟨bt,L⟩:=AO
 clear X E2
 by_cases hk:idxOf (yj n f) l < 0
 · have en:¬ (0≤idxOf (yj n f) l):=bB9
   generalize hq:idxOf (yj n f) l=q at *
   have HQ:=yD hq;clear hq
   by_cases ah:l.length < 24
   · have Y:(l.length:Int) < 24:=bB9
     have U:=yD (recF_new HB.out (by rw [HQ.out];exact hk) ah)
     go_wp2_with fail
     refine (zi (HN.out.below E4)).mono ?_
     rintro e wT ⟨tc,rfl,OT,au⟩
     obtain ⟨dh,rfl,a2⟩:=kU OT.raw
     obtain ⟨av,bh,rfl,_⟩:=kE.sl a2
     clear a2
     go_upto_region 9 with fail
     generalize F:World.alloc wT _=R
     have EC:Below wT.heap.size wT R:=rX
     have KC:R.cell? ⟨wT.heap.size,0,none⟩=some (.slice av n.length bh):=tO
     clear F
     have ER:=(tQ au EC)
     have em:=au.size
     have ac:=EC.size
     have J:=OT.below EC
     replace L:=yD (L.out.below ER)
     have a7:on≤24:=vP
     go_wp2_with (at_builtin;refine kE.jK rfl _ _ 31 rfl (r:=kL) (e:=105) underlying31 yg rfl bB8 bB8 (B:=w.heap.size) L.out bC1 bC1 rfl (kE.own.wide (T:=jR w4.heap.size wT.heap.size) (kE.jw (r:=kM) (q:=kE.pair kE.int kE.int) (cs:=[.slice av n.length bh]) (ds:=[.int .i64 f,.int .i64 1]) (x:=n) (y:=(f,1)) (J) (kE.jr (kE.ky HF.out) (kE.ky (n:=1) bB9))) (fun j I=>I)) rfl mW rE mR bB9 vP ?_)
     intro v5 w5 G ak bi
     have aw:=yD (G.cast U.out.symm)
     have E5:=(tQ E4 ER).trans ak
     clear G ak
     go_wp2
     go_ret
     exact ⟨_,rfl,aw.out.own (by rw [U.out,List.length_append];unfold Big;simp;omega),E5⟩
   have Y:¬ (l.length:Int) < 24:=bB9
   have U:=yD (recF_full HB.out (by rw [HQ.out];exact hk) ah)
   go_wp2
   go_ret
   exact ⟨_,rfl,(L.out.cast U.out.symm).own vJ,E4⟩
 obtain ⟨k,aa,aj⟩:=kIa hk
 have bb:=yD aj
 rw [aj]
 clear hk aj
 obtain ⟨b,cap,hv,af,bk,ao,a4⟩:=kE.kBu L.out aa
 simp only [Value.slice.injEq] at hv
 obtain ⟨rfl,ay,rfl⟩:=hv
 have a5:k < on:=bB9
 obtain ⟨a8,be⟩:=AR
 have a6:=yD (L.out.own bj)
 obtain ⟨c0,c1,c2,hr,A0,A1,A2⟩:=kE.at3 a6.out.raw aa rfl
 obtain ⟨rv,ag,al,ai,a1,a9⟩:=yU hr
 simp only [List.cons.injEq,and_true] at ag
 obtain ⟨rfl,rfl,rfl⟩:=ag
 have bg:=kE.kGo L.out bB9 (k * 3 + 2)
 have U:=yD (recF_up HB.out bb.out aa)
 obtain ⟨s1,s2⟩:=kE.kEg (i:=k) (j:=2) (p:=k * 3 + 2) (u:=.int .i64 (upF l[k].2.2)) L.out bj aa bB8 (fun h=>kEl _ upF_rng h) (show kL.bdd Big (yJ l[k] (upF l[k].2.2)) from kE.zM a6.out.rd aa) rfl
 have ae:=yD (fun v (hv:v=upF l[k].2.2)=>(show kE.ku 105 kL (w4.setCell ⟨b,k * 3 + 2,none⟩ (.int .i64 v)) _ _ _ from hv ▸ s1.cast U.out.symm));clear s1 s2 ay hr al ai a1
 go_wp2_with fail
 refine specMin_c.mono ?_
 rintro e w6 ⟨rfl,D⟩
 obtain rfl:=D.symm
 clear D
 go_wp2
 all_goals go_ret
 all_goals exact ⟨_,rfl,((ae.out _ (by unfold upF;omega)).own qY).wide mM,E4.setCell af.1 _⟩
def kKb (n:kQ) (f:Int) (l:List kT):List kT :=
  if idxOf (yj n f) l < 0 then l
  else if (l.getD (idxOf (yj n f) l).toNat ([],0,0)).2.2 < 2 then l.take (idxOf (yj n f) l).toNat++l.drop ((idxOf (yj n f) l).toNat + 1)
  else l.set (idxOf (yj n f) l).toNat (yJ (l.getD (idxOf (yj n f) l).toNat ([],0,0)) ((l.getD (idxOf (yj n f) l).toNat ([],0,0)).2.2 / 2))
theorem kVg {n:kQ} {f:Int} {l:List kT} (h:idxOf (yj n f) l < 0):kKb n f l=l:=by unfold kKb;rw [if_pos h]
theorem recS_cut {n:kQ} {f:Int} {l:List kT} {k:Nat} (h:idxOf (yj n f) l=k) (hk:k < l.length) (h2:l[k].2.2 < 2):kKb n f l=l.take k++l.drop (k + 1):=by
 unfold kKb
 simp only [h,Int.toNat_natCast,jM hk]
 rw [if_neg bB9,if_pos h2]
theorem kVh {n:kQ} {f:Int} {l:List kT} {k:Nat} (h:idxOf (yj n f) l=k) (hk:k < l.length) (h2:¬ l[k].2.2 < 2):kKb n f l=l.set k (yJ l[k] (l[k].2.2 / 2)):=by
 unfold kKb
 simp only [h,Int.toNat_natCast,jM hk]
 rw [if_neg bB9,if_neg h2]
theorem kKz {w:World} {vl:Value} {l:List kT} (hl:(kE.slice 105 kL).rd w [vl] l) {cn:List Value} {n:kQ} (hn:kM.rd w cn n) {f:Int} (hf:-9223372036854775808≤f∧f≤9223372036854775807) :
    Calls prog 150 #[vl,.agg cn.toArray,.int .i64 f] w (kCk (kE.slice 105 kL) (kKb n f l) w):=by
 obtain ⟨HL,HN,bj⟩:=CP
 obtain ⟨nv,rfl,am⟩:=kU hn.1
 obtain ⟨na,np,rfl,_⟩:=kE.sl am
 clear am hl hn hf
 go_enter func150,ntmps150
 go_wp2_with fail
 generalize H:World.alloc w _=N
 obtain ⟨Z,K0,b8⟩:=uD
 clear H
 refine (kEu (HL.out.below Z)).mono ?_
 rintro e w1 ⟨v1,rfl,O1,O⟩
 replace K0:=cL O K0
 have E1:=(tQ Z O)
 have L:=yD O1
 obtain ⟨oa,on,oc,ho,bl⟩:=O1.parts;obtain rfl:=ho
 clear O1 O
 go_wp2_with fail
 refine (kGz (HL.out.1.below E1) (HN.out.1.below E1)).mono ?_
 rintro e V ⟨rfl,ab⟩
 have E2:=(tQ E1 ab)
 have az:=E1.size
 have an:=ab.size
 replace L:=yD ((L.out.below ab).wide (T:=jR w.heap.size V.heap.size) mR)
 clear ab E1 Z
 by_cases hk:idxOf (yj n f) l < 0
 · exact lM
 obtain ⟨k,aa,aj⟩:=kIa hk
 have bb:=yD aj
 rw [aj]
 clear hk aj
 obtain ⟨b,cap,hv,D⟩:=kE.kFm L.out aa
 simp only [Value.slice.injEq] at hv
 obtain ⟨rfl,ay,rfl⟩:=hv
 have a5:k < on:=bB9
 rw [List.drop_eq_getElem_cons aa] at D
 have ak:=D.len
 simp only [List.length_take,List.length_cons,List.length_drop] at ak
 obtain ⟨ao,a4,af,bg,G⟩:=CX
 clear D ak
 have a6:=yD (L.out.own bj)
 obtain ⟨c0,c1,c2,hr,A0,A1,A2⟩:=kE.at3 a6.out.raw aa rfl
 obtain ⟨rv,ag,al,ai,a1,a9⟩:=yU hr
 simp only [List.cons.injEq,and_true] at ag
 obtain ⟨rfl,rfl,rfl⟩:=ag
 have ac:=yD (recS_cut bb.out aa)
 have F:=yD (kVh bb.out aa)
 have ah:=yD (fun (v:Int) (hv:-9223372036854775808≤v∧v≤9223372036854775807)=>kE.kEg (i:=k) (j:=2) (p:=k * 3 + 2) (u:=.int .i64 v) L.out bj aa bB8 (fun h=>kEl v hv h) (show kL.bdd Big (yJ l[k] v) from kE.zM a6.out.rd aa) rfl)
 have bl:=yD ay
 clear ay hr al ai a1
 obtain ⟨a8,be⟩:=AR
 have b0:k≤oc:=bB9
 have br:=Go.IntWalk.i64_in ((k:Int) + 1) bB9
 by_cases h2:l[k].2.2 < 2
 · have U:=yD (ac.out h2)
   clear ac F ah
   have HK:Hid ((l.take k).length=k):=yD bB5
   have du:k + 1≤oc:=bB9
   have en:k + 1≤on:=bB9
   have g8:(k:Int) + 1≤on:=bB9
   have ar:(0:Int)≤(k:Int) + 1:=bB9
   by_cases cc:oc=k + 1
   · have HR:Hid ((l.drop (k + 1)).length=0):=yD (by have:=bl.out;simp;omega)
     obtain rfl:on=k + 1:=bB9
     subst cc
     have av:(k:Int)≤(k:Int) + 1:=bB9
     go_upto_region 6 with fail
     refine yQ (fun W=>Below V.heap.size V W) [(1,true),(2,true),(3,true),(5,true),(6,true),(7,true),(8,true),(0,false),(4,false),(9,false),(10,true)] bB4 bB4 qD (bR.drew) ?_
     intro wS E
     simp only [jD,List.getElem?_cons_succ,List.getElem?_cons_zero,List.map_cons,List.map_nil]
     iterate 7
      all_goals refine kS ?_
     all_goals first|(refine kK rfl E ?_)|(refine ko rfl (fun K J=>?_);go_simp;generalize aw:World.alloc wS _=wU;replace E:Below V.heap.size V wU:=(by rw [← aw];exact E.alloc E.size _);clear aw;refine J _ _ E ?_;clear J K)
     all_goals refine kX ?_
     all_goals first|(refine kK rfl E ?_)|(refine ko rfl (fun K J=>?_);obtain ⟨v3,u3,ba,Y,v4,u4,aq,ax,X⟩:=kE.kGm (P:=prog) (t:=31) underlying31 yg rfl bB8 bB8 G.out E (a0:=some ⟨wS.heap.size,0,none⟩) bB9 (k + 1) 0 31 31 (q:=0) (kl:=k) (rl:=0) (fun hne=>absurd (List.eq_nil_of_length_eq_zero HR.out) hne) HK.out.symm HR.out.symm;have ap:=(tQ E Y);refine kE.jP _ _ _ rfl bC1 bC1 ba ?_;refine J _ _ ap ?_;clear J K)
     all_goals refine kX ?_
     all_goals first|(refine kK rfl E ?_)|(refine ko rfl (fun K J=>?_);have R:=(tQ E X);refine kE.jP _ _ _ rfl bC1 bC1 aq ?_;refine J _ _ R ?_;clear J K)
     all_goals refine kX ?_
     all_goals refine kS ?_
     all_goals refine kZ ?_
     exact lN
   have HR:Hid ((l.drop (k + 1)).length=on - (k + 1)):=yD (by have:=bl.out;simp;omega)
   go_upto_region 6 with fail
   refine yQ (fun W=>Below V.heap.size V W) [(1,true),(2,true),(3,true),(5,true),(6,true),(7,true),(8,true),(0,false),(4,false),(9,false),(10,true)] bB4 bB4 qD (bR.drew) ?_
   intro wS E
   simp only [jD,List.getElem?_cons_succ,List.getElem?_cons_zero,List.map_cons,List.map_nil]
   iterate 7
    all_goals refine kS ?_
   all_goals first|(refine kK rfl E ?_)|(refine ko rfl (fun K J=>?_);go_simp;generalize aw:World.alloc wS _=wU;replace E:Below V.heap.size V wU:=(by rw [← aw];exact E.alloc E.size _);clear aw;refine J _ _ E ?_;clear J K)
   all_goals refine kX ?_
   all_goals first|(refine kK rfl E ?_)|(refine ko rfl (fun K J=>?_);obtain ⟨v3,u3,ba,Y,v4,u4,aq,ax,X⟩:=kE.kGm (P:=prog) (t:=31) underlying31 yg rfl bB8 bB8 G.out E (a0:=some ⟨wS.heap.size,0,none⟩) bB9 oc (oc - (k + 1)) 31 31 (q:=((k + 1) * 3)) (kl:=k) (rl:=(on - (k + 1))) tV HK.out.symm HR.out.symm;have ap:=(tQ E Y);refine kE.jP _ _ _ rfl bC1 bC1 ba ?_;refine J _ _ ap ?_;clear J K)
   all_goals refine kX ?_
   all_goals first|(refine kK rfl E ?_)|(refine ko rfl (fun K J=>?_);have R:=(tQ E X);refine kE.jP _ _ _ rfl bC1 bC1 aq ?_;refine J _ _ R ?_;clear J K)
   all_goals refine kX ?_
   all_goals refine kS ?_
   all_goals refine kZ ?_
   exact lN
 have U:=yD (F.out bB9)
 obtain ⟨s1,s2⟩:=ah.out (l[k].2.2 / 2) bB9
 have ae:=yD s1;have c4:=yD s2
 clear ac F ah s1 s2 G
 go_wp2
 go_ret
 exact ⟨_,rfl,((ae.out.cast U.out.symm).own qY).wide mM,E2.setCell af.1 _⟩
theorem kFh {w:World} {vl:Value} {l:List kT} (hl:(kE.slice 105 kL).rd w [vl] l) {cn:List Value} {n:kQ} (hn:kM.rd w cn n) {f:Int} (hf:-9223372036854775808≤f∧f≤9223372036854775807) :
    Calls prog 36 #[vl,.agg cn.toArray,.int .i64 f] w (kCk (kE.slice 105 kL) (kKb n f l) w):=by
 obtain ⟨HL,HN,bj⟩:=CP
 obtain ⟨nv,rfl,am⟩:=kU hn.1
 obtain ⟨na,np,rfl,_⟩:=kE.sl am
 clear am hl hn hf
 go_enter func36,ntmps36
 go_wp2_with fail
 generalize H:World.alloc w _=N
 obtain ⟨Z,K0,b8⟩:=uD
 clear H
 refine (kEi (HL.out.below Z)).mono ?_
 rintro e w1 ⟨v1,rfl,O1,O⟩
 replace K0:=cL O K0
 have E1:=(tQ Z O)
 have L:=yD O1
 obtain ⟨oa,on,oc,ho,bl⟩:=O1.parts;obtain rfl:=ho
 clear O1 O
 go_wp2_with fail
 refine (kHw (HL.out.1.below E1) (HN.out.1.below E1)).mono ?_
 rintro e V ⟨rfl,ab⟩
 have E2:=(tQ E1 ab)
 have az:=E1.size
 have an:=ab.size
 replace L:=yD ((L.out.below ab).wide (T:=jR w.heap.size V.heap.size) mR)
 clear ab E1 Z
 by_cases hk:idxOf (yj n f) l < 0
 · exact lM
 obtain ⟨k,aa,aj⟩:=kIa hk
 have bb:=yD aj
 rw [aj]
 clear hk aj
 obtain ⟨b,cap,hv,D⟩:=kE.kFm L.out aa
 simp only [Value.slice.injEq] at hv
 obtain ⟨rfl,ay,rfl⟩:=hv
 have a5:k < on:=bB9
 rw [List.drop_eq_getElem_cons aa] at D
 have ak:=D.len
 simp only [List.length_take,List.length_cons,List.length_drop] at ak
 obtain ⟨ao,a4,af,bg,G⟩:=CX
 clear D ak
 have a6:=yD (L.out.own bj)
 obtain ⟨c0,c1,c2,hr,A0,A1,A2⟩:=kE.at3 a6.out.raw aa rfl
 obtain ⟨rv,ag,al,ai,a1,a9⟩:=yU hr
 simp only [List.cons.injEq,and_true] at ag
 obtain ⟨rfl,rfl,rfl⟩:=ag
 have ac:=yD (recS_cut bb.out aa)
 have F:=yD (kVh bb.out aa)
 have ah:=yD (fun (v:Int) (hv:-9223372036854775808≤v∧v≤9223372036854775807)=>kE.kEg (i:=k) (j:=2) (p:=k * 3 + 2) (u:=.int .i64 v) L.out bj aa bB8 (fun h=>kEl v hv h) (show kL.bdd Big (yJ l[k] v) from kE.zM a6.out.rd aa) rfl)
 have bl:=yD ay
 clear ay hr al ai a1
 obtain ⟨a8,be⟩:=AR
 have b0:k≤oc:=bB9
 have br:=Go.IntWalk.i64_in ((k:Int) + 1) bB9
 have X:l[k].2.2 / 2 ^ (1:Nat)=l[k].2.2 / 2:=rfl
 obtain ⟨s1,s2⟩:=ah.out (l[k].2.2 / 2) bB9
 have ae:=yD s1;have c4:=yD s2
 have E:k < (l.set k (yJ l[k] (l[k].2.2 / 2))).length:=by simpa using aa
 have R:=kE.at3 (ae.out.own (by simpa [Big] using bj)).raw E rfl
 simp only [List.getElem_set_self] at R
 obtain ⟨d0,W,d2,R,B0,B1,B2⟩:=R
 obtain ⟨Y,aq,ar,ax,ap,bc⟩:=yU R
 simp only [List.cons.injEq,and_true] at aq
 obtain ⟨rfl,rfl,rfl⟩:=aq
 change _=some (Value.int IntKind.i64 (l[k].2.2 / 2)) at B2
 clear s1 s2 R ar ax ap bc ah G
 go_upto_region 6 with fail
 have E3:Below w.heap.size w (V.setCell ⟨b,k * 3 + 2,none⟩ (.int .i64 (l[k].2.2 / 2))):=E2.setCell af.1 _
 have a7:(V.setCell ⟨b,k * 3 + 2,none⟩ (.int .i64 (l[k].2.2 / 2))).heap.size=V.heap.size:=by simp [World.setCell]
 generalize bn:V.setCell ⟨b,k * 3 + 2,none⟩ (.int .i64 (l[k].2.2 / 2))=w3 at *
 clear bn X c4 A0 A1 A2 a6 L bg
 by_cases h2:l[k].2.2 < 2
 · have h3:l[k].2.2 / 2 < 1:=bB9
   have U:=yD (ac.out h2)
   clear ac F
   go_wp2_with fail
   refine (kKp ae.out (by simpa using bj) E).mono ?_
   rintro e w4 ⟨v4,rfl,O4,J⟩
   have HQ:Hid ((l.set k (yJ l[k] (l[k].2.2 / 2))).take k++(l.set k (yJ l[k] (l[k].2.2 / 2))).drop (k + 1)=kKb n f l):=yD (by
     rw [U.out,List.take_set_of_le nL,List.drop_set_of_lt (Nat.lt_succ_self _)])
   have aw:Hid ((kKb n f l).length≤16777216):=yD (by rw [U.out,List.length_append,List.length_take,List.length_drop];omega)
   have bt:=J.size
   have E4:Below w.heap.size w w4:=E3.trans (J.below bB9 (fun j I=>I.1))
   have au:=yD (O4.cast HQ.out)
   clear O4 J
   go_wp2
   go_ret
   exact ⟨_,rfl,(au.out.own aw.out).wide rE,E4⟩
 have h3:¬ l[k].2.2 / 2 < 1:=bB9
 have U:=yD (F.out bB9)
 clear ac F
 go_wp2
 go_ret
 exact ⟨_,rfl,((ae.out.cast U.out.symm).own qY).wide rE,E3⟩
end Go.Proofs.YtonmjkmaadgceaaGreat

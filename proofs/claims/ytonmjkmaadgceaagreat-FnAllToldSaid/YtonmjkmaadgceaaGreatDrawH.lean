/-
  What is believed, mostly, as the reference draws it.
-/
import Derived.Test.YtonmjkmaadgceaaGreatDrawK
import Derived.Test.YtonmjkmaadgceaaGreatDrawY
set_option linter.unusedVariables false
set_option linter.unusedSimpArgs false
set_option linter.unnecessarySimpa false
set_option maxRecDepth 100000
set_option maxHeartbeats 8000000
namespace Go.Proofs.YtonmjkmaadgceaaGreat
open Go.RowKit _root_.Go.Proofs.Tryz
theorem kDj {w:World} {cs:List Value} {t:jS} (h:je.raw w cs t):∃ a0 c0 a1 c1 a2 c2 a3 c3,cs=[.slice a0 t.1.length c0,.slice a1 t.2.1.length c1,.slice a2 t.2.2.1.length c2,.slice a3 t.2.2.2.length c3]:=by
 obtain ⟨v0,v1,v2,v3,rfl,bw,ba,b3,b5⟩:=zb h
 obtain ⟨a0,c0,rfl,_⟩:=kE.sl bw
 obtain ⟨a1,c1,rfl,_⟩:=kE.sl ba
 obtain ⟨a2,c2,rfl,_⟩:=kE.sl b3
 obtain ⟨a3,c3,rfl,_⟩:=kE.sl b5
 exact ⟨_,_,_,_,_,_,_,_,rfl⟩
theorem kSa {w:World} {v0 v1 v2 v3:Value} {t:jS} {S:Nat→Prop} (h:je.jY w [v0,v1,v2,v3] t S):(kE.slice 181 kGe).jY w [v0] t.1 S:=by
 obtain ⟨c,d,he,h1,h2⟩:=kE.kCx (r:=(kE.slice 181 kGe)) h
 have l1:=(kE.slice 181 kGe).len h1.1
 match c,l1 with
 | [u],_=>simp only [List.singleton_append,List.cons.injEq] at he;obtain ⟨rfl,_⟩:=he;exact h1
theorem data_parts {w:World} {c0 c1 c2 c3 c4:Value} {x:jG} {S:Nat→Prop} (h:jA.own w [c0,c1,c2,c3,c4] x S):∃ A B C:Nat→Prop,kM.own w [c0] x.1 A∧(kE.slice 5 kE.byte).own w [c1] x.2.1 B∧kM.own w [c2] x.2.2.1 C∧(∀ k,A k→S k)∧(∀ k,B k→S k)∧(∀ k,C k→S k)∧(∀ k,A k→B k→False)∧(∀ k,A k→C k→False)∧(∀ k,B k→C k→False):=by
 obtain ⟨a,d,A,T,he,h1,h2,hA,Y,hd⟩:=kE.kCe (r:=kM) (q:=.pair (kE.slice 5 kE.byte) (.pair kM (.pair .int .int))) h
 obtain ⟨b,d2,B,R,rfl,h3,h4,hB,D,al⟩:=kE.kCe (r:=(kE.slice 5 kE.byte)) (q:=.pair kM (.pair .int .int)) h2
 obtain ⟨c,d3,C,T3,rfl,h5,h6,hC,ab,V⟩:=kE.kCe (r:=kM) (q:=.pair .int .int) h4
 have l1:=kM.len h1.1;have l2:=(kE.slice 5 kE.byte).len h3.1;have l3:=kM.len h5.1
 match a,l1,b,l2,c,l3 with
 | [u],_,[v],_,[z],_ =>
   simp only [List.singleton_append,List.cons.injEq] at he
   obtain ⟨rfl,rfl,rfl,_⟩:=he
   exact ⟨A,B,C,h1,h3,h5,hA,fun k q=>Y k (hB k q),fun k q=>Y k (D k (hC k q)),fun k q1 q2=>hd k q1 (hB k q2),fun k q1 q2=>hd k q1 (D k (hC k q2)),fun k q1 q2=>al k q1 (hC k q2)⟩
theorem data_of {w:World} {c0 c1 c2:Value} {n k:kQ} {b:List UInt8} {f s:Int} {A B C S:Nat→Prop} (h0:kM.own w [c0] n A) (h1:(kE.slice 5 kE.byte).own w [c1] b B) (h2:kM.own w [c2] k C) (hf:-9223372036854775808≤f∧f≤9223372036854775807) (hs:-9223372036854775808≤s∧s≤9223372036854775807) (hA:∀ k,A k→S k) (hB:∀ k,B k→S k) (hC:∀ k,C k→S k) (D:∀ k,A k→B k→False) (J:∀ k,A k→C k→False) (E:∀ k,B k→C k→False):jA.own w [c0,c1,c2,.int .i64 f,.int .i64 s] (n,b,k,f,s) S :=
  kE.ja (r:=kM) (q:=.pair (kE.slice 5 kE.byte) (.pair kM (.pair .int .int))) (cs:=[c0]) (ds:=[c1,c2,.int .i64 f,.int .i64 s]) (A:=A) (B:=fun k=>B k∨C k) h0
    (kE.ja (r:=(kE.slice 5 kE.byte)) (q:=.pair kM (.pair .int .int)) (cs:=[c1]) (ds:=[c2,.int .i64 f,.int .i64 s]) (A:=B) (B:=C) h1 (kE.jw (r:=kM) (q:=.pair .int .int) (cs:=[c2]) (ds:=[.int .i64 f,.int .i64 s]) h2 (kE.jr (cs:=[.int .i64 f]) (kE.ky hf) (kE.ky hs))) (fun k=>.inl) (fun k=>.inr) E)
    hA (fun k q=>q.elim (hB k) (hC k)) (fun k q1 q2=>q2.elim (D k q1) (J k q1))
theorem kHc {w0 w:World} {p:Nat} (hc:yK w0 w p) {S:Nat→Prop} {ct:List Value} {tp:jS} (ht:je.jY w ct tp S) (hS:∀ k,S k→¬ k=p) :
    Calls prog 82 #[.pointer (some ⟨p,0,none⟩),.agg ct.toArray] w fun e w'=>kXj 10 w0 w p e w':=by
 obtain ⟨b7,cj⟩:=hc.lt
 obtain ⟨av,br,bd,bw,aw,bz,ag,bt,rfl⟩:=kDj ht.rd.1
 have af:=kSa ht
 have HK:Hid ((kE.slice 181 kGe).jY w _ _ (fun k=>S k∧k < w.heap.size)):=yD ⟨((kE.slice 181 kGe)).live af.1,af.2⟩
 clear af
 obtain ⟨t0,t1,t2,t3⟩:=tp
 simp only at HK
 clear ht
 go_enter func82,ntmps82
 go_upto_region 1 with fail
 generalize F:World.alloc (World.alloc w _) _=w1
 have hb:Below w.heap.size w w1:=by rw [← F];exact (bR.alloc nL _).alloc bC0 _
 have BX:w1.heap[w.heap.size]?=some (.cells #[.slice av t0.length br,.slice bd t1.length bw,.slice aw t2.length bz,.slice ag t3.length bt] 38 (0,0)):=sO
 have R:w1.heap[w.heap.size + 1]?=some (.cells #[.slice none 0 0,.slice none 0 0,.slice none 0 0,.int .i64 0,.int .i64 0] 43 (0,0)):=by rw [← F];exact kG bC0
 have bn:w.heap.size + 2≤w1.heap.size:=bA3
 clear F
 replace HK:=yD (HK.out.below hb)
 obtain ⟨hc,H⟩:=CQ
 clear hb
 go_wp2_with fail
 refine (zo (hc.below (bR.alloc nL _)) (kE.kAw _ [{ data:=#[97] },{ data:=#[98] }] bB8 bB8) bB9 bB8 bB8).mono ?_
 rintro e V ⟨y,al,a8,rfl,G,D⟩
 replace D:=(Touch.of_below (S:=fun k=>k=p) (bR.alloc nL _)).trans D
 have bo:=D.size
 obtain ⟨HK,BX,R⟩:=y7
 replace H:=H.trans D
 clear hc D
 have hc:=G
 clear G
 have a4:y.size≤3:=by simp only [List.mem_cons,List.not_mem_nil,or_false] at al;rcases al with rfl | rfl <;> decide
 clear al a8
 have b0:(({ data:=#[47] }:ByteArray)++y).size≤4:=dO
 go_wp2_with fail
 generalize ({ data:=#[47] }:ByteArray)++y=s1 at *
 refine (yP (s:=s1) bB9).mono ?_
 rintro e w3 ⟨za,zc,zs,rfl,hr,d1,hzs,hb⟩
 have bp:=hb.size
 obtain ⟨HK,BX,R⟩:=xV
 obtain ⟨hc,H⟩:=oP
 clear hb
 have HZ:=yD (hr)
 clear hr
 go_wp2_with fail
 refine (zo (hc.below (bR.alloc nL _)) (kE.kAw _ [{ data:=#[49] },{ data:=#[50] },{ data:=#[120,45,49] }] bB8 bB8) bB9 bB8 bB8).mono ?_
 rintro e w4 ⟨y2,al,a8,rfl,G,D⟩
 obtain ⟨D,b9⟩:=DN
 obtain ⟨HK,BX,R⟩:=y7
 replace HZ:=yD (HZ.out.touch D qB)
 replace H:=H.trans D
 clear hc D
 have hc:=G
 clear G
 have a6:=kE.kBz bB8 al
 clear al a8
 go_wp2_with fail
 refine (kCn (cn:=[.slice za zs.length zc]) HZ.out.rd (s:=y2) bB9 vV).mono ?_
 rintro e w5 ⟨na,nn,nc,b2,rfl,ab,cc,hb⟩
 have cd:=hb.size
 obtain ⟨HK,BX,R⟩:=xV
 replace HZ:=yD (HZ.out.below hb)
 obtain ⟨hc,H⟩:=oP
 clear hb
 have bf:(if b2 then zs++[y2] else zs).length≤65:=dE
 generalize (if b2 then zs++[y2] else zs)=qs at *
 obtain ⟨_,_,_,a1,a7⟩:=cc.parts
 simp only [Value.slice.injEq] at a1
 have c2:=a1.2.1.trans a7.out
 clear a1 a7 ab
 subst c2
 have co:=cc.own vV
 have HN:=yD (co)
 clear HZ
 clear cc co
 go_upto_region 3 with fail
 generalize F:World.alloc w5 _=w6
 have hb:Below w5.heap.size w5 w6:=rX
 have BN:w6.heap[w5.heap.size]?=some (.cells #[.slice na qs.length nc] 41 (0,0)):=tX
 have c8:w5.heap.size + 1≤w6.heap.size:=bA3
 clear F
 obtain ⟨HK,BX,R⟩:=xV
 replace HN:=yD (HN.out.below hb)
 obtain ⟨hc,H⟩:=oP
 clear hb
 have d6:(({ data:=#[47] }:ByteArray)++y).size≤4:=dO
 have dy:((({ data:=#[47] }:ByteArray)++y)++({ data:=#[47,107,101,121] }:ByteArray)).size≤8:=dF
 go_wp2_with fail
 generalize ({ data:=#[47] }:ByteArray)++y=s2 at *
 generalize s2++({ data:=#[47,107,101,121] }:ByteArray)=s3 at *
 refine (yP (s:=s3) bB9).mono ?_
 rintro e w7 ⟨ya,yc,ys,rfl,hr,dh,dr,hb⟩
 have dg:=hb.size
 obtain ⟨HK,BX,R⟩:=xV
 replace BN:=kD BN hb
 replace HN:=yD (HN.out.below hb)
 obtain ⟨hc,H⟩:=oP
 clear hb
 have HY:=yD (hr)
 clear hr b0 d6 dy dr
 go_upto_region 4 with fail
 generalize F:World.alloc w7 _=w8
 have hb:Below w7.heap.size w7 w8:=rX
 have BY:w8.heap[w7.heap.size]?=some (.cells #[.slice ya ys.length yc] 41 (0,0)):=tX
 have eg:w7.heap.size + 1≤w8.heap.size:=bA3
 clear F
 obtain ⟨HK,BX,R⟩:=xV
 replace BN:=kD BN hb
 replace HN:=yD (HN.out.below hb)
 replace HY:=yD (HY.out.below hb)
 obtain ⟨hc,H⟩:=oP
 clear hb
 go_wp2_with fail
 refine (zk (n:=6) hc bB8).mono ?_
 rintro e w9 ⟨b,rfl,G,D⟩
 have dm:=D.size
 obtain ⟨HK,BX,R⟩:=y7
 replace BN:=D.kD BN bB9
 replace BY:=D.kD BY bB9
 replace HN:=yD (HN.out.touch D qB)
 replace HY:=yD (HY.out.touch D qB)
 replace H:=H.trans D
 clear hc D
 have hc:=G
 clear G
 obtain ⟨yb,fk⟩:∃ b_,b_=w7.heap.size:=⟨_,rfl⟩
 rw [← fk] at BY ⊢
 have d5:=Nat.le_of_eq fk
 have d4:=Nat.le_of_eq fk.symm
 clear fk
 go_upto_if 29 with fail
 go_cut [] from 28 to 33 (fun wc=>∃ (ya:Option Addr) (yc:Nat) (ys:kQ),wc.heap[yb]?=some (.cells #[.slice ya ys.length yc] 41 (0,0))∧Hid (kM.jY wc [.slice ya ys.length yc] ys (fun k=>w.heap.size≤k∧k < wc.heap.size∧k≠yb))∧w9.heap.size≤wc.heap.size∧yK w0 wc p∧Touch (fun k=>k=p∨k=yb) w9 wc)
 case first =>
  cases b
  · go_wp2
    go_meet
    exact ⟨ya,yc,ys,BY,yD (HY.out.jY.wide fV),Nat.le_refl _,hc,Touch.of_below bR⟩
  have cv:Touch (fun k=>k=p∨k=yb) w9 w9:=Touch.of_below bR
  go_wp2_with fail
  refine (zo (hc.below (bR.alloc nL _)) (kE.kAw _ [{ data:=#[47,98,97,100,47,107,101,121] },{ data:=#[47,107,101,121,47,97] },{ data:=#[47,97,47,107,101,121] }] bB8 bB8) bB9 bB8 bB8).mono ?_
  rintro e b3 ⟨y3,al,a8,rfl,G,D⟩
  replace D:=(Touch.of_below (S:=fun k=>k=p) (bR.alloc nL _)).trans D
  have d0:=D.size
  obtain ⟨HK,BX,R⟩:=y7
  replace BN:=D.kD BN bB9
  replace BY:=D.kD BY bB9
  replace HN:=yD (HN.out.touch D qB)
  replace HY:=yD (HY.out.touch D qB)
  replace H:=H.trans D
  replace cv:=cv.trans (D.wide (fun k q=>.inl q))
  clear hc D
  have hc:=G
  clear G
  go_wp2_with fail
  refine (yP (kE.kBz bB8 al)).mono ?_
  rintro e cf ⟨va,vc,vs,rfl,hr,d2,d7,hb⟩
  have e6:=hb.size
  obtain ⟨HK,BX,R⟩:=xV
  replace BN:=kD BN hb
  replace BY:=kD BY hb
  replace HN:=yD (HN.out.below hb)
  replace HY:=yD (HY.out.below hb)
  obtain ⟨hc,H⟩:=oP
  replace cv:=cv.trans (Touch.of_below hb)
  clear hb
  have HV:=yD (hr)
  clear hr
  have be:cf.cell? ⟨yb,0,none⟩=some (.slice ya ys.length yc):=kF BY rfl
  have df:cf.frozen? ⟨yb,0,none⟩=false:=frozen_of_row cf (yb) 0 _ _ BY
  go_wp2
  generalize F:World.setCell cf _ _=cg
  have Y:Touch (fun k=>k=yb) cf cg:=by rw [← F];exact kC cf yb 0 _
  have de:cg.heap[yb]?=some (.cells #[.slice va vs.length vc] 41 (0,0)):=by rw [← F];exact kH BY 0
  have e8:=Y.size
  clear F
  go_meet
  exact ⟨va,vc,vs,de,yD ((HV.out.jY.touch Y sK).wide fU),by omega,hc.touch Y bB9 wG,cv.trans (Y.wide (fun k q=>.inr q))⟩
 rename World=>L
 clear BY HY hc
 obtain ⟨ya,yc,ys,BY,HY,d3,hc,TR⟩:=hcut
 replace BX:=TR.kD BX bB9
 replace R:=TR.kD R bB9
 replace BN:=TR.kD BN bB9
 replace HK:=yD (HK.out.touch TR (fun k q h=>by rcases h with h | h;exact hS k q.1 h;(have:=q.2;omega)))
 replace HN:=yD (HN.out.touch TR nO)
 replace H:=H.jZ TR wG
 clear TR
 have ej:=hc.lt.2
 have zw:=H.size
 go_upto_region 6 with fail
 go_cut [9] from 34 to 46 (fun s9 wd=>∃ (b:Nat) (ae:Option Addr) (ah:Nat) (ao:Option Addr) (ai:Nat) (am:Option Addr) (aj:Nat) (x:jG) (ok:Bool),s9=.pointer (some ⟨b,0,none⟩)∧wd.heap[b]?=some (.cells #[.slice ae x.1.length ah,.slice ao x.2.1.length ai,.slice am x.2.2.1.length aj,.int .i64 x.2.2.2.1,.int .i64 x.2.2.2.2] 43 (0,0))∧Hid (jA.own wd [.slice ae x.1.length ah,.slice ao x.2.1.length ai,.slice am x.2.2.1.length aj,.int .i64 x.2.2.2.1,.int .i64 x.2.2.2.2] x (fun k=>L.heap.size≤k∧k < wd.heap.size∧k≠b))∧x.2.1.length≤3∧L.heap.size≤b∧b < wd.heap.size∧yK w0 wd p∧Touch (fun k=>k=p) L wd)
 case first =>
  have FX:=yD (fun (W:World) (hW:Touch (fun k=>k=p) L W∧yK w0 W p)=>And.intro (kF (hW.1.kD BX bB9) (j:=0) (v:=.slice av t0.length br) rfl) (And.intro (kF (hW.1.kD BY bB9) (j:=0) (v:=.slice ya ys.length yc) rfl) (kF (hW.1.kD BN bB9) (j:=0) (v:=.slice na qs.length nc) rfl)))
  refine kAf (fun W=>Touch (fun k=>k=p) L W∧yK w0 W p) bB4 (⟨Touch.of_below bR.drew,hc.below bR.drew⟩) ?_
  intro t E
  have eb:=E.1.size
  refine jB 0 ?_
  refine kX ?_
  refine jB 1 ?_
  refine kX ?_
  refine jB 2 ?_
  refine kX ?_
  refine jB 3 ?_
  refine kX ?_
  refine jB 4 ?_
  refine kX ?_
  refine jB 5 ?_
  refine kX ?_
  refine kFp ?_
  intro T A Y hA
  have ak:∀ (xb:Int),∀ (ba:Option Addr),∀ (bc:Nat),∀ (U:List UInt8),∀ (ae:Option Addr),∀ (ah:Nat),∀ (ao:Option Addr),∀ (ai:Nat),∀ (am:Option Addr),∀ (aj:Nat),∀ (x:jG),∀ (ok:Bool),∀ (b:Nat),∀ (W:World),Touch (fun k=>k=p) L W∧yK w0 W p→(0≤xb)→(xb < 4)→(U.length≤3)→(Hid ((kE.slice 5 kE.byte).jY W [.slice ba U.length bc] U (fun k=>L.heap.size≤k∧k < W.heap.size∧k≠b)))→(x.2.1.length≤3)→(Hid (jA.own W [.slice ae x.1.length ah,.slice ao x.2.1.length ai,.slice am x.2.2.1.length aj,.int .i64 x.2.2.2.1,.int .i64 x.2.2.2.2] x (fun k=>L.heap.size≤k∧k < W.heap.size∧k≠b)))→(L.heap.size≤b∧b < W.heap.size)→(W.heap[b]?=some (.cells #[.slice ae x.1.length ah,.slice ao x.2.1.length ai,.slice am x.2.2.1.length aj,.int .i64 x.2.2.2.1,.int .i64 x.2.2.2.2] 43 (0,0)))→T 0 [true,true,true,true,true,true,true,true,true,true,true,true,true,true,true] (Act.put (Act.put (Act.put (Act.put (Act.put (Act.put (Act.put (Act.put A (some 41) (.int .i64 xb)) (some 42) (.slice ba U.length bc)) (some 43) (.tuple #[.agg #[.slice ae x.1.length ah,.slice ao x.2.1.length ai,.slice am x.2.2.1.length aj,.int .i64 x.2.2.2.1,.int .i64 x.2.2.2.2],.bool ok])) (some 34) (.tuple #[.agg #[.slice ae x.1.length ah,.slice ao x.2.1.length ai,.slice am x.2.2.1.length aj,.int .i64 x.2.2.2.1,.int .i64 x.2.2.2.2],.bool ok])) (some 44) (.agg #[.slice ae x.1.length ah,.slice ao x.2.1.length ai,.slice am x.2.2.1.length aj,.int .i64 x.2.2.2.1,.int .i64 x.2.2.2.2])) (some 45) (.bool ok)) (some 9) (.pointer (some ⟨b,0,none⟩))) (some 10) (.bool ok)) W:=by
   intro xb ba bc U ae ah ao ai am aj x ok b W E ax Z bk HB ci HQ N BB
   have b6:=E.1.size
   subst Y
   subst hA
   simp only [Act.put,zA,zB,zC]
   refine yR bB4 ?_
   go_wp2
   go_meet
   exact ⟨b,ae,ah,ao,ai,am,aj,x,ok,rfl,BB,HQ,ci,N.1,N.2,E.2,E.1⟩
  have aa:∀ (xb:Int),∀ (ba:Option Addr),∀ (bc:Nat),∀ (U:List UInt8),∀ (ae:Option Addr),∀ (ah:Nat),∀ (ao:Option Addr),∀ (ai:Nat),∀ (am:Option Addr),∀ (aj:Nat),∀ (x:jG),∀ (ok:Bool),∀ (b:Nat),∀ (W:World),Touch (fun k=>k=p) L W∧yK w0 W p→(0≤xb)→(xb < 4)→(U.length≤3)→(Hid ((kE.slice 5 kE.byte).jY W [.slice ba U.length bc] U (fun k=>L.heap.size≤k∧k < W.heap.size∧k≠b)))→(x.2.1.length≤3)→(Hid (jA.own W [.slice ae x.1.length ah,.slice ao x.2.1.length ai,.slice am x.2.2.1.length aj,.int .i64 x.2.2.2.1,.int .i64 x.2.2.2.2] x (fun k=>L.heap.size≤k∧k < W.heap.size∧k≠b)))→(L.heap.size≤b∧b < W.heap.size)→(W.heap[b]?=some (.cells #[.slice none 0 0,.slice none 0 0,.slice none 0 0,.int .i64 0,.int .i64 0] 43 (0,0)))→T 2 [true,true,true,true,true,true,true,true,true,true,true,true,true,false,false] (Act.put (Act.put (Act.put (Act.put (Act.put (Act.put (Act.put A (some 41) (.int .i64 xb)) (some 42) (.slice ba U.length bc)) (some 43) (.tuple #[.agg #[.slice ae x.1.length ah,.slice ao x.2.1.length ai,.slice am x.2.2.1.length aj,.int .i64 x.2.2.2.1,.int .i64 x.2.2.2.2],.bool ok])) (some 34) (.tuple #[.agg #[.slice ae x.1.length ah,.slice ao x.2.1.length ai,.slice am x.2.2.1.length aj,.int .i64 x.2.2.2.1,.int .i64 x.2.2.2.2],.bool ok])) (some 44) (.agg #[.slice ae x.1.length ah,.slice ao x.2.1.length ai,.slice am x.2.2.1.length aj,.int .i64 x.2.2.2.1,.int .i64 x.2.2.2.2])) (some 45) (.bool ok)) (some 9) (.pointer (some ⟨b,0,none⟩))) W:=by
   intro xb ba bc U ae ah ao ai am aj x ok b W E ax Z bk HB ci HQ N BB
   have b6:=E.1.size
   subst Y
   subst hA
   simp only [Act.put,zA,zB,zC]
   refine kY (k:=13) rfl bB4 rfl (fun K J=>?_)
   obtain ⟨dp,du,dx,dv,dj⟩:=jU BB
   obtain ⟨dq,c5,dl,dk,cu⟩:=zh BB
   go_simp
   generalize F:World.setCell (World.setCell (World.setCell (World.setCell (World.setCell W _ _) _ _) _ _) _ _) _ _=v
   obtain ⟨Y,BB⟩:=vB
   clear F dp dq du c5 dx dl dv dk dj cu
   have zv:=Y.size
   replace HB:Hid ((kE.slice 5 kE.byte).jY v [.slice ba U.length bc] U (fun k=>L.heap.size≤k∧k < v.heap.size∧k≠b)):=yD ((HB.out.touch Y (fun k q h=>q.2.2 h)).wide (fun k q=>⟨q.1,Nat.lt_of_lt_of_le q.2.1 Y.size,q.2.2⟩))
   replace HQ:Hid (jA.own v [.slice ae x.1.length ah,.slice ao x.2.1.length ai,.slice am x.2.2.1.length aj,.int .i64 x.2.2.2.1,.int .i64 x.2.2.2.2] x (fun k=>L.heap.size≤k∧k < v.heap.size∧k≠b)):=yD ((HQ.out.touch Y (fun k q h=>q.2.2 h)).wide (fun k q=>⟨q.1,Nat.lt_of_lt_of_le q.2.1 Y.size,q.2.2⟩))
   replace N:L.heap.size≤b∧b < v.heap.size:=⟨N.1,Nat.lt_of_lt_of_le N.2 Y.size⟩
   replace E:=And.intro (E.1.jJ Y bB9) (E.2.touch Y bB9 qK)
   refine J _ _ E ?_
   clear J K
   refine kX ?_
   refine jB 14 ?_
   refine kX ?_
   have h_:=ak xb ba bc U ae ah ao ai am aj x ok b v E ax Z bk HB ci HQ N BB
   exact dD
  have cz:∀ (xb:Int),∀ (ba:Option Addr),∀ (bc:Nat),∀ (U:List UInt8),∀ (ae:Option Addr),∀ (ah:Nat),∀ (ao:Option Addr),∀ (ai:Nat),∀ (am:Option Addr),∀ (aj:Nat),∀ (x:jG),∀ (ok:Bool),∀ (W:World),Touch (fun k=>k=p) L W∧yK w0 W p→(0≤xb)→(xb < 4)→(U.length≤3)→(Hid ((kE.slice 5 kE.byte).jY W [.slice ba U.length bc] U (fun k=>L.heap.size≤k∧k < W.heap.size∧k≠p)))→(x.2.1.length≤3)→(Hid (jA.own W [.slice ae x.1.length ah,.slice ao x.2.1.length ai,.slice am x.2.2.1.length aj,.int .i64 x.2.2.2.1,.int .i64 x.2.2.2.2] x (fun k=>L.heap.size≤k∧k < W.heap.size∧k≠p)))→T 3 [true,true,true,true,true,true,true,true,true,true,true,true,false,false,false] (Act.put (Act.put (Act.put (Act.put (Act.put (Act.put A (some 41) (.int .i64 xb)) (some 42) (.slice ba U.length bc)) (some 43) (.tuple #[.agg #[.slice ae x.1.length ah,.slice ao x.2.1.length ai,.slice am x.2.2.1.length aj,.int .i64 x.2.2.2.1,.int .i64 x.2.2.2.2],.bool ok])) (some 34) (.tuple #[.agg #[.slice ae x.1.length ah,.slice ao x.2.1.length ai,.slice am x.2.2.1.length aj,.int .i64 x.2.2.2.1,.int .i64 x.2.2.2.2],.bool ok])) (some 44) (.agg #[.slice ae x.1.length ah,.slice ao x.2.1.length ai,.slice am x.2.2.1.length aj,.int .i64 x.2.2.2.1,.int .i64 x.2.2.2.2])) (some 45) (.bool ok)) W:=by
   intro xb ba bc U ae ah ao ai am aj x ok W E ax Z bk HB ci HQ
   have b6:=E.1.size
   subst Y
   subst hA
   simp only [Act.put,zA,zB,zC]
   refine kY (k:=12) rfl bB4 rfl (fun K J=>?_)
   go_simp
   generalize F:World.alloc W _=v
   obtain ⟨hb,BB,zv⟩:=oN
   clear F
   obtain ⟨b,ay⟩:∃ b_,b_=W.heap.size:=⟨_,rfl⟩
   rw [← ay] at BB ⊢
   replace HB:Hid ((kE.slice 5 kE.byte).jY v [.slice ba U.length bc] U (fun k=>L.heap.size≤k∧k < v.heap.size∧k≠b)):=yD ((HB.out.below hb).wide dK)
   replace HQ:Hid (jA.own v [.slice ae x.1.length ah,.slice ao x.2.1.length ai,.slice am x.2.2.1.length aj,.int .i64 x.2.2.2.1,.int .i64 x.2.2.2.2] x (fun k=>L.heap.size≤k∧k < v.heap.size∧k≠b)):=yD ((HQ.out.below hb).wide dK)
   obtain ⟨N,E⟩:=xA
   refine J _ _ E ?_
   clear J K
   exact dG
  have ap:∀ (xb:Int),∀ (ba:Option Addr),∀ (bc:Nat),∀ (U:List UInt8),∀ (b:Nat),∀ (W:World),Touch (fun k=>k=p) L W∧yK w0 W p→(0≤xb)→(xb < 4)→(U.length≤3)→(Hid ((kE.slice 5 kE.byte).jY W [.slice ba U.length bc] U (fun k=>L.heap.size≤k∧k < W.heap.size∧k≠b)))→(L.heap.size≤b∧b < W.heap.size)→(W.heap[b]?=some (.cells #[.slice none 0 0,.slice none 0 0,.slice none 0 0,.int .i64 0,.int .i64 0] 43 (0,0)))→T 6 [true,true,true,true,true,true,true,true,false,false,false,false,true,false,false] (Act.put (Act.put (Act.put A (some 41) (.int .i64 xb)) (some 42) (.slice ba U.length bc)) (some 9) (.pointer (some ⟨b,0,none⟩))) W:=by
   intro xb ba bc U b W E ax Z bk HB N BB
   have b6:=E.1.size
   subst Y
   subst hA
   simp only [Act.put,zA,zB,zC]
   refine kY (k:=8) rfl bB4 rfl (fun K J=>?_)
   go_simp
   refine (kAs (l:=t0) (HK.out.touch E.1 (fun k q h=>hS k q.1 h)).rd.1 (cb:=[.slice ya ys.length yc]) (HY.out.touch E.1 sK).rd (cn:=[.slice na qs.length nc]) (HN.out.touch E.1 pE).rd HB.out.rd bB9 (tl:=4000) bB8).mono ?_
   rintro e v ⟨ds,x,ok,rfl,hO,dd,hb⟩
   have zv:=hb.size
   have c6:=N.2
   replace HB:Hid ((kE.slice 5 kE.byte).jY v [.slice ba U.length bc] U (fun k=>L.heap.size≤k∧k < v.heap.size∧k≠b)):=yD ((HB.out.below hb).wide (fun k q=>⟨q.1,Nat.lt_of_lt_of_le q.2.1 hb.size,q.2.2⟩))
   replace BB:=kD BB hb
   replace N:L.heap.size≤b∧b < v.heap.size:=⟨N.1,Nat.lt_of_lt_of_le N.2 hb.size⟩
   obtain ⟨ae,ah,ao,ai,am,aj,rfl⟩:=yN hO.raw
   have ci:x.2.1.length≤3:=bB9
   have HQ:Hid (jA.own v [.slice ae x.1.length ah,.slice ao x.2.1.length ai,.slice am x.2.2.1.length aj,.int .i64 x.2.2.2.1,.int .i64 x.2.2.2.2] x (fun k=>L.heap.size≤k∧k < v.heap.size∧k≠b)):=yD (hO.wide gU)
   replace E:=And.intro (E.1.trans (Touch.of_below hb)) (E.2.below hb)
   refine J _ _ E ?_
   clear J K
   refine kX ?_
   refine jB 9 ?_
   refine kX ?_
   refine jB 10 ?_
   refine kX ?_
   refine jB 11 ?_
   exact dG
  have c3:∀ (xb:Int),∀ (ba:Option Addr),∀ (bc:Nat),∀ (U:List UInt8),∀ (W:World),Touch (fun k=>k=p) L W∧yK w0 W p→(0≤xb)→(xb < 4)→(U.length≤3)→(Hid ((kE.slice 5 kE.byte).jY W [.slice ba U.length bc] U (fun k=>L.heap.size≤k∧k < W.heap.size∧k≠p)))→T 7 [true,true,true,true,true,true,true,true,false,false,false,false,false,false,false] (Act.put (Act.put A (some 41) (.int .i64 xb)) (some 42) (.slice ba U.length bc)) W:=by
   intro xb ba bc U W E ax Z bk HB
   have b6:=E.1.size
   subst Y
   subst hA
   simp only [Act.put,zA,zB,zC]
   refine yG (i:=8) (j:=12) rfl rfl bB4 rfl rfl (fun K J=>?_) (fun K J=>?_)
   · go_simp
     refine (kAs (l:=t0) (HK.out.touch E.1 (fun k q h=>hS k q.1 h)).rd.1 (cb:=[.slice ya ys.length yc]) (HY.out.touch E.1 sK).rd (cn:=[.slice na qs.length nc]) (HN.out.touch E.1 pE).rd HB.out.rd bB9 (tl:=4000) bB8).mono ?_
     rintro e v ⟨ds,x,ok,rfl,hO,dd,hb⟩
     have zv:=hb.size
     replace HB:Hid ((kE.slice 5 kE.byte).jY v [.slice ba U.length bc] U (fun k=>L.heap.size≤k∧k < v.heap.size∧k≠p)):=yD ((HB.out.below hb).wide (fun k q=>⟨q.1,Nat.lt_of_lt_of_le q.2.1 hb.size,q.2.2⟩))
     obtain ⟨ae,ah,ao,ai,am,aj,rfl⟩:=yN hO.raw
     have ci:x.2.1.length≤3:=bB9
     have HQ:Hid (jA.own v [.slice ae x.1.length ah,.slice ao x.2.1.length ai,.slice am x.2.2.1.length aj,.int .i64 x.2.2.2.1,.int .i64 x.2.2.2.2] x (fun k=>L.heap.size≤k∧k < v.heap.size∧k≠p)):=yD (hO.wide gU)
     replace E:=And.intro (E.1.trans (Touch.of_below hb)) (E.2.below hb)
     refine J _ _ E ?_
     clear J K
     refine kX ?_
     refine jB 9 ?_
     refine kX ?_
     refine jB 10 ?_
     refine kX ?_
     refine jB 11 ?_
     refine kX ?_
     have h_:=cz xb ba bc U ae ah ao ai am aj x ok v E ax Z bk HB ci HQ
     exact dD
   go_simp
   generalize F:World.alloc W _=v
   obtain ⟨hb,BB,zv⟩:=oN
   clear F
   obtain ⟨b,ay⟩:∃ b_,b_=W.heap.size:=⟨_,rfl⟩
   rw [← ay] at BB ⊢
   replace HB:Hid ((kE.slice 5 kE.byte).jY v [.slice ba U.length bc] U (fun k=>L.heap.size≤k∧k < v.heap.size∧k≠b)):=yD ((HB.out.below hb).wide dK)
   obtain ⟨N,E⟩:=xA
   exact dH
  have cq:∀ (xb:Int),∀ (b:Nat),∀ (W:World),Touch (fun k=>k=p) L W∧yK w0 W p→(0≤xb)→(xb < 4)→(L.heap.size≤b∧b < W.heap.size)→(W.heap[b]?=some (.cells #[.slice none 0 0,.slice none 0 0,.slice none 0 0,.int .i64 0,.int .i64 0] 43 (0,0)))→T 7 [true,true,true,true,true,true,true,false,false,false,false,false,true,false,false] (Act.put (Act.put A (some 41) (.int .i64 xb)) (some 9) (.pointer (some ⟨b,0,none⟩))) W:=by
   intro xb b W E ax Z N BB
   have b6:=E.1.size
   subst Y
   subst hA
   simp only [Act.put,zA,zB,zC]
   refine kY (k:=7) rfl bB4 rfl (fun K J=>?_)
   go_simp
   refine (kBs E.2 ax bB9).mono ?_
   rintro e v ⟨ba,bc,U,rfl,ck,hO,G,D⟩
   have zv:=D.size
   have c6:=N.2
   replace BB:=D.kD BB bB9
   replace N:L.heap.size≤b∧b < v.heap.size:=⟨N.1,Nat.lt_of_lt_of_le N.2 D.size⟩
   have bk:U.length≤3:=bB9
   have HB:Hid ((kE.slice 5 kE.byte).jY v [.slice ba U.length bc] U (fun k=>L.heap.size≤k∧k < v.heap.size∧k≠b)):=yD (hO.jY.wide gU)
   replace E:=And.intro (E.1.trans D) G
   exact dH
  have T6:∀ (xb:Int),∀ (W:World),Touch (fun k=>k=p) L W∧yK w0 W p→(0≤xb)→(xb < 4)→T 8 [true,true,true,true,true,true,true,false,false,false,false,false,false,false,false] (Act.put A (some 41) (.int .i64 xb)) W:=by
   intro xb W E ax Z
   have b6:=E.1.size
   subst Y
   subst hA
   simp only [Act.put,zA,zB,zC]
   refine yG (i:=7) (j:=12) rfl rfl bB4 rfl rfl (fun K J=>?_) (fun K J=>?_)
   · go_simp
     refine (kBs E.2 ax bB9).mono ?_
     rintro e v ⟨ba,bc,U,rfl,ck,hO,G,D⟩
     have zv:=D.size
     have bk:U.length≤3:=bB9
     have HB:Hid ((kE.slice 5 kE.byte).jY v [.slice ba U.length bc] U (fun k=>L.heap.size≤k∧k < v.heap.size∧k≠p)):=yD (hO.jY.wide gU)
     replace E:=And.intro (E.1.trans D) G
     refine J _ _ E ?_
     clear J K
     refine kX ?_
     have h_:=c3 xb ba bc U v E ax Z bk HB
     exact dD
   go_simp
   generalize F:World.alloc W _=v
   obtain ⟨hb,BB,zv⟩:=oN
   clear F
   obtain ⟨b,ay⟩:∃ b_,b_=W.heap.size:=⟨_,rfl⟩
   rw [← ay] at BB ⊢
   obtain ⟨N,E⟩:=xA
   exact dQ
  have dn:∀ (b:Nat),∀ (W:World),Touch (fun k=>k=p) L W∧yK w0 W p→(L.heap.size≤b∧b < W.heap.size)→(W.heap[b]?=some (.cells #[.slice none 0 0,.slice none 0 0,.slice none 0 0,.int .i64 0,.int .i64 0] 43 (0,0)))→T 8 [true,true,true,true,true,true,false,false,false,false,false,false,true,false,false] (Act.put A (some 9) (.pointer (some ⟨b,0,none⟩))) W:=by
   intro b W E N BB
   have b6:=E.1.size
   subst Y
   subst hA
   simp only [Act.put,zA,zB,zC]
   refine kY (k:=6) rfl bB4 rfl (fun K J=>?_)
   go_simp
   refine (kV (n:=4) E.2 bB8).mono ?_
   rintro e v ⟨xb,ax,Z,b4,rfl,G,D⟩
   have zv:=D.size
   have c6:=N.2
   replace BB:=D.kD BB bB9
   replace N:L.heap.size≤b∧b < v.heap.size:=⟨N.1,Nat.lt_of_lt_of_le N.2 D.size⟩
   replace Z:=Z bB8
   clear b4
   replace E:=And.intro (E.1.trans D) G
   exact dQ
  subst Y
  subst hA
  refine yG (i:=6) (j:=12) rfl rfl bB4 rfl rfl (fun K J=>?_) (fun K J=>?_)
  · go_simp
    refine (kV (n:=4) E.2 bB8).mono ?_
    rintro e v ⟨xb,ax,Z,b4,rfl,G,D⟩
    have zv:=D.size
    replace Z:=Z bB8
    clear b4
    replace E:=And.intro (E.1.trans D) G
    refine J _ _ E ?_
    clear J K
    refine kX ?_
    have h_:=T6 xb v E ax Z
    exact dD
  go_simp
  generalize F:World.alloc t _=v
  obtain ⟨hb,BB,zv⟩:=p8
  clear F
  obtain ⟨b,ay⟩:∃ b_,b_=t.heap.size:=⟨_,rfl⟩
  rw [← ay] at BB ⊢
  obtain ⟨N,E⟩:=xA
  refine J _ _ E ?_
  clear J K
  refine kX ?_
  have h_:=dn b v E N BB
  exact dD
 rename World=>wd
 obtain ⟨b,ae,ah,ao,ai,am,aj,x,ok,rfl,BQ,HQ,ci,dc,O,da,ce⟩:=hcut
 replace R:=ce.kD R bB9
 replace H:=H.trans ce
 clear hc BX BN BY HK HN HY
 have hc:=da
 have zd:=ce.size
 clear da ce
 have cw:=data_rng HQ.out.raw
 go_wp2_with fail
 refine (zk (n:=8) hc bB8).mono ?_
 rintro e c1 ⟨b1,rfl,G,D⟩
 have dw:=D.size
 replace R:=D.kD R bB9
 replace BQ:=D.kD BQ bB9
 replace HQ:=yD (HQ.out.touch D qB)
 replace H:=H.trans D
 clear hc D
 have hc:=G
 clear G
 cases b1
 · replace HQ:=yD (HQ.out.wide (T:=fun k=>L.heap.size≤k∧k < c1.heap.size∧k≠b) pQ)
   obtain ⟨ac,au,bi,bm,bv⟩:=jU R
   obtain ⟨bx,b5,b8,bg,ch⟩:=jU BQ
   obtain ⟨aq,ar,bh,bl,bu⟩:=zh R
   go_wp2
   refine bodyPost_ret (v:=.agg #[.slice ae x.1.length ah,.slice ao x.2.1.length ai,.slice am x.2.2.1.length aj,.int .i64 x.2.2.2.1,.int .i64 x.2.2.2.2]) fT rfl ⟨[.slice ae x.1.length ah,.slice ao x.2.1.length ai,.slice am x.2.2.1.length aj,.int .i64 x.2.2.2.1,.int .i64 x.2.2.2.2],x,rfl,?_,by omega,hc.touch (((((kC _ _ _ _).trans (kC _ _ _ _)).trans (kC _ _ _ _)).trans (kC _ _ _ _)).trans (kC _ _ _ _)) bB9 wB,H.jJ (((((kC _ _ _ _).trans (kC _ _ _ _)).trans (kC _ _ _ _)).trans (kC _ _ _ _)).trans (kC _ _ _ _)) bB9⟩
   exact (HQ.out.touch (T:=fun k=>k=w.heap.size + 1) (((((kC _ _ _ _).trans (kC _ _ _ _)).trans (kC _ _ _ _)).trans (kC _ _ _ _)).trans (kC _ _ _ _)) sK).wide (T:=jR w.heap.size _) fF
 obtain ⟨A_,B_,C_,hA,hB,hC,sA,sB,sC,dt,dz,c4⟩:=data_parts HQ.out
 obtain ⟨bx,b5,b8,bg,ch⟩:=jU BQ
 obtain ⟨bj,a2,az,cl,a3⟩:=zh BQ
 go_wp2_with (at_builtin;refine kE.zO rfl _ _ 22 rfl (r:=kE.byte) (e:=5) underlying22 kBl rfl bB8 bB8 (w:=c1) hB bR (kIf (x:=1) rfl) bC1 bC1 (fun _ _ h=>h) bB9 ?_)
 intro v9 w9 a5 an
 have dm:=an.size
 have db:=yD (show (x.2.1++[(1:UInt8)]).length≤4 by simp;omega)
 generalize x.2.1++[(1:UInt8)]=bq at *
 obtain ⟨a9,c9,bb,_⟩:=kE.kAx a5.raw
 obtain rfl:v9=_:=by simpa using bb
 have ht:Touch (fun k=>L.heap.size≤k∧k < c1.heap.size∧k≠b) c1 w9:=an.wide (fun k q=>⟨(sB k q.1).1,q.2,(sB k q.1).2.2⟩)
 have HD:=yD (data_of (S:=fun k=>L.heap.size≤k∧k < w9.heap.size∧k≠b) (hA.touch an (fun k q h=>dt k q h.1)) a5 (hC.touch an (fun k q h=>c4 k h.1 q)) cw.1 cw.2 (fun k q=>⟨(sA k q).1,by have:=(sA k q).2.1;omega,(sA k q).2.2⟩) (fun k q=>by rcases q with q | q;exact ⟨(sB k q).1,by have:=(sB k q).2.1;omega,(sB k q).2.2⟩;exact ⟨by have:=q.1;omega,q.2,by have:=q.1;omega⟩) (fun k q=>⟨(sC k q).1,by have:=(sC k q).2.1;omega,(sC k q).2.2⟩) (fun k q1 q2=>by rcases q2 with q2 | q2;exact dt k q1 q2;(have h1:=(sA k q1).2.1;have h2:=q2.1;omega)) dz (fun k q1 q2=>by rcases q1 with q1 | q1;exact c4 k q1 q2;(have h1:=(sC k q2).2.1;have h2:=q1.1;omega)))
 clear hA hB hC a5 HQ bx b5 b8 bg ch bj a2 az cl a3
 replace R:=ht.kD R bB9
 replace BQ:=ht.kD BQ bB9
 replace hc:=hc.touch ht bB9 sZ
 replace H:=H.kBj (ht.wide (T:=fun k=>L.heap.size≤k) (fun k q=>q.1)) wG
 clear ht an
 obtain ⟨bx,b5,b8,bg,ch⟩:=jU BQ
 obtain ⟨bj,a2,az,cl,a3⟩:=zh BQ
 go_upto_region 9 with fail
 clear bx b5 b8 bg ch bj a2 az cl a3
 generalize F:World.setCell w9 _ _=c7
 have X:Touch (fun k=>k=b) w9 c7:=by rw [← F];exact kC w9 (b) 1 _
 replace BQ:c7.heap[b]?=some (.cells #[.slice ae x.1.length ah,.slice a9 bq.length c9,.slice am x.2.2.1.length aj,.int .i64 x.2.2.2.1,.int .i64 x.2.2.2.2] 43 (0,0)):=by rw [← F];exact kH BQ 1
 have di:=X.size
 clear F
 replace R:=X.kD R bB9
 replace HD:=yD (HD.out.touch X qB)
 replace hc:=hc.touch X bB9 wB
 replace H:=H.jJ X bB9
 clear X
 obtain ⟨ac,au,bi,bm,bv⟩:=jU R
 obtain ⟨bx,b5,b8,bg,ch⟩:=jU BQ
 obtain ⟨aq,ar,bh,bl,bu⟩:=zh R
 go_wp2
 refine bodyPost_ret (v:=.agg #[.slice ae x.1.length ah,.slice a9 bq.length c9,.slice am x.2.2.1.length aj,.int .i64 x.2.2.2.1,.int .i64 x.2.2.2.2]) fT rfl ⟨[.slice ae x.1.length ah,.slice a9 bq.length c9,.slice am x.2.2.1.length aj,.int .i64 x.2.2.2.1,.int .i64 x.2.2.2.2],(x.1,bq,x.2.2.1,x.2.2.2.1,x.2.2.2.2),rfl,?_,(by have:=db.out;show bq.length≤10;omega),hc.touch (((((kC _ _ _ _).trans (kC _ _ _ _)).trans (kC _ _ _ _)).trans (kC _ _ _ _)).trans (kC _ _ _ _)) bB9 wB,H.jJ (((((kC _ _ _ _).trans (kC _ _ _ _)).trans (kC _ _ _ _)).trans (kC _ _ _ _)).trans (kC _ _ _ _)) bB9⟩
 exact (HD.out.touch (T:=fun k=>k=w.heap.size + 1) (((((kC _ _ _ _).trans (kC _ _ _ _)).trans (kC _ _ _ _)).trans (kC _ _ _ _)).trans (kC _ _ _ _)) sK).wide (T:=jR w.heap.size _) fF
end Go.Proofs.YtonmjkmaadgceaaGreat

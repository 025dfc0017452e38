/-
  What is believed, mostly, as the reference draws it.
-/
import Derived.Test.YtjhfdpopkkmigaaGreatDrawK
import Derived.Test.YtjhfdpopkkmigaaGreatDrawY
set_option linter.unusedVariables false
set_option linter.unusedSimpArgs false
set_option linter.unnecessarySimpa false
set_option maxRecDepth 100000
set_option maxHeartbeats 8000000
open Bool renaming true->Tt,false->Ff
open Go.Act renaming put->Aa
open _root_ renaming Option->Ab,ByteArray->Ac,UInt8->Ai
open Go renaming World->Ad,Addr->Ag
open List renaming singleton_append->Ae
open List.cons renaming injEq->Ah
namespace Go.Proofs.YtjhfdpopkkmigaaGreat
open Go.RowKit _root_.Go.Proofs.Tryz
theorem kGf {w:Ad} {cs:List Value} {t:kBu} (h:kAy.raw w cs t):∃ a0 c0 a1 c1 a2 c2 a3 c3,cs=[.slice a0 t.1.length c0,.slice a1 t.2.1.length c1,.slice a2 t.2.2.1.length c2,.slice a3 t.2.2.2.length c3]:=by
 obtain ⟨v0,v1,v2,v3,rfl,ac,Z,ao,ai⟩:=kQw h;obtain ⟨a0,c0,rfl,_⟩:=kD.sl ac;obtain ⟨a1,c1,rfl,_⟩:=kD.sl Z;obtain ⟨a2,c2,rfl,_⟩:=kD.sl ao;obtain ⟨a3,c3,rfl,_⟩:=kD.sl ai;exact ⟨_,_,_,_,_,_,_,_,rfl⟩
theorem trust_keys {w:Ad} {v0 v1 v2 v3:Value} {t:kBu} {S:Nat->Prop} (h:kAy.ji w [v0,v1,v2,v3] t S):(kD.slice 199 kJh).ji w [v0] t.1 S:=by
 obtain ⟨c,d,he,h1,h2⟩:=kD.kFe (r:=(kD.slice 199 kJh)) h;have l1:=(kD.slice 199 kJh).len h1.1
 match c,l1 with
 | [u],_=>simp only [Ae,Ah] at he;obtain ⟨rfl,_⟩:=he;exact h1
theorem data_parts {w:Ad} {c0 c1 c2 c3 c4:Value} {x:jL} {S:Nat->Prop} (h:jF.own w [c0,c1,c2,c3,c4] x S):∃ A B C:Nat->Prop,kW.own w [c0] x.1 A/\(kD.slice 5 kD.byte).own w [c1] x.2.1 B/\kW.own w [c2] x.2.2.1 C/\(∀ k,A k->S k)/\(∀ k,B k->S k)/\(∀ k,C k->S k)/\(∀ k,A k->B k->False)/\(∀ k,A k->C k->False)/\(∀ k,B k->C k->False):=by
 obtain ⟨a,d,A,T,he,h1,h2,hA,N,hd⟩:=kD.kEd (r:=kW) (q:=.pair (kD.slice 5 kD.byte) (.pair kW (.pair .int .int))) h;obtain ⟨b,O,B,T2,rfl,h3,h4,hB,o,al⟩:=kD.kEd (r:=(kD.slice 5 kD.byte)) (q:=.pair kW (.pair .int .int)) h2;obtain ⟨c,R,C,T3,rfl,h5,h6,hC,ae,an⟩:=kD.kEd (r:=kW) (q:=.pair .int .int) h4;have l1:=kW.len h1.1;have l2:=(kD.slice 5 kD.byte).len h3.1;have l3:=kW.len h5.1
 match a,l1,b,l2,c,l3 with
 | [u],_,[v],_,[z],_ =>
   simp only [Ae,Ah] at he;obtain ⟨rfl,rfl,rfl,_⟩:=he;exact ⟨A,B,C,h1,h3,h5,hA,λk q=>N k (hB k q),λk q=>N k (o k (hC k q)),λk q1 q2=>hd k q1 (hB k q2),λk q1 q2=>hd k q1 (o k (hC k q2)),λk q1 q2=>al k q1 (hC k q2)⟩
theorem data_of {w:Ad} {c0 c1 c2:Value} {n k:kr} {b:List Ai} {f s:Int} {A B C S:Nat->Prop} (h0:kW.own w [c0] n A) (h1:(kD.slice 5 kD.byte).own w [c1] b B) (h2:kW.own w [c2] k C) (hf:-9223372036854775808<=f/\f<=9223372036854775807) (hs:-9223372036854775808<=s/\s<=9223372036854775807) (hA:∀ k,A k->S k) (hB:∀ k,B k->S k) (hC:∀ k,C k->S k) (o:∀ k,A k->B k->False) (D:∀ k,A k->C k->False) (E:∀ k,B k->C k->False):jF.own w [c0,c1,c2,.int .i64 f,.int .i64 s] (n,b,k,f,s) S :=
  kD.jY (r:=kW) (q:=.pair (kD.slice 5 kD.byte) (.pair kW (.pair .int .int))) (cs:=[c0]) (ds:=[c1,c2,.int .i64 f,.int .i64 s]) (A:=A) (B:=λk=>B k\/C k) h0
    (kD.jY (r:=(kD.slice 5 kD.byte)) (q:=.pair kW (.pair .int .int)) (cs:=[c1]) (ds:=[c2,.int .i64 f,.int .i64 s]) (A:=B) (B:=C) h1 (kD.yN (r:=kW) (q:=.pair .int .int) (cs:=[c2]) (ds:=[.int .i64 f,.int .i64 s]) h2 (kD.yJ (cs:=[.int .i64 f]) (kD.jG hf) (kD.jG hs))) (λk=>.inl) (λk=>.inr) E)
    hA (λk q=>q.elim (hB k) (hC k)) (λk q1 q2=>q2.elim (o k q1) (D k q1))
theorem kMt {w0 w:Ad} {p:Nat} (hc:yT w0 w p) {S:Nat->Prop} {ct:List Value} {tp:kBu} (ht:kAy.ji w ct tp S) (hS:∀ k,S k->¬ k=p) :
    Calls prog 167 #[.pointer (some ⟨p,0,none⟩),.agg ct.toArray] w λe w'=>DrawnD 10 w0 w p e w':=by
 obtain ⟨ay,bt⟩:=hc.lt
 obtain ⟨a8,ce,bn,co,bb,cq,df,dg,rfl⟩:=kGf ht.rd.1
 have cd:=trust_keys ht
 have HK:Hid ((kD.slice 199 kJh).ji w _ _ (λk=>S k/\k < w.heap.size)):=yD ⟨((kD.slice 199 kJh)).live cd.1,cd.2⟩
 clear cd
 obtain ⟨t0,t1,t2,t3⟩:=tp
 simp only at HK
 clear ht
 go_enter func167,ntmps167
 go_upto_region 1 with fail
 generalize F:World.alloc (World.alloc w _) _=w1
 have hb:Below w.heap.size w w1:=by rw [<- F];exact (bR.alloc nL _).alloc bD2 _
 have BX:w1.heap[w.heap.size]?=some (.cells #[.slice a8 t0.length ce,.slice bn t1.length co,.slice bb t2.length cq,.slice df t3.length dg] 79 (0,0)):=sN
 have R:w1.heap[w.heap.size + 1]?=some (.cells #[.slice none 0 0,.slice none 0 0,.slice none 0 0,.int .i64 0,.int .i64 0] 38 (0,0)):=by rw [<- F];exact kH bD2
 have bf:w.heap.size + 2<=w1.heap.size:=bB3
 clear F
 replace HK:=yD (HK.out.below hb)
 replace hc:=hc.below hb
 have J:Touch (λk=>k=p) w w1:=Touch.of_below hb
 clear hb
 go_wp2_with fail
 refine (zx (hc.below (bR.alloc nL _)) (kD.kAw _ [{ data:=#[97] },{ data:=#[98] }] bD0 bD0) bD1 bD0 bD0).mono ?_
 rintro e V ⟨y,ar,bz,rfl,G,D⟩
 obtain ⟨D,bg⟩:=CQ
 obtain ⟨HK,BX⟩:=FP
 obtain ⟨R,J⟩:=DX
 clear hc D
 have hc:=G
 clear G
 have bk:y.size<=3:=by simp only [List.mem_cons,List.not_mem_nil,or_false] at ar;rcases ar with rfl | rfl <;> decide
 clear ar bz
 have az:(({ data:=#[47] }:Ac)++y).size<=4:=dL
 go_wp2_with fail
 generalize ({ data:=#[47] }:Ac)++y=s1 at *
 refine (yV (s:=s1) bD1).mono ?_
 rintro e w3 ⟨za,zc,zs,rfl,hr,dj,hzs,hb⟩
 have bi:=hb.size
 obtain ⟨HK,BX,R⟩:=DN
 obtain ⟨hc,J⟩:=xE
 clear hb
 have HZ:=yD (hr)
 clear hr
 go_wp2_with fail
 refine (zx (hc.below (bR.alloc nL _)) (kD.kAw _ [{ data:=#[49] },{ data:=#[50] },{ data:=#[120,45,49] }] bD0 bD0) bD1 bD0 bD0).mono ?_
 rintro e w4 ⟨y2,ar,bz,rfl,G,D⟩
 obtain ⟨D,bu⟩:=IL
 obtain ⟨HK,BX⟩:=FP
 replace R:=D.kC R bD1
 replace HZ:=yD (HZ.out.touch D pX)
 replace J:=J.trans D
 clear hc D
 have hc:=G
 clear G
 have bm:=kD.kCk bD0 ar
 clear ar bz
 go_wp2_with fail
 refine (kCv (cn:=[.slice za zs.length zc]) HZ.out.rd (s:=y2) bD1 wM).mono ?_
 rintro e w5 ⟨na,nn,nc,b2,rfl,ab,ca,hb⟩
 have br:=hb.size
 obtain ⟨HK,BX,R⟩:=DN
 replace HZ:=yD (HZ.out.below hb)
 obtain ⟨hc,J⟩:=xE
 clear hb
 have b8:(if b2 then zs++[y2] else zs).length<=65:=dA
 generalize (if b2 then zs++[y2] else zs)=qs at *
 obtain ⟨_,_,_,a4,a2⟩:=ca.parts
 simp only [Value.slice.injEq] at a4
 have c1:=a4.2.1.trans a2.out
 clear a4 a2 ab
 subst c1
 have b6:=ca.own wM
 have HN:=yD (b6)
 clear HZ
 clear ca b6
 go_upto_region 3 with fail
 generalize F:World.alloc w5 _=w6
 have hb:Below w5.heap.size w5 w6:=rT
 have BN:w6.heap[w5.heap.size]?=some (.cells #[.slice na qs.length nc] 36 (0,0)):=vD
 have da:w5.heap.size + 1<=w6.heap.size:=bB3
 clear F
 obtain ⟨HK,BX,R⟩:=DN
 replace HN:=yD (HN.out.below hb)
 obtain ⟨hc,J⟩:=xE
 clear hb
 have c0:(({ data:=#[47] }:Ac)++y).size<=4:=dL
 have c4:((({ data:=#[47] }:Ac)++y)++({ data:=#[47,107,101,121] }:Ac)).size<=8:=by rw [ByteArray.size_append];have:({ data:=#[47,107,101,121] }:Ac).size=4:=rfl;omega
 go_wp2_with fail
 generalize ({ data:=#[47] }:Ac)++y=s2 at *
 generalize s2++({ data:=#[47,107,101,121] }:Ac)=s3 at *
 refine (yV (s:=s3) bD1).mono ?_
 rintro e w7 ⟨ya,yc,ys,rfl,hr,dr,dh,hb⟩
 have ea:=hb.size
 obtain ⟨HK,BX,R⟩:=DN
 replace BN:=kC BN hb
 replace HN:=yD (HN.out.below hb)
 obtain ⟨hc,J⟩:=xE
 clear hb
 have HY:=yD (hr)
 clear hr az c0 c4 dh
 go_upto_region 4 with fail
 generalize F:World.alloc w7 _=w8
 have hb:Below w7.heap.size w7 w8:=rT
 have BY:w8.heap[w7.heap.size]?=some (.cells #[.slice ya ys.length yc] 36 (0,0)):=vD
 have d9:w7.heap.size + 1<=w8.heap.size:=bB3
 clear F
 obtain ⟨HK,BX,R⟩:=DN
 replace BN:=kC BN hb
 replace HN:=yD (HN.out.below hb)
 replace HY:=yD (HY.out.below hb)
 obtain ⟨hc,J⟩:=xE
 clear hb
 go_wp2_with fail
 refine (zk (n:=6) hc bD0).mono ?_
 rintro e w9 ⟨b,rfl,G,D⟩
 have d4:=D.size
 obtain ⟨HK,BX⟩:=FP
 replace R:=D.kC R bD1
 replace BN:=D.kC BN bD1
 replace BY:=D.kC BY bD1
 replace HN:=yD (HN.out.touch D pX)
 replace HY:=yD (HY.out.touch D pX)
 replace J:=J.trans D
 clear hc D
 have hc:=G
 clear G
 obtain ⟨yb,a6⟩:∃ b_,b_=w7.heap.size:=⟨_,rfl⟩
 rw [<- a6] at BY ⊢
 have d2:=Nat.le_of_eq a6
 have d1:=Nat.le_of_eq a6.symm
 clear a6
 go_upto_if 29 with fail
 go_cut [] from 28 to 33 (λwc=>∃ (ya:Ab Ag) (yc:Nat) (ys:kr),wc.heap[yb]?=some (.cells #[.slice ya ys.length yc] 36 (0,0))/\Hid (kW.ji wc [.slice ya ys.length yc] ys (λk=>w.heap.size<=k/\k < wc.heap.size/\k≠yb))/\w9.heap.size<=wc.heap.size/\yT w0 wc p/\Touch (λk=>k=p\/k=yb) w9 wc)
 case first =>
  cases b
  · go_wp2;go_meet;exact ⟨ya,yc,ys,BY,yD (HY.out.ji.wide fP),Nat.le_refl _,hc,Touch.of_below bR⟩
  have ck:Touch (λk=>k=p\/k=yb) w9 w9:=Touch.of_below bR;go_wp2_with fail;refine (zx (hc.below (bR.alloc nL _)) (kD.kAw _ [{ data:=#[47,98,97,100,47,107,101,121] },{ data:=#[47,107,101,121,47,97] },{ data:=#[47,97,47,107,101,121] }] bD0 bD0) bD1 bD0 bD0).mono ?_;rintro e cz ⟨y3,ar,bz,rfl,G,D⟩;replace D:=(Touch.of_below (S:=λk=>k=p) (bR.alloc nL _)).trans D;have ef:=D.size;obtain ⟨HK,BX⟩:=FP;replace R:=D.kC R bD1;replace BN:=D.kC BN bD1;replace BY:=D.kC BY bD1;replace HN:=yD (HN.out.touch D pX);replace HY:=yD (HY.out.touch D pX);replace J:=J.trans D;replace ck:=ck.trans (D.wide (λk q=>.inl q));clear hc D;have hc:=G;clear G;go_wp2_with fail;refine (yV (kD.kCk bD0 ar)).mono ?_;rintro e cw ⟨va,vc,vs,rfl,hr,dx,d5,hb⟩;have et:=hb.size;obtain ⟨HK,BX,R⟩:=DN;replace BN:=kC BN hb;replace BY:=kC BY hb;replace HN:=yD (HN.out.below hb);replace HY:=yD (HY.out.below hb);obtain ⟨hc,J⟩:=xE;replace ck:=ck.trans (Touch.of_below hb);clear hb;have Y:=yD (hr);clear hr;have aq:cw.cell? ⟨yb,0,none⟩=some (.slice ya ys.length yc):=kE BY rfl;have dm:cw.frozen? ⟨yb,0,none⟩=false:=frozen_of_row cw (yb) 0 _ _ BY;go_wp2;generalize F:World.setCell cw _ _=c3;have N:Touch (λk=>k=yb) cw c3:=vR;have dl:c3.heap[yb]?=some (.cells #[.slice va vs.length vc] 36 (0,0)):=by rw [<- F];exact kF BY 0
  have ew:=N.size;clear F;go_meet;exact ⟨va,vc,vs,dl,yD ((Y.out.ji.touch N sK).wide fO),by omega,hc.touch N bD1 wZ,ck.trans (N.wide (λk q=>.inr q))⟩
 rename Ad=>wz
 clear BY HY hc
 obtain ⟨ya,yc,ys,BY,HY,dy,hc,TR⟩:=hcut
 replace BX:=TR.kC BX bD1
 replace R:=TR.kC R bD1
 replace BN:=TR.kC BN bD1
 replace HK:=yD (HK.out.touch TR (λk q h=>by rcases h with h | h;exact hS k q.1 h;(have:=q.2;omega)))
 replace HN:=yD (HN.out.touch TR nT)
 replace J:=J.ja TR wZ
 clear TR
 have d0:=hc.lt.2
 have zw:=J.size
 go_upto_region 6 with fail
 go_cut [9] from 34 to 46 (λs9 wd=>∃ (b:Nat) (ad:Ab Ag) (ae:Nat) (ai:Ab Ag) (af:Nat) (aj:Ab Ag) (ah:Nat) (x:jL) (ok:Bool),s9=.pointer (some ⟨b,0,none⟩)/\wd.heap[b]?=some (.cells #[.slice ad x.1.length ae,.slice ai x.2.1.length af,.slice aj x.2.2.1.length ah,.int .i64 x.2.2.2.1,.int .i64 x.2.2.2.2] 38 (0,0))/\Hid (jF.own wd [.slice ad x.1.length ae,.slice ai x.2.1.length af,.slice aj x.2.2.1.length ah,.int .i64 x.2.2.2.1,.int .i64 x.2.2.2.2] x (λk=>wz.heap.size<=k/\k < wd.heap.size/\k≠b))/\x.2.1.length<=3/\wz.heap.size<=b/\b < wd.heap.size/\yT w0 wd p/\Touch (λk=>k=p) wz wd)
 case first =>
  have FX:=yD (λ(W:Ad) (hW:Touch (λk=>k=p) wz W/\yT w0 W p)=>And.intro (kE (hW.1.kC BX bD1) (j:=0) (v:=.slice a8 t0.length ce) rfl) (And.intro (kE (hW.1.kC BY bD1) (j:=0) (v:=.slice ya ys.length yc) rfl) (kE (hW.1.kC BN bD1) (j:=0) (v:=.slice na qs.length nc) rfl)));refine yM (λW=>Touch (λk=>k=p) wz W/\yT w0 W p) bC5 (⟨Touch.of_below bR.drew,hc.below bR.drew⟩) ?_;intro t E;have d6:=E.1.size;refine kQ 0 ?_;refine kQ 1 ?_;refine kQ 2 ?_;refine kQ 3 ?_;refine kQ 4 ?_;refine kQ 5 ?_;refine kIv ?_;intro T A N hA;have ag:∀ (xb:Int),∀ (ba:Ab Ag),∀ (bc:Nat),∀ (Z:List Ai),∀ (ad:Ab Ag),∀ (ae:Nat),∀ (ai:Ab Ag),∀ (af:Nat),∀ (aj:Ab Ag),∀ (ah:Nat),∀ (x:jL),∀ (ok:Bool),∀ (b:Nat),∀ (W:Ad),Touch (λk=>k=p) wz W/\yT w0 W p->(0<=xb)->(xb < 4)->(Z.length<=3)->(Hid ((kD.slice 5 kD.byte).ji W [.slice ba Z.length bc] Z (λk=>wz.heap.size<=k/\k < W.heap.size/\k≠b)))->(x.2.1.length<=3)->(Hid (jF.own W [.slice ad x.1.length ae,.slice ai x.2.1.length af,.slice aj x.2.2.1.length ah,.int .i64 x.2.2.2.1,.int .i64 x.2.2.2.2] x (λk=>wz.heap.size<=k/\k < W.heap.size/\k≠b)))->(wz.heap.size<=b/\b < W.heap.size)->(W.heap[b]?=some (.cells #[.slice ad x.1.length ae,.slice ai x.2.1.length af,.slice aj x.2.2.1.length ah,.int .i64 x.2.2.2.1,.int .i64 x.2.2.2.2] 38 (0,0)))->T 0 [Tt,Tt,Tt,Tt,Tt,Tt,Tt,Tt,Tt,Tt,Tt,Tt,Tt,Tt,Tt] (Aa (Aa (Aa (Aa (Aa (Aa (Aa (Aa A (some 41) (.int .i64 xb)) (some 42) (.slice ba Z.length bc)) (some 43) (.tuple #[.agg #[.slice ad x.1.length ae,.slice ai x.2.1.length af,.slice aj x.2.2.1.length ah,.int .i64 x.2.2.2.1,.int .i64 x.2.2.2.2],.bool ok])) (some 34) (.tuple #[.agg #[.slice ad x.1.length ae,.slice ai x.2.1.length af,.slice aj x.2.2.1.length ah,.int .i64 x.2.2.2.1,.int .i64 x.2.2.2.2],.bool ok])) (some 44) (.agg #[.slice ad x.1.length ae,.slice ai x.2.1.length af,.slice aj x.2.2.1.length ah,.int .i64 x.2.2.2.1,.int .i64 x.2.2.2.2])) (some 45) (.bool ok)) (some 9) (.pointer (some ⟨b,0,none⟩))) (some 10) (.bool ok)) W:=by
   intro xb ba bc Z ad ae ai af aj ah x ok b W E ao U aw HB b5 HQ o BB;have a5:=E.1.size;subst N;subst hA;simp only [Aa,zA,zB,zC];refine jW bC5 ?_;go_wp2;go_meet;exact ⟨b,ad,ae,ai,af,aj,ah,x,ok,rfl,BB,HQ,b5,o.1,o.2,E.2,E.1⟩
  have X:∀ (xb:Int),∀ (ba:Ab Ag),∀ (bc:Nat),∀ (Z:List Ai),∀ (ad:Ab Ag),∀ (ae:Nat),∀ (ai:Ab Ag),∀ (af:Nat),∀ (aj:Ab Ag),∀ (ah:Nat),∀ (x:jL),∀ (ok:Bool),∀ (b:Nat),∀ (W:Ad),Touch (λk=>k=p) wz W/\yT w0 W p->(0<=xb)->(xb < 4)->(Z.length<=3)->(Hid ((kD.slice 5 kD.byte).ji W [.slice ba Z.length bc] Z (λk=>wz.heap.size<=k/\k < W.heap.size/\k≠b)))->(x.2.1.length<=3)->(Hid (jF.own W [.slice ad x.1.length ae,.slice ai x.2.1.length af,.slice aj x.2.2.1.length ah,.int .i64 x.2.2.2.1,.int .i64 x.2.2.2.2] x (λk=>wz.heap.size<=k/\k < W.heap.size/\k≠b)))->(wz.heap.size<=b/\b < W.heap.size)->(W.heap[b]?=some (.cells #[.slice none 0 0,.slice none 0 0,.slice none 0 0,.int .i64 0,.int .i64 0] 38 (0,0)))->T 2 [Tt,Tt,Tt,Tt,Tt,Tt,Tt,Tt,Tt,Tt,Tt,Tt,Tt,Ff,Ff] (Aa (Aa (Aa (Aa (Aa (Aa (Aa A (some 41) (.int .i64 xb)) (some 42) (.slice ba Z.length bc)) (some 43) (.tuple #[.agg #[.slice ad x.1.length ae,.slice ai x.2.1.length af,.slice aj x.2.2.1.length ah,.int .i64 x.2.2.2.1,.int .i64 x.2.2.2.2],.bool ok])) (some 34) (.tuple #[.agg #[.slice ad x.1.length ae,.slice ai x.2.1.length af,.slice aj x.2.2.1.length ah,.int .i64 x.2.2.2.1,.int .i64 x.2.2.2.2],.bool ok])) (some 44) (.agg #[.slice ad x.1.length ae,.slice ai x.2.1.length af,.slice aj x.2.2.1.length ah,.int .i64 x.2.2.2.1,.int .i64 x.2.2.2.2])) (some 45) (.bool ok)) (some 9) (.pointer (some ⟨b,0,none⟩))) W:=by
   intro xb ba bc Z ad ae ai af aj ah x ok b W E ao U aw HB b5 HQ o BB;have a5:=E.1.size;subst N;subst hA;simp only [Aa,zA,zB,zC];refine kN (k:=13) rfl bC5 rfl (λK H=>?_);obtain ⟨d3,du,dz,dv,c8⟩:=yI BB;obtain ⟨c5,c7,dc,db,c6⟩:=kBh BB;go_simp;generalize F:World.setCell (World.setCell (World.setCell (World.setCell (World.setCell W _ _) _ _) _ _) _ _) _ _=v;have N:Touch (λk=>k=b) W v:=(by rw [<- F];exact sT5);replace BB:v.heap[b]?=some (.cells #[.slice ad x.1.length ae,.slice ai x.2.1.length af,.slice aj x.2.2.1.length ah,.int .i64 x.2.2.2.1,.int .i64 x.2.2.2.2] 38 (0,0)):=(by rw [<- F];exact kF (kF (kF (kF (kF (BB) 0) 1) 2) 3) 4);clear F d3 c5 du c7 dz dc dv db c8 c6;have zv:=N.size;replace HB:Hid ((kD.slice 5 kD.byte).ji v [.slice ba Z.length bc] Z (λk=>wz.heap.size<=k/\k < v.heap.size/\k≠b)):=yD ((HB.out.touch N (λk q h=>q.2.2 h)).wide (λk q=>⟨q.1,Nat.lt_of_lt_of_le q.2.1 N.size,q.2.2⟩));replace HQ:Hid (jF.own v [.slice ad x.1.length ae,.slice ai x.2.1.length af,.slice aj x.2.2.1.length ah,.int .i64 x.2.2.2.1,.int .i64 x.2.2.2.2] x (λk=>wz.heap.size<=k/\k < v.heap.size/\k≠b)):=yD ((HQ.out.touch N (λk q h=>q.2.2 h)).wide (λk q=>⟨q.1,Nat.lt_of_lt_of_le q.2.1 N.size,q.2.2⟩));replace o:wz.heap.size<=b/\b < v.heap.size:=⟨o.1,Nat.lt_of_lt_of_le o.2 N.size⟩;replace E:=And.intro (E.1.jP N bD1) (E.2.touch N bD1 (λk hk=>by have:=E.2.size.size;omega));refine H _ _ E ?_;clear H K;refine jD ?_;refine kQ 14 ?_;have h_:=ag xb ba bc Z ad ae ai af aj ah x ok b v E ao U aw HB b5 HQ o BB;exact aZ
  have cm:∀ (xb:Int),∀ (ba:Ab Ag),∀ (bc:Nat),∀ (Z:List Ai),∀ (ad:Ab Ag),∀ (ae:Nat),∀ (ai:Ab Ag),∀ (af:Nat),∀ (aj:Ab Ag),∀ (ah:Nat),∀ (x:jL),∀ (ok:Bool),∀ (W:Ad),Touch (λk=>k=p) wz W/\yT w0 W p->(0<=xb)->(xb < 4)->(Z.length<=3)->(Hid ((kD.slice 5 kD.byte).ji W [.slice ba Z.length bc] Z (λk=>wz.heap.size<=k/\k < W.heap.size/\k≠p)))->(x.2.1.length<=3)->(Hid (jF.own W [.slice ad x.1.length ae,.slice ai x.2.1.length af,.slice aj x.2.2.1.length ah,.int .i64 x.2.2.2.1,.int .i64 x.2.2.2.2] x (λk=>wz.heap.size<=k/\k < W.heap.size/\k≠p)))->T 3 [Tt,Tt,Tt,Tt,Tt,Tt,Tt,Tt,Tt,Tt,Tt,Tt,Ff,Ff,Ff] (Aa (Aa (Aa (Aa (Aa (Aa A (some 41) (.int .i64 xb)) (some 42) (.slice ba Z.length bc)) (some 43) (.tuple #[.agg #[.slice ad x.1.length ae,.slice ai x.2.1.length af,.slice aj x.2.2.1.length ah,.int .i64 x.2.2.2.1,.int .i64 x.2.2.2.2],.bool ok])) (some 34) (.tuple #[.agg #[.slice ad x.1.length ae,.slice ai x.2.1.length af,.slice aj x.2.2.1.length ah,.int .i64 x.2.2.2.1,.int .i64 x.2.2.2.2],.bool ok])) (some 44) (.agg #[.slice ad x.1.length ae,.slice ai x.2.1.length af,.slice aj x.2.2.1.length ah,.int .i64 x.2.2.2.1,.int .i64 x.2.2.2.2])) (some 45) (.bool ok)) W:=by
   intro xb ba bc Z ad ae ai af aj ah x ok W E ao U aw HB b5 HQ;have a5:=E.1.size;subst N;subst hA;simp only [Aa,zA,zB,zC];refine kN (k:=12) rfl bC5 rfl (λK H=>?_);go_simp;generalize F:World.alloc W _=v;obtain ⟨hb,BB,zv⟩:=A7;clear F;obtain ⟨b,ap⟩:∃ b_,b_=W.heap.size:=⟨_,rfl⟩;rw [<- ap] at BB ⊢;replace HB:Hid ((kD.slice 5 kD.byte).ji v [.slice ba Z.length bc] Z (λk=>wz.heap.size<=k/\k < v.heap.size/\k≠b)):=yD ((HB.out.below hb).wide dG);replace HQ:Hid (jF.own v [.slice ad x.1.length ae,.slice ai x.2.1.length af,.slice aj x.2.2.1.length ah,.int .i64 x.2.2.2.1,.int .i64 x.2.2.2.2] x (λk=>wz.heap.size<=k/\k < v.heap.size/\k≠b)):=yD ((HQ.out.below hb).wide dG);obtain ⟨o,E⟩:=CB;refine H _ _ E ?_;clear H K;refine jD ?_;exact bB
  have am:∀ (xb:Int),∀ (ba:Ab Ag),∀ (bc:Nat),∀ (Z:List Ai),∀ (b:Nat),∀ (W:Ad),Touch (λk=>k=p) wz W/\yT w0 W p->(0<=xb)->(xb < 4)->(Z.length<=3)->(Hid ((kD.slice 5 kD.byte).ji W [.slice ba Z.length bc] Z (λk=>wz.heap.size<=k/\k < W.heap.size/\k≠b)))->(wz.heap.size<=b/\b < W.heap.size)->(W.heap[b]?=some (.cells #[.slice none 0 0,.slice none 0 0,.slice none 0 0,.int .i64 0,.int .i64 0] 38 (0,0)))->T 6 [Tt,Tt,Tt,Tt,Tt,Tt,Tt,Tt,Ff,Ff,Ff,Ff,Tt,Ff,Ff] (Aa (Aa (Aa A (some 41) (.int .i64 xb)) (some 42) (.slice ba Z.length bc)) (some 9) (.pointer (some ⟨b,0,none⟩))) W:=by
   intro xb ba bc Z b W E ao U aw HB o BB;have a5:=E.1.size;subst N;subst hA;simp only [Aa,zA,zB,zC];refine kN (k:=8) rfl bC5 rfl (λK H=>?_);go_simp;refine (kDy (l:=t0) (HK.out.touch E.1 (λk q h=>hS k q.1 h)).rd.1 (cb:=[.slice ya ys.length yc]) (HY.out.touch E.1 sK).rd (cn:=[.slice na qs.length nc]) (HN.out.touch E.1 pJ).rd HB.out.rd bD1 (tl:=4000) bD0).mono ?_;rintro e v ⟨ds,x,ok,rfl,hO,dk,hb⟩;have zv:=hb.size;have b9:=o.2;replace HB:Hid ((kD.slice 5 kD.byte).ji v [.slice ba Z.length bc] Z (λk=>wz.heap.size<=k/\k < v.heap.size/\k≠b)):=yD ((HB.out.below hb).wide (λk q=>⟨q.1,Nat.lt_of_lt_of_le q.2.1 hb.size,q.2.2⟩));replace BB:=kC BB hb;replace o:wz.heap.size<=b/\b < v.heap.size:=⟨o.1,Nat.lt_of_lt_of_le o.2 hb.size⟩;obtain ⟨ad,ae,ai,af,aj,ah,rfl⟩:=yS hO.raw;have b5:x.2.1.length<=3:=bD1;have HQ:Hid (jF.own v [.slice ad x.1.length ae,.slice ai x.2.1.length af,.slice aj x.2.2.1.length ah,.int .i64 x.2.2.2.1,.int .i64 x.2.2.2.2] x (λk=>wz.heap.size<=k/\k < v.heap.size/\k≠b)):=yD (hO.wide gW);replace E:=And.intro (E.1.trans (Touch.of_below hb)) (E.2.below hb);refine H _ _ E ?_;clear H K;refine jD ?_;refine kQ 9 ?_;refine kQ 10 ?_;refine kQ 11 ?_;exact bB
  have c2:∀ (xb:Int),∀ (ba:Ab Ag),∀ (bc:Nat),∀ (Z:List Ai),∀ (W:Ad),Touch (λk=>k=p) wz W/\yT w0 W p->(0<=xb)->(xb < 4)->(Z.length<=3)->(Hid ((kD.slice 5 kD.byte).ji W [.slice ba Z.length bc] Z (λk=>wz.heap.size<=k/\k < W.heap.size/\k≠p)))->T 7 [Tt,Tt,Tt,Tt,Tt,Tt,Tt,Tt,Ff,Ff,Ff,Ff,Ff,Ff,Ff] (Aa (Aa A (some 41) (.int .i64 xb)) (some 42) (.slice ba Z.length bc)) W:=by
   intro xb ba bc Z W E ao U aw HB;have a5:=E.1.size;subst N;subst hA;simp only [Aa,zA,zB,zC];refine jl (i:=8) (j:=12) rfl rfl bC5 rfl rfl (λK H=>?_) (λK H=>?_)
   · go_simp;refine (kDy (l:=t0) (HK.out.touch E.1 (λk q h=>hS k q.1 h)).rd.1 (cb:=[.slice ya ys.length yc]) (HY.out.touch E.1 sK).rd (cn:=[.slice na qs.length nc]) (HN.out.touch E.1 pJ).rd HB.out.rd bD1 (tl:=4000) bD0).mono ?_;rintro e v ⟨ds,x,ok,rfl,hO,dk,hb⟩;have zv:=hb.size;replace HB:Hid ((kD.slice 5 kD.byte).ji v [.slice ba Z.length bc] Z (λk=>wz.heap.size<=k/\k < v.heap.size/\k≠p)):=yD ((HB.out.below hb).wide (λk q=>⟨q.1,Nat.lt_of_lt_of_le q.2.1 hb.size,q.2.2⟩));obtain ⟨ad,ae,ai,af,aj,ah,rfl⟩:=yS hO.raw;have b5:x.2.1.length<=3:=bD1;have HQ:Hid (jF.own v [.slice ad x.1.length ae,.slice ai x.2.1.length af,.slice aj x.2.2.1.length ah,.int .i64 x.2.2.2.1,.int .i64 x.2.2.2.2] x (λk=>wz.heap.size<=k/\k < v.heap.size/\k≠p)):=yD (hO.wide gW);replace E:=And.intro (E.1.trans (Touch.of_below hb)) (E.2.below hb);refine H _ _ E ?_;clear H K;refine jD ?_;refine kQ 9 ?_;refine kQ 10 ?_;refine kQ 11 ?_;have h_:=cm xb ba bc Z ad ae ai af aj ah x ok v E ao U aw HB b5 HQ;exact aZ
   go_simp;generalize F:World.alloc W _=v;obtain ⟨hb,BB,zv⟩:=A7;clear F;obtain ⟨b,ap⟩:∃ b_,b_=W.heap.size:=⟨_,rfl⟩;rw [<- ap] at BB ⊢;replace HB:Hid ((kD.slice 5 kD.byte).ji v [.slice ba Z.length bc] Z (λk=>wz.heap.size<=k/\k < v.heap.size/\k≠b)):=yD ((HB.out.below hb).wide dG);obtain ⟨o,E⟩:=CB;exact bC
  have ch:∀ (xb:Int),∀ (b:Nat),∀ (W:Ad),Touch (λk=>k=p) wz W/\yT w0 W p->(0<=xb)->(xb < 4)->(wz.heap.size<=b/\b < W.heap.size)->(W.heap[b]?=some (.cells #[.slice none 0 0,.slice none 0 0,.slice none 0 0,.int .i64 0,.int .i64 0] 38 (0,0)))->T 7 [Tt,Tt,Tt,Tt,Tt,Tt,Tt,Ff,Ff,Ff,Ff,Ff,Tt,Ff,Ff] (Aa (Aa A (some 41) (.int .i64 xb)) (some 9) (.pointer (some ⟨b,0,none⟩))) W:=by
   intro xb b W E ao U o BB;have a5:=E.1.size;subst N;subst hA;simp only [Aa,zA,zB,zC];refine kN (k:=7) rfl bC5 rfl (λK H=>?_);go_simp;refine (kCb E.2 ao bD1).mono ?_;rintro e v ⟨ba,bc,Z,rfl,cg,hO,G,D⟩;have zv:=D.size;have b9:=o.2;replace BB:=D.kC BB bD1;replace o:wz.heap.size<=b/\b < v.heap.size:=⟨o.1,Nat.lt_of_lt_of_le o.2 D.size⟩;have aw:Z.length<=3:=bD1;have HB:Hid ((kD.slice 5 kD.byte).ji v [.slice ba Z.length bc] Z (λk=>wz.heap.size<=k/\k < v.heap.size/\k≠b)):=yD (hO.ji.wide gW);replace E:=And.intro (E.1.trans D) G;exact bC
  have T6:∀ (xb:Int),∀ (W:Ad),Touch (λk=>k=p) wz W/\yT w0 W p->(0<=xb)->(xb < 4)->T 8 [Tt,Tt,Tt,Tt,Tt,Tt,Tt,Ff,Ff,Ff,Ff,Ff,Ff,Ff,Ff] (Aa A (some 41) (.int .i64 xb)) W:=by
   intro xb W E ao U;have a5:=E.1.size;subst N;subst hA;simp only [Aa,zA,zB,zC];refine jl (i:=7) (j:=12) rfl rfl bC5 rfl rfl (λK H=>?_) (λK H=>?_)
   · go_simp;refine (kCb E.2 ao bD1).mono ?_;rintro e v ⟨ba,bc,Z,rfl,cg,hO,G,D⟩;have zv:=D.size;have aw:Z.length<=3:=bD1;have HB:Hid ((kD.slice 5 kD.byte).ji v [.slice ba Z.length bc] Z (λk=>wz.heap.size<=k/\k < v.heap.size/\k≠p)):=yD (hO.ji.wide gW);replace E:=And.intro (E.1.trans D) G;refine H _ _ E ?_;clear H K;refine jD ?_;have h_:=c2 xb ba bc Z v E ao U aw HB;exact aZ
   go_simp;generalize F:World.alloc W _=v;obtain ⟨hb,BB,zv⟩:=A7;clear F;obtain ⟨b,ap⟩:∃ b_,b_=W.heap.size:=⟨_,rfl⟩;rw [<- ap] at BB ⊢;obtain ⟨o,E⟩:=CB;exact bE
  have dq:∀ (b:Nat),∀ (W:Ad),Touch (λk=>k=p) wz W/\yT w0 W p->(wz.heap.size<=b/\b < W.heap.size)->(W.heap[b]?=some (.cells #[.slice none 0 0,.slice none 0 0,.slice none 0 0,.int .i64 0,.int .i64 0] 38 (0,0)))->T 8 [Tt,Tt,Tt,Tt,Tt,Tt,Ff,Ff,Ff,Ff,Ff,Ff,Tt,Ff,Ff] (Aa A (some 9) (.pointer (some ⟨b,0,none⟩))) W:=by
   intro b W E o BB;have a5:=E.1.size;subst N;subst hA;simp only [Aa,zA,zB,zC];refine kN (k:=6) rfl bC5 rfl (λK H=>?_);go_simp;refine (ku (n:=4) E.2 bD0).mono ?_;rintro e v ⟨xb,ao,U,a1,rfl,G,D⟩;have zv:=D.size;have b9:=o.2;replace BB:=D.kC BB bD1;replace o:wz.heap.size<=b/\b < v.heap.size:=⟨o.1,Nat.lt_of_lt_of_le o.2 D.size⟩;replace U:=U bD0;clear a1;replace E:=And.intro (E.1.trans D) G;exact bE
  subst N;subst hA;refine jl (i:=6) (j:=12) rfl rfl bC5 rfl rfl (λK H=>?_) (λK H=>?_)
  · go_simp;refine (ku (n:=4) E.2 bD0).mono ?_;rintro e v ⟨xb,ao,U,a1,rfl,G,D⟩;have zv:=D.size;replace U:=U bD0;clear a1;replace E:=And.intro (E.1.trans D) G;refine H _ _ E ?_;clear H K;refine jD ?_;have h_:=T6 xb v E ao U;exact aZ
  go_simp;generalize F:World.alloc t _=v;have hb:Below t.heap.size t v:=(by rw [<- F];exact bR.alloc nL _);have BB:v.heap[t.heap.size]?=some (.cells #[.slice none 0 0,.slice none 0 0,.slice none 0 0,.int .i64 0,.int .i64 0] 38 (0,0)):=(by rw [<- F];exact kH rfl);have zv:t.heap.size + 1<=v.heap.size:=(by rw [<- F];simp);clear F;obtain ⟨b,ap⟩:∃ b_,b_=t.heap.size:=⟨_,rfl⟩;rw [<- ap] at BB ⊢;obtain ⟨o,E⟩:=CB;refine H _ _ E ?_;clear H K;refine jD ?_;have h_:=dq b v E o BB;exact aZ
 rename Ad=>wd
 obtain ⟨b,ad,ae,ai,af,aj,ah,x,ok,rfl,BQ,HQ,b5,cf,O,cc,bl⟩:=hcut
 replace R:=bl.kC R bD1
 replace J:=J.trans bl
 clear hc BX BN BY HK HN HY
 have hc:=cc
 have zd:=bl.size
 clear cc bl
 have cl:=data_rng HQ.out.raw
 go_wp2_with fail
 refine (zk (n:=8) hc bD0).mono ?_
 rintro e cv ⟨b1,rfl,G,D⟩
 have dt:=D.size
 replace R:=D.kC R bD1
 replace BQ:=D.kC BQ bD1
 replace HQ:=yD (HQ.out.touch D pX)
 replace J:=J.trans D
 clear hc D
 have hc:=G
 clear G
 cases b1
 · replace HQ:=yD (HQ.out.wide (T:=λk=>wz.heap.size<=k/\k < cv.heap.size/\k≠b) pR);obtain ⟨ac,an,bd,bh,bp⟩:=yI R;obtain ⟨bw,bx,b4,b0,b3⟩:=yI BQ;obtain ⟨ak,al,ax,be,bo⟩:=kBh R;go_wp2;refine bodyPost_ret (v:=.agg #[.slice ad x.1.length ae,.slice ai x.2.1.length af,.slice aj x.2.2.1.length ah,.int .i64 x.2.2.2.1,.int .i64 x.2.2.2.2]) fC rfl ⟨[.slice ad x.1.length ae,.slice ai x.2.1.length af,.slice aj x.2.2.1.length ah,.int .i64 x.2.2.2.1,.int .i64 x.2.2.2.2],x,rfl,?_,by omega,hc.touch sT5 bD1 wW,J.jP sT5 bD1⟩;exact (HQ.out.touch (T:=λk=>k=w.heap.size + 1) sT5 sK).wide (T:=jU w.heap.size _) dZ
 obtain ⟨A_,B_,C_,hA,hB,hC,sA,sB,sC,dp,dw,dd⟩:=data_parts HQ.out
 obtain ⟨bw,bx,b4,b0,b3⟩:=yI BQ
 obtain ⟨a7,av,au,bj,a3⟩:=kBh BQ
 go_wp2_with (at_builtin;refine kD.zR rfl _ _ 22 rfl (r:=kD.byte) (e:=5) underlying22 kEh rfl bD0 bD0 (w:=cv) hB bR (kPp (x:=1) rfl) bD3 bD3 (λ_ _ h=>h) bD1 ?_)
 intro v9 w9 bv aa
 have d4:=aa.size
 have di:=yD (show (x.2.1++[(1:Ai)]).length<=4 by simp;omega)
 generalize x.2.1++[(1:Ai)]=bq at *
 obtain ⟨a9,c9,b7,_⟩:=kD.kAx bv.raw
 obtain rfl:v9=_:=by simpa using b7
 have ht:Touch (λk=>wz.heap.size<=k/\k < cv.heap.size/\k≠b) cv w9:=aa.wide (λk q=>⟨(sB k q.1).1,q.2,(sB k q.1).2.2⟩)
 have HD:=yD (data_of (S:=λk=>wz.heap.size<=k/\k < w9.heap.size/\k≠b) (hA.touch aa (λk q h=>dp k q h.1)) bv (hC.touch aa (λk q h=>dd k h.1 q)) cl.1 cl.2 (λk q=>⟨(sA k q).1,by have:=(sA k q).2.1;omega,(sA k q).2.2⟩) (λk q=>by rcases q with q | q;exact ⟨(sB k q).1,by have:=(sB k q).2.1;omega,(sB k q).2.2⟩;exact ⟨by have:=q.1;omega,q.2,by have:=q.1;omega⟩) (λk q=>⟨(sC k q).1,by have:=(sC k q).2.1;omega,(sC k q).2.2⟩) (λk q1 q2=>by rcases q2 with q2 | q2;exact dp k q1 q2;(have h1:=(sA k q1).2.1;have h2:=q2.1;omega)) dw (λk q1 q2=>by rcases q1 with q1 | q1;exact dd k q1 q2;(have h1:=(sC k q2).2.1;have h2:=q1.1;omega)))
 clear hA hB hC bv HQ bw bx b4 b0 b3 a7 av au bj a3
 replace R:=ht.kC R bD1
 replace BQ:=ht.kC BQ bD1
 replace hc:=hc.touch ht bD1 tC
 replace J:=J.kBq (ht.wide (T:=λk=>wz.heap.size<=k) (λk q=>q.1)) wZ
 clear ht aa
 obtain ⟨bw,bx,b4,b0,b3⟩:=yI BQ
 obtain ⟨a7,av,au,bj,a3⟩:=kBh BQ
 go_upto_region 9 with fail
 clear bw bx b4 b0 b3 a7 av au bj a3
 generalize F:World.setCell w9 _ _=de
 have L:Touch (λk=>k=b) w9 de:=vR
 replace BQ:de.heap[b]?=some (.cells #[.slice ad x.1.length ae,.slice a9 bq.length c9,.slice aj x.2.2.1.length ah,.int .i64 x.2.2.2.1,.int .i64 x.2.2.2.2] 38 (0,0)):=by rw [<- F];exact kF BQ 1
 have dn:=L.size
 clear F
 replace R:=L.kC R bD1
 replace HD:=yD (HD.out.touch L pX)
 replace hc:=hc.touch L bD1 wW
 replace J:=J.jP L bD1
 clear L
 obtain ⟨ac,an,bd,bh,bp⟩:=yI R
 obtain ⟨bw,bx,b4,b0,b3⟩:=yI BQ
 obtain ⟨ak,al,ax,be,bo⟩:=kBh R
 go_wp2
 refine bodyPost_ret (v:=.agg #[.slice ad x.1.length ae,.slice a9 bq.length c9,.slice aj x.2.2.1.length ah,.int .i64 x.2.2.2.1,.int .i64 x.2.2.2.2]) fC rfl ⟨[.slice ad x.1.length ae,.slice a9 bq.length c9,.slice aj x.2.2.1.length ah,.int .i64 x.2.2.2.1,.int .i64 x.2.2.2.2],(x.1,bq,x.2.2.1,x.2.2.2.1,x.2.2.2.2),rfl,?_,(by have:=di.out;show bq.length<=10;omega),hc.touch sT5 bD1 wW,J.jP sT5 bD1⟩
 exact (HD.out.touch (T:=λk=>k=w.heap.size + 1) sT5 sK).wide (T:=jU w.heap.size _) dZ
end Go.Proofs.YtjhfdpopkkmigaaGreat

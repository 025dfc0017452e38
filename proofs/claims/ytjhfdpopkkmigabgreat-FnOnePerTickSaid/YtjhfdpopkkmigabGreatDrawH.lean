/-
  What is believed, mostly, as the reference draws it.
-/
import Derived.Test.YtjhfdpopkkmigabGreatDrawK
import Derived.Test.YtjhfdpopkkmigabGreatDrawY
set_option linter.unusedVariables false
set_option linter.unusedSimpArgs false
set_option linter.unnecessarySimpa false
set_option maxRecDepth 100000
set_option maxHeartbeats 8000000
open Bool renaming true->Tt,false->Ff
open Go.Act renaming put->Aa
open _root_ renaming Option->Ab,ByteArray->Ac,UInt8->Ai
open Go renaming World->Ad,Addr->Ag
open List renaming singleton_append->Ae
open List.cons renaming injEq->Ah
namespace Go.Proofs.YtjhfdpopkkmigabGreat
open Go.RowKit _root_.Go.Proofs.Tryz
theorem kJy {w:Ad} {cs:List Value} {t:kCd} (h:kBh.raw w cs t):∃ a0 c0 a1 c1 a2 c2 a3 c3,cs=[.slice a0 t.1.length c0,.slice a1 t.2.1.length c1,.slice a2 t.2.2.1.length c2,.slice a3 t.2.2.2.length c3]:=by
 obtain ⟨v0,v1,v2,v3,rfl,Y,R,aj,ai⟩:=kSw h;obtain ⟨a0,c0,rfl,_⟩:=kD.sl Y;obtain ⟨a1,c1,rfl,_⟩:=kD.sl R;obtain ⟨a2,c2,rfl,_⟩:=kD.sl aj;obtain ⟨a3,c3,rfl,_⟩:=kD.sl ai;exact ⟨_,_,_,_,_,_,_,_,rfl⟩
theorem trust_keys {w:Ad} {v0 v1 v2 v3:Value} {t:kCd} {S:Nat->Prop} (h:kBh.jo w [v0,v1,v2,v3] t S):(kD.slice 190 kKy).jo w [v0] t.1 S:=by
 obtain ⟨c,d,he,h1,h2⟩:=kD.kDp (r:=(kD.slice 190 kKy)) h;have G:=(kD.slice 190 kKy).len h1.1
 match c,G with
 | [u],_=>simp only [Ae,Ah] at he;obtain ⟨rfl,_⟩:=he;exact h1
theorem data_parts {w:Ad} {c0 c1 c2 c3 c4:Value} {x:jT} {S:Nat->Prop} (h:jI.own w [c0,c1,c2,c3,c4] x S):∃ A B C:Nat->Prop,kN.own w [c0] x.1 A/\(kD.slice 5 kD.byte).own w [c1] x.2.1 B/\kN.own w [c2] x.2.2.1 C/\(∀ k,A k->S k)/\(∀ k,B k->S k)/\(∀ k,C k->S k)/\(∀ k,A k->B k->False)/\(∀ k,A k->C k->False)/\(∀ k,B k->C k->False):=by
 obtain ⟨a,d,A,T,he,h1,h2,hA,hT,hd⟩:=kD.kDq (r:=kN) (q:=.pair (kD.slice 5 kD.byte) (.pair kN (.pair .int .int))) h;obtain ⟨b,d2,B,D,rfl,h3,h4,hB,o,Z⟩:=kD.kDq (r:=(kD.slice 5 kD.byte)) (q:=.pair kN (.pair .int .int)) h2;obtain ⟨c,d3,C,T3,rfl,h5,h6,hC,aa,ab⟩:=kD.kDq (r:=kN) (q:=.pair .int .int) h4;have G:=kN.len h1.1;have O:=(kD.slice 5 kD.byte).len h3.1;have l3:=kN.len h5.1
 match a,G,b,O,c,l3 with
 | [u],_,[v],_,[z],_ =>
   simp only [Ae,Ah] at he;obtain ⟨rfl,rfl,rfl,_⟩:=he;exact ⟨A,B,C,h1,h3,h5,hA,λk q=>hT k (hB k q),λk q=>hT k (o k (hC k q)),λk q1 q2=>hd k q1 (hB k q2),λk q1 q2=>hd k q1 (o k (hC k q2)),λk q1 q2=>Z k q1 (hC k q2)⟩
theorem data_of {w:Ad} {c0 c1 c2:Value} {n k:kg} {b:List Ai} {f s:Int} {A B C S:Nat->Prop} (h0:kN.own w [c0] n A) (h1:(kD.slice 5 kD.byte).own w [c1] b B) (h2:kN.own w [c2] k C) (hf:-9223372036854775808<=f/\f<=9223372036854775807) (hs:-9223372036854775808<=s/\s<=9223372036854775807) (hA:∀ k,A k->S k) (hB:∀ k,B k->S k) (hC:∀ k,C k->S k) (o:∀ k,A k->B k->False) (D:∀ k,A k->C k->False) (E:∀ k,B k->C k->False):jI.own w [c0,c1,c2,.int .i64 f,.int .i64 s] (n,b,k,f,s) S :=
  kD.jh (r:=kN) (q:=.pair (kD.slice 5 kD.byte) (.pair kN (.pair .int .int))) (cs:=[c0]) (ds:=[c1,c2,.int .i64 f,.int .i64 s]) (A:=A) (B:=λk=>B k\/C k) h0
    (kD.jh (r:=(kD.slice 5 kD.byte)) (q:=.pair kN (.pair .int .int)) (cs:=[c1]) (ds:=[c2,.int .i64 f,.int .i64 s]) (A:=B) (B:=C) h1 (kD.yF (r:=kN) (q:=.pair .int .int) (cs:=[c2]) (ds:=[.int .i64 f,.int .i64 s]) h2 (kD.jW (cs:=[.int .i64 f]) (kD.ku hf) (kD.ku hs))) (λk=>.inl) (λk=>.inr) E)
    hA (λk q=>q.elim (hB k) (hC k)) (λk q1 q2=>q2.elim (o k q1) (D k q1))
theorem kOr {w0 w:Ad} {p:Nat} (hc:yS w0 w p) {S:Nat->Prop} {ct:List Value} {tp:kCd} (ht:kBh.jo w ct tp S) (hS:∀ k,S k->¬ k=p) :
    Calls prog 132 #[.pointer (some ⟨p,0,none⟩),.agg ct.toArray] w λe w'=>DrawnD 10 w0 w p e w':=by
 obtain ⟨bd,bw⟩:=hc.lt
 obtain ⟨bi,ck,bz,cw,bb,cz,cl,co,rfl⟩:=kJy ht.rd.1
 have bx:=trust_keys ht
 have HK:Hid ((kD.slice 190 kKy).jo w _ _ (λk=>S k/\k < w.heap.size)):=yD ⟨((kD.slice 190 kKy)).live bx.1,bx.2⟩
 clear bx
 obtain ⟨t0,t1,t2,t3⟩:=tp
 simp only at HK
 clear ht
 go_enter func132,ntmps132
 go_upto_region 1 with fail
 generalize G:World.alloc (World.alloc w _) _=w1
 have hb:Below w.heap.size w w1:=by rw [<- G];exact (bR.alloc nL _).alloc bH4 _
 have BX:w1.heap[w.heap.size]?=some (.cells #[.slice bi t0.length ck,.slice bz t1.length cw,.slice bb t2.length cz,.slice cl t3.length co] 57 (0,0)):=vF
 have R:w1.heap[w.heap.size + 1]?=some (.cells #[.slice none 0 0,.slice none 0 0,.slice none 0 0,.int .i64 0,.int .i64 0] 70 (0,0)):=by rw [<- G];exact kG bH4
 have bo:w.heap.size + 2<=w1.heap.size:=bF4
 clear G
 replace HK:=yD (HK.out.below hb)
 obtain ⟨hc,J⟩:=G9
 clear hb
 go_wp2_with fail
 refine (kAd (hc.below (bR.alloc nL _)) (kD.kBg _ [{ data:=#[97] },{ data:=#[98] }] bH2 bH2) bH3 bH2 bH2).mono ?_
 rintro e V ⟨y,aw,b6,rfl,F,D⟩
 replace D:=(Touch.of_below (S:=λk=>k=p) (bR.alloc nL _)).trans D
 have bv:=D.size
 obtain ⟨HK,BX,R⟩:=DN
 replace J:=J.trans D
 clear hc D
 have hc:=F
 clear F
 have aa:y.size<=3:=by simp only [List.mem_cons,List.not_mem_nil,or_false] at aw;rcases aw with rfl | rfl <;> decide
 clear aw b6
 have U:(({ data:=#[47] }:Ac)++y).size<=4:=dO
 go_wp2_with fail
 generalize ({ data:=#[47] }:Ac)++y=s1 at *
 refine (yZ (s:=s1) bH3).mono ?_
 rintro e w3 ⟨za,zc,zs,rfl,hr,dv,hzs,hb⟩
 have bt:=hb.size
 obtain ⟨HK,BX,R⟩:=D7
 obtain ⟨hc,J⟩:=xI
 clear hb
 have HZ:=yD (hr)
 clear hr
 go_wp2_with fail
 refine (kAd (hc.below (bR.alloc nL _)) (kD.kBg _ [{ data:=#[49] },{ data:=#[50] },{ data:=#[120,45,49] }] bH2 bH2) bH3 bH2 bH2).mono ?_
 rintro e w4 ⟨y2,aw,b6,rfl,F,D⟩
 obtain ⟨D,b5⟩:=II
 obtain ⟨HK,BX,R⟩:=DN
 replace HZ:=yD (HZ.out.touch D qW)
 replace J:=J.trans D
 clear hc D
 have hc:=F
 clear F
 have a4:=kD.kCr bH2 aw
 clear aw b6
 go_wp2_with fail
 refine (kDg (cn:=[.slice za zs.length zc]) HZ.out.rd (s:=y2) bH3 bD0).mono ?_
 rintro e w5 ⟨na,nn,nc,b2,rfl,af,b0,hb⟩
 have b3:=hb.size
 obtain ⟨HK,BX,R⟩:=D7
 replace HZ:=yD (HZ.out.below hb)
 obtain ⟨hc,J⟩:=xI
 clear hb
 have bk:(if b2 then zs++[y2] else zs).length<=65:=dF
 generalize (if b2 then zs++[y2] else zs)=qs at *
 obtain ⟨_,_,_,bl,bj⟩:=b0.parts
 simp only [Value.slice.injEq] at bl
 have cg:=bl.2.1.trans bj.out
 clear bl bj af
 subst cg
 have cc:=b0.own bD0
 have HN:=yD (cc)
 clear HZ
 clear b0 cc
 go_upto_region 3 with fail
 generalize G:World.alloc w5 _=w6
 have hb:Below w5.heap.size w5 w6:=tK
 have BN:w6.heap[w5.heap.size]?=some (.cells #[.slice na qs.length nc] 36 (0,0)):=wW
 have dh:w5.heap.size + 1<=w6.heap.size:=bF4
 clear G
 obtain ⟨HK,BX,R⟩:=D7
 replace HN:=yD (HN.out.below hb)
 obtain ⟨hc,J⟩:=xI
 clear hb
 have c4:(({ data:=#[47] }:Ac)++y).size<=4:=dO
 have dq:((({ data:=#[47] }:Ac)++y)++({ data:=#[47,107,101,121] }:Ac)).size<=8:=by rw [ByteArray.size_append];have:({ data:=#[47,107,101,121] }:Ac).size=4:=rfl;omega
 go_wp2_with fail
 generalize ({ data:=#[47] }:Ac)++y=s2 at *
 generalize s2++({ data:=#[47,107,101,121] }:Ac)=s3 at *
 refine (yZ (s:=s3) bH3).mono ?_
 rintro e w7 ⟨ya,yc,ys,rfl,hr,d5,dg,hb⟩
 have et:=hb.size
 obtain ⟨HK,BX,R⟩:=D7
 replace BN:=kC BN hb
 replace HN:=yD (HN.out.below hb)
 obtain ⟨hc,J⟩:=xI
 clear hb
 have HY:=yD (hr)
 clear hr U c4 dq dg
 go_upto_region 4 with fail
 generalize G:World.alloc w7 _=w8
 have hb:Below w7.heap.size w7 w8:=tK
 have BY:w8.heap[w7.heap.size]?=some (.cells #[.slice ya ys.length yc] 36 (0,0)):=wW
 have eo:w7.heap.size + 1<=w8.heap.size:=bF4
 clear G
 obtain ⟨HK,BX,R⟩:=D7
 replace BN:=kC BN hb
 replace HN:=yD (HN.out.below hb)
 replace HY:=yD (HY.out.below hb)
 obtain ⟨hc,J⟩:=xI
 clear hb
 go_wp2_with fail
 refine (zY (n:=6) hc bH2).mono ?_
 rintro e w9 ⟨b,rfl,F,D⟩
 have e9:=D.size
 obtain ⟨HK,BX,R⟩:=DN
 replace BN:=D.kC BN bH3
 replace BY:=D.kC BY bH3
 replace HN:=yD (HN.out.touch D qW)
 replace HY:=yD (HY.out.touch D qW)
 replace J:=J.trans D
 clear hc D
 have hc:=F
 clear F
 obtain ⟨yb,cf⟩:∃ b_,b_=w7.heap.size:=⟨_,rfl⟩
 rw [<- cf] at BY ⊢
 have d4:=Nat.le_of_eq cf
 have d3:=Nat.le_of_eq cf.symm
 clear cf
 go_upto_if 29 with fail
 go_cut [] from 28 to 33 (λwc=>∃ (ya:Ab Ag) (yc:Nat) (ys:kg),wc.heap[yb]?=some (.cells #[.slice ya ys.length yc] 36 (0,0))/\Hid (kN.jo wc [.slice ya ys.length yc] ys (λk=>w.heap.size<=k/\k < wc.heap.size/\k≠yb))/\w9.heap.size<=wc.heap.size/\yS w0 wc p/\Touch (λk=>k=p\/k=yb) w9 wc)
 case first =>
  cases b
  · go_wp2;go_meet;exact ⟨ya,yc,ys,BY,yD (HY.out.jo.wide gF),Nat.le_refl _,hc,Touch.of_below bR⟩
  have cm:Touch (λk=>k=p\/k=yb) w9 w9:=Touch.of_below bR;go_wp2_with fail;refine (kAd (hc.below (bR.alloc nL _)) (kD.kBg _ [{ data:=#[47,98,97,100,47,107,101,121] },{ data:=#[47,107,101,121,47,97] },{ data:=#[47,97,47,107,101,121] }] bH2 bH2) bH3 bH2 bH2).mono ?_;rintro e b9 ⟨y3,aw,b6,rfl,F,D⟩;replace D:=(Touch.of_below (S:=λk=>k=p) (bR.alloc nL _)).trans D;have e5:=D.size;obtain ⟨HK,BX,R⟩:=DN;replace BN:=D.kC BN bH3;replace BY:=D.kC BY bH3;replace HN:=yD (HN.out.touch D qW);replace HY:=yD (HY.out.touch D qW);replace J:=J.trans D;replace cm:=cm.trans (D.wide (λk q=>.inl q));clear hc D;have hc:=F;clear F;go_wp2_with fail;refine (yZ (kD.kCr bH2 aw)).mono ?_;rintro e c6 ⟨va,vc,vs,rfl,hr,dz,d6,hb⟩;have fq:=hb.size;obtain ⟨HK,BX,R⟩:=D7;replace BN:=kC BN hb;replace BY:=kC BY hb;replace HN:=yD (HN.out.below hb);replace HY:=yD (HY.out.below hb);obtain ⟨hc,J⟩:=xI;replace cm:=cm.trans (Touch.of_below hb);clear hb;have X:=yD (hr);clear hr;have c1:c6.cell? ⟨yb,0,none⟩=some (.slice ya ys.length yc):=kE BY rfl;have dy:c6.frozen? ⟨yb,0,none⟩=false:=frozen_of_row c6 (yb) 0 _ _ BY;go_wp2;generalize G:World.setCell c6 _ _=dm;have hT:Touch (λk=>k=yb) c6 dm:=bB2;have dw:dm.heap[yb]?=some (.cells #[.slice va vs.length vc] 36 (0,0)):=by rw [<- G];exact kI BY 0
  have fx:=hT.size;clear G;go_meet;exact ⟨va,vc,vs,dw,yD ((X.out.jo.touch hT vD).wide gD),by omega,hc.touch hT bH3 bD7,cm.trans (hT.wide (λk q=>.inr q))⟩
 rename Ad=>wz
 clear BY HY hc
 obtain ⟨ya,yc,ys,BY,HY,d2,hc,TR⟩:=hcut
 replace BX:=TR.kC BX bH3
 replace R:=TR.kC R bH3
 replace BN:=TR.kC BN bH3
 replace HK:=yD (HK.out.touch TR (λk q h=>by rcases h with h | h;exact hS k q.1 h;(have:=q.2;omega)))
 replace HN:=yD (HN.out.touch TR pV)
 replace J:=J.ji TR bD7
 clear TR
 have dl:=hc.lt.2
 have zw:=J.size
 go_upto_region 6 with fail
 go_cut [9] from 34 to 46 (λs9 wd=>∃ (b:Nat) (ac:Ab Ag) (Y:Nat) (ai:Ab Ag) (ae:Nat) (aj:Ab Ag) (ah:Nat) (x:jT) (ok:Bool),s9=.pointer (some ⟨b,0,none⟩)/\wd.heap[b]?=some (.cells #[.slice ac x.1.length Y,.slice ai x.2.1.length ae,.slice aj x.2.2.1.length ah,.int .i64 x.2.2.2.1,.int .i64 x.2.2.2.2] 70 (0,0))/\Hid (jI.own wd [.slice ac x.1.length Y,.slice ai x.2.1.length ae,.slice aj x.2.2.1.length ah,.int .i64 x.2.2.2.1,.int .i64 x.2.2.2.2] x (λk=>wz.heap.size<=k/\k < wd.heap.size/\k≠b))/\x.2.1.length<=3/\wz.heap.size<=b/\b < wd.heap.size/\yS w0 wd p/\Touch (λk=>k=p) wz wd)
 case first =>
  have FX:=yD (λ(W:Ad) (hW:Touch (λk=>k=p) wz W/\yS w0 W p)=>And.intro (kE (hW.1.kC BX bH3) (j:=0) (v:=.slice bi t0.length ck) rfl) (And.intro (kE (hW.1.kC BY bH3) (j:=0) (v:=.slice ya ys.length yc) rfl) (kE (hW.1.kC BN bH3) (j:=0) (v:=.slice na qs.length nc) rfl)));refine yP (λW=>Touch (λk=>k=p) wz W/\yS w0 W p) bG6 (⟨Touch.of_below bR.drew,hc.below bR.drew⟩) ?_;intro t E;have dx:=E.1.size;refine kL 0 ?_;refine kL 1 ?_;refine kL 2 ?_;refine kL 3 ?_;refine kL 4 ?_;refine kL 5 ?_;refine kHe ?_;intro T A hT hA;have ab:∀ (xb:Int),∀ (ba:Ab Ag),∀ (bc:Nat),∀ (L:List Ai),∀ (ac:Ab Ag),∀ (Y:Nat),∀ (ai:Ab Ag),∀ (ae:Nat),∀ (aj:Ab Ag),∀ (ah:Nat),∀ (x:jT),∀ (ok:Bool),∀ (b:Nat),∀ (W:Ad),Touch (λk=>k=p) wz W/\yS w0 W p->(0<=xb)->(xb < 4)->(L.length<=3)->(Hid ((kD.slice 5 kD.byte).jo W [.slice ba L.length bc] L (λk=>wz.heap.size<=k/\k < W.heap.size/\k≠b)))->(x.2.1.length<=3)->(Hid (jI.own W [.slice ac x.1.length Y,.slice ai x.2.1.length ae,.slice aj x.2.2.1.length ah,.int .i64 x.2.2.2.1,.int .i64 x.2.2.2.2] x (λk=>wz.heap.size<=k/\k < W.heap.size/\k≠b)))->(wz.heap.size<=b/\b < W.heap.size)->(W.heap[b]?=some (.cells #[.slice ac x.1.length Y,.slice ai x.2.1.length ae,.slice aj x.2.2.1.length ah,.int .i64 x.2.2.2.1,.int .i64 x.2.2.2.2] 70 (0,0)))->T 0 [Tt,Tt,Tt,Tt,Tt,Tt,Tt,Tt,Tt,Tt,Tt,Tt,Tt,Tt,Tt] (Aa (Aa (Aa (Aa (Aa (Aa (Aa (Aa A (some 41) (.int .i64 xb)) (some 42) (.slice ba L.length bc)) (some 43) (.tuple #[.agg #[.slice ac x.1.length Y,.slice ai x.2.1.length ae,.slice aj x.2.2.1.length ah,.int .i64 x.2.2.2.1,.int .i64 x.2.2.2.2],.bool ok])) (some 34) (.tuple #[.agg #[.slice ac x.1.length Y,.slice ai x.2.1.length ae,.slice aj x.2.2.1.length ah,.int .i64 x.2.2.2.1,.int .i64 x.2.2.2.2],.bool ok])) (some 44) (.agg #[.slice ac x.1.length Y,.slice ai x.2.1.length ae,.slice aj x.2.2.1.length ah,.int .i64 x.2.2.2.1,.int .i64 x.2.2.2.2])) (some 45) (.bool ok)) (some 9) (.pointer (some ⟨b,0,none⟩))) (some 10) (.bool ok)) W:=by
   intro xb ba bc L ac Y ai ae aj ah x ok b W E au o a8 HB bg HQ N BB;have bh:=E.1.size;subst hT;subst hA;simp only [Aa,zA,zB,zC];refine jg bG6 ?_;go_wp2;go_meet;exact ⟨b,ac,Y,ai,ae,aj,ah,x,ok,rfl,BB,HQ,bg,N.1,N.2,E.2,E.1⟩
  have I:∀ (xb:Int),∀ (ba:Ab Ag),∀ (bc:Nat),∀ (L:List Ai),∀ (ac:Ab Ag),∀ (Y:Nat),∀ (ai:Ab Ag),∀ (ae:Nat),∀ (aj:Ab Ag),∀ (ah:Nat),∀ (x:jT),∀ (ok:Bool),∀ (b:Nat),∀ (W:Ad),Touch (λk=>k=p) wz W/\yS w0 W p->(0<=xb)->(xb < 4)->(L.length<=3)->(Hid ((kD.slice 5 kD.byte).jo W [.slice ba L.length bc] L (λk=>wz.heap.size<=k/\k < W.heap.size/\k≠b)))->(x.2.1.length<=3)->(Hid (jI.own W [.slice ac x.1.length Y,.slice ai x.2.1.length ae,.slice aj x.2.2.1.length ah,.int .i64 x.2.2.2.1,.int .i64 x.2.2.2.2] x (λk=>wz.heap.size<=k/\k < W.heap.size/\k≠b)))->(wz.heap.size<=b/\b < W.heap.size)->(W.heap[b]?=some (.cells #[.slice none 0 0,.slice none 0 0,.slice none 0 0,.int .i64 0,.int .i64 0] 70 (0,0)))->T 2 [Tt,Tt,Tt,Tt,Tt,Tt,Tt,Tt,Tt,Tt,Tt,Tt,Tt,Ff,Ff] (Aa (Aa (Aa (Aa (Aa (Aa (Aa A (some 41) (.int .i64 xb)) (some 42) (.slice ba L.length bc)) (some 43) (.tuple #[.agg #[.slice ac x.1.length Y,.slice ai x.2.1.length ae,.slice aj x.2.2.1.length ah,.int .i64 x.2.2.2.1,.int .i64 x.2.2.2.2],.bool ok])) (some 34) (.tuple #[.agg #[.slice ac x.1.length Y,.slice ai x.2.1.length ae,.slice aj x.2.2.1.length ah,.int .i64 x.2.2.2.1,.int .i64 x.2.2.2.2],.bool ok])) (some 44) (.agg #[.slice ac x.1.length Y,.slice ai x.2.1.length ae,.slice aj x.2.2.1.length ah,.int .i64 x.2.2.2.1,.int .i64 x.2.2.2.2])) (some 45) (.bool ok)) (some 9) (.pointer (some ⟨b,0,none⟩))) W:=by
   intro xb ba bc L ac Y ai ae aj ah x ok b W E au o a8 HB bg HQ N BB;have bh:=E.1.size;subst hT;subst hA;simp only [Aa,zA,zB,zC];refine kP (k:=13) rfl bG6 rfl (λK H=>?_);obtain ⟨de,dc,dd,dk,db⟩:=zD BB;obtain ⟨cv,c7,c8,df,c5⟩:=kBv BB;go_simp;generalize G:World.setCell (World.setCell (World.setCell (World.setCell (World.setCell W _ _) _ _) _ _) _ _) _ _=v;have hT:Touch (λk=>k=b) W v:=(by rw [<- G];exact sT5);replace BB:v.heap[b]?=some (.cells #[.slice ac x.1.length Y,.slice ai x.2.1.length ae,.slice aj x.2.2.1.length ah,.int .i64 x.2.2.2.1,.int .i64 x.2.2.2.2] 70 (0,0)):=(by rw [<- G];exact kI (kI (kI (kI (kI (BB) 0) 1) 2) 3) 4);clear G de cv dc c7 dd c8 dk df db c5;have zv:=hT.size;replace HB:Hid ((kD.slice 5 kD.byte).jo v [.slice ba L.length bc] L (λk=>wz.heap.size<=k/\k < v.heap.size/\k≠b)):=yD ((HB.out.touch hT (λk q h=>q.2.2 h)).wide (λk q=>⟨q.1,Nat.lt_of_lt_of_le q.2.1 hT.size,q.2.2⟩));replace HQ:Hid (jI.own v [.slice ac x.1.length Y,.slice ai x.2.1.length ae,.slice aj x.2.2.1.length ah,.int .i64 x.2.2.2.1,.int .i64 x.2.2.2.2] x (λk=>wz.heap.size<=k/\k < v.heap.size/\k≠b)):=yD ((HQ.out.touch hT (λk q h=>q.2.2 h)).wide (λk q=>⟨q.1,Nat.lt_of_lt_of_le q.2.1 hT.size,q.2.2⟩));replace N:wz.heap.size<=b/\b < v.heap.size:=⟨N.1,Nat.lt_of_lt_of_le N.2 hT.size⟩;replace E:=And.intro (E.1.jJ hT bH3) (E.2.touch hT bH3 rE);refine H _ _ E ?_;clear H K;refine jG ?_;refine kL 14 ?_;have h_:=ab xb ba bc L ac Y ai ae aj ah x ok b v E au o a8 HB bg HQ N BB;exact dR
  have c3:∀ (xb:Int),∀ (ba:Ab Ag),∀ (bc:Nat),∀ (L:List Ai),∀ (ac:Ab Ag),∀ (Y:Nat),∀ (ai:Ab Ag),∀ (ae:Nat),∀ (aj:Ab Ag),∀ (ah:Nat),∀ (x:jT),∀ (ok:Bool),∀ (W:Ad),Touch (λk=>k=p) wz W/\yS w0 W p->(0<=xb)->(xb < 4)->(L.length<=3)->(Hid ((kD.slice 5 kD.byte).jo W [.slice ba L.length bc] L (λk=>wz.heap.size<=k/\k < W.heap.size/\k≠p)))->(x.2.1.length<=3)->(Hid (jI.own W [.slice ac x.1.length Y,.slice ai x.2.1.length ae,.slice aj x.2.2.1.length ah,.int .i64 x.2.2.2.1,.int .i64 x.2.2.2.2] x (λk=>wz.heap.size<=k/\k < W.heap.size/\k≠p)))->T 3 [Tt,Tt,Tt,Tt,Tt,Tt,Tt,Tt,Tt,Tt,Tt,Tt,Ff,Ff,Ff] (Aa (Aa (Aa (Aa (Aa (Aa A (some 41) (.int .i64 xb)) (some 42) (.slice ba L.length bc)) (some 43) (.tuple #[.agg #[.slice ac x.1.length Y,.slice ai x.2.1.length ae,.slice aj x.2.2.1.length ah,.int .i64 x.2.2.2.1,.int .i64 x.2.2.2.2],.bool ok])) (some 34) (.tuple #[.agg #[.slice ac x.1.length Y,.slice ai x.2.1.length ae,.slice aj x.2.2.1.length ah,.int .i64 x.2.2.2.1,.int .i64 x.2.2.2.2],.bool ok])) (some 44) (.agg #[.slice ac x.1.length Y,.slice ai x.2.1.length ae,.slice aj x.2.2.1.length ah,.int .i64 x.2.2.2.1,.int .i64 x.2.2.2.2])) (some 45) (.bool ok)) W:=by
   intro xb ba bc L ac Y ai ae aj ah x ok W E au o a8 HB bg HQ;have bh:=E.1.size;subst hT;subst hA;simp only [Aa,zA,zB,zC];refine kP (k:=12) rfl bG6 rfl (λK H=>?_);go_simp;generalize G:World.alloc W _=v;obtain ⟨hb,BB,zv⟩:=xZ;clear G;obtain ⟨b,ax⟩:∃ b_,b_=W.heap.size:=⟨_,rfl⟩;rw [<- ax] at BB ⊢;replace HB:Hid ((kD.slice 5 kD.byte).jo v [.slice ba L.length bc] L (λk=>wz.heap.size<=k/\k < v.heap.size/\k≠b)):=yD ((HB.out.below hb).wide dK);replace HQ:Hid (jI.own v [.slice ac x.1.length Y,.slice ai x.2.1.length ae,.slice aj x.2.2.1.length ah,.int .i64 x.2.2.2.1,.int .i64 x.2.2.2.2] x (λk=>wz.heap.size<=k/\k < v.heap.size/\k≠b)):=yD ((HQ.out.below hb).wide dK);obtain ⟨N,E⟩:=BM;refine H _ _ E ?_;clear H K;refine jG ?_;exact dW
  have ad:∀ (xb:Int),∀ (ba:Ab Ag),∀ (bc:Nat),∀ (L:List Ai),∀ (b:Nat),∀ (W:Ad),Touch (λk=>k=p) wz W/\yS w0 W p->(0<=xb)->(xb < 4)->(L.length<=3)->(Hid ((kD.slice 5 kD.byte).jo W [.slice ba L.length bc] L (λk=>wz.heap.size<=k/\k < W.heap.size/\k≠b)))->(wz.heap.size<=b/\b < W.heap.size)->(W.heap[b]?=some (.cells #[.slice none 0 0,.slice none 0 0,.slice none 0 0,.int .i64 0,.int .i64 0] 70 (0,0)))->T 6 [Tt,Tt,Tt,Tt,Tt,Tt,Tt,Tt,Ff,Ff,Ff,Ff,Tt,Ff,Ff] (Aa (Aa (Aa A (some 41) (.int .i64 xb)) (some 42) (.slice ba L.length bc)) (some 9) (.pointer (some ⟨b,0,none⟩))) W:=by
   intro xb ba bc L b W E au o a8 HB N BB;have bh:=E.1.size;subst hT;subst hA;simp only [Aa,zA,zB,zC];refine kP (k:=8) rfl bG6 rfl (λK H=>?_);go_simp;refine (kEq (l:=t0) (HK.out.touch E.1 (λk q h=>hS k q.1 h)).rd.1 (cb:=[.slice ya ys.length yc]) (HY.out.touch E.1 vD).rd (cn:=[.slice na qs.length nc]) (HN.out.touch E.1 qI).rd HB.out.rd bH3 (tl:=4000) bH2).mono ?_;rintro e v ⟨ds,x,ok,rfl,hO,dt,hb⟩;have zv:=hb.size;have b4:=N.2;replace HB:Hid ((kD.slice 5 kD.byte).jo v [.slice ba L.length bc] L (λk=>wz.heap.size<=k/\k < v.heap.size/\k≠b)):=yD ((HB.out.below hb).wide (λk q=>⟨q.1,Nat.lt_of_lt_of_le q.2.1 hb.size,q.2.2⟩));replace BB:=kC BB hb;replace N:wz.heap.size<=b/\b < v.heap.size:=⟨N.1,Nat.lt_of_lt_of_le N.2 hb.size⟩;obtain ⟨ac,Y,ai,ae,aj,ah,rfl⟩:=zk hO.raw;have bg:x.2.1.length<=3:=bH3;have HQ:Hid (jI.own v [.slice ac x.1.length Y,.slice ai x.2.1.length ae,.slice aj x.2.2.1.length ah,.int .i64 x.2.2.2.1,.int .i64 x.2.2.2.2] x (λk=>wz.heap.size<=k/\k < v.heap.size/\k≠b)):=yD (hO.wide mM);replace E:=And.intro (E.1.trans (Touch.of_below hb)) (E.2.below hb);refine H _ _ E ?_;clear H K;refine jG ?_;refine kL 9 ?_;refine kL 10 ?_;refine kL 11 ?_;exact dW
  have dn:∀ (xb:Int),∀ (ba:Ab Ag),∀ (bc:Nat),∀ (L:List Ai),∀ (W:Ad),Touch (λk=>k=p) wz W/\yS w0 W p->(0<=xb)->(xb < 4)->(L.length<=3)->(Hid ((kD.slice 5 kD.byte).jo W [.slice ba L.length bc] L (λk=>wz.heap.size<=k/\k < W.heap.size/\k≠p)))->T 7 [Tt,Tt,Tt,Tt,Tt,Tt,Tt,Tt,Ff,Ff,Ff,Ff,Ff,Ff,Ff] (Aa (Aa A (some 41) (.int .i64 xb)) (some 42) (.slice ba L.length bc)) W:=by
   intro xb ba bc L W E au o a8 HB;have bh:=E.1.size;subst hT;subst hA;simp only [Aa,zA,zB,zC];refine jr (i:=8) (j:=12) rfl rfl bG6 rfl rfl (λK H=>?_) (λK H=>?_)
   · go_simp;refine (kEq (l:=t0) (HK.out.touch E.1 (λk q h=>hS k q.1 h)).rd.1 (cb:=[.slice ya ys.length yc]) (HY.out.touch E.1 vD).rd (cn:=[.slice na qs.length nc]) (HN.out.touch E.1 qI).rd HB.out.rd bH3 (tl:=4000) bH2).mono ?_;rintro e v ⟨ds,x,ok,rfl,hO,dt,hb⟩;have zv:=hb.size;replace HB:Hid ((kD.slice 5 kD.byte).jo v [.slice ba L.length bc] L (λk=>wz.heap.size<=k/\k < v.heap.size/\k≠p)):=yD ((HB.out.below hb).wide (λk q=>⟨q.1,Nat.lt_of_lt_of_le q.2.1 hb.size,q.2.2⟩));obtain ⟨ac,Y,ai,ae,aj,ah,rfl⟩:=zk hO.raw;have bg:x.2.1.length<=3:=bH3;have HQ:Hid (jI.own v [.slice ac x.1.length Y,.slice ai x.2.1.length ae,.slice aj x.2.2.1.length ah,.int .i64 x.2.2.2.1,.int .i64 x.2.2.2.2] x (λk=>wz.heap.size<=k/\k < v.heap.size/\k≠p)):=yD (hO.wide mM);replace E:=And.intro (E.1.trans (Touch.of_below hb)) (E.2.below hb);refine H _ _ E ?_;clear H K;refine jG ?_;refine kL 9 ?_;refine kL 10 ?_;refine kL 11 ?_;have h_:=c3 xb ba bc L ac Y ai ae aj ah x ok v E au o a8 HB bg HQ;exact dR
   go_simp;generalize G:World.alloc W _=v;obtain ⟨hb,BB,zv⟩:=xZ;clear G;obtain ⟨b,ax⟩:∃ b_,b_=W.heap.size:=⟨_,rfl⟩;rw [<- ax] at BB ⊢;replace HB:Hid ((kD.slice 5 kD.byte).jo v [.slice ba L.length bc] L (λk=>wz.heap.size<=k/\k < v.heap.size/\k≠b)):=yD ((HB.out.below hb).wide dK);obtain ⟨N,E⟩:=BM;exact dX
  have ch:∀ (xb:Int),∀ (b:Nat),∀ (W:Ad),Touch (λk=>k=p) wz W/\yS w0 W p->(0<=xb)->(xb < 4)->(wz.heap.size<=b/\b < W.heap.size)->(W.heap[b]?=some (.cells #[.slice none 0 0,.slice none 0 0,.slice none 0 0,.int .i64 0,.int .i64 0] 70 (0,0)))->T 7 [Tt,Tt,Tt,Tt,Tt,Tt,Tt,Ff,Ff,Ff,Ff,Ff,Tt,Ff,Ff] (Aa (Aa A (some 41) (.int .i64 xb)) (some 9) (.pointer (some ⟨b,0,none⟩))) W:=by
   intro xb b W E au o N BB;have bh:=E.1.size;subst hT;subst hA;simp only [Aa,zA,zB,zC];refine kP (k:=7) rfl bG6 rfl (λK H=>?_);go_simp;refine (kCh E.2 au bH3).mono ?_;rintro e v ⟨ba,bc,L,rfl,c2,hO,F,D⟩;have zv:=D.size;have b4:=N.2;replace BB:=D.kC BB bH3;replace N:wz.heap.size<=b/\b < v.heap.size:=⟨N.1,Nat.lt_of_lt_of_le N.2 D.size⟩;have a8:L.length<=3:=bH3;have HB:Hid ((kD.slice 5 kD.byte).jo v [.slice ba L.length bc] L (λk=>wz.heap.size<=k/\k < v.heap.size/\k≠b)):=yD (hO.jo.wide mM);replace E:=And.intro (E.1.trans D) F;exact dX
  have T6:∀ (xb:Int),∀ (W:Ad),Touch (λk=>k=p) wz W/\yS w0 W p->(0<=xb)->(xb < 4)->T 8 [Tt,Tt,Tt,Tt,Tt,Tt,Tt,Ff,Ff,Ff,Ff,Ff,Ff,Ff,Ff] (Aa A (some 41) (.int .i64 xb)) W:=by
   intro xb W E au o;have bh:=E.1.size;subst hT;subst hA;simp only [Aa,zA,zB,zC];refine jr (i:=7) (j:=12) rfl rfl bG6 rfl rfl (λK H=>?_) (λK H=>?_)
   · go_simp;refine (kCh E.2 au bH3).mono ?_;rintro e v ⟨ba,bc,L,rfl,c2,hO,F,D⟩;have zv:=D.size;have a8:L.length<=3:=bH3;have HB:Hid ((kD.slice 5 kD.byte).jo v [.slice ba L.length bc] L (λk=>wz.heap.size<=k/\k < v.heap.size/\k≠p)):=yD (hO.jo.wide mM);replace E:=And.intro (E.1.trans D) F;refine H _ _ E ?_;clear H K;refine jG ?_;have h_:=dn xb ba bc L v E au o a8 HB;exact dR
   go_simp;generalize G:World.alloc W _=v;obtain ⟨hb,BB,zv⟩:=xZ;clear G;obtain ⟨b,ax⟩:∃ b_,b_=W.heap.size:=⟨_,rfl⟩;rw [<- ax] at BB ⊢;obtain ⟨N,E⟩:=BM;exact eD
  have d0:∀ (b:Nat),∀ (W:Ad),Touch (λk=>k=p) wz W/\yS w0 W p->(wz.heap.size<=b/\b < W.heap.size)->(W.heap[b]?=some (.cells #[.slice none 0 0,.slice none 0 0,.slice none 0 0,.int .i64 0,.int .i64 0] 70 (0,0)))->T 8 [Tt,Tt,Tt,Tt,Tt,Tt,Ff,Ff,Ff,Ff,Ff,Ff,Tt,Ff,Ff] (Aa A (some 9) (.pointer (some ⟨b,0,none⟩))) W:=by
   intro b W E N BB;have bh:=E.1.size;subst hT;subst hA;simp only [Aa,zA,zB,zC];refine kP (k:=6) rfl bG6 rfl (λK H=>?_);go_simp;refine (ko (n:=4) E.2 bH2).mono ?_;rintro e v ⟨xb,au,o,be,rfl,F,D⟩;have zv:=D.size;have b4:=N.2;replace BB:=D.kC BB bH3;replace N:wz.heap.size<=b/\b < v.heap.size:=⟨N.1,Nat.lt_of_lt_of_le N.2 D.size⟩;replace o:=o bH2;clear be;replace E:=And.intro (E.1.trans D) F;exact eD
  subst hT;subst hA;refine jr (i:=6) (j:=12) rfl rfl bG6 rfl rfl (λK H=>?_) (λK H=>?_)
  · go_simp;refine (ko (n:=4) E.2 bH2).mono ?_;rintro e v ⟨xb,au,o,be,rfl,F,D⟩;have zv:=D.size;replace o:=o bH2;clear be;replace E:=And.intro (E.1.trans D) F;refine H _ _ E ?_;clear H K;refine jG ?_;have h_:=T6 xb v E au o;exact dR
  go_simp;generalize G:World.alloc t _=v;have hb:Below t.heap.size t v:=(by rw [<- G];exact bR.alloc nL _);have BB:v.heap[t.heap.size]?=some (.cells #[.slice none 0 0,.slice none 0 0,.slice none 0 0,.int .i64 0,.int .i64 0] 70 (0,0)):=(by rw [<- G];exact kG rfl);have zv:t.heap.size + 1<=v.heap.size:=(by rw [<- G];simp);clear G;obtain ⟨b,ax⟩:∃ b_,b_=t.heap.size:=⟨_,rfl⟩;rw [<- ax] at BB ⊢;obtain ⟨N,E⟩:=BM;refine H _ _ E ?_;clear H K;refine jG ?_;have h_:=d0 b v E N BB;exact dR
 rename Ad=>wd
 obtain ⟨b,ac,Y,ai,ae,aj,ah,x,ok,rfl,BQ,HQ,bg,b7,O,cd,br⟩:=hcut
 replace R:=br.kC R bH3
 replace J:=J.trans br
 clear hc BX BN BY HK HN HY
 have hc:=cd
 have zd:=br.size
 clear cd br
 have b8:=data_rng HQ.out.raw
 go_wp2_with fail
 refine (zY (n:=8) hc bH2).mono ?_
 rintro e bu ⟨b1,rfl,F,D⟩
 have dj:=D.size
 replace R:=D.kC R bH3
 replace BQ:=D.kC BQ bH3
 replace HQ:=yD (HQ.out.touch D qW)
 replace J:=J.trans D
 clear hc D
 have hc:=F
 clear F
 cases b1
 · replace HQ:=yD (HQ.out.wide (T:=λk=>wz.heap.size<=k/\k < bu.heap.size/\k≠b) qN);obtain ⟨ak,ao,az,a7,bp⟩:=zD R;obtain ⟨ag,ap,ar,aq,bm⟩:=zD BQ;obtain ⟨al,an,ay,a6,bn⟩:=kBv R;go_wp2;refine bodyPost_ret (v:=.agg #[.slice ac x.1.length Y,.slice ai x.2.1.length ae,.slice aj x.2.2.1.length ah,.int .i64 x.2.2.2.1,.int .i64 x.2.2.2.2]) fJ rfl ⟨[.slice ac x.1.length Y,.slice ai x.2.1.length ae,.slice aj x.2.2.1.length ah,.int .i64 x.2.2.2.1,.int .i64 x.2.2.2.2],x,rfl,?_,by omega,hc.touch sT5 bH3 bD5,J.jJ sT5 bH3⟩;exact (HQ.out.touch (T:=λk=>k=w.heap.size + 1) sT5 vD).wide (T:=jb w.heap.size _) fA
 obtain ⟨A_,B_,C_,hA,hB,hC,sA,sB,sC,du,d1,dr⟩:=data_parts HQ.out
 obtain ⟨ag,ap,ar,aq,bm⟩:=zD BQ
 obtain ⟨a2,av,am,a3,a1⟩:=kBv BQ
 go_wp2_with (at_builtin;refine kD.zh rfl _ _ 22 rfl (r:=kD.byte) (e:=5) underlying22 kFb rfl bH2 bH2 (w:=bu) hB bR (kRf (x:=1) rfl) bH5 bH5 (λ_ _ h=>h) bH3 ?_)
 intro v9 w9 a5 Z
 have e9:=Z.size
 have dp:=yD (show (x.2.1++[(1:Ai)]).length<=4 by simp;omega)
 generalize x.2.1++[(1:Ai)]=bq at *
 obtain ⟨a9,c9,ce,_⟩:=kD.kBd a5.raw
 obtain rfl:v9=_:=by simpa using ce
 have ht:Touch (λk=>wz.heap.size<=k/\k < bu.heap.size/\k≠b) bu w9:=Z.wide (λk q=>⟨(sB k q.1).1,q.2,(sB k q.1).2.2⟩)
 have HD:=yD (data_of (S:=λk=>wz.heap.size<=k/\k < w9.heap.size/\k≠b) (hA.touch Z (λk q h=>du k q h.1)) a5 (hC.touch Z (λk q h=>dr k h.1 q)) b8.1 b8.2 (λk q=>⟨(sA k q).1,by have:=(sA k q).2.1;omega,(sA k q).2.2⟩) (λk q=>by rcases q with q | q;exact ⟨(sB k q).1,by have:=(sB k q).2.1;omega,(sB k q).2.2⟩;exact ⟨by have:=q.1;omega,q.2,by have:=q.1;omega⟩) (λk q=>⟨(sC k q).1,by have:=(sC k q).2.1;omega,(sC k q).2.2⟩) (λk q1 q2=>by rcases q2 with q2 | q2;exact du k q1 q2;(have h1:=(sA k q1).2.1;have h2:=q2.1;omega)) d1 (λk q1 q2=>by rcases q1 with q1 | q1;exact dr k q1 q2;(have h1:=(sC k q2).2.1;have h2:=q1.1;omega)))
 clear hA hB hC a5 HQ ag ap ar aq bm a2 av am a3 a1
 replace R:=ht.kC R bH3
 replace BQ:=ht.kC BQ bH3
 replace hc:=hc.touch ht bH3 vR
 replace J:=J.kBz (ht.wide (T:=λk=>wz.heap.size<=k) (λk q=>q.1)) bD7
 clear ht Z
 obtain ⟨ag,ap,ar,aq,bm⟩:=zD BQ
 obtain ⟨a2,av,am,a3,a1⟩:=kBv BQ
 go_upto_region 9 with fail
 clear ag ap ar aq bm a2 av am a3 a1
 generalize G:World.setCell w9 _ _=da
 have bf:Touch (λk=>k=b) w9 da:=bB2
 replace BQ:da.heap[b]?=some (.cells #[.slice ac x.1.length Y,.slice a9 bq.length c9,.slice aj x.2.2.1.length ah,.int .i64 x.2.2.2.1,.int .i64 x.2.2.2.2] 70 (0,0)):=by rw [<- G];exact kI BQ 1
 have di:=bf.size
 clear G
 replace R:=bf.kC R bH3
 replace HD:=yD (HD.out.touch bf qW)
 replace hc:=hc.touch bf bH3 bD5
 replace J:=J.jJ bf bH3
 clear bf
 obtain ⟨ak,ao,az,a7,bp⟩:=zD R
 obtain ⟨ag,ap,ar,aq,bm⟩:=zD BQ
 obtain ⟨al,an,ay,a6,bn⟩:=kBv R
 go_wp2
 refine bodyPost_ret (v:=.agg #[.slice ac x.1.length Y,.slice a9 bq.length c9,.slice aj x.2.2.1.length ah,.int .i64 x.2.2.2.1,.int .i64 x.2.2.2.2]) fJ rfl ⟨[.slice ac x.1.length Y,.slice a9 bq.length c9,.slice aj x.2.2.1.length ah,.int .i64 x.2.2.2.1,.int .i64 x.2.2.2.2],(x.1,bq,x.2.2.1,x.2.2.2.1,x.2.2.2.2),rfl,?_,(by have:=dp.out;show bq.length<=10;omega),hc.touch sT5 bH3 bD5,J.jJ sT5 bH3⟩
 exact (HD.out.touch (T:=λk=>k=w.heap.size + 1) sT5 vD).wide (T:=jb w.heap.size _) fA
end Go.Proofs.YtjhfdpopkkmigabGreat

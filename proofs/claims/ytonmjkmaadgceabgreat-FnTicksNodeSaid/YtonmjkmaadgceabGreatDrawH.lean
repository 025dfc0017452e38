/-
  What is believed, mostly, as the reference draws it.
-/
import Derived.Test.YtonmjkmaadgceabGreatDrawK
import Derived.Test.YtonmjkmaadgceabGreatDrawY
set_option linter.unusedVariables false
set_option linter.unusedSimpArgs false
set_option linter.unnecessarySimpa false
set_option maxRecDepth 100000
set_option maxHeartbeats 8000000
open Bool renaming true->Tt,false->Ff
open Go.Act renaming put->Aa
open _root_ renaming Option->Ab,ByteArray->Ac,UInt8->Ai
open Go renaming World->Ad,Addr->Ag
open List renaming singleton_append->Ae
open List.cons renaming injEq->Ah
namespace Go.Proofs.YtonmjkmaadgceabGreat
open Go.RowKit _root_.Go.Proofs.Tryz
theorem kIp {w:Ad} {cs:List Value} {t:kCa} (h:kAz.raw w cs t):∃ a0 c0 a1 c1 a2 c2 a3 c3,cs=[.slice a0 t.1.length c0,.slice a1 t.2.1.length c1,.slice a2 t.2.2.1.length c2,.slice a3 t.2.2.2.length c3]:=by
 obtain ⟨v0,v1,v2,v3,rfl,ab,Z,ai,ah⟩:=kQp h;obtain ⟨a0,c0,rfl,_⟩:=kD.sl ab;obtain ⟨a1,c1,rfl,_⟩:=kD.sl Z;obtain ⟨a2,c2,rfl,_⟩:=kD.sl ai;obtain ⟨a3,c3,rfl,_⟩:=kD.sl ah;exact ⟨_,_,_,_,_,_,_,_,rfl⟩
theorem trust_keys {w:Ad} {v0 v1 v2 v3:Value} {t:kCa} {S:Nat->Prop} (h:kAz.ji w [v0,v1,v2,v3] t S):(kD.slice 173 kJg).ji w [v0] t.1 S:=by
 obtain ⟨c,d,he,h1,h2⟩:=kD.kGh (r:=(kD.slice 173 kJg)) h;have l1:=(kD.slice 173 kJg).len h1.1
 match c,l1 with
 | [u],_=>simp only [Ae,Ah] at he;obtain ⟨rfl,_⟩:=he;exact h1
theorem data_parts {w:Ad} {c0 c1 c2 c3 c4:Value} {x:jN} {S:Nat->Prop} (h:jJ.own w [c0,c1,c2,c3,c4] x S):∃ A B C:Nat->Prop,kU.own w [c0] x.1 A/\(kD.slice 5 kD.byte).own w [c1] x.2.1 B/\kU.own w [c2] x.2.2.1 C/\(∀ k,A k->S k)/\(∀ k,B k->S k)/\(∀ k,C k->S k)/\(∀ k,A k->B k->False)/\(∀ k,A k->C k->False)/\(∀ k,B k->C k->False):=by
 obtain ⟨a,d,A,T,he,h1,h2,hA,hT,hd⟩:=kD.kEe (r:=kU) (q:=.pair (kD.slice 5 kD.byte) (.pair kU (.pair .int .int))) h;obtain ⟨b,R,B,T2,rfl,h3,h4,hB,o,aq⟩:=kD.kEe (r:=(kD.slice 5 kD.byte)) (q:=.pair kU (.pair .int .int)) h2;obtain ⟨c,V,C,T3,rfl,h5,h6,hC,ae,ad⟩:=kD.kEe (r:=kU) (q:=.pair .int .int) h4;have l1:=kU.len h1.1;have l2:=(kD.slice 5 kD.byte).len h3.1;have l3:=kU.len h5.1
 match a,l1,b,l2,c,l3 with
 | [u],_,[v],_,[z],_ =>
   simp only [Ae,Ah] at he;obtain ⟨rfl,rfl,rfl,_⟩:=he;exact ⟨A,B,C,h1,h3,h5,hA,λk q=>hT k (hB k q),λk q=>hT k (o k (hC k q)),λk q1 q2=>hd k q1 (hB k q2),λk q1 q2=>hd k q1 (o k (hC k q2)),λk q1 q2=>aq k q1 (hC k q2)⟩
theorem data_of {w:Ad} {c0 c1 c2:Value} {n k:ko} {b:List Ai} {f s:Int} {A B C S:Nat->Prop} (h0:kU.own w [c0] n A) (h1:(kD.slice 5 kD.byte).own w [c1] b B) (h2:kU.own w [c2] k C) (hf:-9223372036854775808<=f/\f<=9223372036854775807) (hs:-9223372036854775808<=s/\s<=9223372036854775807) (hA:∀ k,A k->S k) (hB:∀ k,B k->S k) (hC:∀ k,C k->S k) (G:∀ k,A k->B k->False) (am:∀ k,A k->C k->False) (ao:∀ k,B k->C k->False):jJ.own w [c0,c1,c2,.int .i64 f,.int .i64 s] (n,b,k,f,s) S :=
  kD.jl (r:=kU) (q:=.pair (kD.slice 5 kD.byte) (.pair kU (.pair .int .int))) (cs:=[c0]) (ds:=[c1,c2,.int .i64 f,.int .i64 s]) (A:=A) (B:=λk=>B k\/C k) h0
    (kD.jl (r:=(kD.slice 5 kD.byte)) (q:=.pair kU (.pair .int .int)) (cs:=[c1]) (ds:=[c2,.int .i64 f,.int .i64 s]) (A:=B) (B:=C) h1 (kD.jv (r:=kU) (q:=.pair .int .int) (cs:=[c2]) (ds:=[.int .i64 f,.int .i64 s]) h2 (kD.yC (cs:=[.int .i64 f]) (kD.jB hf) (kD.jB hs))) (λk=>.inl) (λk=>.inr) ao)
    hA (λk q=>q.elim (hB k) (hC k)) (λk q1 q2=>q2.elim (G k q1) (am k q1))
theorem kMr {w0 w:Ad} {p:Nat} (hc:yU w0 w p) {S:Nat->Prop} {ct:List Value} {tp:kCa} (ht:kAz.ji w ct tp S) (hS:∀ k,S k->¬ k=p) :
    Calls prog 133 #[.pointer (some ⟨p,0,none⟩),.agg ct.toArray] w λe w'=>DrawnD 10 w0 w p e w':=by
 obtain ⟨bf,b4⟩:=hc.lt
 obtain ⟨a7,b8,bx,cw,be,cz,cl,co,rfl⟩:=kIp ht.rd.1
 have br:=trust_keys ht
 have HK:Hid ((kD.slice 173 kJg).ji w _ _ (λk=>S k/\k < w.heap.size)):=yD ⟨((kD.slice 173 kJg)).live br.1,br.2⟩
 clear br
 obtain ⟨t0,t1,t2,t3⟩:=tp
 simp only at HK
 clear ht
 go_enter func133,ntmps133
 go_upto_region 1 with fail
 generalize F:World.alloc (World.alloc w _) _=Y
 have hb:Below w.heap.size w Y:=by rw [<- F];exact (bR.alloc nL _).alloc bD0 _
 have BX:Y.heap[w.heap.size]?=some (.cells #[.slice a7 t0.length b8,.slice bx t1.length cw,.slice be t2.length cz,.slice cl t3.length co] 84 (0,0)):=sI
 have R:Y.heap[w.heap.size + 1]?=some (.cells #[.slice none 0 0,.slice none 0 0,.slice none 0 0,.int .i64 0,.int .i64 0] 68 (0,0)):=by rw [<- F];exact kG bD0
 have bd:w.heap.size + 2<=Y.heap.size:=bB1
 clear F
 replace HK:=yD (HK.out.below hb)
 replace hc:=hc.below hb
 have N:Touch (λk=>k=p) w Y:=Touch.of_below hb
 clear hb
 go_wp2_with fail
 refine (zx (hc.below (bR.alloc nL _)) (kD.kAx _ [{ data:=#[97] },{ data:=#[98] }] bC8 bC8) bC9 bC8 bC8).mono ?_
 rintro e V ⟨y,au,a5,rfl,G,D⟩
 replace D:=(Touch.of_below (S:=λk=>k=p) (bR.alloc nL _)).trans D
 have bk:=D.size
 obtain ⟨HK,BX,R⟩:=CV
 replace N:=N.trans D
 clear hc D
 have hc:=G
 clear G
 have bn:y.size<=3:=by simp only [List.mem_cons,List.not_mem_nil,or_false] at au;rcases au with rfl | rfl <;> decide
 clear au a5
 have ax:(({ data:=#[47] }:Ac)++y).size<=4:=dH
 go_wp2_with fail
 generalize ({ data:=#[47] }:Ac)++y=s1 at *
 refine (yV (s:=s1) bC9).mono ?_
 rintro e w3 ⟨za,zc,zs,rfl,hr,dv,hzs,hb⟩
 have bl:=hb.size
 obtain ⟨HK,BX,R⟩:=CP
 obtain ⟨hc,N⟩:=xG
 clear hb
 have HZ:=yD (hr)
 clear hr
 go_wp2_with fail
 refine (zx (hc.below (bR.alloc nL _)) (kD.kAx _ [{ data:=#[49] },{ data:=#[50] },{ data:=#[120,45,49] }] bC8 bC8) bC9 bC8 bC8).mono ?_
 rintro e w4 ⟨y2,au,a5,rfl,G,D⟩
 obtain ⟨D,bw⟩:=GQ
 obtain ⟨HK,BX,R⟩:=CV
 replace HZ:=yD (HZ.out.touch D pJ)
 replace N:=N.trans D
 clear hc D
 have hc:=G
 clear G
 have bz:=kD.kCn bC8 au
 clear au a5
 go_wp2_with fail
 refine (kCy (cn:=[.slice za zs.length zc]) HZ.out.rd (s:=y2) bC9 wH).mono ?_
 rintro e w5 ⟨na,nn,nc,b2,rfl,ak,b5,hb⟩
 have bv:=hb.size
 obtain ⟨HK,BX,R⟩:=CP
 replace HZ:=yD (HZ.out.below hb)
 obtain ⟨hc,N⟩:=xG
 clear hb
 have b9:(if b2 then zs++[y2] else zs).length<=65:=dA
 generalize (if b2 then zs++[y2] else zs)=qs at *
 obtain ⟨_,_,_,a4,ay⟩:=b5.parts
 simp only [Value.slice.injEq] at a4
 have dc:=a4.2.1.trans ay.out
 clear a4 ay ak
 subst dc
 have bt:=b5.own wH
 have HN:=yD (bt)
 clear HZ
 clear b5 bt
 go_upto_region 3 with fail
 generalize F:World.alloc w5 _=w6
 have hb:Below w5.heap.size w5 w6:=rM
 have BN:w6.heap[w5.heap.size]?=some (.cells #[.slice na qs.length nc] 40 (0,0)):=vB
 have cf:w5.heap.size + 1<=w6.heap.size:=bB1
 clear F
 obtain ⟨HK,BX,R⟩:=CP
 replace HN:=yD (HN.out.below hb)
 obtain ⟨hc,N⟩:=xG
 clear hb
 have di:(({ data:=#[47] }:Ac)++y).size<=4:=dH
 have dq:((({ data:=#[47] }:Ac)++y)++({ data:=#[47,107,101,121] }:Ac)).size<=8:=by rw [ByteArray.size_append];have:({ data:=#[47,107,101,121] }:Ac).size=4:=rfl;omega
 go_wp2_with fail
 generalize ({ data:=#[47] }:Ac)++y=s2 at *
 generalize s2++({ data:=#[47,107,101,121] }:Ac)=s3 at *
 refine (yV (s:=s3) bC9).mono ?_
 rintro e w7 ⟨ya,X,ys,rfl,hr,d2,dn,hb⟩
 have dp:=hb.size
 obtain ⟨HK,BX,R⟩:=CP
 replace BN:=kC BN hb
 replace HN:=yD (HN.out.below hb)
 obtain ⟨hc,N⟩:=xG
 clear hb
 have HY:=yD (hr)
 clear hr ax di dq dn
 go_upto_region 4 with fail
 generalize F:World.alloc w7 _=w8
 have hb:Below w7.heap.size w7 w8:=rM
 have BY:w8.heap[w7.heap.size]?=some (.cells #[.slice ya ys.length X] 40 (0,0)):=vB
 have c7:w7.heap.size + 1<=w8.heap.size:=bB1
 clear F
 obtain ⟨HK,BX,R⟩:=CP
 replace BN:=kC BN hb
 replace HN:=yD (HN.out.below hb)
 replace HY:=yD (HY.out.below hb)
 obtain ⟨hc,N⟩:=xG
 clear hb
 go_wp2_with fail
 refine (kAk (n:=6) hc bC8).mono ?_
 rintro e w9 ⟨b,rfl,G,D⟩
 have de:=D.size
 obtain ⟨HK,BX,R⟩:=CV
 replace BN:=D.kC BN bC9
 replace BY:=D.kC BY bC9
 replace HN:=yD (HN.out.touch D pJ)
 replace HY:=yD (HY.out.touch D pJ)
 replace N:=N.trans D
 clear hc D
 have hc:=G
 clear G
 obtain ⟨yb,b6⟩:∃ b_,b_=w7.heap.size:=⟨_,rfl⟩
 rw [<- b6] at BY ⊢
 have ea:=Nat.le_of_eq b6
 have d8:=Nat.le_of_eq b6.symm
 clear b6
 go_upto_if 29 with fail
 go_cut [] from 28 to 33 (λwc=>∃ (ya:Ab Ag) (X:Nat) (ys:ko),wc.heap[yb]?=some (.cells #[.slice ya ys.length X] 40 (0,0))/\Hid (kU.ji wc [.slice ya ys.length X] ys (λk=>w.heap.size<=k/\k < wc.heap.size/\k≠yb))/\w9.heap.size<=wc.heap.size/\yU w0 wc p/\Touch (λk=>k=p\/k=yb) w9 wc)
 case first =>
  cases b
  · go_wp2;go_meet;exact ⟨ya,X,ys,BY,yD (HY.out.ji.wide fH),Nat.le_refl _,hc,Touch.of_below bR⟩
  have c1:Touch (λk=>k=p\/k=yb) w9 w9:=Touch.of_below bR;go_wp2_with fail;refine (zx (hc.below (bR.alloc nL _)) (kD.kAx _ [{ data:=#[47,98,97,100,47,107,101,121] },{ data:=#[47,107,101,121,47,97] },{ data:=#[47,97,47,107,101,121] }] bC8 bC8) bC9 bC8 bC8).mono ?_;rintro e bj ⟨y3,au,a5,rfl,G,D⟩;replace D:=(Touch.of_below (S:=λk=>k=p) (bR.alloc nL _)).trans D;have c6:=D.size;obtain ⟨HK,BX,R⟩:=CV;replace BN:=D.kC BN bC9;replace BY:=D.kC BY bC9;replace HN:=yD (HN.out.touch D pJ);replace HY:=yD (HY.out.touch D pJ);replace N:=N.trans D;replace c1:=c1.trans (D.wide (λk q=>.inl q));clear hc D;have hc:=G;clear G;go_wp2_with fail;refine (yV (kD.kCn bC8 au)).mono ?_;rintro e bu ⟨va,vc,vs,rfl,hr,fm,eb,hb⟩;have dl:=hb.size;obtain ⟨HK,BX,R⟩:=CP;replace BN:=kC BN hb;replace BY:=kC BY hb;replace HN:=yD (HN.out.below hb);replace HY:=yD (HY.out.below hb);obtain ⟨hc,N⟩:=xG;replace c1:=c1.trans (Touch.of_below hb);clear hb;have U:=yD (hr);clear hr;have aq:bu.cell? ⟨yb,0,none⟩=some (.slice ya ys.length X):=kE BY rfl;have dz:bu.frozen? ⟨yb,0,none⟩=false:=frozen_of_row bu (yb) 0 _ _ BY;go_wp2;generalize F:World.setCell bu _ _=cv;have hT:Touch (λk=>k=yb) bu cv:=vO;have dy:cv.heap[yb]?=some (.cells #[.slice va vs.length vc] 40 (0,0)):=by rw [<- F];exact kK BY 0
  have d0:=hT.size;clear F;go_meet;exact ⟨va,vc,vs,dy,yD ((U.out.ji.touch hT rZ).wide fG),by omega,hc.touch hT bC9 wP,c1.trans (hT.wide (λk q=>.inr q))⟩
 rename Ad=>wz
 clear BY HY hc
 obtain ⟨ya,X,ys,BY,HY,d6,hc,TR⟩:=hcut
 replace BX:=TR.kC BX bC9
 replace R:=TR.kC R bC9
 replace BN:=TR.kC BN bC9
 replace HK:=yD (HK.out.touch TR (λk q h=>by rcases h with h | h;exact hS k q.1 h;(have:=q.2;omega)))
 replace HN:=yD (HN.out.touch TR nH)
 replace N:=N.jh TR wP
 clear TR
 have d7:=hc.lt.2
 have zw:=N.size
 go_upto_region 6 with fail
 go_cut [9] from 34 to 46 (λs9 wd=>∃ (b:Nat) (ac:Ab Ag) (ae:Nat) (ai:Ab Ag) (af:Nat) (am:Ab Ag) (ah:Nat) (x:jN) (ok:Bool),s9=.pointer (some ⟨b,0,none⟩)/\wd.heap[b]?=some (.cells #[.slice ac x.1.length ae,.slice ai x.2.1.length af,.slice am x.2.2.1.length ah,.int .i64 x.2.2.2.1,.int .i64 x.2.2.2.2] 68 (0,0))/\Hid (jJ.own wd [.slice ac x.1.length ae,.slice ai x.2.1.length af,.slice am x.2.2.1.length ah,.int .i64 x.2.2.2.1,.int .i64 x.2.2.2.2] x (λk=>wz.heap.size<=k/\k < wd.heap.size/\k≠b))/\x.2.1.length<=3/\wz.heap.size<=b/\b < wd.heap.size/\yU w0 wd p/\Touch (λk=>k=p) wz wd)
 case first =>
  have FX:=yD (λ(W:Ad) (hW:Touch (λk=>k=p) wz W/\yU w0 W p)=>And.intro (kE (hW.1.kC BX bC9) (j:=0) (v:=.slice a7 t0.length b8) rfl) (And.intro (kE (hW.1.kC BY bC9) (j:=0) (v:=.slice ya ys.length X) rfl) (kE (hW.1.kC BN bC9) (j:=0) (v:=.slice na qs.length nc) rfl)));refine yR (λW=>Touch (λk=>k=p) wz W/\yU w0 W p) bC3 (⟨Touch.of_below bR.drew,hc.below bR.drew⟩) ?_;intro t E;have d9:=E.1.size;refine kQ 0 ?_;refine kQ 1 ?_;refine kQ 2 ?_;refine kQ 3 ?_;refine kQ 4 ?_;refine kQ 5 ?_;refine kIq ?_;intro T A hT hA;have ab:∀ (xb:Int),∀ (ba:Ab Ag),∀ (bc:Nat),∀ (Z:List Ai),∀ (ac:Ab Ag),∀ (ae:Nat),∀ (ai:Ab Ag),∀ (af:Nat),∀ (am:Ab Ag),∀ (ah:Nat),∀ (x:jN),∀ (ok:Bool),∀ (b:Nat),∀ (W:Ad),Touch (λk=>k=p) wz W/\yU w0 W p->(0<=xb)->(xb < 4)->(Z.length<=3)->(Hid ((kD.slice 5 kD.byte).ji W [.slice ba Z.length bc] Z (λk=>wz.heap.size<=k/\k < W.heap.size/\k≠b)))->(x.2.1.length<=3)->(Hid (jJ.own W [.slice ac x.1.length ae,.slice ai x.2.1.length af,.slice am x.2.2.1.length ah,.int .i64 x.2.2.2.1,.int .i64 x.2.2.2.2] x (λk=>wz.heap.size<=k/\k < W.heap.size/\k≠b)))->(wz.heap.size<=b/\b < W.heap.size)->(W.heap[b]?=some (.cells #[.slice ac x.1.length ae,.slice ai x.2.1.length af,.slice am x.2.2.1.length ah,.int .i64 x.2.2.2.1,.int .i64 x.2.2.2.2] 68 (0,0)))->T 0 [Tt,Tt,Tt,Tt,Tt,Tt,Tt,Tt,Tt,Tt,Tt,Tt,Tt,Tt,Tt] (Aa (Aa (Aa (Aa (Aa (Aa (Aa (Aa A (some 41) (.int .i64 xb)) (some 42) (.slice ba Z.length bc)) (some 43) (.tuple #[.agg #[.slice ac x.1.length ae,.slice ai x.2.1.length af,.slice am x.2.2.1.length ah,.int .i64 x.2.2.2.1,.int .i64 x.2.2.2.2],.bool ok])) (some 34) (.tuple #[.agg #[.slice ac x.1.length ae,.slice ai x.2.1.length af,.slice am x.2.2.1.length ah,.int .i64 x.2.2.2.1,.int .i64 x.2.2.2.2],.bool ok])) (some 44) (.agg #[.slice ac x.1.length ae,.slice ai x.2.1.length af,.slice am x.2.2.1.length ah,.int .i64 x.2.2.2.1,.int .i64 x.2.2.2.2])) (some 45) (.bool ok)) (some 9) (.pointer (some ⟨b,0,none⟩))) (some 10) (.bool ok)) W:=by
   intro xb ba bc Z ac ae ai af am ah x ok b W E ao L aw HB b0 HQ o BB;have bo:=E.1.size;subst hT;subst hA;simp only [Aa,zA,zB,zC];refine jf bC3 ?_;go_wp2;go_meet;exact ⟨b,ac,ae,ai,af,am,ah,x,ok,rfl,BB,HQ,b0,o.1,o.2,E.2,E.1⟩
  have aa:∀ (xb:Int),∀ (ba:Ab Ag),∀ (bc:Nat),∀ (Z:List Ai),∀ (ac:Ab Ag),∀ (ae:Nat),∀ (ai:Ab Ag),∀ (af:Nat),∀ (am:Ab Ag),∀ (ah:Nat),∀ (x:jN),∀ (ok:Bool),∀ (b:Nat),∀ (W:Ad),Touch (λk=>k=p) wz W/\yU w0 W p->(0<=xb)->(xb < 4)->(Z.length<=3)->(Hid ((kD.slice 5 kD.byte).ji W [.slice ba Z.length bc] Z (λk=>wz.heap.size<=k/\k < W.heap.size/\k≠b)))->(x.2.1.length<=3)->(Hid (jJ.own W [.slice ac x.1.length ae,.slice ai x.2.1.length af,.slice am x.2.2.1.length ah,.int .i64 x.2.2.2.1,.int .i64 x.2.2.2.2] x (λk=>wz.heap.size<=k/\k < W.heap.size/\k≠b)))->(wz.heap.size<=b/\b < W.heap.size)->(W.heap[b]?=some (.cells #[.slice none 0 0,.slice none 0 0,.slice none 0 0,.int .i64 0,.int .i64 0] 68 (0,0)))->T 2 [Tt,Tt,Tt,Tt,Tt,Tt,Tt,Tt,Tt,Tt,Tt,Tt,Tt,Ff,Ff] (Aa (Aa (Aa (Aa (Aa (Aa (Aa A (some 41) (.int .i64 xb)) (some 42) (.slice ba Z.length bc)) (some 43) (.tuple #[.agg #[.slice ac x.1.length ae,.slice ai x.2.1.length af,.slice am x.2.2.1.length ah,.int .i64 x.2.2.2.1,.int .i64 x.2.2.2.2],.bool ok])) (some 34) (.tuple #[.agg #[.slice ac x.1.length ae,.slice ai x.2.1.length af,.slice am x.2.2.1.length ah,.int .i64 x.2.2.2.1,.int .i64 x.2.2.2.2],.bool ok])) (some 44) (.agg #[.slice ac x.1.length ae,.slice ai x.2.1.length af,.slice am x.2.2.1.length ah,.int .i64 x.2.2.2.1,.int .i64 x.2.2.2.2])) (some 45) (.bool ok)) (some 9) (.pointer (some ⟨b,0,none⟩))) W:=by
   intro xb ba bc Z ac ae ai af am ah x ok b W E ao L aw HB b0 HQ o BB;have bo:=E.1.size;subst hT;subst hA;simp only [Aa,zA,zB,zC];refine kP (k:=13) rfl bC3 rfl (λK H=>?_);obtain ⟨dg,c8,dd,db,dk⟩:=yt BB;obtain ⟨c5,dh,dr,dm,df⟩:=kBr BB;go_simp;generalize F:World.setCell (World.setCell (World.setCell (World.setCell (World.setCell W _ _) _ _) _ _) _ _) _ _=v;have hT:Touch (λk=>k=b) W v:=(by rw [<- F];exact sT5);replace BB:v.heap[b]?=some (.cells #[.slice ac x.1.length ae,.slice ai x.2.1.length af,.slice am x.2.2.1.length ah,.int .i64 x.2.2.2.1,.int .i64 x.2.2.2.2] 68 (0,0)):=(by rw [<- F];exact kK (kK (kK (kK (kK (BB) 0) 1) 2) 3) 4);clear F dg c5 c8 dh dd dr db dm dk df;have zv:=hT.size;replace HB:Hid ((kD.slice 5 kD.byte).ji v [.slice ba Z.length bc] Z (λk=>wz.heap.size<=k/\k < v.heap.size/\k≠b)):=yD ((HB.out.touch hT (λk q h=>q.2.2 h)).wide (λk q=>⟨q.1,Nat.lt_of_lt_of_le q.2.1 hT.size,q.2.2⟩));replace HQ:Hid (jJ.own v [.slice ac x.1.length ae,.slice ai x.2.1.length af,.slice am x.2.2.1.length ah,.int .i64 x.2.2.2.1,.int .i64 x.2.2.2.2] x (λk=>wz.heap.size<=k/\k < v.heap.size/\k≠b)):=yD ((HQ.out.touch hT (λk q h=>q.2.2 h)).wide (λk q=>⟨q.1,Nat.lt_of_lt_of_le q.2.1 hT.size,q.2.2⟩));replace o:wz.heap.size<=b/\b < v.heap.size:=⟨o.1,Nat.lt_of_lt_of_le o.2 hT.size⟩;replace E:=And.intro (E.1.jO hT bC9) (E.2.touch hT bC9 (λk hk=>by have:=E.2.size.size;omega));refine H _ _ E ?_;clear H K;refine jF ?_;refine kQ 14 ?_;have h_:=ab xb ba bc Z ac ae ai af am ah x ok b v E ao L aw HB b0 HQ o BB;exact aY
  have c2:∀ (xb:Int),∀ (ba:Ab Ag),∀ (bc:Nat),∀ (Z:List Ai),∀ (ac:Ab Ag),∀ (ae:Nat),∀ (ai:Ab Ag),∀ (af:Nat),∀ (am:Ab Ag),∀ (ah:Nat),∀ (x:jN),∀ (ok:Bool),∀ (W:Ad),Touch (λk=>k=p) wz W/\yU w0 W p->(0<=xb)->(xb < 4)->(Z.length<=3)->(Hid ((kD.slice 5 kD.byte).ji W [.slice ba Z.length bc] Z (λk=>wz.heap.size<=k/\k < W.heap.size/\k≠p)))->(x.2.1.length<=3)->(Hid (jJ.own W [.slice ac x.1.length ae,.slice ai x.2.1.length af,.slice am x.2.2.1.length ah,.int .i64 x.2.2.2.1,.int .i64 x.2.2.2.2] x (λk=>wz.heap.size<=k/\k < W.heap.size/\k≠p)))->T 3 [Tt,Tt,Tt,Tt,Tt,Tt,Tt,Tt,Tt,Tt,Tt,Tt,Ff,Ff,Ff] (Aa (Aa (Aa (Aa (Aa (Aa A (some 41) (.int .i64 xb)) (some 42) (.slice ba Z.length bc)) (some 43) (.tuple #[.agg #[.slice ac x.1.length ae,.slice ai x.2.1.length af,.slice am x.2.2.1.length ah,.int .i64 x.2.2.2.1,.int .i64 x.2.2.2.2],.bool ok])) (some 34) (.tuple #[.agg #[.slice ac x.1.length ae,.slice ai x.2.1.length af,.slice am x.2.2.1.length ah,.int .i64 x.2.2.2.1,.int .i64 x.2.2.2.2],.bool ok])) (some 44) (.agg #[.slice ac x.1.length ae,.slice ai x.2.1.length af,.slice am x.2.2.1.length ah,.int .i64 x.2.2.2.1,.int .i64 x.2.2.2.2])) (some 45) (.bool ok)) W:=by
   intro xb ba bc Z ac ae ai af am ah x ok W E ao L aw HB b0 HQ;have bo:=E.1.size;subst hT;subst hA;simp only [Aa,zA,zB,zC];refine kP (k:=12) rfl bC3 rfl (λK H=>?_);go_simp;generalize F:World.alloc W _=v;obtain ⟨hb,BB,zv⟩:=xX;clear F;obtain ⟨b,ag⟩:∃ b_,b_=W.heap.size:=⟨_,rfl⟩;rw [<- ag] at BB ⊢;replace HB:Hid ((kD.slice 5 kD.byte).ji v [.slice ba Z.length bc] Z (λk=>wz.heap.size<=k/\k < v.heap.size/\k≠b)):=yD ((HB.out.below hb).wide dD);replace HQ:Hid (jJ.own v [.slice ac x.1.length ae,.slice ai x.2.1.length af,.slice am x.2.2.1.length ah,.int .i64 x.2.2.2.1,.int .i64 x.2.2.2.2] x (λk=>wz.heap.size<=k/\k < v.heap.size/\k≠b)):=yD ((HQ.out.below hb).wide dD);obtain ⟨o,E⟩:=AU;refine H _ _ E ?_;clear H K;refine jF ?_;exact aZ
  have ar:∀ (xb:Int),∀ (ba:Ab Ag),∀ (bc:Nat),∀ (Z:List Ai),∀ (b:Nat),∀ (W:Ad),Touch (λk=>k=p) wz W/\yU w0 W p->(0<=xb)->(xb < 4)->(Z.length<=3)->(Hid ((kD.slice 5 kD.byte).ji W [.slice ba Z.length bc] Z (λk=>wz.heap.size<=k/\k < W.heap.size/\k≠b)))->(wz.heap.size<=b/\b < W.heap.size)->(W.heap[b]?=some (.cells #[.slice none 0 0,.slice none 0 0,.slice none 0 0,.int .i64 0,.int .i64 0] 68 (0,0)))->T 6 [Tt,Tt,Tt,Tt,Tt,Tt,Tt,Tt,Ff,Ff,Ff,Ff,Tt,Ff,Ff] (Aa (Aa (Aa A (some 41) (.int .i64 xb)) (some 42) (.slice ba Z.length bc)) (some 9) (.pointer (some ⟨b,0,none⟩))) W:=by
   intro xb ba bc Z b W E ao L aw HB o BB;have bo:=E.1.size;subst hT;subst hA;simp only [Aa,zA,zB,zC];refine kP (k:=8) rfl bC3 rfl (λK H=>?_);go_simp;refine (kEa (l:=t0) (HK.out.touch E.1 (λk q h=>hS k q.1 h)).rd.1 (cb:=[.slice ya ys.length X]) (HY.out.touch E.1 rZ).rd (cn:=[.slice na qs.length nc]) (HN.out.touch E.1 nV).rd HB.out.rd bC9 (tl:=4000) bC8).mono ?_;rintro e v ⟨ds,x,ok,rfl,hO,dw,hb⟩;have zv:=hb.size;have ck:=o.2;replace HB:Hid ((kD.slice 5 kD.byte).ji v [.slice ba Z.length bc] Z (λk=>wz.heap.size<=k/\k < v.heap.size/\k≠b)):=yD ((HB.out.below hb).wide (λk q=>⟨q.1,Nat.lt_of_lt_of_le q.2.1 hb.size,q.2.2⟩));replace BB:=kC BB hb;replace o:wz.heap.size<=b/\b < v.heap.size:=⟨o.1,Nat.lt_of_lt_of_le o.2 hb.size⟩;obtain ⟨ac,ae,ai,af,am,ah,rfl⟩:=zZ hO.raw;have b0:x.2.1.length<=3:=bC9;have HQ:Hid (jJ.own v [.slice ac x.1.length ae,.slice ai x.2.1.length af,.slice am x.2.2.1.length ah,.int .i64 x.2.2.2.1,.int .i64 x.2.2.2.2] x (λk=>wz.heap.size<=k/\k < v.heap.size/\k≠b)):=yD (hO.wide gK);replace E:=And.intro (E.1.trans (Touch.of_below hb)) (E.2.below hb);refine H _ _ E ?_;clear H K;refine jF ?_;refine kQ 9 ?_;refine kQ 10 ?_;refine kQ 11 ?_;exact aZ
  have dj:∀ (xb:Int),∀ (ba:Ab Ag),∀ (bc:Nat),∀ (Z:List Ai),∀ (W:Ad),Touch (λk=>k=p) wz W/\yU w0 W p->(0<=xb)->(xb < 4)->(Z.length<=3)->(Hid ((kD.slice 5 kD.byte).ji W [.slice ba Z.length bc] Z (λk=>wz.heap.size<=k/\k < W.heap.size/\k≠p)))->T 7 [Tt,Tt,Tt,Tt,Tt,Tt,Tt,Tt,Ff,Ff,Ff,Ff,Ff,Ff,Ff] (Aa (Aa A (some 41) (.int .i64 xb)) (some 42) (.slice ba Z.length bc)) W:=by
   intro xb ba bc Z W E ao L aw HB;have bo:=E.1.size;subst hT;subst hA;simp only [Aa,zA,zB,zC];refine je (i:=8) (j:=12) rfl rfl bC3 rfl rfl (λK H=>?_) (λK H=>?_)
   · go_simp;refine (kEa (l:=t0) (HK.out.touch E.1 (λk q h=>hS k q.1 h)).rd.1 (cb:=[.slice ya ys.length X]) (HY.out.touch E.1 rZ).rd (cn:=[.slice na qs.length nc]) (HN.out.touch E.1 nV).rd HB.out.rd bC9 (tl:=4000) bC8).mono ?_;rintro e v ⟨ds,x,ok,rfl,hO,dw,hb⟩;have zv:=hb.size;replace HB:Hid ((kD.slice 5 kD.byte).ji v [.slice ba Z.length bc] Z (λk=>wz.heap.size<=k/\k < v.heap.size/\k≠p)):=yD ((HB.out.below hb).wide (λk q=>⟨q.1,Nat.lt_of_lt_of_le q.2.1 hb.size,q.2.2⟩));obtain ⟨ac,ae,ai,af,am,ah,rfl⟩:=zZ hO.raw;have b0:x.2.1.length<=3:=bC9;have HQ:Hid (jJ.own v [.slice ac x.1.length ae,.slice ai x.2.1.length af,.slice am x.2.2.1.length ah,.int .i64 x.2.2.2.1,.int .i64 x.2.2.2.2] x (λk=>wz.heap.size<=k/\k < v.heap.size/\k≠p)):=yD (hO.wide gK);replace E:=And.intro (E.1.trans (Touch.of_below hb)) (E.2.below hb);refine H _ _ E ?_;clear H K;refine jF ?_;refine kQ 9 ?_;refine kQ 10 ?_;refine kQ 11 ?_;have h_:=c2 xb ba bc Z ac ae ai af am ah x ok v E ao L aw HB b0 HQ;exact aY
   go_simp;generalize F:World.alloc W _=v;obtain ⟨hb,BB,zv⟩:=xX;clear F;obtain ⟨b,ag⟩:∃ b_,b_=W.heap.size:=⟨_,rfl⟩;rw [<- ag] at BB ⊢;replace HB:Hid ((kD.slice 5 kD.byte).ji v [.slice ba Z.length bc] Z (λk=>wz.heap.size<=k/\k < v.heap.size/\k≠b)):=yD ((HB.out.below hb).wide dD);obtain ⟨o,E⟩:=AU;exact bA
  have c0:∀ (xb:Int),∀ (b:Nat),∀ (W:Ad),Touch (λk=>k=p) wz W/\yU w0 W p->(0<=xb)->(xb < 4)->(wz.heap.size<=b/\b < W.heap.size)->(W.heap[b]?=some (.cells #[.slice none 0 0,.slice none 0 0,.slice none 0 0,.int .i64 0,.int .i64 0] 68 (0,0)))->T 7 [Tt,Tt,Tt,Tt,Tt,Tt,Tt,Ff,Ff,Ff,Ff,Ff,Tt,Ff,Ff] (Aa (Aa A (some 41) (.int .i64 xb)) (some 9) (.pointer (some ⟨b,0,none⟩))) W:=by
   intro xb b W E ao L o BB;have bo:=E.1.size;subst hT;subst hA;simp only [Aa,zA,zB,zC];refine kP (k:=7) rfl bC3 rfl (λK H=>?_);go_simp;refine (kCe E.2 ao bC9).mono ?_;rintro e v ⟨ba,bc,Z,rfl,ca,hO,G,D⟩;have zv:=D.size;have ck:=o.2;replace BB:=D.kC BB bC9;replace o:wz.heap.size<=b/\b < v.heap.size:=⟨o.1,Nat.lt_of_lt_of_le o.2 D.size⟩;have aw:Z.length<=3:=bC9;have HB:Hid ((kD.slice 5 kD.byte).ji v [.slice ba Z.length bc] Z (λk=>wz.heap.size<=k/\k < v.heap.size/\k≠b)):=yD (hO.ji.wide gK);replace E:=And.intro (E.1.trans D) G;exact bA
  have T6:∀ (xb:Int),∀ (W:Ad),Touch (λk=>k=p) wz W/\yU w0 W p->(0<=xb)->(xb < 4)->T 8 [Tt,Tt,Tt,Tt,Tt,Tt,Tt,Ff,Ff,Ff,Ff,Ff,Ff,Ff,Ff] (Aa A (some 41) (.int .i64 xb)) W:=by
   intro xb W E ao L;have bo:=E.1.size;subst hT;subst hA;simp only [Aa,zA,zB,zC];refine je (i:=7) (j:=12) rfl rfl bC3 rfl rfl (λK H=>?_) (λK H=>?_)
   · go_simp;refine (kCe E.2 ao bC9).mono ?_;rintro e v ⟨ba,bc,Z,rfl,ca,hO,G,D⟩;have zv:=D.size;have aw:Z.length<=3:=bC9;have HB:Hid ((kD.slice 5 kD.byte).ji v [.slice ba Z.length bc] Z (λk=>wz.heap.size<=k/\k < v.heap.size/\k≠p)):=yD (hO.ji.wide gK);replace E:=And.intro (E.1.trans D) G;refine H _ _ E ?_;clear H K;refine jF ?_;have h_:=dj xb ba bc Z v E ao L aw HB;exact aY
   go_simp;generalize F:World.alloc W _=v;obtain ⟨hb,BB,zv⟩:=xX;clear F;obtain ⟨b,ag⟩:∃ b_,b_=W.heap.size:=⟨_,rfl⟩;rw [<- ag] at BB ⊢;obtain ⟨o,E⟩:=AU;exact bB
  have d3:∀ (b:Nat),∀ (W:Ad),Touch (λk=>k=p) wz W/\yU w0 W p->(wz.heap.size<=b/\b < W.heap.size)->(W.heap[b]?=some (.cells #[.slice none 0 0,.slice none 0 0,.slice none 0 0,.int .i64 0,.int .i64 0] 68 (0,0)))->T 8 [Tt,Tt,Tt,Tt,Tt,Tt,Ff,Ff,Ff,Ff,Ff,Ff,Tt,Ff,Ff] (Aa A (some 9) (.pointer (some ⟨b,0,none⟩))) W:=by
   intro b W E o BB;have bo:=E.1.size;subst hT;subst hA;simp only [Aa,zA,zB,zC];refine kP (k:=6) rfl bC3 rfl (λK H=>?_);go_simp;refine (kr (n:=4) E.2 bC8).mono ?_;rintro e v ⟨xb,ao,L,a1,rfl,G,D⟩;have zv:=D.size;have ck:=o.2;replace BB:=D.kC BB bC9;replace o:wz.heap.size<=b/\b < v.heap.size:=⟨o.1,Nat.lt_of_lt_of_le o.2 D.size⟩;replace L:=L bC8;clear a1;replace E:=And.intro (E.1.trans D) G;exact bB
  subst hT;subst hA;refine je (i:=6) (j:=12) rfl rfl bC3 rfl rfl (λK H=>?_) (λK H=>?_)
  · go_simp;refine (kr (n:=4) E.2 bC8).mono ?_;rintro e v ⟨xb,ao,L,a1,rfl,G,D⟩;have zv:=D.size;replace L:=L bC8;clear a1;replace E:=And.intro (E.1.trans D) G;refine H _ _ E ?_;clear H K;refine jF ?_;have h_:=T6 xb v E ao L;exact aY
  go_simp;generalize F:World.alloc t _=v;have hb:Below t.heap.size t v:=(by rw [<- F];exact bR.alloc nL _);have BB:v.heap[t.heap.size]?=some (.cells #[.slice none 0 0,.slice none 0 0,.slice none 0 0,.int .i64 0,.int .i64 0] 68 (0,0)):=(by rw [<- F];exact kG rfl);have zv:t.heap.size + 1<=v.heap.size:=(by rw [<- F];simp);clear F;obtain ⟨b,ag⟩:∃ b_,b_=t.heap.size:=⟨_,rfl⟩;rw [<- ag] at BB ⊢;obtain ⟨o,E⟩:=AU;refine H _ _ E ?_;clear H K;refine jF ?_;have h_:=d3 b v E o BB;exact aY
 rename Ad=>wd
 obtain ⟨b,ac,ae,ai,af,am,ah,x,ok,rfl,BQ,HQ,b0,cq,O,cm,cc⟩:=hcut
 replace R:=cc.kC R bC9
 replace N:=N.trans cc
 clear hc BX BN BY HK HN HY
 have hc:=cm
 have zd:=cc.size
 clear cm cc
 have c4:=data_rng HQ.out.raw
 go_wp2_with fail
 refine (kAk (n:=8) hc bC8).mono ?_
 rintro e c3 ⟨b1,rfl,G,D⟩
 have d4:=D.size
 replace R:=D.kC R bC9
 replace BQ:=D.kC BQ bC9
 replace HQ:=yD (HQ.out.touch D pJ)
 replace N:=N.trans D
 clear hc D
 have hc:=G
 clear G
 cases b1
 · replace HQ:=yD (HQ.out.wide (T:=λk=>wz.heap.size<=k/\k < c3.heap.size/\k≠b) pF);obtain ⟨ad,an,bb,bh,bm⟩:=yt R;obtain ⟨b3,ce,cg,cd,ch⟩:=yt BQ;obtain ⟨aj,al,av,bg,bi⟩:=kBr R;go_wp2;refine bodyPost_ret (v:=.agg #[.slice ac x.1.length ae,.slice ai x.2.1.length af,.slice am x.2.2.1.length ah,.int .i64 x.2.2.2.1,.int .i64 x.2.2.2.2]) dZ rfl ⟨[.slice ac x.1.length ae,.slice ai x.2.1.length af,.slice am x.2.2.1.length ah,.int .i64 x.2.2.2.1,.int .i64 x.2.2.2.2],x,rfl,?_,by omega,hc.touch sT5 bC9 wM,N.jO sT5 bC9⟩;exact (HQ.out.touch (T:=λk=>k=w.heap.size + 1) sT5 rZ).wide (T:=jX w.heap.size _) dU
 obtain ⟨A_,B_,C_,hA,hB,hC,sA,sB,sC,da,d5,dt⟩:=data_parts HQ.out
 obtain ⟨b3,ce,cg,cd,ch⟩:=yt BQ
 obtain ⟨a6,a2,az,a8,a3⟩:=kBr BQ
 go_wp2_with (at_builtin;refine kD.yZ rfl _ _ 22 rfl (r:=kD.byte) (e:=5) underlying22 kEj rfl bC8 bC8 (w:=c3) hB bR (kPk (x:=1) rfl) bD1 bD1 (λ_ _ h=>h) bC9 ?_)
 intro v9 w9 bp ap
 have de:=ap.size
 have dx:=yD (show (x.2.1++[(1:Ai)]).length<=4 by simp;omega)
 generalize x.2.1++[(1:Ai)]=bq at *
 obtain ⟨a9,c9,b7,_⟩:=kD.kAy bp.raw
 obtain rfl:v9=_:=by simpa using b7
 have ht:Touch (λk=>wz.heap.size<=k/\k < c3.heap.size/\k≠b) c3 w9:=ap.wide (λk q=>⟨(sB k q.1).1,q.2,(sB k q.1).2.2⟩)
 have HD:=yD (data_of (S:=λk=>wz.heap.size<=k/\k < w9.heap.size/\k≠b) (hA.touch ap (λk q h=>da k q h.1)) bp (hC.touch ap (λk q h=>dt k h.1 q)) c4.1 c4.2 (λk q=>⟨(sA k q).1,by have:=(sA k q).2.1;omega,(sA k q).2.2⟩) (λk q=>by rcases q with q | q;exact ⟨(sB k q).1,by have:=(sB k q).2.1;omega,(sB k q).2.2⟩;exact ⟨by have:=q.1;omega,q.2,by have:=q.1;omega⟩) (λk q=>⟨(sC k q).1,by have:=(sC k q).2.1;omega,(sC k q).2.2⟩) (λk q1 q2=>by rcases q2 with q2 | q2;exact da k q1 q2;(have h1:=(sA k q1).2.1;have h2:=q2.1;omega)) d5 (λk q1 q2=>by rcases q1 with q1 | q1;exact dt k q1 q2;(have h1:=(sC k q2).2.1;have h2:=q1.1;omega)))
 clear hA hB hC bp HQ b3 ce cg cd ch a6 a2 az a8 a3
 replace R:=ht.kC R bC9
 replace BQ:=ht.kC BQ bC9
 replace hc:=hc.touch ht bC9 sU
 replace N:=N.kBv (ht.wide (T:=λk=>wz.heap.size<=k) (λk q=>q.1)) wP
 clear ht ap
 obtain ⟨b3,ce,cg,cd,ch⟩:=yt BQ
 obtain ⟨a6,a2,az,a8,a3⟩:=kBr BQ
 go_upto_region 9 with fail
 clear b3 ce cg cd ch a6 a2 az a8 a3
 generalize F:World.setCell w9 _ _=du
 have J:Touch (λk=>k=b) w9 du:=vO
 replace BQ:du.heap[b]?=some (.cells #[.slice ac x.1.length ae,.slice a9 bq.length c9,.slice am x.2.2.1.length ah,.int .i64 x.2.2.2.1,.int .i64 x.2.2.2.2] 68 (0,0)):=by rw [<- F];exact kK BQ 1
 have d1:=J.size
 clear F
 replace R:=J.kC R bC9
 replace HD:=yD (HD.out.touch J pJ)
 replace hc:=hc.touch J bC9 wM
 replace N:=N.jO J bC9
 clear J
 obtain ⟨ad,an,bb,bh,bm⟩:=yt R
 obtain ⟨b3,ce,cg,cd,ch⟩:=yt BQ
 obtain ⟨aj,al,av,bg,bi⟩:=kBr R
 go_wp2
 refine bodyPost_ret (v:=.agg #[.slice ac x.1.length ae,.slice a9 bq.length c9,.slice am x.2.2.1.length ah,.int .i64 x.2.2.2.1,.int .i64 x.2.2.2.2]) dZ rfl ⟨[.slice ac x.1.length ae,.slice a9 bq.length c9,.slice am x.2.2.1.length ah,.int .i64 x.2.2.2.1,.int .i64 x.2.2.2.2],(x.1,bq,x.2.2.1,x.2.2.2.1,x.2.2.2.2),rfl,?_,(by have:=dx.out;show bq.length<=10;omega),hc.touch sT5 bC9 wM,N.jO sT5 bC9⟩
 exact (HD.out.touch (T:=λk=>k=w.heap.size + 1) sT5 rZ).wide (T:=jX w.heap.size _) dU
end Go.Proofs.YtonmjkmaadgceabGreat

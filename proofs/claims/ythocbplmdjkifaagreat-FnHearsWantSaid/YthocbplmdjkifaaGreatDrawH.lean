/-
  What is believed, mostly, as the reference draws it.
-/
import Derived.Test.YthocbplmdjkifaaGreatDrawK
import Derived.Test.YthocbplmdjkifaaGreatDrawY
set_option linter.unusedVariables false
set_option linter.unusedSimpArgs false
set_option linter.unnecessarySimpa false
set_option maxRecDepth 100000
set_option maxHeartbeats 8000000
open Bool renaming true->Tt,false->Ff
open Go.Act renaming put->Aa
open _root_ renaming Option->Ab,ByteArray->Ac,UInt8->Ai
open Go renaming World->Ad,Addr->Ag
open List renaming singleton_append->Ae
open List.cons renaming injEq->Ah
namespace Go.Proofs.YthocbplmdjkifaaGreat
open Go.RowKit _root_.Go.Proofs.Tryz
theorem kLy {w:Ad} {cs:List Value} {t:kCm} (h:kBt.raw w cs t):∃ a0 c0 a1 c1 a2 c2 a3 c3,cs=[.slice a0 t.1.length c0,.slice a1 t.2.1.length c1,.slice a2 t.2.2.1.length c2,.slice a3 t.2.2.2.length c3]:=by
 obtain ⟨v0,v1,v2,v3,rfl,ao,am,aq,ap⟩:=kVt h;obtain ⟨a0,c0,rfl,_,a1,c1,rfl,_,a2,c2,rfl,_,a3,c3,rfl,_⟩:=kD.sx ao (kD.sx am (kD.sx aq (kD.sl ap)));exact ⟨_,_,_,_,_,_,_,_,rfl⟩
theorem trust_keys {w:Ad} {v0 v1 v2 v3:Value} {t:kCm} {S:Nat->Prop} (h:kBt.jr w [v0,v1,v2,v3] t S):(kD.slice 226 kLs).jr w [v0] t.1 S:=by
 obtain ⟨c,d,he,h1,h2⟩:=kD.kDx (r:=(kD.slice 226 kLs)) h;have R:=(kD.slice 226 kLs).len h1.1
 match c,R with
 | [u],_=>simp only [Ae,Ah] at he;obtain ⟨rfl,_⟩:=he;exact h1
theorem data_parts {w:Ad} {c0 c1 c2 c3 c4:Value} {x:jQ} {S:Nat->Prop} (h:jF.own w [c0,c1,c2,c3,c4] x S):∃ A B C:Nat->Prop,kR.own w [c0] x.1 A/\(kD.slice 5 kD.byte).own w [c1] x.2.1 B/\kR.own w [c2] x.2.2.1 C/\(∀ k,A k->S k)/\(∀ k,B k->S k)/\(∀ k,C k->S k)/\(∀ k,A k->B k->False)/\(∀ k,A k->C k->False)/\(∀ k,B k->C k->False):=by
 obtain ⟨a,d,A,T,he,h1,h2,hA,hT,hd⟩:=kD.kDy (r:=kR) (q:=.pair (kD.slice 5 kD.byte) (.pair kR (.pair .int .int))) h;obtain ⟨b,d2,B,D,rfl,h3,h4,hB,o,X⟩:=kD.kDy (r:=(kD.slice 5 kD.byte)) (q:=.pair kR (.pair .int .int)) h2;obtain ⟨c,d3,C,T3,rfl,h5,h6,hC,ae,av⟩:=kD.kDy (r:=kR) (q:=.pair .int .int) h4;have R:=kR.len h1.1;have l2:=(kD.slice 5 kD.byte).len h3.1;have l3:=kR.len h5.1
 match a,R,b,l2,c,l3 with
 | [u],_,[v],_,[z],_ =>
   simp only [Ae,Ah] at he;obtain ⟨rfl,rfl,rfl,_⟩:=he;exact ⟨A,B,C,h1,h3,h5,hA,λk q=>hT k (hB k q),λk q=>hT k (o k (hC k q)),λk q1 q2=>hd k q1 (hB k q2),λk q1 q2=>hd k q1 (o k (hC k q2)),λk q1 q2=>X k q1 (hC k q2)⟩
theorem data_of {w:Ad} {c0 c1 c2:Value} {n k:ko} {b:List Ai} {f s:Int} {A B C S:Nat->Prop} (h0:kR.own w [c0] n A) (h1:(kD.slice 5 kD.byte).own w [c1] b B) (h2:kR.own w [c2] k C) (hf:-9223372036854775808<=f/\f<=9223372036854775807) (hs:-9223372036854775808<=s/\s<=9223372036854775807) (hA:∀ k,A k->S k) (hB:∀ k,B k->S k) (hC:∀ k,C k->S k) (o:∀ k,A k->B k->False) (D:∀ k,A k->C k->False) (E:∀ k,B k->C k->False):jF.own w [c0,c1,c2,.int .i64 f,.int .i64 s] (n,b,k,f,s) S :=
  kD.jq (r:=kR) (q:=.pair (kD.slice 5 kD.byte) (.pair kR (.pair .int .int))) (cs:=[c0]) (ds:=[c1,c2,.int .i64 f,.int .i64 s]) (A:=A) (B:=λk=>B k\/C k) h0
    (kD.jq (r:=(kD.slice 5 kD.byte)) (q:=.pair kR (.pair .int .int)) (cs:=[c1]) (ds:=[c2,.int .i64 f,.int .i64 s]) (A:=B) (B:=C) h1 (kD.yQ (r:=kR) (q:=.pair .int .int) (cs:=[c2]) (ds:=[.int .i64 f,.int .i64 s]) h2 (kD.jl (cs:=[.int .i64 f]) (kD.ky hf) (kD.ky hs))) (λk=>.inl) (λk=>.inr) E)
    hA (λk q=>q.elim (hB k) (hC k)) (λk q1 q2=>q2.elim (o k q1) (D k q1))
theorem kRd {w0 w:Ad} {p:Nat} (hc:ym w0 w p) {S:Nat->Prop} {ct:List Value} {tp:kCm} (ht:kBt.jr w ct tp S) (hS:∀ k,S k->¬ k=p) :
    Calls prog 173 #[.pointer (some ⟨p,0,none⟩),.agg ct.toArray] w λe w'=>DrawnD 10 w0 w p e w':=by
 obtain ⟨bh,br⟩:=hc.lt
 obtain ⟨b0,ck,b6,dd,bb,dh,c7,c8,rfl⟩:=kLy ht.rd.1
 have a3:=trust_keys ht
 have HK:Hid ((kD.slice 226 kLs).jr w _ _ (λk=>S k/\k < w.heap.size)):=yD ⟨((kD.slice 226 kLs)).live a3.1,a3.2⟩
 clear a3
 obtain ⟨t0,t1,t2,t3⟩:=tp
 simp only at HK
 clear ht
 go_enter func173,ntmps173
 go_upto_region 1 with fail
 refine kAe ?_
 intro w1 hb BX R bj
 replace HK:=yD (HK.out.below hb)
 obtain ⟨hc,O⟩:=DT
 clear hb
 go_wp2_with fail
 refine (kAn (hc.below (bR.alloc nL _)) (kD.kBs _ [{ data:=#[97] },{ data:=#[98] }] bF1 bF1) bF2 bF1 bF1).mono ?_
 rintro e w2 ⟨y,bd,bv,rfl,F,D⟩
 replace D:=(Touch.of_below (S:=λk=>k=p) (bR.alloc nL _)).trans D
 have bw:=D.size
 obtain ⟨HK,BX,R⟩:=BI
 replace O:=O.trans D
 clear hc D
 have hc:=F
 clear F
 have a4:y.size<=3:=by simp only [List.mem_cons,List.not_mem_nil,or_false] at bd;rcases bd with rfl | rfl <;> decide
 clear bd bv
 have be:(({ data:=#[47] }:Ac)++y).size<=4:=dR
 go_wp2_with fail
 generalize ({ data:=#[47] }:Ac)++y=s1 at *
 refine (yz (s:=s1) bF2).mono ?_
 rintro e w3 ⟨za,zc,zs,rfl,hr,dp,hzs,hb⟩
 have bz:=hb.size
 obtain ⟨HK,BX,R⟩:=BC
 obtain ⟨hc,O⟩:=uT
 clear hb
 have HZ:=yD (hr)
 clear hr
 go_wp2_with fail
 refine (kAn (hc.below (bR.alloc nL _)) (kD.kBs _ [{ data:=#[49] },{ data:=#[50] },{ data:=#[120,45,49] }] bF1 bF1) bF2 bF1 bF1).mono ?_
 rintro e w4 ⟨y2,bd,bv,rfl,F,D⟩
 obtain ⟨D,b5⟩:=FB
 obtain ⟨HK,BX,R⟩:=BI
 replace HZ:=yD (HZ.out.touch D qV)
 replace O:=O.trans D
 clear hc D
 have hc:=F
 clear F
 have b7:=kD.kDd bF1 bd
 clear bd bv
 go_wp2_with fail
 refine (kDm (cn:=[.slice za zs.length zc]) HZ.out.rd (s:=y2) bF2 bB1).mono ?_
 rintro e w5 ⟨na,nn,nc,b2,rfl,ag,bu,hb⟩
 have b4:=hb.size
 obtain ⟨HK,BX,R⟩:=BC
 replace HZ:=yD (HZ.out.below hb)
 obtain ⟨hc,O⟩:=uT
 clear hb
 have b8:(if b2 then zs++[y2] else zs).length<=65:=dH
 generalize (if b2 then zs++[y2] else zs)=qs at *
 obtain ⟨_,_,_,bp,bo⟩:=bu.parts
 simp only [Value.slice.injEq] at bp
 have co:=bp.2.1.trans bo.out
 clear bp bo ag
 subst co
 have ce:=bu.own bB1
 have Y:=yD (ce)
 clear HZ bu ce
 go_upto_region 3 with fail
 refine ja ?_
 intro w6 hb BN df
 obtain ⟨HK,BX,R⟩:=BC
 replace Y:=yD (Y.out.below hb)
 obtain ⟨hc,O⟩:=uT
 clear hb
 have c4:(({ data:=#[47] }:Ac)++y).size<=4:=dR
 have c5:((({ data:=#[47] }:Ac)++y)++({ data:=#[47,107,101,121] }:Ac)).size<=8:=by rw [ByteArray.size_append];have:({ data:=#[47,107,101,121] }:Ac).size=4:=rfl;omega
 go_wp2_with fail
 generalize ({ data:=#[47] }:Ac)++y=s2 at *
 generalize s2++({ data:=#[47,107,101,121] }:Ac)=s3 at *
 refine (yz (s:=s3) bF2).mono ?_
 rintro e w7 ⟨ya,yc,ys,rfl,hr,d1,di,hb⟩
 have eo:=hb.size
 obtain ⟨HK,BX,R⟩:=BC
 replace BN:=kC BN hb
 replace Y:=yD (Y.out.below hb)
 obtain ⟨hc,O⟩:=uT
 clear hb
 have HY:=yD (hr)
 clear hr be c4 c5 di
 go_upto_region 4 with fail
 refine ja ?_
 intro w8 hb BY d9
 obtain ⟨HK,BX,R⟩:=BC
 replace BN:=kC BN hb
 replace Y:=yD (Y.out.below hb)
 replace HY:=yD (HY.out.below hb)
 obtain ⟨hc,O⟩:=uT
 clear hb
 go_wp2_with fail
 refine (yw (n:=6) hc bF1).mono ?_
 rintro e w9 ⟨b,rfl,F,D⟩
 have et:=D.size
 obtain ⟨HK,BX,R⟩:=BI
 replace BN:=D.kC BN bF2
 replace BY:=D.kC BY bF2
 replace Y:=yD (Y.out.touch D qV)
 replace HY:=yD (HY.out.touch D qV)
 replace O:=O.trans D
 clear hc D
 have hc:=F
 clear F
 obtain ⟨yb,ab⟩:∃ b_,b_=w7.heap.size:=⟨_,rfl⟩
 rw [<- ab] at BY ⊢
 have d7:=Nat.le_of_eq ab
 have d5:=Nat.le_of_eq ab.symm
 clear ab
 go_upto_if 29 with fail
 go_cut [] from 28 to 33 (λwc=>∃ (ya:Ab Ag) (yc:Nat) (ys:ko),wc.heap[yb]?=some (.cells #[.slice ya ys.length yc] 36 (0,0))/\Hid (kR.jr wc [.slice ya ys.length yc] ys (λk=>w.heap.size<=k/\k < wc.heap.size/\k≠yb))/\w9.heap.size<=wc.heap.size/\ym w0 wc p/\Touch (λk=>k=p\/k=yb) w9 wc)
 case first =>
  cases b
  · go_wp2;go_meet;exact ⟨ya,yc,ys,BY,yD (HY.out.jr.wide gG),Nat.le_refl _,hc,Touch.of_below bR⟩
  have cl:Touch (λk=>k=p\/k=yb) w9 w9:=Touch.of_below bR;go_wp2_with fail;refine (kAn (hc.below (bR.alloc nL _)) (kD.kBs _ [{ data:=#[47,98,97,100,47,107,101,121] },{ data:=#[47,107,101,121,47,97] },{ data:=#[47,97,47,107,101,121] }] bF1 bF1) bF2 bF1 bF1).mono ?_;rintro e cw ⟨y3,bd,bv,rfl,F,D⟩;replace D:=(Touch.of_below (S:=λk=>k=p) (bR.alloc nL _)).trans D;have d8:=D.size;obtain ⟨HK,BX,R⟩:=BI;replace BN:=D.kC BN bF2;replace BY:=D.kC BY bF2;replace Y:=yD (Y.out.touch D qV);replace HY:=yD (HY.out.touch D qV);replace O:=O.trans D;replace cl:=cl.trans (D.wide (λk q=>.inl q));clear hc D;have hc:=F;clear F;go_wp2_with fail;refine (yz (kD.kDd bF1 bd)).mono ?_;rintro e c6 ⟨va,vc,vs,rfl,hr,d2,ea,hb⟩;have e5:=hb.size;obtain ⟨HK,BX,R⟩:=BC;replace BN:=kC BN hb;replace BY:=kC BY hb;replace Y:=yD (Y.out.below hb);replace HY:=yD (HY.out.below hb);obtain ⟨hc,O⟩:=uT;replace cl:=cl.trans (Touch.of_below hb);clear hb;have X:=yD (hr);clear hr;have cv:c6.cell? ⟨yb,0,none⟩=some (.slice ya ys.length yc):=kE BY rfl;have d0:c6.frozen? ⟨yb,0,none⟩=false:=frozen_of_row c6 (yb) 0 _ _ BY;go_wp2;generalize o:World.setCell c6 _ _=dk;have hT:Touch (λk=>k=yb) c6 dk:=wY;have dz:dk.heap[yb]?=some (.cells #[.slice va vs.length vc] 36 (0,0)):=by rw [<- o];exact kG BY 0
  have fg:=hT.size;clear o;go_meet;exact ⟨va,vc,vs,dz,yD ((X.out.jr.touch hT tZ).wide gF),by omega,hc.touch hT bF2 bB8,cl.trans (hT.wide (λk q=>.inr q))⟩
 rename Ad=>wz
 clear BY HY hc
 obtain ⟨ya,yc,ys,BY,HY,d6,hc,TR⟩:=hcut
 replace BX:=TR.kC BX bF2
 replace R:=TR.kC R bF2
 replace BN:=TR.kC BN bF2
 replace HK:=yD (HK.out.touch TR (λk q h=>by rcases h with h | h;exact hS k q.1 h;(have:=q.2;omega)))
 replace Y:=yD (Y.out.touch TR pR)
 replace O:=O.yB TR bB8
 clear TR
 have dr:=hc.lt.2
 have zw:=O.size
 go_upto_region 6 with fail
 go_cut [9] from 34 to 46 (λs9 wd=>∃ (b:Nat) (ad:Ab Ag) (ac:Nat) (am:Ab Ag) (ae:Nat) (ao:Ab Ag) (af:Nat) (x:jQ) (ok:Bool),s9=.pointer (some ⟨b,0,none⟩)/\wd.heap[b]?=some (.cells #[.slice ad x.1.length ac,.slice am x.2.1.length ae,.slice ao x.2.2.1.length af,.int .i64 x.2.2.2.1,.int .i64 x.2.2.2.2] 60 (0,0))/\Hid (jF.own wd [.slice ad x.1.length ac,.slice am x.2.1.length ae,.slice ao x.2.2.1.length af,.int .i64 x.2.2.2.1,.int .i64 x.2.2.2.2] x (λk=>wz.heap.size<=k/\k < wd.heap.size/\k≠b))/\x.2.1.length<=3/\wz.heap.size<=b/\b < wd.heap.size/\ym w0 wd p/\Touch (λk=>k=p) wz wd)
 case first =>
  have FX:=yD (λ(W:Ad) (hW:Touch (λk=>k=p) wz W/\ym w0 W p)=>And.intro (kE (hW.1.kC BX bF2) (j:=0) (v:=.slice b0 t0.length ck) rfl) (And.intro (kE (hW.1.kC BY bF2) (j:=0) (v:=.slice ya ys.length yc) rfl) (kE (hW.1.kC BN bF2) (j:=0) (v:=.slice na qs.length nc) rfl)));refine yg (λW=>Touch (λk=>k=p) wz W/\ym w0 W p) bE5 (⟨Touch.of_below bR.drew,hc.below bR.drew⟩) ?_;intro t E;have dt:=E.1.size;refine kT 0 ?_;refine kT 1 ?_;refine kT 2 ?_;refine kT 3 ?_;refine kT 4 ?_;refine kT 5 ?_;refine kIg ?_;intro T A hT hA;have U:∀ (xb:Int),∀ (ba:Ab Ag),∀ (bc:Nat),∀ (bl:List Ai),∀ (ad:Ab Ag),∀ (ac:Nat),∀ (am:Ab Ag),∀ (ae:Nat),∀ (ao:Ab Ag),∀ (af:Nat),∀ (x:jQ),∀ (ok:Bool),∀ (b:Nat),∀ (W:Ad),Touch (λk=>k=p) wz W/\ym w0 W p->(0<=xb)->(xb < 4)->(bl.length<=3)->(Hid ((kD.slice 5 kD.byte).jr W [.slice ba bl.length bc] bl (λk=>wz.heap.size<=k/\k < W.heap.size/\k≠b)))->(x.2.1.length<=3)->(Hid (jF.own W [.slice ad x.1.length ac,.slice am x.2.1.length ae,.slice ao x.2.2.1.length af,.int .i64 x.2.2.2.1,.int .i64 x.2.2.2.2] x (λk=>wz.heap.size<=k/\k < W.heap.size/\k≠b)))->(wz.heap.size<=b/\b < W.heap.size)->(W.heap[b]?=some (.cells #[.slice ad x.1.length ac,.slice am x.2.1.length ae,.slice ao x.2.2.1.length af,.int .i64 x.2.2.2.1,.int .i64 x.2.2.2.2] 60 (0,0)))->T 0 [Tt,Tt,Tt,Tt,Tt,Tt,Tt,Tt,Tt,Tt,Tt,Tt,Tt,Tt,Tt] (Aa (Aa (Aa (Aa (Aa (Aa (Aa (Aa A (some 41) (.int .i64 xb)) (some 42) (.slice ba bl.length bc)) (some 43) (.tuple #[.agg #[.slice ad x.1.length ac,.slice am x.2.1.length ae,.slice ao x.2.2.1.length af,.int .i64 x.2.2.2.1,.int .i64 x.2.2.2.2],.bool ok])) (some 34) (.tuple #[.agg #[.slice ad x.1.length ac,.slice am x.2.1.length ae,.slice ao x.2.2.1.length af,.int .i64 x.2.2.2.1,.int .i64 x.2.2.2.2],.bool ok])) (some 44) (.agg #[.slice ad x.1.length ac,.slice am x.2.1.length ae,.slice ao x.2.2.1.length af,.int .i64 x.2.2.2.1,.int .i64 x.2.2.2.2])) (some 45) (.bool ok)) (some 9) (.pointer (some ⟨b,0,none⟩))) (some 10) (.bool ok)) W:=by
   intro xb ba bc bl ad ac am ae ao af x ok b W E ai L au HB bi HQ Z BB;have bk:=E.1.size;subst hT;subst hA;simp only [Aa,zA,zB,zC];refine jv bE5 ?_;go_wp2;go_meet;exact ⟨b,ad,ac,am,ae,ao,af,x,ok,rfl,BB,HQ,bi,Z.1,Z.2,E.2,E.1⟩
  have J:∀ (xb:Int),∀ (ba:Ab Ag),∀ (bc:Nat),∀ (bl:List Ai),∀ (ad:Ab Ag),∀ (ac:Nat),∀ (am:Ab Ag),∀ (ae:Nat),∀ (ao:Ab Ag),∀ (af:Nat),∀ (x:jQ),∀ (ok:Bool),∀ (b:Nat),∀ (W:Ad),Touch (λk=>k=p) wz W/\ym w0 W p->(0<=xb)->(xb < 4)->(bl.length<=3)->(Hid ((kD.slice 5 kD.byte).jr W [.slice ba bl.length bc] bl (λk=>wz.heap.size<=k/\k < W.heap.size/\k≠b)))->(x.2.1.length<=3)->(Hid (jF.own W [.slice ad x.1.length ac,.slice am x.2.1.length ae,.slice ao x.2.2.1.length af,.int .i64 x.2.2.2.1,.int .i64 x.2.2.2.2] x (λk=>wz.heap.size<=k/\k < W.heap.size/\k≠b)))->(wz.heap.size<=b/\b < W.heap.size)->(W.heap[b]?=some (.cells #[.slice none 0 0,.slice none 0 0,.slice none 0 0,.int .i64 0,.int .i64 0] 60 (0,0)))->T 2 [Tt,Tt,Tt,Tt,Tt,Tt,Tt,Tt,Tt,Tt,Tt,Tt,Tt,Ff,Ff] (Aa (Aa (Aa (Aa (Aa (Aa (Aa A (some 41) (.int .i64 xb)) (some 42) (.slice ba bl.length bc)) (some 43) (.tuple #[.agg #[.slice ad x.1.length ac,.slice am x.2.1.length ae,.slice ao x.2.2.1.length af,.int .i64 x.2.2.2.1,.int .i64 x.2.2.2.2],.bool ok])) (some 34) (.tuple #[.agg #[.slice ad x.1.length ac,.slice am x.2.1.length ae,.slice ao x.2.2.1.length af,.int .i64 x.2.2.2.1,.int .i64 x.2.2.2.2],.bool ok])) (some 44) (.agg #[.slice ad x.1.length ac,.slice am x.2.1.length ae,.slice ao x.2.2.1.length af,.int .i64 x.2.2.2.1,.int .i64 x.2.2.2.2])) (some 45) (.bool ok)) (some 9) (.pointer (some ⟨b,0,none⟩))) W:=by
   intro xb ba bc bl ad ac am ae ao af x ok b W E ai L au HB bi HQ Z BB;have bk:=E.1.size;subst hT;subst hA;simp only [Aa,zA,zB,zC];refine kU (k:=13) rfl bE5 rfl (λK H=>?_);obtain ⟨dx,dj,dv,dy,de⟩:=yZ BB;obtain ⟨cz,da,db,dg,dc⟩:=kCo BB;go_simp;generalize o:World.setCell (World.setCell (World.setCell (World.setCell (World.setCell W _ _) _ _) _ _) _ _) _ _=v;have hT:Touch (λk=>k=b) W v:=(by rw [<- o];exact sT5);replace BB:v.heap[b]?=some (.cells #[.slice ad x.1.length ac,.slice am x.2.1.length ae,.slice ao x.2.2.1.length af,.int .i64 x.2.2.2.1,.int .i64 x.2.2.2.2] 60 (0,0)):=(by rw [<- o];exact kG (kG (kG (kG (kG (BB) 0) 1) 2) 3) 4);clear o dx cz dj da dv db dy dg de dc;have zv:=hT.size;replace HB:Hid ((kD.slice 5 kD.byte).jr v [.slice ba bl.length bc] bl (λk=>wz.heap.size<=k/\k < v.heap.size/\k≠b)):=yD ((HB.out.touch hT (λk q h=>q.2.2 h)).wide (λk q=>⟨q.1,Nat.lt_of_lt_of_le q.2.1 hT.size,q.2.2⟩));replace HQ:Hid (jF.own v [.slice ad x.1.length ac,.slice am x.2.1.length ae,.slice ao x.2.2.1.length af,.int .i64 x.2.2.2.1,.int .i64 x.2.2.2.2] x (λk=>wz.heap.size<=k/\k < v.heap.size/\k≠b)):=yD ((HQ.out.touch hT (λk q h=>q.2.2 h)).wide (λk q=>⟨q.1,Nat.lt_of_lt_of_le q.2.1 hT.size,q.2.2⟩));replace Z:wz.heap.size<=b/\b < v.heap.size:=⟨Z.1,Nat.lt_of_lt_of_le Z.2 hT.size⟩;replace E:=And.intro (E.1.jJ hT bF2) (E.2.touch hT bF2 rC);refine H _ _ E ?_;clear H K;refine jH ?_;refine kT 14 ?_;have h_:=U xb ba bc bl ad ac am ae ao af x ok b v E ai L au HB bi HQ Z BB;exact dW
  have c1:∀ (xb:Int),∀ (ba:Ab Ag),∀ (bc:Nat),∀ (bl:List Ai),∀ (ad:Ab Ag),∀ (ac:Nat),∀ (am:Ab Ag),∀ (ae:Nat),∀ (ao:Ab Ag),∀ (af:Nat),∀ (x:jQ),∀ (ok:Bool),∀ (W:Ad),Touch (λk=>k=p) wz W/\ym w0 W p->(0<=xb)->(xb < 4)->(bl.length<=3)->(Hid ((kD.slice 5 kD.byte).jr W [.slice ba bl.length bc] bl (λk=>wz.heap.size<=k/\k < W.heap.size/\k≠p)))->(x.2.1.length<=3)->(Hid (jF.own W [.slice ad x.1.length ac,.slice am x.2.1.length ae,.slice ao x.2.2.1.length af,.int .i64 x.2.2.2.1,.int .i64 x.2.2.2.2] x (λk=>wz.heap.size<=k/\k < W.heap.size/\k≠p)))->T 3 [Tt,Tt,Tt,Tt,Tt,Tt,Tt,Tt,Tt,Tt,Tt,Tt,Ff,Ff,Ff] (Aa (Aa (Aa (Aa (Aa (Aa A (some 41) (.int .i64 xb)) (some 42) (.slice ba bl.length bc)) (some 43) (.tuple #[.agg #[.slice ad x.1.length ac,.slice am x.2.1.length ae,.slice ao x.2.2.1.length af,.int .i64 x.2.2.2.1,.int .i64 x.2.2.2.2],.bool ok])) (some 34) (.tuple #[.agg #[.slice ad x.1.length ac,.slice am x.2.1.length ae,.slice ao x.2.2.1.length af,.int .i64 x.2.2.2.1,.int .i64 x.2.2.2.2],.bool ok])) (some 44) (.agg #[.slice ad x.1.length ac,.slice am x.2.1.length ae,.slice ao x.2.2.1.length af,.int .i64 x.2.2.2.1,.int .i64 x.2.2.2.2])) (some 45) (.bool ok)) W:=by
   intro xb ba bc bl ad ac am ae ao af x ok W E ai L au HB bi HQ;have bk:=E.1.size;subst hT;subst hA;simp only [Aa,zA,zB,zC];refine kU (k:=12) rfl bE5 rfl (λK H=>?_);go_simp;refine ja ?_;intro v hb BB zv;obtain ⟨b,a6⟩:∃ b_,b_=W.heap.size:=⟨_,rfl⟩;rw [<- a6] at BB ⊢;replace HB:Hid ((kD.slice 5 kD.byte).jr v [.slice ba bl.length bc] bl (λk=>wz.heap.size<=k/\k < v.heap.size/\k≠b)):=yD ((HB.out.below hb).wide dM);replace HQ:Hid (jF.own v [.slice ad x.1.length ac,.slice am x.2.1.length ae,.slice ao x.2.2.1.length af,.int .i64 x.2.2.2.1,.int .i64 x.2.2.2.2] x (λk=>wz.heap.size<=k/\k < v.heap.size/\k≠b)):=yD ((HQ.out.below hb).wide dM);obtain ⟨Z,E⟩:=y7;refine H _ _ E ?_;clear H K;refine jH ?_;exact eD
  have aa:∀ (xb:Int),∀ (ba:Ab Ag),∀ (bc:Nat),∀ (bl:List Ai),∀ (b:Nat),∀ (W:Ad),Touch (λk=>k=p) wz W/\ym w0 W p->(0<=xb)->(xb < 4)->(bl.length<=3)->(Hid ((kD.slice 5 kD.byte).jr W [.slice ba bl.length bc] bl (λk=>wz.heap.size<=k/\k < W.heap.size/\k≠b)))->(wz.heap.size<=b/\b < W.heap.size)->(W.heap[b]?=some (.cells #[.slice none 0 0,.slice none 0 0,.slice none 0 0,.int .i64 0,.int .i64 0] 60 (0,0)))->T 6 [Tt,Tt,Tt,Tt,Tt,Tt,Tt,Tt,Ff,Ff,Ff,Ff,Tt,Ff,Ff] (Aa (Aa (Aa A (some 41) (.int .i64 xb)) (some 42) (.slice ba bl.length bc)) (some 9) (.pointer (some ⟨b,0,none⟩))) W:=by
   intro xb ba bc bl b W E ai L au HB Z BB;have bk:=E.1.size;subst hT;subst hA;simp only [Aa,zA,zB,zC];refine kU (k:=8) rfl bE5 rfl (λK H=>?_);go_simp;refine (kFb (l:=t0) (HK.out.touch E.1 (λk q h=>hS k q.1 h)).rd.1 (cb:=[.slice ya ys.length yc]) (HY.out.touch E.1 tZ).rd (cn:=[.slice na qs.length nc]) (Y.out.touch E.1 qG).rd HB.out.rd bF2 (tl:=4000) bF1).mono ?_;rintro e v ⟨ds,x,ok,rfl,hO,dw,hb⟩;have zv:=hb.size;have b9:=Z.2;replace HB:Hid ((kD.slice 5 kD.byte).jr v [.slice ba bl.length bc] bl (λk=>wz.heap.size<=k/\k < v.heap.size/\k≠b)):=yD ((HB.out.below hb).wide (λk q=>⟨q.1,Nat.lt_of_lt_of_le q.2.1 hb.size,q.2.2⟩));replace BB:=kC BB hb;replace Z:wz.heap.size<=b/\b < v.heap.size:=⟨Z.1,Nat.lt_of_lt_of_le Z.2 hb.size⟩;obtain ⟨ad,ac,am,ae,ao,af,rfl⟩:=zo hO.raw;have bi:x.2.1.length<=3:=bF2;have HQ:Hid (jF.own v [.slice ad x.1.length ac,.slice am x.2.1.length ae,.slice ao x.2.2.1.length af,.int .i64 x.2.2.2.1,.int .i64 x.2.2.2.2] x (λk=>wz.heap.size<=k/\k < v.heap.size/\k≠b)):=yD (hO.wide mM);replace E:=And.intro (E.1.trans (Touch.of_below hb)) (E.2.below hb);refine H _ _ E ?_;clear H K;refine jH ?_;refine kT 9 ?_;refine kT 10 ?_;refine kT 11 ?_;exact eD
  have c2:∀ (xb:Int),∀ (ba:Ab Ag),∀ (bc:Nat),∀ (bl:List Ai),∀ (W:Ad),Touch (λk=>k=p) wz W/\ym w0 W p->(0<=xb)->(xb < 4)->(bl.length<=3)->(Hid ((kD.slice 5 kD.byte).jr W [.slice ba bl.length bc] bl (λk=>wz.heap.size<=k/\k < W.heap.size/\k≠p)))->T 7 [Tt,Tt,Tt,Tt,Tt,Tt,Tt,Tt,Ff,Ff,Ff,Ff,Ff,Ff,Ff] (Aa (Aa A (some 41) (.int .i64 xb)) (some 42) (.slice ba bl.length bc)) W:=by
   intro xb ba bc bl W E ai L au HB;have bk:=E.1.size;subst hT;subst hA;simp only [Aa,zA,zB,zC];refine yH (i:=8) (j:=12) rfl rfl bE5 rfl rfl (λK H=>?_) (λK H=>?_)
   · go_simp;refine (kFb (l:=t0) (HK.out.touch E.1 (λk q h=>hS k q.1 h)).rd.1 (cb:=[.slice ya ys.length yc]) (HY.out.touch E.1 tZ).rd (cn:=[.slice na qs.length nc]) (Y.out.touch E.1 qG).rd HB.out.rd bF2 (tl:=4000) bF1).mono ?_;rintro e v ⟨ds,x,ok,rfl,hO,dw,hb⟩;have zv:=hb.size;replace HB:Hid ((kD.slice 5 kD.byte).jr v [.slice ba bl.length bc] bl (λk=>wz.heap.size<=k/\k < v.heap.size/\k≠p)):=yD ((HB.out.below hb).wide (λk q=>⟨q.1,Nat.lt_of_lt_of_le q.2.1 hb.size,q.2.2⟩));obtain ⟨ad,ac,am,ae,ao,af,rfl⟩:=zo hO.raw;have bi:x.2.1.length<=3:=bF2;have HQ:Hid (jF.own v [.slice ad x.1.length ac,.slice am x.2.1.length ae,.slice ao x.2.2.1.length af,.int .i64 x.2.2.2.1,.int .i64 x.2.2.2.2] x (λk=>wz.heap.size<=k/\k < v.heap.size/\k≠p)):=yD (hO.wide mM);replace E:=And.intro (E.1.trans (Touch.of_below hb)) (E.2.below hb);refine H _ _ E ?_;clear H K;refine jH ?_;refine kT 9 ?_;refine kT 10 ?_;refine kT 11 ?_;have h_:=c1 xb ba bc bl ad ac am ae ao af x ok v E ai L au HB bi HQ;exact dW
   go_simp;refine ja ?_;intro v hb BB zv;obtain ⟨b,a6⟩:∃ b_,b_=W.heap.size:=⟨_,rfl⟩;rw [<- a6] at BB ⊢;replace HB:Hid ((kD.slice 5 kD.byte).jr v [.slice ba bl.length bc] bl (λk=>wz.heap.size<=k/\k < v.heap.size/\k≠b)):=yD ((HB.out.below hb).wide dM);obtain ⟨Z,E⟩:=y7;exact eF
  have cg:∀ (xb:Int),∀ (b:Nat),∀ (W:Ad),Touch (λk=>k=p) wz W/\ym w0 W p->(0<=xb)->(xb < 4)->(wz.heap.size<=b/\b < W.heap.size)->(W.heap[b]?=some (.cells #[.slice none 0 0,.slice none 0 0,.slice none 0 0,.int .i64 0,.int .i64 0] 60 (0,0)))->T 7 [Tt,Tt,Tt,Tt,Tt,Tt,Tt,Ff,Ff,Ff,Ff,Ff,Tt,Ff,Ff] (Aa (Aa A (some 41) (.int .i64 xb)) (some 9) (.pointer (some ⟨b,0,none⟩))) W:=by
   intro xb b W E ai L Z BB;have bk:=E.1.size;subst hT;subst hA;simp only [Aa,zA,zB,zC];refine kU (k:=7) rfl bE5 rfl (λK H=>?_);go_simp;refine (kCs E.2 ai bF2).mono ?_;rintro e v ⟨ba,bc,bl,rfl,cf,hO,F,D⟩;have zv:=D.size;have b9:=Z.2;replace BB:=D.kC BB bF2;replace Z:wz.heap.size<=b/\b < v.heap.size:=⟨Z.1,Nat.lt_of_lt_of_le Z.2 D.size⟩;have au:bl.length<=3:=bF2;have HB:Hid ((kD.slice 5 kD.byte).jr v [.slice ba bl.length bc] bl (λk=>wz.heap.size<=k/\k < v.heap.size/\k≠b)):=yD (hO.jr.wide mM);replace E:=And.intro (E.1.trans D) F;exact eF
  have T6:∀ (xb:Int),∀ (W:Ad),Touch (λk=>k=p) wz W/\ym w0 W p->(0<=xb)->(xb < 4)->T 8 [Tt,Tt,Tt,Tt,Tt,Tt,Tt,Ff,Ff,Ff,Ff,Ff,Ff,Ff,Ff] (Aa A (some 41) (.int .i64 xb)) W:=by
   intro xb W E ai L;have bk:=E.1.size;subst hT;subst hA;simp only [Aa,zA,zB,zC];refine yH (i:=7) (j:=12) rfl rfl bE5 rfl rfl (λK H=>?_) (λK H=>?_)
   · go_simp;refine (kCs E.2 ai bF2).mono ?_;rintro e v ⟨ba,bc,bl,rfl,cf,hO,F,D⟩;have zv:=D.size;have au:bl.length<=3:=bF2;have HB:Hid ((kD.slice 5 kD.byte).jr v [.slice ba bl.length bc] bl (λk=>wz.heap.size<=k/\k < v.heap.size/\k≠p)):=yD (hO.jr.wide mM);replace E:=And.intro (E.1.trans D) F;refine H _ _ E ?_;clear H K;refine jH ?_;have h_:=c2 xb ba bc bl v E ai L au HB;exact dW
   go_simp;refine ja ?_;intro v hb BB zv;obtain ⟨b,a6⟩:∃ b_,b_=W.heap.size:=⟨_,rfl⟩;rw [<- a6] at BB ⊢;obtain ⟨Z,E⟩:=y7;exact eG
  have d3:∀ (b:Nat),∀ (W:Ad),Touch (λk=>k=p) wz W/\ym w0 W p->(wz.heap.size<=b/\b < W.heap.size)->(W.heap[b]?=some (.cells #[.slice none 0 0,.slice none 0 0,.slice none 0 0,.int .i64 0,.int .i64 0] 60 (0,0)))->T 8 [Tt,Tt,Tt,Tt,Tt,Tt,Ff,Ff,Ff,Ff,Ff,Ff,Tt,Ff,Ff] (Aa A (some 9) (.pointer (some ⟨b,0,none⟩))) W:=by
   intro b W E Z BB;have bk:=E.1.size;subst hT;subst hA;simp only [Aa,zA,zB,zC];refine kU (k:=6) rfl bE5 rfl (λK H=>?_);go_simp;refine (kZ (n:=4) E.2 bF1).mono ?_;rintro e v ⟨xb,ai,L,bf,rfl,F,D⟩;have zv:=D.size;have b9:=Z.2;replace BB:=D.kC BB bF2;replace Z:wz.heap.size<=b/\b < v.heap.size:=⟨Z.1,Nat.lt_of_lt_of_le Z.2 D.size⟩;replace L:=L bF1;clear bf;replace E:=And.intro (E.1.trans D) F;exact eG
  subst hT;subst hA;refine yH (i:=6) (j:=12) rfl rfl bE5 rfl rfl (λK H=>?_) (λK H=>?_)
  · go_simp;refine (kZ (n:=4) E.2 bF1).mono ?_;rintro e v ⟨xb,ai,L,bf,rfl,F,D⟩;have zv:=D.size;replace L:=L bF1;clear bf;replace E:=And.intro (E.1.trans D) F;refine H _ _ E ?_;clear H K;refine jH ?_;have h_:=T6 xb v E ai L;exact dW
  go_simp;refine ja ?_;intro v hb BB zv;obtain ⟨b,a6⟩:∃ b_,b_=t.heap.size:=⟨_,rfl⟩;rw [<- a6] at BB ⊢;obtain ⟨Z,E⟩:=y7;refine H _ _ E ?_;clear H K;refine jH ?_;have h_:=d3 b v E Z BB;exact dW
 rename Ad=>wd
 obtain ⟨b,ad,ac,am,ae,ao,af,x,ok,rfl,BQ,HQ,bi,cd,N,ch,bg⟩:=hcut
 replace R:=bg.kC R bF2
 replace O:=O.trans bg
 clear hc BX BN BY HK Y HY
 have hc:=ch
 have zd:=bg.size
 clear ch bg
 have c3:=data_rng HQ.out.raw
 go_wp2_with fail
 refine (yw (n:=8) hc bF1).mono ?_
 rintro e cc ⟨b1,rfl,F,D⟩
 have dq:=D.size
 replace R:=D.kC R bF2
 replace BQ:=D.kC BQ bF2
 obtain ⟨HQ,O⟩:=BM
 clear hc D
 have hc:=F
 clear F
 cases b1
 · replace HQ:=yD (HQ.out.wide (T:=λk=>wz.heap.size<=k/\k < cc.heap.size/\k≠b) qN);obtain ⟨aj,an,az,a8,bt⟩:=yZ R;obtain ⟨aq,av,ax,aw,b3⟩:=yZ BQ;obtain ⟨ak,al,ay,a7,bm⟩:=kCo R;go_wp2;refine bodyPost_ret (v:=.agg #[.slice ad x.1.length ac,.slice am x.2.1.length ae,.slice ao x.2.2.1.length af,.int .i64 x.2.2.2.1,.int .i64 x.2.2.2.2]) fO rfl ⟨[.slice ad x.1.length ac,.slice am x.2.1.length ae,.slice ao x.2.2.1.length af,.int .i64 x.2.2.2.1,.int .i64 x.2.2.2.2],x,rfl,?_,by omega,hc.touch sT5 bF2 bB6,O.jJ sT5 bF2⟩;exact (HQ.out.touch (T:=λk=>k=w.heap.size + 1) sT5 tZ).wide (T:=jg w.heap.size _) fH
 obtain ⟨A_,B_,C_,hA,hB,hC,sA,sB,sC,dn,d4,du⟩:=data_parts HQ.out
 obtain ⟨aq,av,ax,aw,b3⟩:=yZ BQ
 obtain ⟨a2,ar,ap,a5,a1⟩:=kCo BQ
 go_wp2_with (at_builtin;refine kD.zQ rfl _ _ 22 rfl (r:=kD.byte) (e:=5) underlying22 kFo rfl bF1 bF1 (w:=cc) hB bR (kTy (x:=1) rfl) bF4 bF4 (λ_ _ h=>h) bF2 ?_)
 intro v9 w9 ah V
 have et:=V.size
 have dm:=yD (show (x.2.1++[(1:Ai)]).length<=4 by simp;omega)
 generalize x.2.1++[(1:Ai)]=bq at *
 obtain ⟨a9,c9,bx,_⟩:=kD.kAw ah.raw
 obtain rfl:v9=_:=by simpa using bx
 have ht:Touch (λk=>wz.heap.size<=k/\k < cc.heap.size/\k≠b) cc w9:=V.wide (λk q=>⟨(sB k q.1).1,q.2,(sB k q.1).2.2⟩)
 have HD:=yD (data_of (S:=λk=>wz.heap.size<=k/\k < w9.heap.size/\k≠b) (hA.touch V (λk q h=>dn k q h.1)) ah (hC.touch V (λk q h=>du k h.1 q)) c3.1 c3.2 (λk q=>⟨(sA k q).1,by have:=(sA k q).2.1;omega,(sA k q).2.2⟩) (λk q=>by rcases q with q | q;exact ⟨(sB k q).1,by have:=(sB k q).2.1;omega,(sB k q).2.2⟩;exact ⟨by have:=q.1;omega,q.2,by have:=q.1;omega⟩) (λk q=>⟨(sC k q).1,by have:=(sC k q).2.1;omega,(sC k q).2.2⟩) (λk q1 q2=>by rcases q2 with q2 | q2;exact dn k q1 q2;(have h1:=(sA k q1).2.1;have h2:=q2.1;omega)) d4 (λk q1 q2=>by rcases q1 with q1 | q1;exact du k q1 q2;(have h1:=(sC k q2).2.1;have h2:=q1.1;omega)))
 clear hA hB hC ah HQ aq av ax aw b3 a2 ar ap a5 a1
 replace R:=ht.kC R bF2
 replace BQ:=ht.kC BQ bF2
 replace hc:=hc.touch ht bF2 vL
 replace O:=O.kBr (ht.wide (T:=λk=>wz.heap.size<=k) (λk q=>q.1)) bB8
 clear ht V
 obtain ⟨aq,av,ax,aw,b3⟩:=yZ BQ
 obtain ⟨a2,ar,ap,a5,a1⟩:=kCo BQ
 go_upto_region 9 with fail
 clear aq av ax aw b3 a2 ar ap a5 a1
 generalize o:World.setCell w9 _ _=cm
 have bn:Touch (λk=>k=b) w9 cm:=wY
 replace BQ:cm.heap[b]?=some (.cells #[.slice ad x.1.length ac,.slice a9 bq.length c9,.slice ao x.2.2.1.length af,.int .i64 x.2.2.2.1,.int .i64 x.2.2.2.2] 60 (0,0)):=by rw [<- o];exact kG BQ 1
 have dl:=bn.size
 clear o
 replace R:=bn.kC R bF2
 replace HD:=yD (HD.out.touch bn qV)
 replace hc:=hc.touch bn bF2 bB6
 replace O:=O.jJ bn bF2
 clear bn
 obtain ⟨aj,an,az,a8,bt⟩:=yZ R
 obtain ⟨aq,av,ax,aw,b3⟩:=yZ BQ
 obtain ⟨ak,al,ay,a7,bm⟩:=kCo R
 go_wp2
 refine bodyPost_ret (v:=.agg #[.slice ad x.1.length ac,.slice a9 bq.length c9,.slice ao x.2.2.1.length af,.int .i64 x.2.2.2.1,.int .i64 x.2.2.2.2]) fO rfl ⟨[.slice ad x.1.length ac,.slice a9 bq.length c9,.slice ao x.2.2.1.length af,.int .i64 x.2.2.2.1,.int .i64 x.2.2.2.2],(x.1,bq,x.2.2.1,x.2.2.2.1,x.2.2.2.2),rfl,?_,(by have:=dm.out;show bq.length<=10;omega),hc.touch sT5 bF2 bB6,O.jJ sT5 bF2⟩
 exact (HD.out.touch (T:=λk=>k=w.heap.size + 1) sT5 tZ).wide (T:=jg w.heap.size _) fH
end Go.Proofs.YthocbplmdjkifaaGreat

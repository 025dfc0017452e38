/-
  Content stores without what is stale.
-/
import Derived.Test.YtonmjkmaadgceabGreatWoC
set_option linter.unusedVariables false
set_option linter.defProp false
set_option linter.unusedSimpArgs false
set_option linter.unnecessarySimpa false
set_option maxRecDepth 100000
set_option maxHeartbeats 4000000
open Bool renaming true->Tt,false->Ff
open List renaming length_filter_le->Aa,take_succ_eq_append_getElem->Ab,take_length->Ac,length_nil->Aw,filter_append->Ba,getElem_mem->Bd
open Int renaming natCast_nonneg->Ad,ofNat_lt->Bc
open Bool renaming not_false->Ae,and_false->Ag,false_and->Ah,not_true->Ai,and_true->Aj,true_and->Ak,or_false->Al,false_or->Am,or_true->Aq,true_or->Ar,not_not->Au
open _root_ renaming List->Ap
open List.cons renaming injEq->Av
open Go.RowKit renaming intOf->Ay
open Go renaming frozen_of_row->Az,World->Bb,Value->Be,Calls->Bf
namespace Go.Proofs.YtonmjkmaadgceabGreat
open Go.RowKit _root_.Go.Proofs.Tryz
def kGj (now:Int) (o:Ap kW):Ap kW:=o.filter (λr=>decide (now<=r.2.2))
def kDc (now:Int) (l:Ap kF):Ap kF:=(l.map (λp=>(p.1,kGj now p.2.1,p.2.2))).filter (λp=>decide (0 < p.2.1.length))
def expR_len (now:Int) (o:Ap kW):(kGj now o).length<=o.length:=Aa _ _
def kIh (now:Int) (l:Ap kF):(kDc now l).length<=l.length:=Nat.le_trans (Aa _ _) bD0
def expP_yes {now:Int} {l:Ap kF} {k:Nat} (h:k < l.length) (q:0 < (kGj now l[k].2.1).length):kDc now (l.take (k + 1))=kDc now (l.take k)++[(l[k].1,kGj now l[k].2.1,l[k].2.2)]:=by
 unfold kDc;rw [Ab h,List.map_append,Ba];simp [q]
def expP_no {now:Int} {l:Ap kF} {k:Nat} (h:k < l.length) (q:¬ 0 < (kGj now l[k].2.1).length):kDc now (l.take (k + 1))=kDc now (l.take k):=by
 unfold kDc;rw [Ab h,List.map_append,Ba];have:decide (0 < (kGj now l[k].2.1).length)=false:=by simpa using q
 simp [this]
def expR_yes {now:Int} {l:Ap kW} {k:Nat} (h:k < l.length) (q:now<=l[k].2.2):kGj now (l.take (k + 1))=kGj now (l.take k)++[l[k]]:=kCw (p:=λr:kW=>decide (now<=r.2.2)) h bB5
def expR_no {now:Int} {l:Ap kW} {k:Nat} (h:k < l.length) (q:¬ now<=l[k].2.2):kGj now (l.take (k + 1))=kGj now (l.take k):=kBl (p:=λr:kW=>decide (now<=r.2.2)) h bB5
def kYl (now:Int) (l:Ap kW) (k:Nat):(kGj now (l.take k)).length<=l.length:=Nat.le_trans (expR_len _ _) rV
def kYm (now:Int) (l:Ap kF) (k:Nat):(kDc now (l.take k)).length<=l.length:=Nat.le_trans (kIh _ _) rV
def kLx {w:Bb} {vl:Be} {l:Ap kF} (hl:(kD.slice 43 kH).rd w [vl] l) (bf:l.length<=2000000) (ac:∀ x∈l,x.2.1.length<=2000000) {now:Int} :
    Bf prog 28 #[vl,.int .i64 now] w (kAa (kD.slice 43 kH) (kDc now l) w):=by
 have HL:=yD hl
 have em:=yD ac
 obtain ⟨la,lp,rfl,ll⟩:=kD.sl hl.1
 clear hl ac
 go_enter func28,ntmps28
 go_wp2
 go_loopw [5,6] (λv i wr=>∃ (k:Nat) (a:Option Addr) (n c:Nat),v=.slice a n c/\i=.int .i64 k/\k<=l.length/\Hid (n=(kDc now (l.take k)).length)/\Hid ((kD.slice 43 kH).own wr [.slice a n c] (kDc now (l.take k)) (jX w.heap.size wr.heap.size))/\Qb w wr) (λ_ i _=>l.length - (Ay i).toNat)
 case atStart=>exact ⟨0,_,0,0,rfl,rfl,Nat.zero_le _,yD rfl,yD kD.jd,bR.alloc nL _⟩
 obtain ⟨k,a,n,c,rfl,rfl,hk,HN,J,o⟩:=hrel
 have bp:=Ad k
 have ar:=o.size
 have bh:=kYm now l k
 by_cases hlt:k < l.length
 · have dr:=Bc.2 hlt;obtain ⟨qb,qo,rfl,c0,c1,c2,qr,A0,A1,A2⟩:=kD.zg (HL.out.1.below o) hlt rfl;have av:=kD.yX HL.out hlt;have ed:=em.out _ (Bd hlt);have hyes:=λq=>expP_yes (now:=now) hlt q;have hno:=λq=>expP_no (now:=now) hlt q;generalize l[k]=x at *;have bj:=yD hyes;have a4:=yD hno;clear hyes hno;obtain ⟨x0,x1,x2⟩:=x;obtain ⟨bg,dc,Z,aj,ap,ao,au⟩:=jQ qr;simp only [Av,and_true] at Z;obtain ⟨rfl,rfl,rfl⟩:=Z;obtain ⟨na,np,rfl,_⟩:=kD.sl ap;obtain ⟨ra,rp,rfl,a5⟩:=kD.sl ao;have ab:=kD.kAd ao;have HQ:=yD ao;have cl:Hid (kU.rd wr [Qs na x0 np] x0):=yD ⟨aj,av.1⟩;simp only at ed A0 A1 A2 ab;clear qr aj ap ao;have ai:=yD au;clear au av;go_upto_region 6 with fail;generalize X:World.alloc wr _=wC;have EC:Qb wr wC:=rO;clear X;have bi:=EC.size;replace A0:=cL EC A0;replace A1:=cL EC A1;replace A2:=cL EC A2;replace HQ:=yD (HQ.out.below EC);replace cl:=yD (cl.out.below EC);replace J:=yD (J.out.below EC);replace o:=(tQ o EC);clear EC;go_wp2;go_loopw [7,8] (λv i wq=>∃ (m:Nat) (b:Option Addr) (R bc:Nat),v=.slice b R bc/\i=.int .i64 m/\m<=x1.length/\Hid (R=(kGj now (x1.take m)).length)/\Hid ((kD.slice 45 jA).own wq [.slice b R bc] (kGj now (x1.take m)) (jX wC.heap.size wq.heap.size))/\Qb wC wq) (λ_ i _=>x1.length - (Ay i).toNat);case atStart=>exact ⟨0,_,0,0,rfl,rfl,Nat.zero_le _,yD rfl,yD kD.jd,bR⟩
   obtain ⟨m,b,R,bc,rfl,rfl,hm,D,HA,bb⟩:=hrel;have bt:=Ad m;have am:=bb.size;have B0:=cL bb A0;have B1:=cL bb A1;have U:=cL bb A2;have ay:=kYl now x1 m;by_cases b4:m < x1.length
   · have b1:=Bc.2 b4;obtain ⟨rb,ro,rfl,r0,r1,r2,rr,R0,R1,R2⟩:=kD.zg (HQ.out.below bb) b4 rfl;have ah:=λq=>expR_yes (now:=now) b4 q;have N:=λq=>expR_no (now:=now) b4 q;generalize x1[m]=y at *;have ae:=yD ah;have G:=yD N;clear ah N;obtain ⟨y0,y1,y2⟩:=y;obtain ⟨cd,ew,ee,e7⟩:=yG rr;simp only [Av,and_true] at cd;obtain ⟨rfl,rfl,rfl⟩:=cd;have HX:=yD (λW=>kD.flat.own (w:=W) (S:=λ_=>False) (kD.yC (kD.jB ew) (kD.yC (kD.jB ee) (kD.jB e7))));clear rr ew ee e7;by_cases ax:now<=y2
     · have L:=yD (ae.out ax);clear ae G;have az:ro=ro:=rfl;go_wp2_with (at_builtin;refine kD.yZ rfl _ _ 41 rfl (r:=jA) (e:=45) underlying41 zo rfl bC8 bC8 HA.out bR (HX.out wr) bD1 bD1 (λ_ _ h=>h.elim) (by have:=kYl now x1 m;omega) ?_);intro v5 w5 I aa;have a8:=aa.size;rw [<- L.out] at I;obtain ⟨V,c5,rfl,_⟩:=kD.sl I.raw;have ak:=yD (I.wide (T:=jX wC.heap.size w5.heap.size) (λj q=>q.elim (λq=>⟨q.1,by have:=q.2;omega⟩) (λq=>⟨by have:=q.1;omega,q.2⟩)));have E5:=bb.trans (aa.below am (λj q=>q.1.1));clear I aa;go_wp2;go_roundw;case rel=>exact ⟨m + 1,V,_,c5,rfl,by go_num,by omega,yD rfl,ak,E5⟩
       simp [Ay];omega
     have L:=yD (G.out ax);clear ae G;go_wp2;go_roundw;case rel=>exact ⟨m + 1,b,R,bc,rfl,by go_num,by omega,yD (by rw [L.out];exact D.out),yD (by rw [L.out];exact HA.out),bb⟩
     simp [Ay];omega
   have a3:¬ ((m:Int) < x1.length):=bC9;obtain rfl:m=x1.length:=bC9;have af:=yD (show R=(kGj now x1).length by have:=D.out;rwa [Ac] at this);replace HA:=yD (show (kD.slice 45 jA).own wr [.slice b R bc] (kGj now x1) (jX wC.heap.size wr.heap.size) by have:=HA.out;rwa [Ac] at this);clear D ay;by_cases Y:0 < R
   · have L:=yD (bj.out (by have h_:=af.out;omega));have F:(0:Int) < R:=bC9;clear bj a4;go_wp2_with fail;refine (zJ (cl.out.below bb)).mono ?_;rintro e wT ⟨tc,rfl,OT,aq⟩;obtain ⟨cf,rfl,al⟩:=kZ OT.raw;obtain ⟨a7,br,rfl,_⟩:=kD.sl al;clear al;have bo:=aq.size;go_upto_region 13 with fail;generalize ad:World.alloc wT _=wD;have ED:Qb wT wD:=rG;have KD:Qd wD wT 0 (.slice a7 x0.length br):=tC;clear ad;have bn:=ED.size;have ER:=(tQ aq ED);replace U:=cL ER U;have ag:=(tQ bb ER);have FX:=yD (λ(W:Bb) (hW:Qb wD W)=>kIk hW KD U);refine yH (λW=>Qb wD W) [Tt,Tt,Tt,Tt,Tt,Tt,Tt,Tt,Tt,Ff] bC3 bC3 pK (bR.drew) ?_;intro wS E;iterate 9
      all_goals refine ku ?_
     all_goals first|(refine kI rfl E ?_)|(refine kw rfl (λK H=>?_);go_simp;refine H _ _ (E.alloc E.size _) ?_;clear H K)
     all_goals refine jF ?_
     all_goals refine jc ?_
     have a1:=E.size;go_wp2_with (at_builtin;refine kD.yZ rfl _ _ 28 rfl (r:=kH) (e:=43) underlying28 yP rfl bC8 bC8 J.out (tQ ag E) (kD.own.wide (T:=jX wC.heap.size wS.heap.size) (kD.jl (r:=kU) (q:=kD.pair (kD.slice 45 jA) kD.int) (cs:=[.slice a7 x0.length br]) (ds:=[.slice b R bc,.int .i64 x2]) (x:=x0) (y:=(kGj now x1,x2)) (A:=jX wr.heap.size wT.heap.size) (B:=jX wC.heap.size wr.heap.size) (S:=jX wC.heap.size wT.heap.size) (OT.below (tQ ED E)) (kD.jv (HA.out.below (tQ ER E)) (kD.jB ai.out)) qY rC (λj q1 q2=>by have:=q1.1;have:=q2.2;omega)) rC) bD1 bD1 nW bC9 ?_);intro v6 w6 an aw;have bd:=aw.size;rw [<- L.out] at an;obtain ⟨b6,O,rfl,_⟩:=kD.sl an.raw;have a2:=yD (an.wide (T:=jX w.heap.size w6.heap.size) bI);have EB:=(tQ o ag);have E6:=EB.trans ((E.mono bC9).trans (aw.below bC9 (λj q=>q.1.1)));clear an aw;go_wp2;go_roundw;case rel=>exact ⟨k + 1,b6,_,O,rfl,by go_num,by omega,yD rfl,a2,E6⟩
     simp [Ay];omega
   have L:=yD (a4.out (by have h_:=af.out;omega));have F:¬ (0:Int) < R:=bC9;clear bj a4;go_wp2;go_roundw;case rel=>exact ⟨k + 1,a,n,c,rfl,by go_num,by omega,yD (by rw [L.out];exact HN.out),yD (by rw [L.out];exact (J.out.below bb).wide rC),(tQ o bb)⟩
   simp [Ay];omega
 have ff:¬ ((k:Int) < l.length):=bC9
 obtain rfl:k=l.length:=bC9
 go_wp2
 go_ret
 exact ⟨_,rfl,by have:=J.out;rwa [Ac] at this,o⟩
def pend0_open {w:Bb} {cs:Ap Be} {x:kF} {C:Nat->Prop} (h:kGo.own w cs x C):∃ (na:Option Addr) (np:Nat) (ra:Option Addr) (rp:Nat) (A B:Nat->Prop),
    cs=[.slice na x.1.length np,.slice ra x.2.1.length rp,.int .i64 x.2.2]/\kU.own w [Qs na x.1 np] x.1 A/\kD.kR 45 jA w (.slice ra x.2.1.length rp) x.2.1 B/\(∀ j,A j->C j)/\(∀ j,B j->C j)/\(∀ j,A j->B j->False)/\Qi x.2.2:=by
 obtain ⟨⟨c,d,A,B,rfl,h1,⟨c2,R,A2,U,rfl,h2,h3,k1,k2,k3⟩,k4,k5,k6⟩,hb⟩:=h
 have hn:kU.own w c x.1 A:=⟨h1,hb.1⟩
 obtain ⟨cn,rfl,D⟩:=kZ hn.raw
 obtain ⟨na,np,rfl,_⟩:=kD.sl D
 obtain ⟨ra,ln,rp,rfl,rfl,o⟩:=h2.1
 obtain ⟨rfl,hr⟩:=h3
 exact ⟨na,np,ra,rp,A,A2,rfl,hn,kD.own0_of (e:=45) (r:=jA) (w:=w) (v:=.slice ra x.2.1.length rp) (xs:=x.2.1) (S:=A2) ⟨h2,hb.2.1⟩,k4,λj I=>k5 j (k1 j I),λj a b=>k6 rfl j a (k1 j b),hr⟩
def oldR (now:Int) (r:kW):Bool:=decide (r.2.2 < now)
def oldR_filter (now:Int) (o:Ap kW):o.filter (λr=>!oldR now r)=kGj now o:=by
 unfold kGj oldR;congr 1;funext r;by_cases h:r.2.2 < now
 · have:¬ now<=r.2.2:=bC9;simp [h,this]
 have:now<=r.2.2:=by omega
 simp [h,this]
def kKx {w:Bb} {cr:Ap Be} {r:kW} (hr:jA.raw w cr r) {now:Int} {H:Nat} (G:Qc w H 0 (.int .i64 now)) :
    Bf prog 53 (#[.agg cr.toArray]++#[.pointer (some ⟨H,0,none⟩)]) w (bQ w (.bool (oldR now r))):=by
 have Hr:=yD hr
 obtain ⟨rfl,R,U,V⟩:=yG hr
 show Bf prog 53 #[_,_] w _
 go_enter func53,ntmps53
 go_upto_region 1 with fail
 generalize D:World.alloc w _=N
 have EB:Qb w N:=by rw [<- D];exact bF
 have J:Qd N w 0 (.int .i64 r.1):=tK
 have I:Qd N w 1 (.int .i64 r.2.1):=tK
 have o:Qd N w 2 (.int .i64 r.2.2):=tK
 clear D
 replace G:=cL EB G
 have FX:=yD (λ(W:Bb) (hW:Qb N W)=>kGr hW J I o G)
 refine jE (λW=>Qb N W) [Tt,Tt,Tt,Tt,Tt] bR ?_
 intro wS E
 iterate 4
  all_goals refine ku ?_
 all_goals (refine jy λb O=>?_;cases b <;> try simp only [jw] at O)
 all_goals refine kS ?_
 all_goals have F:=(tQ EB E)
 all_goals first
   | (have L:=yD (show (oldR now r)=false by simp only [oldR,Ai,Ae,Aj,Ak,Ag,Ah,Aq,Ar,Al,Am,Au,O]);go_wp2;go_ret;exact ⟨kX L.out.symm,F⟩)
   | (have L:=yD (show (oldR now r)=true by simp only [oldR,Ai,Ae,Aj,Ak,Ag,Ah,Aq,Ar,Al,Am,Au,O]);go_wp2;go_ret;exact ⟨kX L.out.symm,F⟩)
def kFk:jI prog 53:=zQ func53 bC3 bC3
def kMc {w:Bb} {vl:Be} {l:Ap kF} (hl:(kD.slice 43 kH).rd w [vl] l) (bf:l.length<=2000000) (ac:∀ x∈l,x.2.1.length<=2000000) {now:Int} :
    Bf prog 16 #[vl,.int .i64 now] w (kAa (kD.slice 43 kH) (kDc now l) w):=by
 have HL:=yD hl
 have em:=yD ac
 obtain ⟨la,lp,rfl,ll⟩:=kD.sl hl.1
 clear hl ac
 go_enter func16,ntmps16
 go_upto_region 2 with fail
 generalize D:World.alloc (World.alloc w _) _=N
 have EB:Qb w N:=by rw [<- D];exact bF
 have bu:w.heap.size + 2<=N.heap.size:=bB2
 have R:Qd N w 0 (.int .i64 now):=tK
 clear D
 go_wp2_with fail
 refine (kPa (HL.out.below EB)).mono ?_
 rintro e V ⟨v2,rfl,O2,ak⟩
 have a6:=ak.size
 replace R:=cL ak R
 have E2:=(tQ EB ak)
 obtain ⟨va,vn,vc,az,a1⟩:=O2.parts;obtain rfl:=az
 have HG:Hid (0 < l.length->∃ b,va=some ⟨b,0,none⟩/\kD.gap 43 kGo V b vc l.length [] 0 l (jX N.heap.size V.heap.size)):=yD (λh=>by
   obtain ⟨b,cap,he,hg⟩:=kD.kFy O2 h;simp only [Value.slice.injEq] at he;obtain ⟨rfl,_,rfl⟩:=he;exact ⟨b,rfl,by simpa using hg⟩)
 have bg:=a1.out
 subst bg
 clear O2 a1 ak
 go_wp2
 go_loopw [5,12] (λv i wr=>∃ (k:Nat) (a:Option Addr) (n c:Nat) (SG T:Nat->Prop),v=.slice a n c/\i=.int .i64 k/\k<=l.length/\Hid (n=(kDc now (l.take k)).length)/\Hid ((kD.slice 43 kH).own wr [.slice a n c] (kDc now (l.take k)) T)/\Hid (k < l.length->∃ b,va=some ⟨b,0,none⟩/\kD.gap 43 kGo wr b vc l.length [] k (l.drop k) SG) /\
     Hid (∀ j,SG j->N.heap.size<=j/\j < V.heap.size)/\Hid (∀ j,T j->w.heap.size + 1<=j/\j < wr.heap.size)/\Hid (∀ j,SG j->T j->False)/\Qd wr w 0 (.int .i64 now)/\V.heap.size<=wr.heap.size/\Qb w wr) (λ_ i _=>l.length - (Ay i).toNat)
 case atStart=>exact ⟨0,_,0,0,jX N.heap.size V.heap.size,λ_=>False,rfl,rfl,Nat.zero_le _,yD rfl,yD kD.jd,yD (λh=>by rw [List.drop_zero];exact HG.out h),yD (λj q=>q),yD (λ_ q=>q.elim),yD (λ_ _ q=>q),R,Nat.le_refl _,E2⟩
 clear HG R E2
 obtain ⟨k,a,n,c,SG,T,rfl,rfl,hk,HN,J,HG,E,L,HD,R,ar,o⟩:=hrel
 have bp:=Ad k
 have bm:=o.size
 have bh:=kYm now l k
 by_cases hlt:k < l.length
 · have dr:=Bc.2 hlt;obtain ⟨b,rfl,hg⟩:=HG.out hlt;rw [List.drop_eq_getElem_cons hlt] at hg;obtain ⟨cs,C,hown,hC,U,al⟩:=hg.skip2;have a5:=yD al;have ed:=em.out _ (Bd hlt);have hyes:=λq=>expP_yes (now:=now) hlt q;have hno:=λq=>expP_no (now:=now) hlt q;generalize l[k]=x at *;have bj:=yD hyes;have a4:=yD hno;clear hyes hno hg al;obtain ⟨na,np,ra,rp,A,B,rfl,hA,hB,am,ao,G,ae⟩:=pend0_open hown;obtain ⟨x0,x1,x2⟩:=x;simp only at ed hA hB ae;have A0:Qc wr b (k * 3) (.slice na x0.length np):=by have h:=U 0 _ rfl;rw [Aw,Nat.zero_add,Nat.add_zero] at h;exact h
   have A1:Qc wr b (k * 3 + 1) (.slice ra x1.length rp):=by have h:=U 1 _ rfl;rw [Aw,Nat.zero_add] at h;exact h
   have A2:Qc wr b (k * 3 + 2) (.int .i64 x2):=by have h:=U 2 _ rfl;rw [Aw,Nat.zero_add] at h;exact h
   have HA:=yD hA;have HB:=yD hB;have a7:=yD am;have ab:=yD ao;have bc:=yD G;have ca:=yD ae;have HC:=yD hC;clear hown hC U hA hB am ao G ae HG;go_upto_region 5 with fail;generalize X:World.alloc wr _=wC;have EC:Qb wr wC:=rO;have BX:Qr wC wr.heap.size #[Qs na x0 np,Qs ra x1 rp,Qn x2] 43:=vD;have bi:wr.heap.size + 1<=wC.heap.size:=bB7;clear X A0 A1 A2;replace R:=cL EC R;replace HA:=yD (HA.out.below EC);replace HB:=yD (HB.out.below EC);have K0:Qd wC wr 1 (.slice ra x1.length rp):=kE BX rfl;have H:=yD R;go_wp2_with fail;refine (kJi (oldR now) kFk HB.out bC9 (λW hW x cs hr=>kKx hr ?_)).mono ?_
   · have e1:W.heap[w.heap.size]?=wC.heap[w.heap.size]?:=hW.block _ bC9 (λq=>by have:=(E.out _ (HC.out _ (ab.out _ q)).1).1;omega);rw [<- H.out];unfold World.cell?;simp only [e1]
   rintro e w3 ⟨v3,rfl,O3,T3⟩;rw [oldR_filter] at O3;have Z:∀ j,B j->N.heap.size<=j/\j < V.heap.size:=λj q=>E.out _ (HC.out _ (ab.out _ q)).1;have ap:=T3.kC BX (λq=>by have:=Z _ q;omega);have dl:=T3.size;have eh:Qd w3 w 0 (.int .i64 now):=by
    have e1:w3.heap[w.heap.size]?=wC.heap[w.heap.size]?:=T3.block _ bC9 (λq=>by have:=Z _ q;omega);rw [<- H.out];unfold World.cell?;simp only [e1]
   have hTB:∀ j,T j->¬ B j:=λj q1 q2=>HD.out j (HC.out _ (ab.out _ q2)).1 q1;have a9:=yD (HA.out.touch T3 (λj q1 q2=>bc.out j q1 q2));have ai:=yD ((J.out.below EC).touch T3 hTB);have bb:=yD (λh:k + 1 < l.length=>(show ∃ b',some (⟨b,0,none⟩:Addr)=some ⟨b',0,none⟩/\kD.gap 43 kGo w3 b' vc l.length [] (k + 1) (l.drop (k + 1)) (λj=>SG j/\¬ C j) from ⟨b,rfl,(a5.out.below EC).keep (λj q I=>T3.block j I (λq2=>q.2 (ab.out _ q2)))⟩));have E3:=(tQ o EC).trans (T3.below bC9 (λj q=>by have:=Z _ q;omega));obtain ⟨pa,pn,pc,hp,ay⟩:=O3.parts;obtain rfl:=hp;have ah:=yD O3;have bk:=yD Z;clear O3 T3 HA HB J a5 BX R H K0 EC hTB Z;have K3:Qd w3 wr 1 (.slice ra x1.length rp):=kE ap rfl;have F3:w3.frozen? ⟨wr.heap.size,1,none⟩=false:=Az w3 wr.heap.size 1 _ _ ap;go_upto_region 6 with fail;generalize ad:World.setCell w3 _ _=wD;have TD:Touch (λj=>j=wr.heap.size) w3 wD:=by rw [<- ad];exact sT1
   have aa:Qr wD wr.heap.size #[Qs na x0 np,.slice pa pn pc,Qn x2] 43:=by rw [<- ad];exact kK ap 1
   clear ad K3 F3;have bn:=TD.size;have aq:=yD (a9.out.touch TD (λj q1 q2=>by have:=(E.out _ (HC.out _ (a7.out _ q1)).1).2;omega));have ag:=yD (ah.out.touch TD (λj q1 q2=>by have:=bk.out _ q1;omega));have be:=yD (ai.out.touch TD (λj q1 q2=>by have:=L.out _ q1;omega));have au:=yD (λh:k + 1 < l.length=>by
     obtain ⟨b',hb',av⟩:=bb.out h;exact (show ∃ b',some (⟨b,0,none⟩:Addr)=some ⟨b',0,none⟩/\kD.gap 43 kGo wD b' vc l.length [] (k + 1) (l.drop (k + 1)) (λj=>SG j/\¬ C j) from ⟨b',hb',av.keep (λj q I=>TD.block j I (λq2=>by have:=(E.out _ q.1).2;omega))⟩))
   have dy:Qd wD w 0 (.int .i64 now):=by
    have e1:wD.heap[w.heap.size]?=w3.heap[w.heap.size]?:=TD.block _ bC9 bC0;rw [<- eh];unfold World.cell?;simp only [e1]
   have E4:=E3.trans (TD.below bC9 (λj q=>by omega));clear a9 ah ai bb eh TD E3 ap;have K0:Qd wD wr 0 (.slice na x0.length np):=kE aa rfl;have K1:Qd wD wr 1 (.slice pa pn pc):=kE aa rfl;have K2:Qd wD wr 2 (.int .i64 x2):=kE aa rfl;have b0:=expR_len now x1;by_cases Y:0 < pn
   · have aj:=yD (bj.out (by have h_:=ay.out;omega));have F:(0:Int) < pn:=bC9;clear bj a4;have a3:=ay.out;subst a3;go_wp2_with (at_builtin;refine kD.yZ rfl _ _ 28 rfl (r:=kH) (e:=43) underlying28 yP rfl bC8 bC8 be.out bR (kD.jl (r:=kU) (q:=kD.pair (kD.slice 45 jA) kD.int) (cs:=[.slice na x0.length np]) (ds:=[.slice pa (kGj now x1).length pc,.int .i64 x2]) (x:=x0) (y:=(kGj now x1,x2)) (A:=A) (B:=B) (S:=C) aq.out (kD.jv (ag.out.own wH) (kD.jB ca.out)) a7.out ab.out bc.out) bD1 bD1 (λj h1 h2=>HD.out j (HC.out _ h2).1 h1) bC9 ?_);intro v6 w6 an aw;have bd:=aw.size;rw [<- aj.out] at an;obtain ⟨b6,O,rfl,_⟩:=kD.sl an.raw;have a2:=yD an;have E6:=E4.trans (aw.below bC9 (λj q=>by have:=L.out _ q.1;omega));have bl:=yD (λh:k + 1 < l.length=>by
       obtain ⟨b',hb',av⟩:=au.out h;exact (show ∃ b',some (⟨b,0,none⟩:Addr)=some ⟨b',0,none⟩/\kD.gap 43 kGo w6 b' vc l.length [] (k + 1) (l.drop (k + 1)) (λj=>SG j/\¬ C j) from ⟨b',hb',av.keep (λj q I=>aw.block j I (λq2=>HD.out j q.1 q2.1))⟩))
     have ei:Qd w6 w 0 (.int .i64 now):=by
      have e1:w6.heap[w.heap.size]?=wD.heap[w.heap.size]?:=aw.block _ bC9 (λq=>by have:=L.out _ q.1;omega);rw [<- dy];unfold World.cell?;simp only [e1]
     have ba:=yD (show ∀ j,(T j\/C j\/(wD.heap.size<=j/\j < w6.heap.size))->w.heap.size + 1<=j/\j < w6.heap.size from λj q=>by
       rcases q with q | q | q
       · have:=L.out _ q;omega
       · have:=E.out _ (HC.out _ q).1;omega
       · omega)
     have ax:=yD (show ∀ j,(SG j/\¬ C j)->(T j\/C j\/(wD.heap.size<=j/\j < w6.heap.size))->False from λj q1 q=>by
       rcases q with q | q | q
       · exact HD.out j q1.1 q
       · exact q1.2 q
       · have:=E.out _ q1.1;omega)
     have af:=yD (show ∀ j,(SG j/\¬ C j)->N.heap.size<=j/\j < V.heap.size from λj q=>E.out _ q.1);clear an aw be au dy aq ag K0 K1 K2 aa;go_wp2;go_roundw;case rel=>exact ⟨k + 1,b6,_,O,_,_,rfl,by go_num,by omega,yD rfl,a2,bl,af,ba,ax,ei,by omega,E6⟩
     simp [Ay];omega
   have aj:=yD (a4.out (by have h_:=ay.out;omega));have F:¬ (0:Int) < pn:=bC9;clear bj a4;have af:=yD (show ∀ j,(SG j/\¬ C j)->N.heap.size<=j/\j < V.heap.size from λj q=>E.out _ q.1);have ba:=yD (show ∀ j,T j->w.heap.size + 1<=j/\j < wD.heap.size from λj q=>by have:=L.out _ q;omega);have ax:=yD (show ∀ j,(SG j/\¬ C j)->T j->False from λj q1 q=>HD.out j q1.1 q);have a8:=yD (show n=(kDc now (l.take (k + 1))).length by rw [aj.out];exact HN.out);have a2:=yD (show (kD.slice 43 kH).own wD [.slice a n c] (kDc now (l.take (k + 1))) T by rw [aj.out];exact be.out);clear K0 K2 aa aq ag be;go_wp2;go_roundw;case rel=>exact ⟨k + 1,a,n,c,_,T,rfl,by go_num,by omega,a8,a2,au,af,ba,ax,dy,by omega,E4⟩
   simp [Ay];omega
 have ff:¬ ((k:Int) < l.length):=bC9
 obtain rfl:k=l.length:=bC9
 go_wp2
 go_ret
 exact ⟨_,rfl,by have h_:=J.out;rw [Ac] at h_;exact h_.wide (λj q=>by have:=L.out _ q;exact ⟨by omega,this.2⟩),o⟩
def kRs (now:Int) (x:kg):kg:=(x.1,x.2.filter (λe:kT=>fresh now e.1))
def kPq {w:Bb} {cs:Ap Be} {x:kg} (hx:kN.rd w cs x) {now:Int}:Bf prog 34 #[.agg cs.toArray,.int .i64 now] w (kAe kN (kRs now x) w):=by
 obtain ⟨hx,av⟩:=hx;obtain ⟨sv,rfl,c7,hl⟩:=jK hx;obtain ⟨la,lp,rfl,_⟩:=kD.sl hl;obtain ⟨c,l⟩:=x;obtain ⟨HL,a5,bp⟩:=AL;clear hx c7 hl av;go_enter func34,ntmps34;go_wp2;generalize N:World.alloc (World.alloc (World.alloc w _) _) _=wA;obtain ⟨HZ,EA,XB,XR,XO⟩:=xV;clear N;go_loopw [6] (λi wr=>∃ (k:Nat) (v:Be),k<=l.length/\i=.int .i64 k/\Hid (Qr wr (w.heap.size + 1 + 1) #[Qn c,v] 27)/\Hid (kD.kR 111 jD wr v ((l.take k).filter (λe:kT=>fresh now e.1)) (jX (w.heap.size + 3) wr.heap.size))/\Below (w.heap.size + 1 + 1) wA wr/\w.heap.size + 3<=wr.heap.size) (λi _=>l.length - (Ay i).toNat);case atStart=>exact ⟨0,_,Nat.zero_le _,rfl,XO,yD kD.kR.nil,bR,by have:=HZ.out;omega⟩
 obtain ⟨k,v,hk,rfl,XV,J,o,bz⟩:=hrel;obtain ⟨oa,on,oc,ho,bb⟩:=J.out.parts;obtain rfl:=ho;obtain ⟨L0,L1,Y,b3⟩:=xU;by_cases hlt:k < l.length
 · obtain ⟨qb,qo,rfl,ae,af,ah,cc,ck,cz,qr,ar,ax,a2,an,a4,a3⟩:=kD.get6 (HL.out.1.below Y) hlt rfl;have av:=kD.yX HL.out hlt;have bk:=λq=>kCw (p:=(λe:kT=>fresh now e.1)) hlt q;have da:=λq=>kBl (p:=(λe:kT=>fresh now e.1)) hlt q;generalize l[k]=x at *;have a1:=yD bk;have bf:=yD da;clear bk da;obtain ⟨bg,dc,b2,Z,aj,ap,ao,au,bq,bh,cq,cw,cv⟩:=jq qr;simp only [Av,and_true] at Z;obtain ⟨rfl,rfl,rfl,rfl,rfl,rfl⟩:=Z;obtain ⟨ac,ay,rfl,bd⟩:=kD.sl ao;obtain ⟨ai,bc,rfl,bl⟩:=kD.sl au;obtain ⟨am,bu,rfl,ce⟩:=kD.sl bh;have PX:jJ.rd wr _ x.1:=⟨aj,av.1⟩;have HU:=yD cv;have eo:=yD PX;go_wp2_with fail;refine (kWv PX.1).mono ?_;rintro e wr ⟨rfl,U⟩;have X:=U.size;replace XV:=yD (kC XV.out U);replace J:=yD ((J.out.below U).wide (T:=jX (w.heap.size + 3) wr.heap.size) qU);replace L0:=cL U L0;replace L1:=cL U L1;replace a3:=cL U a3;replace Y:=(tQ Y U);replace o:=o.trans (U.mono bC9);replace bz:w.heap.size + 3<=wr.heap.size:=bC9;replace PX:=PX.below U;replace ar:=cL U ar;replace ax:=cL U ax;replace a2:=cL U a2;replace an:=cL U an;replace a4:=cL U a4;clear U eo;cases hq:fresh now x.1
   · have L:=yD (bf.out hq);clear a1 bf PX L0 L1 a3;go_wp2;go_roundw;case rel=>exact ⟨k + 1,_,by omega,by go_num,XV,yD (by rw [L.out];exact J.out),o,bz⟩
     simp [Ay];omega
   have ba:=yD (a1.out hq);clear a1 bf;go_wp2_with fail;refine (kBw PX).mono ?_;rintro e wT ⟨tc,rfl,OT,aq⟩;obtain ⟨cf,c2,df,rfl,al,b7,b4,cg,b8,ch,cd⟩:=jb OT.raw;obtain ⟨a7,br,rfl,dd⟩:=kD.sl b7;obtain ⟨bx,b9,rfl,db⟩:=kD.sl b4;obtain ⟨be,a8,rfl,c9⟩:=kD.sl b8;clear al b7 b4 cg b8 ch cd;have bo:=aq.size;go_upto_region 7 with fail;generalize ad:World.alloc wT _=wD;obtain ⟨ED,bn,D0,D1,D2,D3,D4⟩:=DV;clear ad;obtain ⟨ab,XS,M0,M1,L0,L1,a3,FX⟩:=FV;refine yH (λW=>Qb wD W) [Tt,Tt,Tt,Tt,Tt,Tt,Tt,Tt,Tt,Tt,Ff] bC3 bC3 pK (bR.drew) ?_;intro wS E;iterate 10
    all_goals refine ku ?_
   all_goals first|(refine kI rfl E ?_)|(refine kw rfl (λK H=>?_);go_simp;refine H _ _ (E.alloc E.size _) ?_;clear H K)
   all_goals refine jF ?_
   all_goals refine jc ?_
   obtain ⟨bj,O,XW,ak,J⟩:=FN;have b6:((l.take k).filter (λe:kT=>fresh now e.1)).length<=16777216:=Nat.le_trans (zY hk) bC9;exact aM
 obtain rfl:k=l.length:=bC9;obtain ⟨M0,M1,R0,R1,F0,b0,bv⟩:=xL;clear F0;have HF:=yD (J.out.cast vE);have bt:Hid ((l.filter (λe:kT=>fresh now e.1)).length<=Big):=yD (Nat.le_trans (Aa _ _) wH);go_wp2;refine bodyPost_ret (v:=.agg #[Qn c,.slice oa on oc]) (by simp [results,results34,go_sem,R0,R1,b0,bv]) rfl ⟨[_,_],rfl,?_,?_⟩
 · exact kD.kIg (r:=kD.int) (q:=kD.slice 111 jD) (cs:=[_]) (kD.jB bp.out) ((((HF.out.own bt.out).setCell dX).setCell dX).wide fJ)
 exact (Y.setCell bD0 _).setCell bD0 _
def kPd {w:Bb} {cy:Ap Be} {y:kT} (hy:jD.raw w cy y) {now:Int} {H:Nat} (G:Qc w H 0 (.int .i64 now)) :
    Bf prog 65 (#[.agg cy.toArray]++#[.pointer (some ⟨H,0,none⟩)]) w (bQ w (.bool (fresh now y.1))):=by
 have Hy:=yD hy
 obtain ⟨a9,bh,bg,rfl,au,aw,U,av,a1,ay,a8,aj,bw⟩:=jq hy
 obtain ⟨am,ak,rfl,be⟩:=kD.sl U
 obtain ⟨bb,bc,rfl,bi⟩:=kD.sl av
 obtain ⟨ax,az,rfl,bf⟩:=kD.sl ay
 show Bf prog 65 #[_,_] w _
 go_enter func65,ntmps65
 go_upto_region 1 with fail
 generalize D:World.alloc w _=N
 have EB:Qb w N:=by rw [<- D];exact bF
 have J:Qd N w 0 (.slice am (y.1.1).length ak):=tK
 have I:Qd N w 1 (.slice bb (y.1.2.1).length bc):=tK
 have o:Qd N w 2 (.slice ax (y.1.2.2.1).length az):=tK
 have Y:Qd N w 3 (.int .i64 y.1.2.2.2.1):=tK
 have ai:Qd N w 4 (.int .i64 y.1.2.2.2.2):=tK
 have a4:Qd N w 5 (.int .i64 y.2):=tK
 clear D
 replace G:=cL EB G
 have FX:=yD (λ(W:Bb) (hW:Qb N W)=>cLs7 hW J I o Y ai a4 G)
 refine jE (λW=>Qb N W) [Tt,Tt,Tt,Ff,Tt] bR ?_
 intro wS E
 iterate 3
  all_goals refine ku ?_
 all_goals first | refine wkB (kWz (kD.raw.below au (tQ EB E))) (λwS1 E=>?_) | refine ku ?_
 all_goals (refine jy λb O=>?_;cases b <;> try simp only [jw] at O)
 all_goals refine kS ?_
 all_goals have F:=(tQ EB E)
 all_goals first
   | (have L:=yD (show (fresh now y.1)=false by simp only [Ai,Ae,Aj,Ak,Ag,Ah,Aq,Ar,Al,Am,Au,O]);go_wp2;go_ret;exact ⟨kX L.out.symm,F⟩)
   | (have L:=yD (show (fresh now y.1)=true by simp only [Ai,Ae,Aj,Ak,Ag,Ah,Aq,Ar,Al,Am,Au,O]);go_wp2;go_ret;exact ⟨kX L.out.symm,F⟩)
def kGm:jI prog 65:=zQ func65 bC3 bC3
def kQi {w:Bb} {cs:Ap Be} {x:kg} (hx:kN.rd w cs x) {now:Int}:Bf prog 22 #[.agg cs.toArray,.int .i64 now] w (kAe kN (kRs now x) w):=by
 have HX:=yD hx;obtain ⟨hx,av⟩:=hx;obtain ⟨sv,rfl,c7,hl⟩:=jK hx;obtain ⟨la,lp,rfl,_⟩:=kD.sl hl;obtain ⟨c,l⟩:=x;obtain ⟨HL,a5,bp⟩:=AL;clear hx c7 hl av;go_enter func22,ntmps22;go_wp2_with fail;generalize D:World.alloc (World.alloc (World.alloc w _) _) _=N;have EB:Qb w N:=by rw [<- D];exact bF
 have XR:Hid (Qr N (w.heap.size + 2) #[Qn 0,.slice none 0 0] 27):=yD rU;have R:Qc N (w.heap.size + 1) 0 (.int .i64 now):=tK;clear D;have bu:=EB.size;refine (kJs (λe:kT=>fresh now e.1) kGm (HX.out.below EB) (λwr aw y ds hy=>kPd hy (cL aw R))).mono ?_;rintro e Y ⟨oc,rfl,O1,O⟩;have bt:=yD (show (l.filter (λe:kT=>fresh now e.1)).length<=16777216 from Nat.le_trans (Aa _ _) a5);simp only at O1;have G:Hid (kRs now (c,l)=(c,l.filter (λe:kT=>fresh now e.1))):=yD rfl;generalize l.filter (λe:kT=>fresh now e.1)=f at *;obtain ⟨J,rfl,Z,E⟩:=jK O1.raw;obtain ⟨oa,W,rfl,_⟩:=kD.sl E;have o:=kC XR.out O;have M0:=kE (b:=w.heap.size + 2) o (j:=0) rfl;have M1:=kE (b:=w.heap.size + 2) o (j:=1) rfl;have F0:=Az Y (w.heap.size + 2) 0 _ _ o;have F1:=Az Y (w.heap.size + 2) 1 _ _ o;have F:=yD O1;have E1:=(tQ EB O);have H:w.heap.size + 3<=N.heap.size:=gG;clear Z E O1 O;go_wp2;refine bodyPost_ret (v:=.agg #[Qn c,Qs oa f W]) (by simp [results,results22,go_sem,M0,M1,F0,F1]) rfl ⟨[_,_],rfl,?_,?_⟩
 · rw [G.out];exact ((F.out.setCell dX).setCell dX).wide fJ
 exact (E1.setCell bC4 _).setCell bC4 _
end Go.Proofs.YtonmjkmaadgceabGreat

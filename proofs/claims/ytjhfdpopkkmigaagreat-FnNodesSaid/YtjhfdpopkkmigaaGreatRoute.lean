/-
  Routes.
-/
import Derived.Test.YtjhfdpopkkmigaaGreatVStoreI
import Derived.Test.YtjhfdpopkkmigaaGreatCopyN
set_option linter.unusedVariables false
set_option linter.defProp false
set_option linter.unusedSimpArgs false
set_option linter.unnecessarySimpa false
set_option maxRecDepth 100000
set_option maxHeartbeats 4000000
open Bool renaming true->Tt,false->Ff
open Bool renaming not_false->Aa,and_false->Ab,false_and->Ac,not_true->Ad,and_true->Ae,true_and->Ag,or_false->Ah,false_or->Ai,or_true->Aj,true_or->Ak,not_not->Al,eq_iff_iff->Av
open List.cons renaming injEq->Am
open _root_ renaming List->Ap,ge_iff_le->Au
open Go renaming World->Aq,Value->Ar,frozen_of_row->Ay,bodyPost_ret->Ba,Calls->Bc
open Int renaming natCast_nonneg->Aw,ofNat_lt->Bd
open Go.RowKit.Below renaming setCell->Az,size->Bb
open List renaming cons_append->Be
namespace Go.Proofs.YtjhfdpopkkmigaaGreat
open Go.RowKit _root_.Go.Proofs.Tryz
def kEx (l:Ap kI) (k:Nat) (x:kI):Bool:=!((((!zf x.1 || ((x.1.length:Int)==0)) || ((x.2.1.length:Int)==0)) || !inR x.2.2 0 100000) || decide (idxOf (yP x.1) (l.take k) ≥ 0))
def okPendI_no {l:Ap kI} {k:Nat} {x:kI} (h:kEx l k x=false):kCx l k x=false:=by
 unfold kEx at h;unfold kCx;cases hz:((x.2.1.length:Int)==0)
 · rw [hz] at h;generalize zf x.1=b1 at *;generalize ((x.1.length:Int)==0)=b2 at *;generalize inR x.2.2 0 100000=R at *;generalize decide (idxOf (yP x.1) (l.take k) ≥ 0)=O at *;generalize vAsk x.2.1=V at *;revert h;cases b1 <;> cases b2 <;> cases R <;> cases O <;> cases V <;> decide
 have e:vAsk x.2.1=false:=by
  have h0:x.2.1.length=0:=by have:=eq_of_beq hz;omega
  unfold vAsk;rw [h0];rfl
 rw [e];generalize zf x.1=b1 at *;generalize ((x.1.length:Int)==0)=b2 at *;generalize inR x.2.2 0 100000=R at *;generalize decide (idxOf (yP x.1) (l.take k) ≥ 0)=O at *;cases b1 <;> cases b2 <;> cases R <;> cases O <;> decide
def kKt {l:Ap kI} {k:Nat} {x:kI} (h:kEx l k x=true):kCx l k x=vAsk x.2.1/\0 < x.2.1.length:=by
 unfold kEx at h;unfold kCx;have hz:0 < x.2.1.length:=by
  cases hz:((x.2.1.length:Int)==0)
  · simp at hz;exact List.length_pos_iff.2 hz
  rw [hz] at h;simp at h
 refine ⟨?_,hz⟩;generalize zf x.1=b1 at *;generalize ((x.1.length:Int)==0)=b2 at *;generalize inR x.2.2 0 100000=R at *;generalize decide (idxOf (yP x.1) (l.take k) ≥ 0)=O at *;generalize vAsk x.2.1=V at *;generalize ((x.2.1.length:Int)==0)=b6 at *;revert h;cases b1 <;> cases b2 <;> cases R <;> cases O <;> cases V <;> cases b6 <;> decide
def vPends_yes {l:Ap kI} {k:Nat} (q:ym (λj=>kCx l j (l.getD j ([],[],0))) k=true) (h:¬ k < l.length) (hk:k<=l.length):kGe l=decide ((l.length:Int)<=12):=by
 rw [kRg q h hk,Av];simp;omega
def kNp {w:Aq} {vl:Ar} {l:Ap kI} (hl:(kD.slice 145 kJ).raw w [vl] l) :
    Bc prog 79 #[vl] w (bQ w (.bool (kGe l))):=by
 obtain ⟨al,pl,rfl,ll⟩:=kD.sl hl
 have Z:=kD.kBe hl
 go_enter func79,ntmps79
 go_wp2
 go_loopw [9] (λi wr=>∃ k:Nat,k<=l.length/\i=.int .i64 k/\Hid (ym (λj=>kCx l j (l.getD j ([],[],0))) k=true)/\Qb w wr) (λi _=>l.length - (intOf i).toNat)
 case atStart=>exact ⟨0,Nat.zero_le _,rfl,yD rfl,bR⟩
 obtain ⟨k,hk,rfl,HN,o⟩:=hrel
 by_cases hlt:k < l.length
 · have az:=yD (kD.kBv (hl.below o) hk);have hb:=λq=>kUf hlt q;have am:=λq=>kRf hlt q HN.out;obtain ⟨qb,qo,rfl,ae,af,ah,qr,ap,ar,ay⟩:=kD.zt (hl.below o) (i:=k) bD1 rfl;generalize l[k]=x at *;have HB:Hid (kEx l k x=false->kGe l=false):=yD (λq=>hb (okPendI_no q));have HX:Hid (kEx l k x=true->0 < x.2.1.length/\(vAsk x.2.1=false->kGe l=false)/\(vAsk x.2.1=true->ym (λj=>kCx l j (l.getD j ([],[],0))) (k + 1)=true)):=yD (λq=>⟨(kKt q).2,λp=>hb ((kKt q).1.trans p),λp=>am ((kKt q).1.trans p)⟩);clear hb am;obtain ⟨bd,b5,ac,ag,ak,ao,ax⟩:=jT qr;simp only [Am,and_true] at ac;obtain ⟨rfl,rfl,rfl⟩:=ac;obtain ⟨ad,aw,rfl,bf⟩:=kD.sl ak;obtain ⟨ai,bj,rfl,cg⟩:=kD.sl ao;obtain ⟨bv,bk,c5,a2⟩:=xX;go_upto_region 4 with fail;generalize D:World.alloc wr _=wC;have EC:Qb wr wC:=rU;have M0:Qd wC wr 0 (.slice ad x.1.length aw):=tV;have M1:Qd wC wr 1 (.slice ai x.2.1.length bj):=tV;have M2:Qd wC wr 2 (.int .i64 x.2.2):=tV;clear D;have FX:=yD (λ(W:Aq) (hW:Qb wC W)=>kKb hW M0 M1 M2);refine kM (λW=>Qb wC W) [Tt,Tt,Ff,Tt,Tt,Tt,Tt,Tt,Tt,Tt,Tt,Tt,Tt,Tt,Tt,Tt,Tt,Tt,Tt,Tt,Ff,Tt,Tt,Tt,Tt,Tt,Tt,Tt,Tt,Ff,Tt,Tt] bC5 bC5 pY (bR.drew) ?_;intro wS E;all_goals refine kX ?_
   all_goals refine kX ?_
   all_goals first | refine wkB (kBz (kD.raw.below ag (tQ EC E))) (λwS1 E=>?_) | refine kX ?_
   all_goals refine kX ?_
   all_goals (refine jd λb O=>?_;cases b <;> try simp only [jc] at O)
   iterate 6
    all_goals refine kX ?_
   all_goals (refine jd λb au=>?_;cases b <;> try simp only [jc] at au)
   iterate 5
    all_goals refine kX ?_
   all_goals (refine jd λb J=>?_;cases b <;> try simp only [jc] at J)
   all_goals refine kX ?_
   all_goals refine kX ?_
   all_goals first | refine wkC (yF) ?_ | refine kX ?_
   all_goals refine kX ?_
   all_goals refine kX ?_
   all_goals (refine jd λb V=>?_;cases b <;> try simp only [jc] at V)
   iterate 5
    all_goals refine kX ?_
   all_goals first | refine wkB (kSy (kD.raw.below az.out (tQ EC E)) (kD.raw.below ag (tQ EC E))) (λwS1 E=>?_) | refine kX ?_
   all_goals refine kX ?_
   all_goals (refine jd λb X=>?_;cases b <;> try simp only [jc] at X)
   all_goals refine kR ?_
   all_goals have F:=(tQ o (tQ EC E))
   all_goals first
     | (have U:=yD (HB.out (show kEx l k x=false by simp only [kEx,Ad,Aa,Ae,Ag,Ab,Ac,Aj,Ak,Ah,Ai,Al,Au,O,au,J,V,X]));clear HB HX HN az;go_wp2;go_ret;exact ⟨kK U.out.symm,F⟩)
     | have U:=yD (HX.out (show kEx l k x=true by simp only [kEx,Ad,Aa,Ae,Ag,Ab,Ac,Aj,Ak,Ah,Ai,Al,Au,O,au,J,V,X]))
   all_goals try clear HB HX
   have C1:=M1;have pn:=yD ao;have R:=yD U.out.1;have a5:=yD U.out.2.1;have aa:=yD U.out.2.2;clear U O au J V X HN az;generalize x.2.1=P at *;have M1:=cL E C1;go_wp2;clear M1;go_loopw [49] (λi wq=>∃ j:Nat,j<=P.length/\i=.int .i64 j/\Hid (ym (λj=>kJu P j (P.getD j (0,0,0))) j=true)/\Qb wC wq) (λi _=>P.length - (intOf i).toNat);case atStart=>exact ⟨0,Nat.zero_le _,rfl,yD rfl,E⟩
   obtain ⟨j,I,rfl,HM,hq⟩:=hrel;replace C1:=cL hq C1;by_cases a4:j < P.length
   · have dn:=Bd.2 a4;have b0:=Aw j;obtain ⟨pb,po,rfl,ba,b9,ch,pr,a7,bb,bg⟩:=kD.zt (pn.out.below (tQ EC hq)) (i:=j) bD1 rfl;have hb:=λq=>a5.out (vAsk_bad a4 q);have am:=λq=>kXw a4 q HM.out;by_cases h0:0 < j
     · obtain ⟨i,hi⟩:∃ i,j - 1=i:=⟨_,rfl⟩;have hil:i < P.length:=bD1;have L:=yD (kYr (l:=P) (x:=P[j]) h0 hi hil);have cm:(j:Int) - 1=(i:Int):=bD1;obtain ⟨yb,yo,yE,bc,bz,bq,yr,G,be,a1⟩:=kD.zt (pn.out.below (tQ EC hq)) hil rfl;simp only [Option.some.injEq,Addr.mk.injEq,and_true] at yE;obtain ⟨rfl,rfl⟩:=yE;generalize P[i]=u at *;obtain ⟨aj,bl,a3,bx⟩:=yz yr;simp only [Am,and_true] at aj;obtain ⟨rfl,rfl,rfl⟩:=aj;clear yr;have hw:IntKind.i64.wrap (i:Int)=i:=IntWalk.i64_in _ bD1;have cw:=Aw i;have bu:=Bd.2 hil;clear hi;have hp:decide ((j:Int) > 0)=true:=bC6;have cf:decide (0 < j)=true:=bA7;have ck:(0:Int) < j:=bD1;generalize P[j]=y at *;have HB:=yD hb;have HX:=yD am;clear hb am;obtain ⟨an,a8,a6,bh⟩:=yz pr;simp only [Am,and_true] at an;obtain ⟨rfl,rfl,rfl⟩:=an;go_upto_region 9 with fail;generalize Y:World.alloc wr _=wD;have ED:Qb wr wD:=rX;have N0:Qd wD wr 0 (.int .i64 y.1):=tX;have N1:Qd wD wr 1 (.int .i64 y.2.1):=tX;have N:Qd wD wr 2 (.int .i64 y.2.2):=tX;have D1:=cL ED C1;replace G:=cL ED G;clear Y;have FX:=yD (λ(W:Aq) (hW:Qb wD W)=>cLs5 hW D1 N0 N1 N G);refine kM (λW=>Qb wD W) [Tt,Tt,Ff,Tt,Tt,Tt,Tt,Ff,Tt,Tt,Tt,Tt,Tt,Tt,Tt,Tt,Tt,Tt,Tt,Tt,Tt,Tt,Tt,Tt,Tt,Tt] bC5 bC5 pY (bR.drew) ?_;intro wS E;all_goals refine kX ?_
       all_goals refine kX ?_
       all_goals first | refine wkC (yF) ?_ | refine kX ?_
       all_goals refine kX ?_
       all_goals (refine jd λb O=>?_;cases b <;> try simp only [jc] at O)
       all_goals refine kX ?_
       all_goals refine kX ?_
       all_goals first | refine wkC (yF) ?_ | refine kX ?_
       all_goals refine kX ?_
       all_goals refine kX ?_
       all_goals (refine jd λb aq=>?_;cases b <;> try simp only [jc] at aq)
       all_goals refine kX ?_
       all_goals refine kX ?_
       all_goals (refine jd λb a9=>?_;cases b <;> try simp only [jc] at a9)
       iterate 11
        all_goals refine kX ?_
       all_goals (refine jd λb H=>?_;cases b <;> try simp only [jc] at H)
       all_goals refine kR ?_
       all_goals have EQ:=(tQ hq (tQ ED E))
       all_goals first
         | (have U:=yD (HB.out (show _=false by rw [L.out];simp only [okA,Ad,Aa,Ae,Ag,Ab,Ac,Aj,Ak,Ah,Ai,Al,Au,O,aq,a9,H]));clear HB HX HM L;have F:=(tQ o (tQ EC EQ));go_wp2;go_ret;exact ⟨kK U.out.symm,F⟩)
         | (have U:=yD (HX.out (show _=true by rw [L.out];simp only [okA,Ad,Aa,Ae,Ag,Ab,Ac,Aj,Ak,Ah,Ai,Al,Au,O,aq,a9,H]));clear HB HX HM L;go_wp2;go_roundw;(case rel=>exact ⟨j + 1,by omega,by go_num,U,EQ⟩);(case measure=>simp [intOf];omega))
     have L:=yD (kVo (l:=P) (x:=P[j]) h0);have hp:decide ((j:Int) > 0)=false:=bC6;have cf:decide (0 < j)=false:=bA7;have ck:¬ (0:Int) < j:=bD1;generalize P[j]=y at *;have HB:=yD hb;have HX:=yD am;clear hb am;obtain ⟨an,a8,a6,bh⟩:=yz pr;simp only [Am,and_true] at an;obtain ⟨rfl,rfl,rfl⟩:=an;go_upto_region 9 with fail;generalize Y:World.alloc wr _=wD;have ED:Qb wr wD:=rX;have N0:Qd wD wr 0 (.int .i64 y.1):=tX;have N1:Qd wD wr 1 (.int .i64 y.2.1):=tX;have N:Qd wD wr 2 (.int .i64 y.2.2):=tX;have D1:=cL ED C1;clear Y;have FX:=yD (λ(W:Aq) (hW:Qb wD W)=>kGr hW D1 N0 N1 N);refine kM (λW=>Qb wD W) [Tt,Tt,Ff,Tt,Tt,Tt,Tt,Ff,Tt,Tt,Tt,Tt,Tt,Tt,Tt,Tt,Tt,Tt,Tt,Tt,Tt,Tt,Tt,Tt,Tt,Tt] bC5 bC5 pY (bR.drew) ?_;intro wS E;all_goals refine kX ?_
     all_goals refine kX ?_
     all_goals first | refine wkC (yF) ?_ | refine kX ?_
     all_goals refine kX ?_
     all_goals (refine jd λb O=>?_;cases b <;> try simp only [jc] at O)
     all_goals refine kX ?_
     all_goals refine kX ?_
     all_goals first | refine wkC (yF) ?_ | refine kX ?_
     all_goals refine kX ?_
     all_goals refine kX ?_
     all_goals (refine jd λb aq=>?_;cases b <;> try simp only [jc] at aq)
     all_goals refine kX ?_
     all_goals refine kX ?_
     all_goals (refine jd λb a9=>?_;cases b <;> try simp only [jc] at a9)
     iterate 11
      all_goals refine kX ?_
     all_goals (refine jd λb H=>?_;cases b <;> try simp only [jc] at H)
     all_goals refine kR ?_
     all_goals have EQ:=(tQ hq (tQ ED E))
     all_goals first
       | (have U:=yD (HB.out (show _=false by rw [L.out];simp only [okA0,Ad,Aa,Ae,Ag,Ab,Ac,Aj,Ak,Ah,Ai,Al,Au,O,aq,a9,H]));clear HB HX HM L;have F:=(tQ o (tQ EC EQ));go_wp2;go_ret;exact ⟨kK U.out.symm,F⟩)
       | (have U:=yD (HX.out (show _=true by rw [L.out];simp only [okA0,Ad,Aa,Ae,Ag,Ab,Ac,Aj,Ak,Ah,Ai,Al,Au,O,aq,a9,H]));clear HB HX HM L;go_wp2;go_roundw;(case rel=>exact ⟨j + 1,by omega,by go_num,U,EQ⟩);(case measure=>simp [intOf];omega))
   have U:=yD (aa.out ((kXx HM.out a4 I).trans (by have:=R.out;simpa using this)));have F:=(tQ o (tQ EC hq));have ab:¬ (j:Int) < P.length:=bD1;exact mW
 have U:=yD (vPends_yes HN.out hlt hk)
 have b6:¬ (k:Int) < l.length:=bD1
 go_wp2
 go_ret
 exact ⟨kK U.out.symm,o⟩
def zb {w:Aq} {cx:Ap Ar} {x:jq} (hx:je.raw w cx x) :
    Bc prog 25 #[.agg cx.toArray] w (bQ w (.bool (ze x))):=by
 obtain ⟨ch,cz,dg,df,db,c9,rfl,G,aq,ba,a3,au,a4,a6,bg,br⟩:=yB hx
 obtain ⟨bp,bi,rfl,co⟩:=kD.sl G
 obtain ⟨bw,bt,rfl,dd⟩:=kD.sl a3
 obtain ⟨ck,cc,rfl,dh⟩:=kD.sl au
 obtain ⟨b9,b8,rfl,dj⟩:=kD.sl a4
 obtain ⟨bx,bu,rfl,dk⟩:=kD.sl a6
 obtain ⟨b0,bz,rfl,di⟩:=kD.sl bg
 have hl:=G
 have Z:=kD.kBe hl
 have H1:=yD aq
 have H4:=yD au
 have H6:=yD a6
 have H7:=yD bg
 clear hx G aq ba a3 au a4 a6 bg br
 go_enter func25,ntmps25
 go_wp2
 generalize J:World.alloc w _=N
 obtain ⟨R,K0,K1,K2,K3,K4,K5,K6,K7⟩:=xA
 clear J
 replace hl:=hl.below R
 go_loopw [8] (λi wr=>∃ k:Nat,k<=x.1.length/\i=.int .i64 k/\Hid (ym (λj=>kHc x.1 j (x.1.getD j kKg)) k=true)/\Qb N wr) (λi _=>x.1.length - (intOf i).toNat)
 case atStart=>exact ⟨0,Nat.zero_le _,rfl,yD rfl,bR⟩
 obtain ⟨k,hk,rfl,HN,o⟩:=hrel
 replace K0:=cL o K0
 replace K1:=cL o K1
 replace K2:=cL o K2
 replace K3:=cL o K3
 replace K4:=cL o K4
 replace K5:=cL o K5
 replace K6:=cL o K6
 replace K7:=cL o K7
 by_cases hlt:k < x.1.length
 · have az:=yD (kD.kBv (hl.below o) hk);have hb:=λq=>kVr (x:=x) hlt q;have am:=λq=>kRt hlt q HN.out;obtain ⟨qb,qo,rfl,ae,af,ah,cv,cw,qr,ap,ar,ay,bo,b2⟩:=kD.get5 (hl.below o) (i:=k) bD1 rfl;generalize x.1[k]=z at *;have HB:=yD hb;have HX:=yD am;clear hb am;obtain ⟨bd,b5,cq,ac,ag,ak,ao,ax,b3,bq,cm⟩:=jM qr;simp only [Am,and_true] at ac;obtain ⟨rfl,rfl,rfl,rfl,rfl⟩:=ac;obtain ⟨ad,aw,rfl,bf⟩:=kD.sl ak;obtain ⟨ai,bj,rfl,cg⟩:=kD.sl ao;obtain ⟨aj,cl,rfl,c2⟩:=kD.sl b3;have bv:=Bd.2 hlt;have bk:=Aw k;have c5:(k:Int)<=(bi:Int):=bD1;have a2:k<=bi:=bD1;go_upto_region 4 with fail;generalize D:World.alloc wr _=wC;have EC:Qb wr wC:=rU;have M0:Qd wC wr 0 (.slice ad z.1.length aw):=tV;have M1:Qd wC wr 1 (.slice ai z.2.1.length bj):=tV;have M2:Qd wC wr 2 (.slice aj z.2.2.1.length cl):=tV;have M3:Qd wC wr 3 (.int .i64 z.2.2.2.1):=tV;have M4:Qd wC wr 4 (.int .i64 z.2.2.2.2):=tV;replace K0:=cL EC K0;clear D;have FX:=yD (λ(W:Aq) (hW:Qb wC W)=>kGx hW K0 M0 M1 M2 M3 M4);refine kM (λW=>Qb wC W) [Tt,Ff,Tt,Tt,Tt,Tt,Tt,Tt,Tt,Tt,Ff,Tt,Tt] bC5 bC5 pY (bR.drew) ?_;intro wS E;all_goals refine kX ?_
   all_goals first | refine wkB (kJw (kD.raw.below qr (tQ EC E))) (λwS1 E=>?_) | refine kX ?_
   all_goals refine kX ?_
   all_goals (refine jd λb a1=>?_;cases b <;> try simp only [jc] at a1)
   iterate 6
    all_goals refine kX ?_
   all_goals first | refine wkB (kMw (kD.raw.below az.out (tQ EC E)) (kD.raw.below ag (tQ EC E))) (λwS1 E=>?_) | refine kX ?_
   all_goals refine kX ?_
   all_goals (refine jd λb ab=>?_;cases b <;> try simp only [jc] at ab)
   all_goals refine kR ?_
   all_goals have F:=(tQ o (tQ EC E))
   all_goals first
     | (have U:=yD (HB.out (show _=false by simp only [kHc,Ad,Aa,Ae,Ag,Ab,Ac,Aj,Ak,Ah,Ai,Al,Au,a1,ab]));clear HB HX HN az;go_wp2;go_ret;exact ⟨kK U.out.symm,(tQ R F)⟩)
     | (have U:=yD (HX.out (show _=true by simp only [kHc,Ad,Aa,Ae,Ag,Ab,Ac,Aj,Ak,Ah,Ai,Al,Au,a1,ab]));clear HB HX HN az;go_wp2;go_roundw;(case rel=>exact ⟨k + 1,by omega,by go_num,U,F⟩);(case measure=>simp [intOf];omega))
 have U:=yD (kRu (x:=x) HN.out hlt hk)
 have b6:¬ (k:Int) < x.1.length:=bD1
 go_upto_region 7 with fail
 have FX:=yD (λ(W:Aq) (hW:Qb wr W)=>cLs8 hW K0 K1 K2 K3 K4 K5 K6 K7)
 refine ky (λW=>Qb wr W) [Tt,Tt,Tt,Tt,Tt,Tt,Tt,Ff,Tt,Tt,Tt,Tt,Ff,Tt,Tt,Tt,Tt,Ff,Tt,Tt,Tt,Tt,Ff,Tt,Tt,Tt,Tt,Tt,Tt,Tt,Tt,Tt,Tt,Tt,Tt,Tt] bR ?_
 intro wS E
 iterate 4
  all_goals refine kX ?_
 all_goals (refine jd λb O=>?_;cases b <;> try simp only [jc] at O)
 all_goals refine kX ?_
 all_goals refine kX ?_
 all_goals first | refine wkB (kIk (kD.raw.below H1.out ((tQ R o).trans (E.mono (Bb (tQ R o)))))) (λwS1 E=>?_) | refine kX ?_
 all_goals refine kX ?_
 all_goals (refine jd λb c4=>?_;cases b <;> try simp only [jc] at c4)
 all_goals refine kX ?_
 all_goals refine kX ?_
 all_goals first | refine wkB (kNp (kD.raw.below H4.out ((tQ R o).trans (E.mono (Bb (tQ R o)))))) (λwS1 E=>?_) | refine kX ?_
 all_goals refine kX ?_
 all_goals (refine jd λb H=>?_;cases b <;> try simp only [jc] at H)
 all_goals refine kX ?_
 all_goals refine kX ?_
 all_goals first | refine wkB (kPg (kD.raw.below H6.out ((tQ R o).trans (E.mono (Bb (tQ R o)))))) (λwS1 E=>?_) | refine kX ?_
 all_goals refine kX ?_
 all_goals (refine jd λb aa=>?_;cases b <;> try simp only [jc] at aa)
 all_goals refine kX ?_
 all_goals refine kX ?_
 all_goals first | refine wkB (kIj (kD.raw.below H7.out ((tQ R o).trans (E.mono (Bb (tQ R o)))))) (λwS1 E=>?_) | refine kX ?_
 all_goals refine kX ?_
 all_goals (refine jd λb I=>?_;cases b <;> try simp only [jc] at I)
 iterate 5
  all_goals refine kX ?_
 all_goals (refine jd λb V=>?_;cases b <;> try simp only [jc] at V)
 iterate 4
  all_goals refine kX ?_
 all_goals (refine jd λb L=>?_;cases b <;> try simp only [jc] at L)
 all_goals refine kR ?_
 all_goals have F:=(tQ R (tQ o E))
 all_goals first
   | (have Y:=yD (show ze x=false by rw [U.out];simp only [kRo,Ad,Aa,Ae,Ag,Ab,Ac,Aj,Ak,Ah,Ai,Al,Au,O,c4,H,aa,I,V,L]);go_wp2;go_ret;exact ⟨kK Y.out.symm,F⟩)
   | (have Y:=yD (show ze x=true by rw [U.out];simp only [kRo,Ad,Aa,Ae,Ag,Ab,Ac,Aj,Ak,Ah,Ai,Al,Au,O,c4,H,aa,I,V,L]);go_wp2;go_ret;exact ⟨kK Y.out.symm,F⟩)
def Touch.cellAt {S:Nat->Prop} {w w':Aq} {b i:Nat} {v:Ar} (h:Touch S w w') (hb:¬ S b) (k:Qc w b i v):Qc w' b i v:=by
 exact aA
def kFq (t:jL) (x:jq):jq:=(x.1++[t],x.2)
def kHw (t:jL) (x:jq):Bool:=ze (kFq t x)
def addL (t:jL) (x:jq):jq:=if kHw t x then kFq t x else x
def kTu {t:jL} {x:jq} (h:ze (kFq t x)=false):addL t x=x/\kHw t x=false:=by unfold addL kHw;rw [h];exact ⟨rfl,rfl⟩
def kWv {t:jL} {x:jq} (h:ze (kFq t x)=true):addL t x=kFq t x/\kHw t x=true:=by unfold addL kHw;rw [h];exact ⟨rfl,rfl⟩
def kVq {x:jq} (h:ze x=true):x.1.length<=8:=by
 unfold ze kRo at h;simp only [Bool.and_eq_true,decide_eq_true_eq] at h;have:=h.2.1.1.1.1.1.1;omega
def kLl {α β:Type} {r:kD α} {q:kD β} {w:Aq} {cs ds:Ap Ar} {x:α} {y:β} (h:r.raw w cs x) (k:q.raw w ds y):(kD.pair r q).raw w (cs++ds) (x,y) :=
  ⟨cs,ds,λ_=>True,λ_=>True,rfl,h,k,λ_ _=>trivial,λ_ _=>trivial,λh=>Bool.noConfusion h⟩
def kKp {w:Aq} {cx:Ap Ar} {x:jq} (hx:je.rd w cx x) {ct:Ap Ar} {t:jL} (ht:jF.rd w ct t) :
    Bc prog 7 #[.agg cx.toArray,.agg ct.toArray] w λe w'=>∃ cs,e=.returned (.tuple #[.agg cs.toArray,.bool (kHw t x)])/\je.own w' cs (addL t x) (jU w.heap.size w'.heap.size)/\Qb w w':=by
 have HX:=yD hx
 have d6:=yD ht
 have bc:x.1.length<=16777216:=hx.2.1.1
 obtain ⟨ch,cz,dg,df,db,c9,rfl,G,aq,ba,a3,au,a4,a6,bg,br⟩:=yB hx.1
 obtain ⟨bp,bi,rfl,co⟩:=kD.sl G
 obtain ⟨bw,bt,rfl,dd⟩:=kD.sl a3
 obtain ⟨ck,cc,rfl,dh⟩:=kD.sl au
 obtain ⟨b9,b8,rfl,dj⟩:=kD.sl a4
 obtain ⟨bx,bu,rfl,dk⟩:=kD.sl a6
 obtain ⟨b0,bz,rfl,di⟩:=kD.sl bg
 obtain ⟨ev,el,em,rfl,b4,be,av,c5,bl,c3,ca⟩:=jM ht.1
 obtain ⟨dq,d4,rfl,ej⟩:=kD.sl be
 obtain ⟨dx,d7,rfl,ey⟩:=kD.sl av
 obtain ⟨dv,d9,rfl,ew⟩:=kD.sl bl
 clear hx ht G aq ba a3 au a4 a6 bg br b4 be av c5 bl c3 ca
 go_enter func7,ntmps7
 go_wp2_with fail
 generalize J:World.alloc (World.alloc (World.alloc w _) _) _=N
 obtain ⟨R,K0,K1,K2,K3,K4,K5,K6,K7⟩:=xA
 obtain ⟨D0,D1,D2,D3,D4,XR,bq⟩:=AV
 clear J
 refine (kKo (HX.out.below R)).mono ?_
 rintro e w1 ⟨bv,ds,mid,rfl,O1,R1,ad,c8,O⟩
 have RW:=kLl O1.kAz R1.raw
 obtain ⟨es,ez,ep,ei,e5,eo,du,al,aa,bd,bo,cv,cm,dw,dc,dz⟩:=yB (show je.raw w1 _ x from RW)
 simp only [Be,List.nil_append,Am] at du
 obtain ⟨rfl,rfl⟩:=du
 obtain ⟨b5,am,rfl,_⟩:=kD.sl bo
 obtain ⟨ag,af,rfl,_⟩:=kD.sl cv
 obtain ⟨ae,ac,rfl,_⟩:=kD.sl cm
 obtain ⟨ab,U,rfl,_⟩:=kD.sl dw
 obtain ⟨a1,aw,rfl,_⟩:=kD.sl dc
 obtain ⟨oa,on,oc,ho,bh⟩:=O1.parts;obtain rfl:=ho
 have L:=yD O1;have HR:=yD R1
 have bj:=O.size
 have E1:=(tQ R O)
 replace XR:=yD (kC XR.out O)
 obtain ⟨K0,K1,K2⟩:=FL
 replace K3:=cL O K3
 replace K4:=cL O K4
 replace K5:=cL O K5
 replace K6:=cL O K6
 replace K7:=cL O K7
 replace D0:=cL O D0
 replace D1:=cL O D1
 replace D2:=cL O D2
 replace D3:=cL O D3
 replace D4:=cL O D4
 clear O1 R1 RW O R al aa bd bo cv cm dw dc dz
 go_upto_region 2 with fail
 generalize D:World.alloc w1 _=wC
 obtain ⟨X,XM,cl⟩:=EJ
 clear D
 have EC:=(tQ E1 X)
 replace XR:=yD (kC XR.out X)
 replace L:=yD (L.out.below X)
 replace HR:=yD (HR.out.below X)
 have M0:=kE XM.out (j:=0) rfl
 obtain ⟨K0,K1,K2,K3,K4,K5,K6,K7,D0,D1,D2,D3,D4,FX⟩:=IV
 refine zX (λW=>Qb wC W) [Tt,Tt,Tt,Ff,Ff] bC5 bC5 pY (bR.drew) ?_
 intro wS E
 iterate 3
  all_goals refine kX ?_
 all_goals first|(refine kG rfl E ?_)|(refine kY rfl (λK H=>?_);go_simp;refine (kAu (d6.out.below (tQ EC E))).mono ?_;rintro e wT ⟨tc,rfl,OT,an⟩;obtain ⟨c7,dl,dr,rfl,a5,ce,b7,c1,cf,c6,c0⟩:=jM OT.raw;obtain ⟨a8,bm,rfl,dp⟩:=kD.sl ce;obtain ⟨bn,c4,rfl,dn⟩:=kD.sl b7;obtain ⟨bb,a9,rfl,dm⟩:=kD.sl cf;clear a5 ce b7 c1 cf c6 c0;have bk:=an.size;have eh:=E.size;have de:=yD OT;replace E:=(tQ E an);refine H _ _ E ?_;clear H K an OT)
 all_goals refine jD ?_
 all_goals first|(refine kG rfl E ?_)|(refine kY rfl (λK H=>?_);go_simp;refine H _ _ (E.alloc E.size _) ?_;clear H K)
 all_goals refine jD ?_
 all_goals refine jy ?_
 obtain ⟨XR,XM,L,HR,ET,az,K0,K1,K2,K3,K4,K5,K6,K7⟩:=J4
 go_wp2_with (at_builtin;refine kD.kDt rfl _ _ 24 rfl (r:=jF) (e:=38) underlying24 kLr rfl bD0 bD0 L.out bD3 bD3 rfl de.out rfl mZ bD1 ?_)
 intro v2 V hown bf
 have Z:=yD hown;have F:=yD bf
 obtain ⟨va,vn,vc,hv,cw⟩:=hown.parts;obtain rfl:=hv
 have a7:=bf.size
 simp at a7
 clear hown bf
 obtain ⟨TU,cg,N0,NF,d3⟩:=EX
 go_upto_region 3 with fail
 generalize a2:World.setCell V ⟨w1.heap.size,0,none⟩ _=w3
 have TW:Touch (λk=>k=w1.heap.size) V w3:=by rw [<- a2];exact kD.yt [_] V _ 0
 have ao:Hid (Qr w3 w1.heap.size #[.slice va vn vc,Qn x.2.1.1,Qs b5 x.2.1.2 am,Qs ag x.2.2.1 af,Qs ae x.2.2.2.1 ac,Qs ab x.2.2.2.2.1 U,Qs a1 x.2.2.2.2.2.1 aw,Qn x.2.2.2.2.2.2] 33):=yD (by
   rw [<- a2];have y0:=heap_setCell_same _ (w1.heap.size) 0 _ 33 (.slice va vn vc) cg;exact y0)
 clear a2
 obtain ⟨TA,ar,o,cq,ai,E3,K0,K1,K2,K3,K4,K5,K6,K7⟩:=CF
 clear TU cg N0 NF TW TA XR XM L HR Z F E ET
 obtain ⟨ap,Y⟩:=AU
 clear ai cq
 obtain ⟨M0,M1,M2,M3,M4,M5,M6,M7⟩:=II
 go_wp2_with fail
 refine (kJo Y.out).mono ?_
 rintro e w4 ⟨rfl,aj⟩
 have E4:=(tQ E3 aj)
 have b3:=aj.size
 obtain ⟨o,ap,K0,M0,K1,M1,K2,M2,K3,M3,K4,M4,K5,M5⟩:=IQ
 replace K6:=cL aj K6
 replace M6:=cL aj M6
 replace K7:=cL aj K7
 replace M7:=cL aj M7
 clear aj Y ao E3
 cases hv:ze (kFq t x)
 · have HQ:=yD (kTu hv);clear hv ap;go_wp2_with fail;refine (kKn (HX.out.below E4)).mono ?_;rintro e w8 ⟨tc,rfl,O8,ax⟩;obtain ⟨e0,en,e7,eu,e4,e6,rfl,ah,ak,ed,c2,cd,b2,da,dt,eb⟩:=yB O8.raw;obtain ⟨gr,d5,rfl,er⟩:=kD.sl ah;obtain ⟨gt,ef,rfl,et⟩:=kD.sl c2;obtain ⟨ec,d2,rfl,eq⟩:=kD.sl cd;obtain ⟨ea,eg,rfl,e1⟩:=kD.sl b2;obtain ⟨ee,d8,rfl,ek⟩:=kD.sl da;obtain ⟨d0,d1,rfl,e3⟩:=kD.sl dt;clear ah ak ed c2 cd b2 da dt eb;have b1:=yD O8;have E8:=(tQ E4 ax);have dy:=ax.size;have X8:=kC o.out ax;clear O8 ax o;obtain ⟨R0,F0,R1,F1,R2,F2,R3,F3,R4,F4,R5,F5,R6,F6⟩:=y8;have R7:=kE (b:=w.heap.size + 1 + 1) X8 (j:=7) rfl;have F7:=Ay w8 (w.heap.size + 1 + 1) 7 _ _ X8;go_wp2;refine Ba (v:=.tuple #[.agg #[Qs gr x.1 d5,Qn x.2.1.1,Qs gt x.2.1.2 ef,Qs ec x.2.2.1 d2,Qs ea x.2.2.2.1 eg,Qs ee x.2.2.2.2.1 d8,Qs d0 x.2.2.2.2.2.1 d1,Qn x.2.2.2.2.2.2],.bool false]) dE rfl ⟨[_,_,_,_,_,_,_,_],by rw [HQ.out.2],?_,?_⟩
   · rw [HQ.out.1];exact (kD.own.out b1.out dX).wide fZ
   repeat (first|(with_reducible exact E8) | refine Az ?_ rE _)
 have HQ:=yD (kWv hv)
 have ay:=yD (kVq hv)
 have b6:=yD (ap.out (by have:=ay.out;simp [kFq] at this;omega))
 clear hv ap
 obtain ⟨R0,F0,R1,F1,R2,F2,R3,F3,R4,F4,R5,F5,R6,F6⟩:=xV
 have R7:=kE (b:=w.heap.size + 1 + 1) o.out (j:=7) rfl
 have F7:=Ay w4 (w.heap.size + 1 + 1) 7 _ _ o.out
 go_wp2
 refine Ba (v:=.tuple #[.agg #[.slice va vn vc,Qn x.2.1.1,Qs b5 x.2.1.2 am,Qs ag x.2.2.1 af,Qs ae x.2.2.2.1 ac,Qs ab x.2.2.2.2.1 U,Qs a1 x.2.2.2.2.2.1 aw,Qn x.2.2.2.2.2.2],.bool true]) dE rfl ⟨[_,_,_,_,_,_,_,_],by rw [HQ.out.2],?_,?_⟩
 · rw [HQ.out.1];exact (kD.own.out b6.out dX).wide fF
 repeat (first|(with_reducible exact E4) | refine Az ?_ rE _)
def kWg {w:Aq} {cx:Ap Ar} {x:jq} (hx:je.rd w cx x) {ct:Ap Ar} {t:jL} (ht:jF.rd w ct t) :
    Bc prog 6 #[.agg cx.toArray,.agg ct.toArray] w λe w'=>∃ cs,e=.returned (.tuple #[.agg cs.toArray,.bool (kHw t x)])/\je.own w' cs (addL t x) (jU w.heap.size w'.heap.size)/\Qb w w':=by
 have HX:=yD hx
 have d6:=yD ht
 have bc:x.1.length<=16777216:=hx.2.1.1
 obtain ⟨ch,cz,dg,df,db,c9,rfl,G,aq,ba,a3,au,a4,a6,bg,br⟩:=yB hx.1
 obtain ⟨bp,bi,rfl,co⟩:=kD.sl G
 obtain ⟨bw,bt,rfl,dd⟩:=kD.sl a3
 obtain ⟨ck,cc,rfl,dh⟩:=kD.sl au
 obtain ⟨b9,b8,rfl,dj⟩:=kD.sl a4
 obtain ⟨bx,bu,rfl,dk⟩:=kD.sl a6
 obtain ⟨b0,bz,rfl,di⟩:=kD.sl bg
 obtain ⟨ev,el,em,rfl,b4,be,av,c5,bl,c3,ca⟩:=jM ht.1
 obtain ⟨dq,d4,rfl,ej⟩:=kD.sl be
 obtain ⟨dx,d7,rfl,ey⟩:=kD.sl av
 obtain ⟨dv,d9,rfl,ew⟩:=kD.sl bl
 clear hx ht G aq ba a3 au a4 a6 bg br b4 be av c5 bl c3 ca
 go_enter func6,ntmps6
 go_wp2_with fail
 generalize J:World.alloc (World.alloc (World.alloc w _) _) _=N
 obtain ⟨R,K0,K1,K2,K3,K4,K5,K6,K7⟩:=xA
 obtain ⟨D0,D1,D2,D3,D4,XR,bq⟩:=AV
 clear J
 refine (kKw (HX.out.below R)).mono ?_
 rintro e w1 ⟨bv,ds,mid,rfl,O1,R1,ad,c8,O⟩
 have RW:=kLl O1.kAz R1.raw
 obtain ⟨es,ez,ep,ei,e5,eo,du,al,aa,bd,bo,cv,cm,dw,dc,dz⟩:=yB (show je.raw w1 _ x from RW)
 simp only [Be,List.nil_append,Am] at du
 obtain ⟨rfl,rfl⟩:=du
 obtain ⟨b5,am,rfl,_⟩:=kD.sl bo
 obtain ⟨ag,af,rfl,_⟩:=kD.sl cv
 obtain ⟨ae,ac,rfl,_⟩:=kD.sl cm
 obtain ⟨ab,U,rfl,_⟩:=kD.sl dw
 obtain ⟨a1,aw,rfl,_⟩:=kD.sl dc
 obtain ⟨oa,on,oc,ho,bh⟩:=O1.parts;obtain rfl:=ho
 have L:=yD O1;have HR:=yD R1
 have bj:=O.size
 have E1:=(tQ R O)
 replace XR:=yD (kC XR.out O)
 obtain ⟨K0,K1,K2⟩:=FL
 replace K3:=cL O K3
 replace K4:=cL O K4
 replace K5:=cL O K5
 replace K6:=cL O K6
 replace K7:=cL O K7
 replace D0:=cL O D0
 replace D1:=cL O D1
 replace D2:=cL O D2
 replace D3:=cL O D3
 replace D4:=cL O D4
 clear O1 R1 RW O R al aa bd bo cv cm dw dc dz
 go_upto_region 2 with fail
 generalize D:World.alloc w1 _=wC
 obtain ⟨X,XM,cl⟩:=EJ
 clear D
 have EC:=(tQ E1 X)
 replace XR:=yD (kC XR.out X)
 replace L:=yD (L.out.below X)
 replace HR:=yD (HR.out.below X)
 have M0:=kE XM.out (j:=0) rfl
 obtain ⟨K0,K1,K2,K3,K4,K5,K6,K7,D0,D1,D2,D3,D4,FX⟩:=IV
 refine zX (λW=>Qb wC W) [Tt,Tt,Tt,Ff,Ff] bC5 bC5 pY (bR.drew) ?_
 intro wS E
 iterate 3
  all_goals refine kX ?_
 all_goals first|(refine kG rfl E ?_)|(refine kY rfl (λK H=>?_);go_simp;refine (kCs (d6.out.below (tQ EC E))).mono ?_;rintro e wT ⟨tc,rfl,OT,an⟩;obtain ⟨c7,dl,dr,rfl,a5,ce,b7,c1,cf,c6,c0⟩:=jM OT.raw;obtain ⟨a8,bm,rfl,dp⟩:=kD.sl ce;obtain ⟨bn,c4,rfl,dn⟩:=kD.sl b7;obtain ⟨bb,a9,rfl,dm⟩:=kD.sl cf;clear a5 ce b7 c1 cf c6 c0;have bk:=an.size;have eh:=E.size;have de:=yD OT;replace E:=(tQ E an);refine H _ _ E ?_;clear H K an OT)
 all_goals refine jD ?_
 all_goals first|(refine kG rfl E ?_)|(refine kY rfl (λK H=>?_);go_simp;refine H _ _ (E.alloc E.size _) ?_;clear H K)
 all_goals refine jD ?_
 all_goals refine jy ?_
 obtain ⟨XR,XM,L,HR,ET,az,K0,K1,K2,K3,K4,K5,K6,K7⟩:=J4
 go_wp2_with (at_builtin;refine kD.kDt rfl _ _ 24 rfl (r:=jF) (e:=38) underlying24 kLr rfl bD0 bD0 L.out bD3 bD3 rfl de.out rfl mZ bD1 ?_)
 intro v2 V hown bf
 have Z:=yD hown;have F:=yD bf
 obtain ⟨va,vn,vc,hv,cw⟩:=hown.parts;obtain rfl:=hv
 have a7:=bf.size
 simp at a7
 clear hown bf
 obtain ⟨TU,cg,N0,NF,d3⟩:=EX
 go_upto_region 3 with fail
 generalize a2:World.setCell V ⟨w1.heap.size,0,none⟩ _=w3
 have TW:Touch (λk=>k=w1.heap.size) V w3:=by rw [<- a2];exact kD.yt [_] V _ 0
 have ao:Hid (Qr w3 w1.heap.size #[.slice va vn vc,Qn x.2.1.1,Qs b5 x.2.1.2 am,Qs ag x.2.2.1 af,Qs ae x.2.2.2.1 ac,Qs ab x.2.2.2.2.1 U,Qs a1 x.2.2.2.2.2.1 aw,Qn x.2.2.2.2.2.2] 33):=yD (by
   rw [<- a2];have y0:=heap_setCell_same _ (w1.heap.size) 0 _ 33 (.slice va vn vc) cg;exact y0)
 clear a2
 obtain ⟨TA,ar,o,cq,ai,E3,K0,K1,K2,K3,K4,K5,K6,K7⟩:=CF
 clear TU cg N0 NF TW TA XR XM L HR Z F E ET
 obtain ⟨ap,Y⟩:=AU
 clear ai cq
 obtain ⟨M0,M1,M2,M3,M4,M5,M6,M7⟩:=II
 go_wp2_with fail
 refine (zb Y.out).mono ?_
 rintro e w4 ⟨rfl,aj⟩
 have E4:=(tQ E3 aj)
 have b3:=aj.size
 obtain ⟨o,ap,K0,M0,K1,M1,K2,M2,K3,M3,K4,M4,K5,M5⟩:=IQ
 replace K6:=cL aj K6
 replace M6:=cL aj M6
 replace K7:=cL aj K7
 replace M7:=cL aj M7
 clear aj Y ao E3
 cases hv:ze (kFq t x)
 · have HQ:=yD (kTu hv);clear hv ap;go_wp2_with fail;refine (kWf (HX.out.below E4)).mono ?_;rintro e w8 ⟨tc,rfl,O8,ax⟩;obtain ⟨e0,en,e7,eu,e4,e6,rfl,ah,ak,ed,c2,cd,b2,da,dt,eb⟩:=yB O8.raw;obtain ⟨gr,d5,rfl,er⟩:=kD.sl ah;obtain ⟨gt,ef,rfl,et⟩:=kD.sl c2;obtain ⟨ec,d2,rfl,eq⟩:=kD.sl cd;obtain ⟨ea,eg,rfl,e1⟩:=kD.sl b2;obtain ⟨ee,d8,rfl,ek⟩:=kD.sl da;obtain ⟨d0,d1,rfl,e3⟩:=kD.sl dt;clear ah ak ed c2 cd b2 da dt eb;have b1:=yD O8;have E8:=(tQ E4 ax);have dy:=ax.size;have X8:=kC o.out ax;clear O8 ax o;obtain ⟨R0,F0,R1,F1,R2,F2,R3,F3,R4,F4,R5,F5,R6,F6⟩:=y8;have R7:=kE (b:=w.heap.size + 1 + 1) X8 (j:=7) rfl;have F7:=Ay w8 (w.heap.size + 1 + 1) 7 _ _ X8;go_wp2;refine Ba (v:=.tuple #[.agg #[Qs gr x.1 d5,Qn x.2.1.1,Qs gt x.2.1.2 ef,Qs ec x.2.2.1 d2,Qs ea x.2.2.2.1 eg,Qs ee x.2.2.2.2.1 d8,Qs d0 x.2.2.2.2.2.1 d1,Qn x.2.2.2.2.2.2],.bool false]) dF rfl ⟨[_,_,_,_,_,_,_,_],by rw [HQ.out.2],?_,?_⟩
   · rw [HQ.out.1];exact (kD.own.out b1.out dX).wide fZ
   repeat (first|(with_reducible exact E8) | refine Az ?_ rE _)
 have HQ:=yD (kWv hv)
 have ay:=yD (kVq hv)
 have b6:=yD (ap.out (by have:=ay.out;simp [kFq] at this;omega))
 clear hv ap
 obtain ⟨R0,F0,R1,F1,R2,F2,R3,F3,R4,F4,R5,F5,R6,F6⟩:=xV
 have R7:=kE (b:=w.heap.size + 1 + 1) o.out (j:=7) rfl
 have F7:=Ay w4 (w.heap.size + 1 + 1) 7 _ _ o.out
 go_wp2
 refine Ba (v:=.tuple #[.agg #[.slice va vn vc,Qn x.2.1.1,Qs b5 x.2.1.2 am,Qs ag x.2.2.1 af,Qs ae x.2.2.2.1 ac,Qs ab x.2.2.2.2.1 U,Qs a1 x.2.2.2.2.2.1 aw,Qn x.2.2.2.2.2.2],.bool true]) dF rfl ⟨[_,_,_,_,_,_,_,_],by rw [HQ.out.2],?_,?_⟩
 · rw [HQ.out.1];exact (kD.own.out b6.out dX).wide fF
 repeat (first|(with_reducible exact E4) | refine Az ?_ rE _)
def node_pend {w:Aq} {c0 c1 c2 c3 c4 c5 N D:Ar} {x0:Ap jL} {x1:kg} {x2:Ap kI} {x3:Ap jK} {x4:Ap kz} {X:Ap kT} {o:Int} (h:je.raw w [c0,c1,c2,c3,c4,c5,N,D] (x0,x1,x2,x3,x4,X,o)):(kD.slice 145 kJ).raw w [c3] x2:=by
 obtain ⟨v0,v2,v3,v4,v5,v6,he,a0,a1,a2,a3,a4,a5,Z,a7,E⟩:=yB h;simp only [Am,and_true] at he;obtain ⟨rfl,rfl,rfl,rfl,rfl,rfl,rfl,rfl⟩:=he;exact a4
def node_cache {w:Aq} {c0 c2 c3 c4 c5 N D:Ar} {x0:Ap jL} {I:Int} {xe:Ap kZ} {x2:Ap kI} {x3:Ap jK} {x4:Ap kz} {X:Ap kT} {o:Int} (h:je.rd w [c0,Qn I,c2,c3,c4,c5,N,D] (x0,(I,xe),x2,x3,x4,X,o)):kP.rd w [Qn I,c2] (I,xe):=by
 obtain ⟨v0,v2,v3,v4,v5,v6,he,a0,a1,a2,a3,a4,a5,Z,a7,E⟩:=yB h.1;simp only [Am,and_true] at he;obtain ⟨rfl,h2,rfl,rfl,rfl,rfl,rfl,rfl⟩:=he;exact ⟨a1,h.2.2.1⟩
def jAj {w:Aq} {c0 c1 c2 c3 c4 c5 N D v:Ar} {x0:Ap jL} {x1:kg} {x2 y:Ap kI} {x3:Ap jK} {x4:Ap kz} {X:Ap kT} {o:Int} {S T:Nat->Prop}
    (h:je.own w [c0,c1,c2,c3,c4,c5,N,D] (x0,x1,x2,x3,x4,X,o) S) (hv:(kD.slice 145 kJ).own w [v] y T) (hd:∀ k,S k->T k->False):je.own w [c0,c1,c2,v,c4,c5,N,D] (x0,x1,y,x3,x4,X,o) (λk=>S k\/T k) :=
  kD.set_right (c:=[c0]) h rfl (λB hB hq=>kD.set_right (c:=[c1,c2]) hq rfl (λB2 E bu=>kD.set_left (c:=[c3]) (c':=[v]) bu rfl hv (λk a b=>hd k (hB k (E k a)) b)) (λk a b=>hd k (hB k a) b)) hd
def jAi {w:Aq} {c0 c1 c2 c3 c4 c5 N D v:Ar} {x0:Ap jL} {x1:kg} {x2:Ap kI} {x3 y:Ap jK} {x4:Ap kz} {X:Ap kT} {o:Int} {S T:Nat->Prop}
    (h:je.own w [c0,c1,c2,c3,c4,c5,N,D] (x0,x1,x2,x3,x4,X,o) S) (hv:(kD.slice 102 jE).own w [v] y T) (hd:∀ k,S k->T k->False):je.own w [c0,c1,c2,c3,v,c5,N,D] (x0,x1,x2,y,x4,X,o) (λk=>S k\/T k) :=
  kD.set_right (c:=[c0]) h rfl (λB hB hq=>kD.set_right (c:=[c1,c2]) hq rfl (λB2 E bu=>kD.set_right (c:=[c3]) bu rfl (λB3 G F=>kD.set_left (c:=[c4]) (c':=[v]) F rfl hv (λk a b=>hd k (hB k (E k (G k a))) b)) (λk a b=>hd k (hB k (E k a)) b)) (λk a b=>hd k (hB k a) b)) hd
def jAk {w:Aq} {c0 c1 c2 c3 c4 c5 N D v:Ar} {x0:Ap jL} {x1:kg} {x2:Ap kI} {x3:Ap jK} {x4:Ap kz} {X y:Ap kT} {o:Int} {S T:Nat->Prop}
    (h:je.own w [c0,c1,c2,c3,c4,c5,N,D] (x0,x1,x2,x3,x4,X,o) S) (hv:(kD.slice 149 kL).own w [v] y T) (hd:∀ k,S k->T k->False):je.own w [c0,c1,c2,c3,c4,c5,v,D] (x0,x1,x2,x3,x4,y,o) (λk=>S k\/T k) :=
  kD.set_right (c:=[c0]) h rfl (λB hB hq=>kD.set_right (c:=[c1,c2]) hq rfl (λB2 E bu=>kD.set_right (c:=[c3]) bu rfl (λB3 G F=>kD.set_right (c:=[c4]) F rfl (λO H I=>kD.set_right (c:=[c5]) I rfl (λB5 J L=>kD.set_left (c:=[N]) (c':=[v]) L rfl hv (λk a b=>hd k (hB k (E k (G k (H k (J k a))))) b)) (λk a b=>hd k (hB k (E k (G k (H k a)))) b)) (λk a b=>hd k (hB k (E k (G k a))) b)) (λk a b=>hd k (hB k (E k a)) b)) (λk a b=>hd k (hB k a) b)) hd
def kXl {w:Aq} {c0 c1 c2 c3 c4 c5 N D v u:Ar} {x0:Ap jL} {x1 y:kg} {x2:Ap kI} {x3:Ap jK} {x4:Ap kz} {X:Ap kT} {o:Int} {S T:Nat->Prop}
    (h:je.own w [c0,c1,c2,c3,c4,c5,N,D] (x0,x1,x2,x3,x4,X,o) S) (hv:kP.own w [u,v] y T) (hd:∀ k,S k->T k->False):je.own w [c0,u,v,c3,c4,c5,N,D] (x0,y,x2,x3,x4,X,o) (λk=>S k\/T k) :=
  kD.set_right (c:=[c0]) h rfl (λB hB hq=>kD.set_left (c:=[c1,c2]) (c':=[u,v]) hq rfl hv (λk a b=>hd k (hB k a) b)) hd
def kZm (x y:kT):Bool:=!((x.2.1 != y.2.1) || ((x.2.2 != y.2.2) || !eqN x.1 y.1))
def vMeasS_eq (x y:kT):kZm x y=decide (x=y):=by
 obtain ⟨x0,x1,x2⟩:=x;obtain ⟨y0,y1,y2⟩:=y;rw [Av];simp [kZm,eqN];exact lM
def kUl (x y:kT):Bool:=(eqN x.1 y.1 && (x.2.1==y.2.1)) && (x.2.2==y.2.2)
def vMeas_eq (x y:kT):kUl x y=decide (x=y):=by
 obtain ⟨x0,x1,x2⟩:=x;obtain ⟨y0,y1,y2⟩:=y;rw [Av];simp [kUl,eqN,and_assoc]
def kHq {w:Aq} {cx:Ap Ar} {x:kT} (hx:kL.raw w cx x) {cy:Ap Ar} {y:kT} (hy:kL.raw w cy y) :
    Bc prog 143 #[.agg cx.toArray,.agg cy.toArray] w (bQ w (.bool (kUl x y))):=by
 have Hx:=yD hx
 obtain ⟨ax,rfl,I,o,ad,ah⟩:=jh hx
 obtain ⟨ac,Y,rfl,av⟩:=kD.sl o
 have Hy:=yD hy
 obtain ⟨a3,rfl,aj,ai,an,aq⟩:=jh hy
 obtain ⟨al,ak,rfl,a9⟩:=kD.sl ai
 go_enter func143,ntmps143
 go_upto_region 1 with fail
 generalize J:World.alloc (World.alloc w _) _=N
 obtain ⟨R,L⟩:=xW
 obtain ⟨Z,af,D,ae,ag⟩:=AX
 clear J
 have FX:=yD (λ(W:Aq) (hW:Qb N W)=>kGx hW L Z af D ae ag)
 refine ky (λW=>Qb N W) [Tt,Tt,Tt,Tt,Ff,Tt,Tt,Tt,Tt,Tt,Tt,Tt,Tt,Tt,Tt,Tt,Tt,Tt,Tt,Tt] bR ?_
 intro wS E
 iterate 4
  all_goals refine kX ?_
 all_goals first | refine wkB (yA (kD.raw.below I (tQ R E)) (kD.raw.below aj (tQ R E))) (λwS1 E=>?_) | refine kX ?_
 all_goals (refine jd λb H=>?_;cases b <;> try simp only [jc] at H)
 iterate 6
  all_goals refine kX ?_
 all_goals (refine jd λb ab=>?_;cases b <;> try simp only [jc] at ab)
 iterate 6
  all_goals refine kX ?_
 all_goals (refine jd λb aa=>?_;cases b <;> try simp only [jc] at aa)
 all_goals refine kR ?_
 all_goals have F:=(tQ R E)
 all_goals first
   | (have U:=yD (show (kUl x y)=false by simp only [kUl,Ad,Aa,Ae,Ag,Ab,Ac,Aj,Ak,Ah,Ai,Al,H,ab,aa]);go_wp2;go_ret;exact ⟨kK U.out.symm,F⟩)
   | (have U:=yD (show (kUl x y)=true by simp only [kUl,Ad,Aa,Ae,Ag,Ab,Ac,Aj,Ak,Ah,Ai,Al,H,ab,aa]);go_wp2;go_ret;exact ⟨kK U.out.symm,F⟩)
def kGb {α:Type} {p:α->Bool} {x:Ap α} (h:¬ idxOf p x < 0):∃ k:Nat,k < x.length/\idxOf p x=k:=by
 unfold idxOf at *;cases e:x.findIdx? p with
 | none=>rw [e] at h;simp at h
 | some i=>exact ⟨i,(List.findIdx?_eq_some_iff_getElem.1 e).1,rfl⟩
def yw (l:Ap kT) (n:kr) (f:Int):Int:=if idxOf (yX n f) l < 0 then 0 else (l.getD (idxOf (yX n f) l).toNat ([],0,0)).2.2
def kYz {l:List kT} {n:kr} {f:Int} (h:idxOf (yX n f) l < 0):yw l n f=0:=by unfold yw;rw [if_pos h]
def kWj {l:Ap kT} {n:kr} {f:Int} {k:Nat} (hk:k < l.length) (h:idxOf (yX n f) l=k):yw l n f=l[k].2.2:=by
 unfold yw;rw [h,if_neg bD1,Int.toNat_natCast,jZ hk]
def kPu {w:Aq} {vl:Ar} {l:Ap kT} (hl:(kD.slice 149 kL).raw w [vl] l) {cn:Ap Ar} {n:kr} (hn:kW.raw w cn n) {f:Int} :
    Bc prog 130 #[vl,.agg cn.toArray,.int .i64 f] w (bQ w (.int .i64 (yw l n f))):=by
 have HN:=yD hn
 have HL:=yD hl
 obtain ⟨av,rfl,_⟩:=ko hn
 obtain ⟨aa,am,rfl,la⟩:=kD.sl hl
 clear hn hl
 go_enter func130,ntmps130
 go_wp2_with fail
 refine (kEt (HL.out.below bG) (HN.out.below bG)).mono ?_
 exact lN
def kQn {w:Aq} {vl:Ar} {l:Ap kT} (hl:(kD.slice 149 kL).raw w [vl] l) {cn:Ap Ar} {n:kr} (hn:kW.raw w cn n) {f:Int} :
    Bc prog 126 #[vl,.agg cn.toArray,.int .i64 f] w (bQ w (.int .i64 (yw l n f))):=by
 have HN:=yD hn
 have HL:=yD hl
 obtain ⟨av,rfl,_⟩:=ko hn
 obtain ⟨aa,am,rfl,la⟩:=kD.sl hl
 clear hn hl
 go_enter func126,ntmps126
 go_wp2_with fail
 refine (kIi (HL.out.below bG) (HN.out.below bG)).mono ?_
 exact lN
def kDs:jH prog 143:=yR func143 bC5 bC5
def kIl {w:Aq} {va L:Ar} {a b:Ap kT} (G:(kD.slice 149 kL).raw w [va] a) (al:(kD.slice 149 kL).raw w [L] b) :
    Bc prog 76 #[va,L] w (bQ w (.bool (decide (a=b)))):=by
 go_enter func76,ntmps76
 go_wp2_with fail
 refine (kIt kDs G al ?_).mono ?_
 · intro wr hb cs ds x y hx hy;have:=kHq hx hy;rw [vMeas_eq] at this;exact this
 exact iJ
def kTm (x y:kz):Bool:=!((x.2.1 != y.2.1) || ((x.2.2 != y.2.2) || !eqN x.1 y.1))
def vRouteS_eq (x y:kz):kTm x y=decide (x=y):=by
 obtain ⟨x0,x1,x2⟩:=x;obtain ⟨y0,y1,y2⟩:=y;rw [Av];simp [kTm,eqN];exact lM
def kNb (x y:kz):Bool:=(eqN x.1 y.1 && (x.2.1==y.2.1)) && (x.2.2==y.2.2)
def vRoute_eq (x y:kz):kNb x y=decide (x=y):=by
 obtain ⟨x0,x1,x2⟩:=x;obtain ⟨y0,y1,y2⟩:=y;rw [Av];simp [kNb,eqN,and_assoc]
def kNq {w:Aq} {cx:Ap Ar} {x:kz} (hx:kS.raw w cx x) {cy:Ap Ar} {y:kz} (hy:kS.raw w cy y) :
    Bc prog 141 #[.agg cx.toArray,.agg cy.toArray] w (bQ w (.bool (kNb x y))):=by
 have Hx:=yD hx
 obtain ⟨ax,rfl,I,o,ad,ah⟩:=jJ hx
 obtain ⟨ac,Y,rfl,av⟩:=kD.sl o
 have Hy:=yD hy
 obtain ⟨a3,rfl,aj,ai,an,aq⟩:=jJ hy
 obtain ⟨al,ak,rfl,a9⟩:=kD.sl ai
 go_enter func141,ntmps141
 go_upto_region 1 with fail
 generalize J:World.alloc (World.alloc w _) _=N
 obtain ⟨R,L⟩:=xW
 obtain ⟨Z,af,D,ae,ag⟩:=AX
 clear J
 have FX:=yD (λ(W:Aq) (hW:Qb N W)=>kGx hW L Z af D ae ag)
 refine ky (λW=>Qb N W) [Tt,Tt,Tt,Tt,Ff,Tt,Tt,Tt,Tt,Tt,Tt,Tt,Tt,Tt,Tt,Tt,Tt,Tt,Tt,Tt] bR ?_
 intro wS E
 iterate 4
  all_goals refine kX ?_
 all_goals first | refine wkB (yA (kD.raw.below I (tQ R E)) (kD.raw.below aj (tQ R E))) (λwS1 E=>?_) | refine kX ?_
 all_goals (refine jd λb H=>?_;cases b <;> try simp only [jc] at H)
 iterate 6
  all_goals refine kX ?_
 all_goals (refine jd λb ab=>?_;cases b <;> try simp only [jc] at ab)
 iterate 6
  all_goals refine kX ?_
 all_goals (refine jd λb aa=>?_;cases b <;> try simp only [jc] at aa)
 all_goals refine kR ?_
 all_goals have F:=(tQ R E)
 all_goals first
   | (have U:=yD (show (kNb x y)=false by simp only [kNb,Ad,Aa,Ae,Ag,Ab,Ac,Aj,Ak,Ah,Ai,Al,H,ab,aa]);go_wp2;go_ret;exact ⟨kK U.out.symm,F⟩)
   | (have U:=yD (show (kNb x y)=true by simp only [kNb,Ad,Aa,Ae,Ag,Ab,Ac,Aj,Ak,Ah,Ai,Al,H,ab,aa]);go_wp2;go_ret;exact ⟨kK U.out.symm,F⟩)
def kFx:jH prog 141:=yR func141 bC5 bC5
def kPh {w:Aq} {va L:Ar} {a b:Ap kz} (G:(kD.slice 131 kS).raw w [va] a) (al:(kD.slice 131 kS).raw w [L] b) :
    Bc prog 75 #[va,L] w (bQ w (.bool (decide (a=b)))):=by
 go_enter func75,ntmps75
 go_wp2_with fail
 refine (kPr kFx G al ?_).mono ?_
 · intro wr hb cs ds x y hx hy;have:=kNq hx hy;rw [vRoute_eq] at this;exact this
 exact iJ
end Go.Proofs.YtjhfdpopkkmigaaGreat

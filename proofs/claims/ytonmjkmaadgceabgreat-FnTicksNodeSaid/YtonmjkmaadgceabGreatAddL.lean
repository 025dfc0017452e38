/-
  A node that produces data.
-/
import Derived.Test.YtonmjkmaadgceabGreatVStoreI
set_option linter.unusedVariables false
set_option linter.defProp false
set_option linter.unusedSimpArgs false
set_option linter.unnecessarySimpa false
set_option maxRecDepth 100000
set_option maxHeartbeats 4000000
open Bool renaming true->Tt,false->Ff
open Go renaming frozen_of_row->Aa,World->Au
open Bool renaming not_false->Ab,and_false->Ac,false_and->Ad,not_true->Ae,and_true->Ag,true_and->Ah,or_false->Ai,false_or->Aj,or_true->Ak,true_or->Al,not_not->Am
open List.cons renaming injEq->Ap
open _root_ renaming ge_iff_le->Aq
open Int renaming natCast_nonneg->Ar,ofNat_lt->Aw
open Go.RowKit.Below renaming size->Av
namespace Go.Proofs.YtonmjkmaadgceabGreat
open Go.RowKit _root_.Go.Proofs.Tryz
def kEz (l:List kF) (k:Nat) (x:kF):Bool:=!((((!zM x.1 || ((x.1.length:Int)==0)) || ((x.2.1.length:Int)==0)) || !inR x.2.2 0 100000) || decide (idxOf (ja x.1) (l.take k) ≥ 0))
def okPendI_no {l:List kF} {k:Nat} {x:kF} (h:kEz l k x=false):kCi l k x=false:=by
 unfold kEz at h;unfold kCi;cases hz:((x.2.1.length:Int)==0)
 · rw [hz] at h;generalize zM x.1=b1 at *;generalize ((x.1.length:Int)==0)=b2 at *;generalize inR x.2.2 0 100000=R at *;generalize decide (idxOf (ja x.1) (l.take k) ≥ 0)=O at *;generalize kJw x.2.1=V at *;revert h;cases b1 <;> cases b2 <;> cases R <;> cases O <;> cases V <;> decide
 have e:kJw x.2.1=false:=by
  have h0:x.2.1.length=0:=by have:=eq_of_beq hz;omega
  unfold kJw;rw [h0];rfl
 rw [e];generalize zM x.1=b1 at *;generalize ((x.1.length:Int)==0)=b2 at *;generalize inR x.2.2 0 100000=R at *;generalize decide (idxOf (ja x.1) (l.take k) ≥ 0)=O at *;cases b1 <;> cases b2 <;> cases R <;> cases O <;> decide
def kKp {l:List kF} {k:Nat} {x:kF} (h:kEz l k x=true):kCi l k x=kJw x.2.1/\0 < x.2.1.length:=by
 unfold kEz at h;unfold kCi;have hz:0 < x.2.1.length:=by
  cases hz:((x.2.1.length:Int)==0)
  · simp at hz;exact List.length_pos_iff.2 hz
  rw [hz] at h;simp at h
 refine ⟨?_,hz⟩;generalize zM x.1=b1 at *;generalize ((x.1.length:Int)==0)=b2 at *;generalize inR x.2.2 0 100000=R at *;generalize decide (idxOf (ja x.1) (l.take k) ≥ 0)=O at *;generalize kJw x.2.1=V at *;generalize ((x.2.1.length:Int)==0)=b6 at *;revert h;cases b1 <;> cases b2 <;> cases R <;> cases O <;> cases V <;> cases b6 <;> decide
def vPends_yes {l:List kF} {k:Nat} (q:yh (λj=>kCi l j (l.getD j ([],[],0))) k=true) (h:¬ k < l.length) (hk:k<=l.length):kDj l=decide ((l.length:Int)<=12):=by
 rw [kQy q h hk,Bool.eq_iff_iff];simp;omega
def kNk {w:Au} {vl:Value} {l:List kF} (hl:(kD.slice 43 kH).raw w [vl] l) :
    Calls prog 38 #[vl] w (bQ w (.bool (kDj l))):=by
 obtain ⟨al,pl,rfl,ll⟩:=kD.sl hl
 have R:=kD.kAd hl
 go_enter func38,ntmps38
 go_wp2
 go_loopw [9] (λi wr=>∃ k:Nat,k<=l.length/\i=.int .i64 k/\Hid (yh (λj=>kCi l j (l.getD j ([],[],0))) k=true)/\Qb w wr) (λi _=>l.length - (intOf i).toNat)
 case atStart=>exact ⟨0,Nat.zero_le _,rfl,yD rfl,bR⟩
 obtain ⟨k,hk,rfl,HN,o⟩:=hrel
 by_cases hlt:k < l.length
 · have ag:=yD (kD.kCb (hl.below o) hk);have hb:=λq=>kTp hlt q;have av:=λq=>kQx hlt q HN.out;obtain ⟨qb,qo,rfl,ae,af,ah,qr,ar,ax,a2⟩:=kD.zg (hl.below o) (i:=k) bC9 rfl;generalize l[k]=x at *;have HB:Hid (kEz l k x=false->kDj l=false):=yD (λq=>hb (okPendI_no q));have HX:Hid (kEz l k x=true->0 < x.2.1.length/\(kJw x.2.1=false->kDj l=false)/\(kJw x.2.1=true->yh (λj=>kCi l j (l.getD j ([],[],0))) (k + 1)=true)):=yD (λq=>⟨(kKp q).2,λp=>hb ((kKp q).1.trans p),λp=>av ((kKp q).1.trans p)⟩);clear hb av;obtain ⟨bg,dc,Z,aj,ap,ao,au⟩:=jQ qr;simp only [Ap,and_true] at Z;obtain ⟨rfl,rfl,rfl⟩:=Z;obtain ⟨ac,ay,rfl,bd⟩:=kD.sl ap;obtain ⟨ai,bc,rfl,bl⟩:=kD.sl ao;obtain ⟨bt,bp,c1,a8⟩:=xS;go_upto_region 4 with fail;generalize X:World.alloc wr _=wC;have EC:Qb wr wC:=rO;have M0:Qd wC wr 0 (.slice ac x.1.length ay):=tL;have M1:Qd wC wr 1 (.slice ai x.2.1.length bc):=tL;have M2:Qd wC wr 2 (.int .i64 x.2.2):=tL;clear X;have FX:=yD (λ(W:Au) (hW:Qb wC W)=>kJd hW M0 M1 M2);refine kM (λW=>Qb wC W) [Tt,Tt,Ff,Tt,Tt,Tt,Tt,Tt,Tt,Tt,Tt,Tt,Tt,Tt,Tt,Tt,Tt,Tt,Tt,Tt,Ff,Tt,Tt,Tt,Tt,Tt,Tt,Tt,Tt,Ff,Tt,Tt] bC3 bC3 pK (bR.drew) ?_;intro wS E;all_goals refine ku ?_
   all_goals refine ku ?_
   all_goals first | refine wkB (kAs (kD.raw.below aj (tQ EC E))) (λwS1 E=>?_) | refine ku ?_
   all_goals refine ku ?_
   all_goals (refine jy λb O=>?_;cases b <;> try simp only [jw] at O)
   iterate 6
    all_goals refine ku ?_
   all_goals (refine jy λb V=>?_;cases b <;> try simp only [jw] at V)
   iterate 5
    all_goals refine ku ?_
   all_goals (refine jy λb D=>?_;cases b <;> try simp only [jw] at D)
   all_goals refine ku ?_
   all_goals refine ku ?_
   all_goals first | refine wkC (yJ) ?_ | refine ku ?_
   all_goals refine ku ?_
   all_goals refine ku ?_
   all_goals (refine jy λb ab=>?_;cases b <;> try simp only [jw] at ab)
   iterate 5
    all_goals refine ku ?_
   all_goals first | refine wkB (kJr (kD.raw.below ag.out (tQ EC E)) (kD.raw.below aj (tQ EC E))) (λwS1 E=>?_) | refine ku ?_
   all_goals refine ku ?_
   all_goals (refine jy λb aw=>?_;cases b <;> try simp only [jw] at aw)
   all_goals refine kS ?_
   all_goals have F:=(tQ o (tQ EC E))
   all_goals first
     | (have L:=yD (HB.out (show kEz l k x=false by simp only [kEz,Ae,Ab,Ag,Ah,Ac,Ad,Ak,Al,Ai,Aj,Am,Aq,O,V,D,ab,aw]));clear HB HX HN ag;go_wp2;go_ret;exact ⟨kX L.out.symm,F⟩)
     | have L:=yD (HX.out (show kEz l k x=true by simp only [kEz,Ae,Ab,Ag,Ah,Ac,Ad,Ak,Al,Ai,Aj,Am,Aq,O,V,D,ab,aw]))
   all_goals try clear HB HX
   have C1:=M1;have pn:=yD ao;have aa:=yD L.out.1;have a4:=yD L.out.2.1;have bj:=yD L.out.2.2;clear L O V D ab aw HN ag;generalize x.2.1=P at *;have M1:=cL E C1;go_wp2;clear M1;go_loopw [49] (λi wq=>∃ j:Nat,j<=P.length/\i=.int .i64 j/\Hid (yh (λj=>kJp P j (P.getD j (0,0,0))) j=true)/\Qb wC wq) (λi _=>P.length - (intOf i).toNat);case atStart=>exact ⟨0,Nat.zero_le _,rfl,yD rfl,E⟩
   obtain ⟨j,I,rfl,HM,hq⟩:=hrel;replace C1:=cL hq C1;by_cases an:j < P.length
   · have ce:=Aw.2 an;have ch:=Ar j;obtain ⟨pb,po,rfl,bm,cm,cl,pr,a5,a6,bb⟩:=kD.zg (pn.out.below (tQ EC hq)) (i:=j) bC9 rfl;have hb:=λq=>a4.out (vAsk_bad an q);have av:=λq=>kXg an q HM.out;by_cases h0:0 < j
     · obtain ⟨i,hi⟩:∃ i,j - 1=i:=⟨_,rfl⟩;have hil:i < P.length:=bC9;have J:=yD (kLn (l:=P) (x:=P[j]) h0 hi hil);have co:(j:Int) - 1=(i:Int):=bC9;obtain ⟨yb,yo,yE,be,bh,bf,yr,U,a1,az⟩:=kD.zg (pn.out.below (tQ EC hq)) hil rfl;simp only [Option.some.injEq,Addr.mk.injEq,and_true] at yE;obtain ⟨rfl,rfl⟩:=yE;generalize P[i]=u at *;obtain ⟨am,ba,a9,ck⟩:=yG yr;simp only [Ap,and_true] at am;obtain ⟨rfl,rfl,rfl⟩:=am;clear yr;have hw:IntKind.i64.wrap (i:Int)=i:=IntWalk.i64_in _ bC9;have cz:=Ar i;have bu:=Aw.2 hil;clear hi;have hp:decide ((j:Int) > 0)=true:=bC4;have b9:decide (0 < j)=true:=bA2;have cf:(0:Int) < j:=bC9;generalize P[j]=y at *;have HB:=yD hb;have HX:=yD av;clear hb av;obtain ⟨aq,a7,bi,bw⟩:=yG pr;simp only [Ap,and_true] at aq;obtain ⟨rfl,rfl,rfl⟩:=aq;go_upto_region 9 with fail;generalize ad:World.alloc wr _=wD;have ED:Qb wr wD:=rG;have N0:Qd wD wr 0 (.int .i64 y.1):=tC;have N1:Qd wD wr 1 (.int .i64 y.2.1):=tC;have N:Qd wD wr 2 (.int .i64 y.2.2):=tC;have D1:=cL ED C1;replace U:=cL ED U;clear ad;have FX:=yD (λ(W:Au) (hW:Qb wD W)=>cLs5 hW D1 N0 N1 N U);refine kM (λW=>Qb wD W) [Tt,Tt,Ff,Tt,Tt,Tt,Tt,Ff,Tt,Tt,Tt,Tt,Tt,Tt,Tt,Tt,Tt,Tt,Tt,Tt,Tt,Tt,Tt,Tt,Tt,Tt] bC3 bC3 pK (bR.drew) ?_;intro wS E;all_goals refine ku ?_
       all_goals refine ku ?_
       all_goals first | refine wkC (yJ) ?_ | refine ku ?_
       all_goals refine ku ?_
       all_goals (refine jy λb O=>?_;cases b <;> try simp only [jw] at O)
       all_goals refine ku ?_
       all_goals refine ku ?_
       all_goals first | refine wkC (yJ) ?_ | refine ku ?_
       all_goals refine ku ?_
       all_goals refine ku ?_
       all_goals (refine jy λb Y=>?_;cases b <;> try simp only [jw] at Y)
       all_goals refine ku ?_
       all_goals refine ku ?_
       all_goals (refine jy λb G=>?_;cases b <;> try simp only [jw] at G)
       iterate 11
        all_goals refine ku ?_
       all_goals (refine jy λb H=>?_;cases b <;> try simp only [jw] at H)
       all_goals refine kS ?_
       all_goals have EQ:=(tQ hq (tQ ED E))
       all_goals first
         | (have L:=yD (HB.out (show _=false by rw [J.out];simp only [okA,Ae,Ab,Ag,Ah,Ac,Ad,Ak,Al,Ai,Aj,Am,Aq,O,Y,G,H]));clear HB HX HM J;have F:=(tQ o (tQ EC EQ));go_wp2;go_ret;exact ⟨kX L.out.symm,F⟩)
         | (have L:=yD (HX.out (show _=true by rw [J.out];simp only [okA,Ae,Ab,Ag,Ah,Ac,Ad,Ak,Al,Ai,Aj,Am,Aq,O,Y,G,H]));clear HB HX HM J;go_wp2;go_roundw;(case rel=>exact ⟨j + 1,by omega,by go_num,L,EQ⟩);(case measure=>simp [intOf];omega))
     have J:=yD (kIw (l:=P) (x:=P[j]) h0);have hp:decide ((j:Int) > 0)=false:=bC4;have b9:decide (0 < j)=false:=bA2;have cf:¬ (0:Int) < j:=bC9;generalize P[j]=y at *;have HB:=yD hb;have HX:=yD av;clear hb av;obtain ⟨aq,a7,bi,bw⟩:=yG pr;simp only [Ap,and_true] at aq;obtain ⟨rfl,rfl,rfl⟩:=aq;go_upto_region 9 with fail;generalize ad:World.alloc wr _=wD;have ED:Qb wr wD:=rG;have N0:Qd wD wr 0 (.int .i64 y.1):=tC;have N1:Qd wD wr 1 (.int .i64 y.2.1):=tC;have N:Qd wD wr 2 (.int .i64 y.2.2):=tC;have D1:=cL ED C1;clear ad;have FX:=yD (λ(W:Au) (hW:Qb wD W)=>kGr hW D1 N0 N1 N);refine kM (λW=>Qb wD W) [Tt,Tt,Ff,Tt,Tt,Tt,Tt,Ff,Tt,Tt,Tt,Tt,Tt,Tt,Tt,Tt,Tt,Tt,Tt,Tt,Tt,Tt,Tt,Tt,Tt,Tt] bC3 bC3 pK (bR.drew) ?_;intro wS E;all_goals refine ku ?_
     all_goals refine ku ?_
     all_goals first | refine wkC (yJ) ?_ | refine ku ?_
     all_goals refine ku ?_
     all_goals (refine jy λb O=>?_;cases b <;> try simp only [jw] at O)
     all_goals refine ku ?_
     all_goals refine ku ?_
     all_goals first | refine wkC (yJ) ?_ | refine ku ?_
     all_goals refine ku ?_
     all_goals refine ku ?_
     all_goals (refine jy λb Y=>?_;cases b <;> try simp only [jw] at Y)
     all_goals refine ku ?_
     all_goals refine ku ?_
     all_goals (refine jy λb G=>?_;cases b <;> try simp only [jw] at G)
     iterate 11
      all_goals refine ku ?_
     all_goals (refine jy λb H=>?_;cases b <;> try simp only [jw] at H)
     all_goals refine kS ?_
     all_goals have EQ:=(tQ hq (tQ ED E))
     all_goals first
       | (have L:=yD (HB.out (show _=false by rw [J.out];simp only [okA0,Ae,Ab,Ag,Ah,Ac,Ad,Ak,Al,Ai,Aj,Am,Aq,O,Y,G,H]));clear HB HX HM J;have F:=(tQ o (tQ EC EQ));go_wp2;go_ret;exact ⟨kX L.out.symm,F⟩)
       | (have L:=yD (HX.out (show _=true by rw [J.out];simp only [okA0,Ae,Ab,Ag,Ah,Ac,Ad,Ak,Al,Ai,Aj,Am,Aq,O,Y,G,H]));clear HB HX HM J;go_wp2;go_roundw;(case rel=>exact ⟨j + 1,by omega,by go_num,L,EQ⟩);(case measure=>simp [intOf];omega))
   have L:=yD (bj.out ((kXh HM.out an I).trans (by have:=aa.out;simpa using this)));have F:=(tQ o (tQ EC hq));have ak:¬ (j:Int) < P.length:=bC9;exact lY
 have L:=yD (vPends_yes HN.out hlt hk)
 have b3:¬ (k:Int) < l.length:=bC9
 go_wp2
 go_ret
 exact ⟨kX L.out.symm,o⟩
def kJt {w:Au} {cx:List Value} {x:yB} (hx:jr.raw w cx x) :
    Calls prog 9 #[.agg cx.toArray] w (bQ w (.bool (kAq x))):=by
 obtain ⟨d4,d7,en,el,eg,ef,rfl,ad,a3,bi,a9,az,ba,bm,bz,dg⟩:=yS hx
 obtain ⟨cw,b6,rfl,d6⟩:=kD.sl ad
 obtain ⟨cz,co,rfl,d8⟩:=kD.sl a9
 obtain ⟨dk,c8,rfl,eh⟩:=kD.sl az
 obtain ⟨dj,di,rfl,ek⟩:=kD.sl ba
 obtain ⟨c5,c4,rfl,eq⟩:=kD.sl bm
 obtain ⟨c3,cm,rfl,ej⟩:=kD.sl bz
 have hl:=ad
 have R:=kD.kAd hl
 have H1:=yD a3
 have H4:=yD az
 have H6:=yD bm
 have Y:=yD bz
 clear hx ad a3 bi a9 az ba bm bz dg
 go_enter func9,ntmps9
 go_wp2
 generalize D:World.alloc w _=N
 obtain ⟨EB,K0,K1,K2,K3,K4,K5,K6,K7⟩:=xE
 clear D
 replace hl:=hl.below EB
 go_loopw [8] (λi wr=>∃ k:Nat,k<=x.1.length/\i=.int .i64 k/\Hid (yh (λj=>kGw x.1 j (x.1.getD j voidD)) k=true)/\Qb N wr) (λi _=>x.1.length - (intOf i).toNat)
 case atStart=>exact ⟨0,Nat.zero_le _,rfl,yD rfl,bR⟩
 obtain ⟨k,hk,rfl,HN,o⟩:=hrel
 replace K0:=cL o K0
 replace K1:=cL o K1
 replace K2:=cL o K2
 replace K3:=cL o K3
 replace K4:=cL o K4
 replace K5:=cL o K5
 replace K6:=cL o K6
 replace K7:=cL o K7
 by_cases hlt:k < x.1.length
 · have ag:=yD (kD.kCb (hl.below o) hk);have hb:=λq=>kVb (x:=x) hlt q;have av:=λq=>kRl hlt q HN.out;obtain ⟨qb,qo,rfl,ae,af,ah,cc,ck,qr,ar,ax,a2,an,a4⟩:=kD.get5 (hl.below o) (i:=k) bC9 rfl;generalize x.1[k]=z at *;have HB:=yD hb;have HX:=yD av;clear hb av;obtain ⟨bg,dc,b2,Z,aj,ap,ao,au,bq,bh,cq⟩:=jb qr;simp only [Ap,and_true] at Z;obtain ⟨rfl,rfl,rfl,rfl,rfl⟩:=Z;obtain ⟨ac,ay,rfl,bd⟩:=kD.sl ap;obtain ⟨ai,bc,rfl,bl⟩:=kD.sl ao;obtain ⟨am,bu,rfl,ce⟩:=kD.sl bq;have bt:=Aw.2 hlt;have bp:=Ar k;have c1:(k:Int)<=(b6:Int):=bC9;have a8:k<=b6:=bC9;go_upto_region 4 with fail;generalize X:World.alloc wr _=wC;have EC:Qb wr wC:=rO;have M0:Qd wC wr 0 (.slice ac z.1.length ay):=tL;have M1:Qd wC wr 1 (.slice ai z.2.1.length bc):=tL;have M2:Qd wC wr 2 (.slice am z.2.2.1.length bu):=tL;have M3:Qd wC wr 3 (.int .i64 z.2.2.2.1):=tL;have M4:Qd wC wr 4 (.int .i64 z.2.2.2.2):=tL;replace K0:=cL EC K0;clear X;have FX:=yD (λ(W:Au) (hW:Qb wC W)=>kKa hW K0 M0 M1 M2 M3 M4);refine kM (λW=>Qb wC W) [Tt,Ff,Tt,Tt,Tt,Tt,Tt,Tt,Tt,Tt,Ff,Tt,Tt] bC3 bC3 pK (bR.drew) ?_;intro wS E;all_goals refine ku ?_
   all_goals first | refine wkB (kJu (kD.raw.below qr (tQ EC E))) (λwS1 E=>?_) | refine ku ?_
   all_goals refine ku ?_
   all_goals (refine jy λb a1=>?_;cases b <;> try simp only [jw] at a1)
   iterate 6
    all_goals refine ku ?_
   all_goals first | refine wkB (kWy (kD.raw.below ag.out (tQ EC E)) (kD.raw.below aj (tQ EC E))) (λwS1 E=>?_) | refine ku ?_
   all_goals refine ku ?_
   all_goals (refine jy λb a6=>?_;cases b <;> try simp only [jw] at a6)
   all_goals refine kS ?_
   all_goals have F:=(tQ o (tQ EC E))
   all_goals first
     | (have L:=yD (HB.out (show _=false by simp only [kGw,Ae,Ab,Ag,Ah,Ac,Ad,Ak,Al,Ai,Aj,Am,Aq,a1,a6]));clear HB HX HN ag;go_wp2;go_ret;exact ⟨kX L.out.symm,(tQ EB F)⟩)
     | (have L:=yD (HX.out (show _=true by simp only [kGw,Ae,Ab,Ag,Ah,Ac,Ad,Ak,Al,Ai,Aj,Am,Aq,a1,a6]));clear HB HX HN ag;go_wp2;go_roundw;(case rel=>exact ⟨k + 1,by omega,by go_num,L,F⟩);(case measure=>simp [intOf];omega))
 have L:=yD (kRm (x:=x) HN.out hlt hk)
 have b3:¬ (k:Int) < x.1.length:=bC9
 go_upto_region 7 with fail
 have FX:=yD (λ(W:Au) (hW:Qb wr W)=>cLs8 hW K0 K1 K2 K3 K4 K5 K6 K7)
 refine jE (λW=>Qb wr W) [Tt,Tt,Tt,Tt,Tt,Tt,Tt,Ff,Tt,Tt,Tt,Tt,Ff,Tt,Tt,Tt,Tt,Ff,Tt,Tt,Tt,Tt,Ff,Tt,Tt,Tt,Tt,Tt,Tt,Tt,Tt,Tt,Tt,Tt,Tt,Tt] bR ?_
 intro wS E
 iterate 4
  all_goals refine ku ?_
 all_goals (refine jy λb O=>?_;cases b <;> try simp only [jw] at O)
 all_goals refine ku ?_
 all_goals refine ku ?_
 all_goals first | refine wkB (kId (kD.raw.below H1.out ((tQ EB o).trans (E.mono (Av (tQ EB o)))))) (λwS1 E=>?_) | refine ku ?_
 all_goals refine ku ?_
 all_goals (refine jy λb J=>?_;cases b <;> try simp only [jw] at J)
 all_goals refine ku ?_
 all_goals refine ku ?_
 all_goals first | refine wkB (kNk (kD.raw.below H4.out ((tQ EB o).trans (E.mono (Av (tQ EB o)))))) (λwS1 E=>?_) | refine ku ?_
 all_goals refine ku ?_
 all_goals (refine jy λb H=>?_;cases b <;> try simp only [jw] at H)
 all_goals refine ku ?_
 all_goals refine ku ?_
 all_goals first | refine wkB (kPb (kD.raw.below H6.out ((tQ EB o).trans (E.mono (Av (tQ EB o)))))) (λwS1 E=>?_) | refine ku ?_
 all_goals refine ku ?_
 all_goals (refine jy λb aq=>?_;cases b <;> try simp only [jw] at aq)
 all_goals refine ku ?_
 all_goals refine ku ?_
 all_goals first | refine wkB (kIc (kD.raw.below Y.out ((tQ EB o).trans (E.mono (Av (tQ EB o)))))) (λwS1 E=>?_) | refine ku ?_
 all_goals refine ku ?_
 all_goals (refine jy λb G=>?_;cases b <;> try simp only [jw] at G)
 iterate 5
  all_goals refine ku ?_
 all_goals (refine jy λb V=>?_;cases b <;> try simp only [jw] at V)
 iterate 4
  all_goals refine ku ?_
 all_goals (refine jy λb I=>?_;cases b <;> try simp only [jw] at I)
 all_goals refine kS ?_
 all_goals have F:=(tQ EB (tQ o E))
 all_goals first
   | (have U:=yD (show kAq x=false by rw [L.out];simp only [kRg,Ae,Ab,Ag,Ah,Ac,Ad,Ak,Al,Ai,Aj,Am,Aq,O,J,H,aq,G,V,I]);go_wp2;go_ret;exact ⟨kX U.out.symm,F⟩)
   | (have U:=yD (show kAq x=true by rw [L.out];simp only [kRg,Ae,Ab,Ag,Ah,Ac,Ad,Ak,Al,Ai,Aj,Am,Aq,O,J,H,aq,G,V,I]);go_wp2;go_ret;exact ⟨kX U.out.symm,F⟩)
def Touch.cellAt {S:Nat->Prop} {w w':Au} {b i:Nat} {v:Value} (h:Touch S w w') (hb:¬ S b) (k:Qc w b i v):Qc w' b i v:=by
 exact aA
def kPl (t:jN) (x:yB):yB:=(x.1++[t],x.2)
def kNq (t:jN) (x:yB):Bool:=kAq (kPl t x)
def addL (t:jN) (x:yB):yB:=if kNq t x then kPl t x else x
def addL_no {t:jN} {x:yB} (h:kAq (kPl t x)=false):addL t x=x/\kNq t x=false:=by unfold addL kNq;rw [h];exact ⟨rfl,rfl⟩
def addL_yes {t:jN} {x:yB} (h:kAq (kPl t x)=true):addL t x=kPl t x/\kNq t x=true:=by unfold addL kNq;rw [h];exact ⟨rfl,rfl⟩
def nodeOk_len {x:yB} (h:kAq x=true):x.1.length<=8:=by
 unfold kAq kRg at h;simp only [Bool.and_eq_true,decide_eq_true_eq] at h;have:=h.2.1.1.1.1.1.1;omega
def kXw {α β:Type} {r:kD α} {q:kD β} {w:Au} {cs ds:List Value} {x:α} {y:β} (h:r.raw w cs x) (k:q.raw w ds y):(kD.pair r q).raw w (cs++ds) (x,y) :=
  ⟨cs,ds,λ_=>True,λ_=>True,rfl,h,k,λ_ _=>trivial,λ_ _=>trivial,λh=>Bool.noConfusion h⟩
def kUh {w:Au} {cx:List Value} {x:yB} (hx:jr.rd w cx x) {ct:List Value} {t:jN} (ht:jJ.rd w ct t) :
    Calls prog 132 #[.agg cx.toArray,.agg ct.toArray] w λe w'=>∃ cs,e=.returned (.tuple #[.agg cs.toArray,.bool (kNq t x)])/\jr.own w' cs (addL t x) (jX w.heap.size w'.heap.size)/\Qb w w':=by
 have HX:=yD hx
 have dq:=yD ht
 have a5:x.1.length<=16777216:=hx.2.1.1
 obtain ⟨d4,d7,en,el,eg,ef,rfl,ad,a3,bi,a9,az,ba,bm,bz,dg⟩:=yS hx.1
 obtain ⟨cw,b6,rfl,d6⟩:=kD.sl ad
 obtain ⟨cz,co,rfl,d8⟩:=kD.sl a9
 obtain ⟨dk,c8,rfl,eh⟩:=kD.sl az
 obtain ⟨dj,di,rfl,ek⟩:=kD.sl ba
 obtain ⟨c5,c4,rfl,eq⟩:=kD.sl bm
 obtain ⟨c3,cm,rfl,ej⟩:=kD.sl bz
 obtain ⟨ez,em,eo,rfl,c7,cq,cl,dw,c1,dt,da⟩:=jb ht.1
 obtain ⟨dh,dn,rfl,ee⟩:=kD.sl cq
 obtain ⟨ea,dr,rfl,e1⟩:=kD.sl cl
 obtain ⟨d2,dx,rfl,e0⟩:=kD.sl c1
 clear hx ht ad a3 bi a9 az ba bm bz dg c7 cq cl dw c1 dt da
 go_enter func132,ntmps132
 go_wp2_with fail
 generalize D:World.alloc (World.alloc (World.alloc w _) _) _=N
 obtain ⟨EB,K0,K1,K2,K3,K4,K5,K6,K7⟩:=xE
 have D0:Qc N (w.heap.size + 1) 0 (.slice dh t.1.length dn):=tK
 have D1:Qc N (w.heap.size + 1) 1 (.slice ea t.2.1.length dr):=tK
 have D2:Qc N (w.heap.size + 1) 2 (.slice d2 t.2.2.1.length dx):=tK
 have D3:Qc N (w.heap.size + 1) 3 (.int .i64 t.2.2.2.1):=tK
 have D4:Qc N (w.heap.size + 1) 4 (.int .i64 t.2.2.2.2):=tK
 have XR:Hid (Qr N (w.heap.size + 1 + 1) #[.slice none 0 0,Qn 0,.slice none 0 0,.slice none 0 0,.slice none 0 0,.slice none 0 0,.slice none 0 0,Qn 0] 33):=yD rU
 have bu:w.heap.size + 3<=N.heap.size:=bB2
 clear D
 refine (kKj (HX.out.below EB)).mono ?_
 rintro e Y ⟨bv,ds,mid,rfl,O1,R1,ah,b1,O⟩
 have RW:=kXw O1.kBc R1.raw
 obtain ⟨ev,e3,es,ed,e8,er,cv,ag,F,aw,bc,bn,bl,c6,ce,dc⟩:=yS (show jr.raw Y _ x from RW)
 simp only [List.cons_append,List.nil_append,Ap] at cv
 obtain ⟨rfl,rfl⟩:=cv
 obtain ⟨ak,ao,rfl,_⟩:=kD.sl bc
 obtain ⟨aj,af,rfl,_⟩:=kD.sl bn
 obtain ⟨ae,ac,rfl,_⟩:=kD.sl bl
 obtain ⟨aa,Z,rfl,_⟩:=kD.sl c6
 obtain ⟨bj,bh,rfl,_⟩:=kD.sl ce
 obtain ⟨oa,on,oc,ho,bb⟩:=O1.parts;obtain rfl:=ho
 have J:=yD O1;have HR:=yD R1
 have bq:=O.size
 have E1:=(tQ EB O)
 replace XR:=yD (kC XR.out O)
 replace K0:=cL O K0
 replace K1:=cL O K1
 replace K2:=cL O K2
 replace K3:=cL O K3
 replace K4:=cL O K4
 replace K5:=cL O K5
 replace K6:=cL O K6
 replace K7:=cL O K7
 replace D0:=cL O D0
 replace D1:=cL O D1
 replace D2:=cL O D2
 replace D3:=cL O D3
 replace D4:=cL O D4
 clear O1 R1 RW O EB ag F aw bc bn bl c6 ce dc
 go_upto_region 2 with fail
 generalize X:World.alloc Y _=wC
 have ab:Qb Y wC:=rO
 have XM:Hid (Qr wC Y.heap.size #[.slice oa on oc,Qn x.2.1.1,Qs ak x.2.1.2 ao,Qs aj x.2.2.1 af,Qs ae x.2.2.2.1 ac,Qs aa x.2.2.2.2.1 Z,Qs bj x.2.2.2.2.2.1 bh,Qn x.2.2.2.2.2.2] 33):=yD vD
 have ca:Y.heap.size + 1<=wC.heap.size:=bB7
 clear X
 have EC:=(tQ E1 ab)
 replace XR:=yD (kC XR.out ab)
 replace J:=yD (J.out.below ab)
 replace HR:=yD (HR.out.below ab)
 have M0:=kE XM.out (j:=0) rfl
 replace K0:=cL ab K0
 replace K1:=cL ab K1
 replace K2:=cL ab K2
 replace K3:=cL ab K3
 replace K4:=cL ab K4
 replace K5:=cL ab K5
 replace K6:=cL ab K6
 replace K7:=cL ab K7
 replace D0:=cL ab D0
 replace D1:=cL ab D1
 replace D2:=cL ab D2
 replace D3:=cL ab D3
 replace D4:=cL ab D4
 have FX:=yD (λ(W:Au) (hW:Qb wC W)=>kKa hW M0 D0 D1 D2 D3 D4)
 refine yH (λW=>Qb wC W) [Tt,Tt,Tt,Ff,Ff] bC3 bC3 pK (bR.drew) ?_
 intro wS E
 iterate 3
  all_goals refine ku ?_
 all_goals first|(refine kI rfl E ?_)|(refine kw rfl (λK H=>?_);go_simp;refine (kBw (dq.out.below (tQ EC E))).mono ?_;rintro e wT ⟨tc,rfl,OT,aq⟩;obtain ⟨cf,c2,df,rfl,al,b7,b4,cg,b8,ch,cd⟩:=jb OT.raw;obtain ⟨a7,br,rfl,dd⟩:=kD.sl b7;obtain ⟨bx,b9,rfl,db⟩:=kD.sl b4;obtain ⟨be,a8,rfl,c9⟩:=kD.sl b8;clear al b7 b4 cg b8 ch cd;have bo:=aq.size;have du:=E.size;have c0:=yD OT;replace E:=(tQ E aq);refine H _ _ E ?_;clear H K aq OT)
 all_goals refine jF ?_
 all_goals first|(refine kI rfl E ?_)|(refine kw rfl (λK H=>?_);go_simp;refine H _ _ (E.alloc E.size _) ?_;clear H K)
 all_goals refine jF ?_
 all_goals refine jc ?_
 replace XR:=yD (kC XR.out E)
 replace XM:=yD (kC XM.out E)
 replace J:=yD (J.out.below E)
 replace HR:=yD (HR.out.below E)
 have ET:=(tQ EC E)
 have ax:=E.size
 replace K0:=cL E K0
 replace K1:=cL E K1
 replace K2:=cL E K2
 replace K3:=cL E K3
 replace K4:=cL E K4
 replace K5:=cL E K5
 replace K6:=cL E K6
 replace K7:=cL E K7
 go_wp2_with (at_builtin;refine kD.kFs rfl _ _ 24 rfl (r:=jJ) (e:=68) underlying24 kOx rfl bC8 bC8 J.out bD1 bD1 rfl c0.out rfl mM bC9 ?_)
 intro v2 V hown bf
 have R:=yD hown;have am:=yD bf
 obtain ⟨va,vn,vc,hv,a1⟩:=hown.parts;obtain rfl:=hv
 have a6:=bf.size
 simp at a6
 clear hown bf
 have TU:Touch (jX N.heap.size mid) wT V:=(Touch.of_below (bR.alloc nL _)).trans (am.out.wide (λk h=>h.2))
 have bt:=TU.kC XM.out (λq=>by have q1:=q.1;have q2:=q.2;omega)
 have N0:=kE bt (j:=0) rfl
 have NF:=Aa V Y.heap.size 0 _ _ bt
 have bg:vn<=16777217:=by have:=a1.out;simp at this;omega
 go_upto_region 3 with fail
 generalize G:World.setCell V ⟨Y.heap.size,0,none⟩ _=w3
 have TW:Touch (λk=>k=Y.heap.size) V w3:=by rw [<- G];exact kD.zH [_] V _ 0
 have av:Hid (Qr w3 Y.heap.size #[.slice va vn vc,Qn x.2.1.1,Qs ak x.2.1.2 ao,Qs aj x.2.2.1 af,Qs ae x.2.2.2.1 ac,Qs aa x.2.2.2.2.1 Z,Qs bj x.2.2.2.2.2.1 bh,Qn x.2.2.2.2.2.2] 33):=yD (by
   rw [<- G];have y0:=heap_setCell_same _ (Y.heap.size) 0 _ 33 (.slice va vn vc) bt;exact y0)
 clear G
 have TA:Touch (λk=>jX N.heap.size mid k\/k=Y.heap.size) wT w3:=(TU.wide (λk h=>.inl h)).trans (TW.wide (λk h=>.inr h))
 have bk:=TW.size
 have o:=yD (TA.kC XR.out (λq=>by rcases q with q | q;(have q1:=q.1;omega);omega))
 have b0:=yD (HR.out.touch TA (λi p q=>by have L:=p.1;have p2:=p.2;rcases q with q | q;(have q2:=q.2;omega);omega))
 have ai:=yD (R.out.touch TW (λi p q=>by rcases p with p | p | p;(have p2:=p.2;omega);(have L:=p.1;omega);(have L:=p.1;omega)))
 have E3:=ET.trans (TA.below (B:=w.heap.size) (by have:=ET.size;omega) (λi q=>by rcases q with q | q;(have q1:=q.1;omega);omega))
 replace K0:=TA.cellAt fP K0
 replace K1:=TA.cellAt fP K1
 replace K2:=TA.cellAt fP K2
 replace K3:=TA.cellAt fP K3
 replace K4:=TA.cellAt fP K4
 replace K5:=TA.cellAt fP K5
 replace K6:=TA.cellAt fP K6
 replace K7:=TA.cellAt fP K7
 clear TU bt N0 NF TW TA XR XM J HR R am E ET
 have a2:Hid (x.1.length < 16777216->jr.own w3 [.slice va vn vc,Qn x.2.1.1,Qs ak x.2.1.2 ao,Qs aj x.2.2.1 af,Qs ae x.2.2.2.1 ac,Qs aa x.2.2.2.2.1 Z,Qs bj x.2.2.2.2.2.1 bh,Qn x.2.2.2.2.2.2] (kPl t x) (jX N.heap.size w3.heap.size)):=yD (λhl=>kD.jl (r:=kD.slice 68 jJ) (q:=(kD.pair kN (kD.pair (kD.slice 43 kH) (kD.pair (kD.slice 99 jG) (kD.pair (kD.slice 77 kY) (kD.pair (kD.slice 108 kL) kD.int)))))) (cs:=[.slice va vn vc]) (ds:=[.int .i64 x.2.1.1,.slice ak x.2.1.2.length ao,.slice aj x.2.2.1.length af,.slice ae x.2.2.2.1.length ac,.slice aa x.2.2.2.2.1.length Z,.slice bj x.2.2.2.2.2.1.length bh,.int .i64 x.2.2.2.2.2.2]) (x:=x.1++[t]) (y:=x.2) (S:=jX N.heap.size w3.heap.size) (ai.out.own (by simp;unfold Big;omega)) b0.out (λi p=>by rcases p with p | p | p;exact ⟨p.1,by have:=p.2;omega⟩;exact ⟨by have:=p.1;omega,by have:=p.2;omega⟩;exact ⟨by have:=p.1;omega,by have:=p.2;omega⟩) (λi p=>⟨by have:=p.1;omega,by have:=p.2;omega⟩) (λi p q=>by have q1:=q.1;have q2:=q.2;rcases p with p | p | p;(have p2:=p.2;omega);(have L:=p.1;omega);(have L:=p.1;omega)))
 have U:Hid (jr.raw w3 [.slice va vn vc,Qn x.2.1.1,Qs ak x.2.1.2 ao,Qs aj x.2.2.1 af,Qs ae x.2.2.2.1 ac,Qs aa x.2.2.2.2.1 Z,Qs bj x.2.2.2.2.2.1 bh,Qn x.2.2.2.2.2.2] (kPl t x)):=yD (kXw ai.out.kBc b0.out.raw)
 clear ai b0
 have M0:=kE av.out (j:=0) rfl
 have M1:=kE av.out (j:=1) rfl
 have M2:=kE av.out (j:=2) rfl
 have M3:=kE av.out (j:=3) rfl
 have M4:=kE av.out (j:=4) rfl
 have M5:=kE av.out (j:=5) rfl
 have M6:=kE av.out (j:=6) rfl
 have M7:=kE av.out (j:=7) rfl
 go_wp2_with fail
 refine (kSc U.out).mono ?_
 rintro e w4 ⟨rfl,an⟩
 have E4:=(tQ E3 an)
 have bw:=an.size
 replace o:=yD (kC o.out an)
 replace a2:=yD (λhl=>(a2.out hl).below an)
 replace K0:=cL an K0
 replace M0:=cL an M0
 replace K1:=cL an K1
 replace M1:=cL an M1
 replace K2:=cL an K2
 replace M2:=cL an M2
 replace K3:=cL an K3
 replace M3:=cL an M3
 replace K4:=cL an K4
 replace M4:=cL an M4
 replace K5:=cL an K5
 replace M5:=cL an M5
 replace K6:=cL an K6
 replace M6:=cL an M6
 replace K7:=cL an K7
 replace M7:=cL an M7
 clear an U av E3
 cases hv:kAq (kPl t x)
 · have HQ:=yD (addL_no hv);clear hv a2;go_wp2_with fail;refine (kKi (HX.out.below E4)).mono ?_;rintro e w8 ⟨tc,rfl,O8,ay⟩;obtain ⟨e4,ep,fa,ey,e7,e9,rfl,ap,au,d1,b2,bd,a4,b3,ck,dz⟩:=yS O8.raw;obtain ⟨eb,dp,rfl,eu⟩:=kD.sl ap;obtain ⟨ec,d5,rfl,ew⟩:=kD.sl b2;obtain ⟨d0,dm,rfl,et⟩:=kD.sl bd;obtain ⟨dy,d9,rfl,e5⟩:=kD.sl a4;obtain ⟨d3,dv,rfl,ei⟩:=kD.sl b3;obtain ⟨de,dl,rfl,e6⟩:=kD.sl ck;clear ap au d1 b2 bd a4 b3 ck dz;have bp:=yD O8;have E8:=(tQ E4 ay);have cc:=ay.size;have X8:=kC o.out ay;clear O8 ay o;have R0:=kE (b:=w.heap.size + 1 + 1) X8 (j:=0) rfl;have F0:=Aa w8 (w.heap.size + 1 + 1) 0 _ _ X8;have R1:=kE (b:=w.heap.size + 1 + 1) X8 (j:=1) rfl;have F1:=Aa w8 (w.heap.size + 1 + 1) 1 _ _ X8;have R2:=kE (b:=w.heap.size + 1 + 1) X8 (j:=2) rfl;have F2:=Aa w8 (w.heap.size + 1 + 1) 2 _ _ X8;have R3:=kE (b:=w.heap.size + 1 + 1) X8 (j:=3) rfl;have F3:=Aa w8 (w.heap.size + 1 + 1) 3 _ _ X8;have R4:=kE (b:=w.heap.size + 1 + 1) X8 (j:=4) rfl;have F4:=Aa w8 (w.heap.size + 1 + 1) 4 _ _ X8;have R5:=kE (b:=w.heap.size + 1 + 1) X8 (j:=5) rfl;have F5:=Aa w8 (w.heap.size + 1 + 1) 5 _ _ X8;have R6:=kE (b:=w.heap.size + 1 + 1) X8 (j:=6) rfl;have F6:=Aa w8 (w.heap.size + 1 + 1) 6 _ _ X8;have R7:=kE (b:=w.heap.size + 1 + 1) X8 (j:=7) rfl;have F7:=Aa w8 (w.heap.size + 1 + 1) 7 _ _ X8;go_wp2;refine bodyPost_ret (v:=.tuple #[.agg #[Qs eb x.1 dp,Qn x.2.1.1,Qs ec x.2.1.2 d5,Qs d0 x.2.2.1 dm,Qs dy x.2.2.2.1 d9,Qs d3 x.2.2.2.2.1 dv,Qs de x.2.2.2.2.2.1 dl,Qn x.2.2.2.2.2.2],.bool false]) dB rfl ⟨[_,_,_,_,_,_,_,_],by rw [HQ.out.2],?_,?_⟩
   · rw [HQ.out.1];exact (kD.own.out bp.out dR).wide fJ
   repeat (first|(with_reducible exact E8) | refine Below.setCell ?_ qX _)
 have HQ:=yD (addL_yes hv)
 have ar:=yD (nodeOk_len hv)
 have b5:=yD (a2.out (by have:=ar.out;simp [kPl] at this;omega))
 clear hv a2
 have R0:=kE (b:=w.heap.size + 1 + 1) o.out (j:=0) rfl
 have F0:=Aa w4 (w.heap.size + 1 + 1) 0 _ _ o.out
 have R1:=kE (b:=w.heap.size + 1 + 1) o.out (j:=1) rfl
 have F1:=Aa w4 (w.heap.size + 1 + 1) 1 _ _ o.out
 have R2:=kE (b:=w.heap.size + 1 + 1) o.out (j:=2) rfl
 have F2:=Aa w4 (w.heap.size + 1 + 1) 2 _ _ o.out
 have R3:=kE (b:=w.heap.size + 1 + 1) o.out (j:=3) rfl
 have F3:=Aa w4 (w.heap.size + 1 + 1) 3 _ _ o.out
 have R4:=kE (b:=w.heap.size + 1 + 1) o.out (j:=4) rfl
 have F4:=Aa w4 (w.heap.size + 1 + 1) 4 _ _ o.out
 have R5:=kE (b:=w.heap.size + 1 + 1) o.out (j:=5) rfl
 have F5:=Aa w4 (w.heap.size + 1 + 1) 5 _ _ o.out
 have R6:=kE (b:=w.heap.size + 1 + 1) o.out (j:=6) rfl
 have F6:=Aa w4 (w.heap.size + 1 + 1) 6 _ _ o.out
 have R7:=kE (b:=w.heap.size + 1 + 1) o.out (j:=7) rfl
 have F7:=Aa w4 (w.heap.size + 1 + 1) 7 _ _ o.out
 go_wp2
 refine bodyPost_ret (v:=.tuple #[.agg #[.slice va vn vc,Qn x.2.1.1,Qs ak x.2.1.2 ao,Qs aj x.2.2.1 af,Qs ae x.2.2.2.1 ac,Qs aa x.2.2.2.2.1 Z,Qs bj x.2.2.2.2.2.1 bh,Qn x.2.2.2.2.2.2],.bool true]) dB rfl ⟨[_,_,_,_,_,_,_,_],by rw [HQ.out.2],?_,?_⟩
 · rw [HQ.out.1];exact (kD.own.out b5.out dR).wide fB
 repeat (first|(with_reducible exact E4) | refine Below.setCell ?_ qX _)
end Go.Proofs.YtonmjkmaadgceabGreat

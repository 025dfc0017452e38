/-
  Measurements.
-/
import Derived.Test.YthocbplmdjkifaaGreatVStoreI
import Derived.Test.YthocbplmdjkifaaGreatCopyN
set_option linter.unusedVariables false
set_option linter.defProp false
set_option linter.unusedSimpArgs false
set_option linter.unnecessarySimpa false
set_option maxRecDepth 100000
set_option maxHeartbeats 4000000
open Bool renaming true->Tt,false->Ff
open Go renaming frozen_of_row->Aa,World->Aq,Value->Au,Calls->Bb
open Bool renaming not_false->Ab,and_false->Ac,false_and->Ad,not_true->Ae,and_true->Ag,true_and->Ah,or_false->Ai,false_or->Aj,or_true->Ak,true_or->Al,not_not->Am,eq_iff_iff->Aw
open _root_ renaming List->Ap,ge_iff_le->Ar
open Int renaming natCast_nonneg->Av,ofNat_lt->Az
open Go.RowKit.Below renaming size->Ay
open List.cons renaming injEq->Ba
namespace Go.Proofs.YthocbplmdjkifaaGreat
open Go.RowKit _root_.Go.Proofs.Tryz
def kGn (l:Ap kF) (k:Nat) (x:kF):Bool:=!((((!zx x.1 || ((x.1.length:Int)==0)) || ((x.2.1.length:Int)==0)) || !inR x.2.2 0 100000) || decide (idxOf (jV x.1) (l.take k) ≥ 0))
def okPendI_no {l:Ap kF} {k:Nat} {x:kF} (h:kGn l k x=false):kCx l k x=false:=by
 unfold kGn at h;unfold kCx;cases hz:((x.2.1.length:Int)==0)
 · rw [hz] at h;generalize zx x.1=b1 at *;generalize ((x.1.length:Int)==0)=b2 at *;generalize inR x.2.2 0 100000=L at *;generalize decide (idxOf (jV x.1) (l.take k) ≥ 0)=N at *;generalize kNn x.2.1=O at *;revert h;cases b1 <;> cases b2 <;> cases L <;> cases N <;> cases O <;> decide
 have e:kNn x.2.1=false:=by
  have h0:x.2.1.length=0:=by have:=eq_of_beq hz;omega
  unfold kNn;rw [h0];rfl
 rw [e];generalize zx x.1=b1 at *;generalize ((x.1.length:Int)==0)=b2 at *;generalize inR x.2.2 0 100000=L at *;generalize decide (idxOf (jV x.1) (l.take k) ≥ 0)=N at *;cases b1 <;> cases b2 <;> cases L <;> cases N <;> decide
def kOg {l:Ap kF} {k:Nat} {x:kF} (h:kGn l k x=true):kCx l k x=kNn x.2.1/\0 < x.2.1.length:=by
 unfold kGn at h;unfold kCx;have hz:0 < x.2.1.length:=by
  cases hz:((x.2.1.length:Int)==0)
  · simp at hz;exact List.length_pos_iff.2 hz
  rw [hz] at h;simp at h
 refine ⟨?_,hz⟩;generalize zx x.1=b1 at *;generalize ((x.1.length:Int)==0)=b2 at *;generalize inR x.2.2 0 100000=L at *;generalize decide (idxOf (jV x.1) (l.take k) ≥ 0)=N at *;generalize kNn x.2.1=O at *;generalize ((x.2.1.length:Int)==0)=U at *;revert h;cases b1 <;> cases b2 <;> cases L <;> cases N <;> cases O <;> cases U <;> decide
def vPends_yes {l:Ap kF} {k:Nat} (q:zN (λj=>kCx l j (l.getD j ([],[],0))) k=true) (h:¬ k < l.length) (hk:k<=l.length):kDf l=decide ((l.length:Int)<=12):=by
 rw [kWf q h hk,Aw];simp;omega
def kRz {w:Aq} {vl:Au} {l:Ap kF} (hl:(kD.slice 107 kH).raw w [vl] l) :
    Bb prog 83 #[vl] w (bQ w (.bool (kDf l))):=by
 obtain ⟨al,pl,rfl,ll⟩:=kD.sl hl
 have br:=kD.kBj hl
 go_enter func83,ntmps83
 go_wp2
 go_loopw [9] (λi wr=>∃ k:Nat,k<=l.length/\i=.int .i64 k/\Hid (zN (λj=>kCx l j (l.getD j ([],[],0))) k=true)/\Qb w wr) (λi _=>l.length - (intOf i).toNat)
 case atStart=>exact ⟨0,Nat.zero_le _,rfl,yD rfl,bR⟩
 obtain ⟨k,hk,rfl,Y,o⟩:=hrel
 by_cases hlt:k < l.length
 · have ay:=yD (kD.kBz (hl.below o) hk);have hb:=λq=>kYv hlt q;have N:=λq=>kWe hlt q Y.out;obtain ⟨qb,qo,rfl,ac,ae,af,qr,ap,aq,au⟩:=kD.zL (hl.below o) (i:=k) bF2 rfl;generalize l[k]=x at *;have HB:Hid (kGn l k x=false->kDf l=false):=yD (λq=>hb (okPendI_no q));have HX:Hid (kGn l k x=true->0 < x.2.1.length/\(kNn x.2.1=false->kDf l=false)/\(kNn x.2.1=true->zN (λj=>kCx l j (l.getD j ([],[],0))) (k + 1)=true)):=yD (λq=>⟨(kOg q).2,λp=>hb ((kOg q).1.trans p),λp=>N ((kOg q).1.trans p)⟩);clear hb N;obtain ⟨rfl,ah,aj,ak,aw⟩:=jP qr;obtain ⟨ad,a4,rfl,a6,am,bk,rfl,bq⟩:=kD.sx aj (kD.sl ak);obtain ⟨be,b9,ch⟩:=xJ;go_upto_region 4 with fail;refine ja ?_;intro wC EC F _;obtain ⟨M0,M1,M2⟩:=kBd F;clear F;have FX:=yD (λ(W:Aq) (hW:Qb wC W)=>kMt hW M0 M1 M2);refine kK (λW=>Qb wC W) [Tt,Tt,Ff,Tt,Tt,Tt,Tt,Tt,Tt,Tt,Tt,Tt,Tt,Tt,Tt,Tt,Tt,Tt,Tt,Tt,Ff,Tt,Tt,Tt,Tt,Tt,Tt,Tt,Tt,Ff,Tt,Tt] bE5 bE5 qW (bR.drew) ?_;intro wS E;all_goals (refine kS ?_;refine kS ?_;(first | refine zi (kBo (kD.raw.below ah (tQ EC E))) (λwS1 E=>?_) | refine kS ?_);refine kS ?_;refine jT λb a1=>?_;cases b <;> try simp only [jS] at a1)
   all_goals ((iterate 6 refine kS ?_);refine jT λb an=>?_;cases b <;> try simp only [jS] at an)
   all_goals ((iterate 5 refine kS ?_);refine jT λb U=>?_;cases b <;> try simp only [jS] at U)
   all_goals (refine kS ?_;refine kS ?_;(first | refine wkC (yC) ?_ | refine kS ?_);refine kS ?_;refine kS ?_;refine jT λb ag=>?_;cases b <;> try simp only [jS] at ag)
   all_goals ((iterate 5 refine kS ?_);(first | refine zi (kBn (kD.raw.below ay.out (tQ EC E)) (kD.raw.below ah (tQ EC E))) (λwS1 E=>?_) | refine kS ?_);refine kS ?_;refine jT λb X=>?_;cases b <;> try simp only [jS] at X)
   all_goals (refine kM ?_;have D:=(tQ o (tQ EC E)))
   all_goals first
     | (have L:=yD (HB.out (show kGn l k x=false by simp only [kGn,Ae,Ab,Ag,Ah,Ac,Ad,Ak,Al,Ai,Aj,Am,Ar,a1,an,U,ag,X]));clear HB HX Y ay;go_wp2;go_ret;exact ⟨kJ L.out.symm,D⟩)
     | have L:=yD (HX.out (show kGn l k x=true by simp only [kGn,Ae,Ab,Ag,Ah,Ac,Ad,Ak,Al,Ai,Aj,Am,Ar,a1,an,U,ag,X]))
   all_goals try clear HB HX
   have C1:=M1;have pn:=yD ak;have V:=yD L.out.1;have a7:=yD L.out.2.1;have ba:=yD L.out.2.2;clear L a1 an U ag X Y ay;generalize x.2.1=P at *;have M1:=cL E C1;go_wp2;clear M1;go_loopw [49] (λi wq=>∃ j:Nat,j<=P.length/\i=.int .i64 j/\Hid (zN (λj=>kNi P j (P.getD j (0,0,0))) j=true)/\Qb wC wq) (λi _=>P.length - (intOf i).toNat);case atStart=>exact ⟨0,Nat.zero_le _,rfl,yD rfl,E⟩
   obtain ⟨j,I,rfl,HM,hq⟩:=hrel;replace C1:=cL hq C1;by_cases av:j < P.length
   · have c9:=Az.2 av;have bi:=Av j;obtain ⟨pb,po,rfl,bg,bl,bm,pr,ax,a3,bc⟩:=kD.zL (pn.out.below (tQ EC hq)) (i:=j) bF2 rfl;have hb:=λq=>a7.out (vAsk_bad av q);have N:=λq=>jDc av q HM.out;by_cases h0:0 < j
     · obtain ⟨i,hi⟩:∃ i,j - 1=i:=⟨_,rfl⟩;have hil:i < P.length:=bF2;have J:=yD (kPl (l:=P) (x:=P[j]) h0 hi hil);have bv:(j:Int) - 1=(i:Int):=bF2;obtain ⟨yb,yo,yE,bh,bo,bn,yr,H,bf,ab⟩:=kD.zL (pn.out.below (tQ EC hq)) hil rfl;simp only [Option.some.injEq,Addr.mk.injEq,and_true] at yE;obtain ⟨rfl,rfl⟩:=yE;generalize P[i]=u at *;obtain ⟨rfl,rfl,rfl,fe,er,fj⟩:=yf yr;clear yr;have hw:IntKind.i64.wrap (i:Int)=i:=IntWalk.i64_in _ bF2;have a8:=Av i;have hi2:=Az.2 hil;clear hi;have hp:decide ((j:Int) > 0)=true:=bE6;generalize P[j]=y at *;have HB:=yD hb;have HX:=yD N;clear hb N;obtain ⟨rfl,rfl,rfl,a2,az,a9⟩:=yf pr;go_upto_region 9 with fail;refine ja ?_;intro wD ED F _;have D1:=cL ED C1;replace H:=cL ED H;obtain ⟨N0,N1,N2⟩:=kBd F;clear F;have FX:=yD (λ(W:Aq) (hW:Qb wD W)=>kTx hW D1 N0 N1 N2 H);refine kK (λW=>Qb wD W) [Tt,Tt,Ff,Tt,Tt,Tt,Tt,Ff,Tt,Tt,Tt,Tt,Tt,Tt,Tt,Tt,Tt,Tt,Tt,Tt,Tt,Tt,Tt,Tt,Tt,Tt] bE5 bE5 qW (bR.drew) ?_;intro wS E;all_goals (refine kS ?_;refine kS ?_;(first | refine wkC (yC) ?_ | refine kS ?_);refine kS ?_;refine jT λb a1=>?_;cases b <;> try simp only [jS] at a1)
       all_goals (refine kS ?_;refine kS ?_;(first | refine wkC (yC) ?_ | refine kS ?_);refine kS ?_;refine kS ?_;refine jT λb ar=>?_;cases b <;> try simp only [jS] at ar)
       all_goals (refine kS ?_;refine kS ?_;refine jT λb O=>?_;cases b <;> try simp only [jS] at O)
       all_goals ((iterate 11 refine kS ?_);refine jT λb R=>?_;cases b <;> try simp only [jS] at R)
       all_goals (refine kM ?_;have EQ:=(tQ hq (tQ ED E)))
       all_goals first
         | (have L:=yD (HB.out (show _=false by rw [J.out];simp only [okA,Ae,Ab,Ag,Ah,Ac,Ad,Ak,Al,Ai,Aj,Am,Ar,a1,ar,O,R]));clear HB HX HM J;have D:=(tQ o (tQ EC EQ));go_wp2;go_ret;exact ⟨kJ L.out.symm,D⟩)
         | (have L:=yD (HX.out (show _=true by rw [J.out];simp only [okA,Ae,Ab,Ag,Ah,Ac,Ad,Ak,Al,Ai,Aj,Am,Ar,a1,ar,O,R]));clear HB HX HM J;refine Qg ?_;exact ⟨j + 1,by omega,by go_num,L,EQ⟩)
     have J:=yD (kMi (l:=P) (x:=P[j]) h0);have hp:decide ((j:Int) > 0)=false:=bE6;generalize P[j]=y at *;have HB:=yD hb;have HX:=yD N;clear hb N;obtain ⟨rfl,rfl,rfl,a2,az,a9⟩:=yf pr;go_upto_region 9 with fail;refine ja ?_;intro wD ED F _;have D1:=cL ED C1;obtain ⟨N0,N1,N2⟩:=kBd F;clear F;have FX:=yD (λ(W:Aq) (hW:Qb wD W)=>kDk hW D1 N0 N1 N2);refine kK (λW=>Qb wD W) [Tt,Tt,Ff,Tt,Tt,Tt,Tt,Ff,Tt,Tt,Tt,Tt,Tt,Tt,Tt,Tt,Tt,Tt,Tt,Tt,Tt,Tt,Tt,Tt,Tt,Tt] bE5 bE5 qW (bR.drew) ?_;intro wS E;all_goals (refine kS ?_;refine kS ?_;(first | refine wkC (yC) ?_ | refine kS ?_);refine kS ?_;refine jT λb a1=>?_;cases b <;> try simp only [jS] at a1)
     all_goals (refine kS ?_;refine kS ?_;(first | refine wkC (yC) ?_ | refine kS ?_);refine kS ?_;refine kS ?_;refine jT λb ar=>?_;cases b <;> try simp only [jS] at ar)
     all_goals (refine kS ?_;refine kS ?_;refine jT λb O=>?_;cases b <;> try simp only [jS] at O)
     all_goals ((iterate 11 refine kS ?_);refine jT λb R=>?_;cases b <;> try simp only [jS] at R)
     all_goals (refine kM ?_;have EQ:=(tQ hq (tQ ED E)))
     all_goals first
       | (have L:=yD (HB.out (show _=false by rw [J.out];simp only [okA0,Ae,Ab,Ag,Ah,Ac,Ad,Ak,Al,Ai,Aj,Am,Ar,a1,ar,O,R]));clear HB HX HM J;have D:=(tQ o (tQ EC EQ));go_wp2;go_ret;exact ⟨kJ L.out.symm,D⟩)
       | (have L:=yD (HX.out (show _=true by rw [J.out];simp only [okA0,Ae,Ab,Ag,Ah,Ac,Ad,Ak,Al,Ai,Aj,Am,Ar,a1,ar,O,R]));clear HB HX HM J;refine Qg ?_;exact ⟨j + 1,by omega,by go_num,L,EQ⟩)
   have L:=yD (ba.out ((jDd HM.out av I).trans (by have:=V.out;simpa using this)));have D:=(tQ o (tQ EC hq));have aa:¬ (j:Int) < P.length:=bF2;refine Qg ?_;exact ⟨k + 1,by omega,by go_num,L,D⟩
 have L:=yD (vPends_yes Y.out hlt hk)
 have dq:¬ (k:Int) < l.length:=bF2
 go_wp2
 go_ret
 exact ⟨kJ L.out.symm,o⟩
def kNk {w:Aq} {cx:Ap Au} {x:jX} (hx:jo.raw w cx x) :
    Bb prog 24 #[.agg cx.toArray] w (bQ w (.bool (kAy x))):=by
 obtain ⟨f6,f4,gp,gm,gj,gb,rfl,V,a9,bl,bi,bg,bo,b1,cf,du⟩:=yO hx
 obtain ⟨em,d7,rfl,gi,dx,dw,rfl,gf,e9,e6,rfl,gx,e7,e4,rfl,gz,e0,ey,rfl,g3,en,ej,rfl,gv⟩:=kD.sx V (kD.sx bi (kD.sx bg (kD.sx bo (kD.sx b1 (kD.sl cf)))))
 have hl:=V
 have br:=kD.kBj hl
 have H1:=yD a9
 have H4:=yD bg
 have H6:=yD b1
 have H7:=yD cf
 clear hx V a9 bl bi bg bo b1 cf du
 go_enter func24,ntmps24
 go_wp2
 refine ja ?_
 intro U Z F _
 obtain ⟨K0,K1,K2,K3,K4,K5,K6,K7⟩:=yu F
 clear F
 replace hl:=hl.below Z
 go_loopw [8] (λi wr=>∃ k:Nat,k<=x.1.length/\i=.int .i64 k/\Hid (zN (λj=>kJm x.1 j (x.1.getD j kNa)) k=true)/\Qb U wr) (λi _=>x.1.length - (intOf i).toNat)
 case atStart=>exact ⟨0,Nat.zero_le _,rfl,yD rfl,bR⟩
 obtain ⟨k,hk,rfl,Y,o⟩:=hrel
 replace K0:=cL o K0
 replace K1:=cL o K1
 replace K2:=cL o K2
 replace K3:=cL o K3
 replace K4:=cL o K4
 replace K5:=cL o K5
 replace K6:=cL o K6
 replace K7:=cL o K7
 by_cases hlt:k < x.1.length
 · have ay:=yD (kD.kBz (hl.below o) hk);have hb:=λq=>jAm (x:=x) hlt q;have N:=λq=>kWr hlt q Y.out;obtain ⟨qb,qo,rfl,ac,ae,af,bt,bu,qr,ap,aq,au,a7,ba⟩:=kD.kTr (hl.below o) (i:=k) bF2 rfl;generalize x.1[k]=z at *;have HB:=yD hb;have HX:=yD N;clear hb N;obtain ⟨rfl,rfl,ah,aj,ak,aw,bj,bd,bp⟩:=kAi qr;obtain ⟨ad,a4,rfl,a6,am,bk,rfl,bq,ao,bx,rfl,bw⟩:=kD.sx aj (kD.sx ak (kD.sl bj));have be:=Az.2 hlt;have b9:=Av k;have ch:(k:Int)<=(d7:Int):=bF2;go_upto_region 4 with fail;refine ja ?_;intro wC EC F _;replace K0:=cL EC K0;obtain ⟨M0,M1,M2,M3,M4⟩:=yZ F;clear F;have FX:=yD (λ(W:Aq) (hW:Qb wC W)=>kJf hW K0 M0 M1 M2 M3 M4);refine kK (λW=>Qb wC W) [Tt,Ff,Tt,Tt,Tt,Tt,Tt,Tt,Tt,Tt,Ff,Tt,Tt] bE5 bE5 qW (bR.drew) ?_;intro wS E;all_goals (refine kS ?_;(first | refine zi (kNl (kD.raw.below qr (tQ EC E))) (λwS1 E=>?_) | refine kS ?_);refine kS ?_;refine jT λb bh=>?_;cases b <;> try simp only [jS] at bh)
   all_goals ((iterate 6 refine kS ?_);(first | refine zi (kRi (kD.raw.below ay.out (tQ EC E)) (kD.raw.below ah (tQ EC E))) (λwS1 E=>?_) | refine kS ?_);refine kS ?_;refine jT λb ab=>?_;cases b <;> try simp only [jS] at ab)
   all_goals (refine kM ?_;have D:=(tQ o (tQ EC E)))
   all_goals first
     | (have L:=yD (HB.out (show _=false by simp only [kJm,Ae,Ab,Ag,Ah,Ac,Ad,Ak,Al,Ai,Aj,Am,Ar,bh,ab]));clear HB HX Y ay;go_wp2;go_ret;exact ⟨kJ L.out.symm,(tQ Z D)⟩)
     | (have L:=yD (HX.out (show _=true by simp only [kJm,Ae,Ab,Ag,Ah,Ac,Ad,Ak,Al,Ai,Aj,Am,Ar,bh,ab]));clear HB HX Y ay;refine Qg ?_;exact ⟨k + 1,by omega,by go_num,L,D⟩)
 have L:=yD (kWs (x:=x) Y.out hlt hk)
 have dq:¬ (k:Int) < x.1.length:=bF2
 go_upto_region 7 with fail
 have FX:=yD (λ(W:Aq) (hW:Qb wr W)=>cLs8 hW K0 K1 K2 K3 K4 K5 K6 K7)
 refine kL (λW=>Qb wr W) [Tt,Tt,Tt,Tt,Tt,Tt,Tt,Ff,Tt,Tt,Tt,Tt,Ff,Tt,Tt,Tt,Tt,Ff,Tt,Tt,Tt,Tt,Ff,Tt,Tt,Tt,Tt,Tt,Tt,Tt,Tt,Tt,Tt,Tt,Tt,Tt] bR ?_
 intro wS E
 all_goals ((iterate 4 refine kS ?_);refine jT λb a1=>?_;cases b <;> try simp only [jS] at a1)
 all_goals (refine kS ?_;refine kS ?_;(first | refine zi (kLh (kD.raw.below H1.out ((tQ Z o).trans (E.mono (Ay (tQ Z o)))))) (λwS1 E=>?_) | refine kS ?_);refine kS ?_;refine jT λb a5=>?_;cases b <;> try simp only [jS] at a5)
 all_goals (refine kS ?_;refine kS ?_;(first | refine zi (kRz (kD.raw.below H4.out ((tQ Z o).trans (E.mono (Ay (tQ Z o)))))) (λwS1 E=>?_) | refine kS ?_);refine kS ?_;refine jT λb dp=>?_;cases b <;> try simp only [jS] at dp)
 all_goals (refine kS ?_;refine kS ?_;(first | refine zi (kTn (kD.raw.below H6.out ((tQ Z o).trans (E.mono (Ay (tQ Z o)))))) (λwS1 E=>?_) | refine kS ?_);refine kS ?_;refine jT λb O=>?_;cases b <;> try simp only [jS] at O)
 all_goals (refine kS ?_;refine kS ?_;(first | refine zi (kLg (kD.raw.below H7.out ((tQ Z o).trans (E.mono (Ay (tQ Z o)))))) (λwS1 E=>?_) | refine kS ?_);refine kS ?_;refine jT λb J=>?_;cases b <;> try simp only [jS] at J)
 all_goals ((iterate 5 refine kS ?_);refine jT λb R=>?_;cases b <;> try simp only [jS] at R)
 all_goals ((iterate 4 refine kS ?_);refine jT λb H=>?_;cases b <;> try simp only [jS] at H)
 all_goals (refine kM ?_;have D:=(tQ Z (tQ o E)))
 all_goals first
   | (have X:=yD (show kAy x=false by rw [L.out];simp only [kWp,Ae,Ab,Ag,Ah,Ac,Ad,Ak,Al,Ai,Aj,Am,Ar,a1,a5,dp,O,J,R,H]);go_wp2;go_ret;exact ⟨kJ X.out.symm,D⟩)
   | (have X:=yD (show kAy x=true by rw [L.out];simp only [kWp,Ae,Ab,Ag,Ah,Ac,Ad,Ak,Al,Ai,Aj,Am,Ar,a1,a5,dp,O,J,R,H]);go_wp2;go_ret;exact ⟨kJ X.out.symm,D⟩)
def Touch.cellAt {S:Nat->Prop} {w w':Aq} {b i:Nat} {v:Au} (h:Touch S w w') (hb:¬ S b) (k:Qc w b i v):Qc w' b i v:=by
 exact aA
def kUd (t:jQ) (x:jX):jX:=(x.1++[t],x.2)
def kSl (t:jQ) (x:jX):Bool:=kAy (kUd t x)
def addL (t:jQ) (x:jX):jX:=if kSl t x then kUd t x else x
def addL_no {t:jQ} {x:jX} (h:kAy (kUd t x)=false):addL t x=x/\kSl t x=false:=by unfold addL kSl;rw [h];exact ⟨rfl,rfl⟩
def addL_yes {t:jQ} {x:jX} (h:kAy (kUd t x)=true):addL t x=kUd t x/\kSl t x=true:=by unfold addL kSl;rw [h];exact ⟨rfl,rfl⟩
def nodeOk_len {x:jX} (h:kAy x=true):x.1.length<=8:=by
 unfold kAy kWp at h;simp only [Bool.and_eq_true,decide_eq_true_eq] at h;have:=h.2.1.1.1.1.1.1;omega
def jDu {α β:Type} {r:kD α} {q:kD β} {w:Aq} {cs ds:Ap Au} {x:α} {y:β} (h:r.raw w cs x) (k:q.raw w ds y):(kD.pair r q).raw w (cs++ds) (x,y) :=
  ⟨cs,ds,λ_=>True,λ_=>True,rfl,h,k,λ_ _=>trivial,λ_ _=>trivial,λh=>Bool.noConfusion h⟩
def kZp {w:Aq} {cx:Ap Au} {x:jX} (hx:jo.rd w cx x) {ct:Ap Au} {t:jQ} (ht:jF.rd w ct t) :
    Bb prog 172 #[.agg cx.toArray,.agg ct.toArray] w λe w'=>∃ cs,e=.returned (.tuple #[.agg cs.toArray,.bool (kSl t x)])/\jo.own w' cs (addL t x) (jg w w')/\Qb w w':=by
 have HX:=yD hx
 have b4:=yD ht
 have bc:x.1.length<=16777216:=hx.2.1.1
 obtain ⟨f6,f4,gp,gm,gj,gb,rfl,V,a9,bl,bi,bg,bo,b1,cf,du⟩:=yO hx.1
 obtain ⟨em,d7,rfl,gi,dx,dw,rfl,gf,e9,e6,rfl,gx,e7,e4,rfl,gz,e0,ey,rfl,g3,en,ej,rfl,gv⟩:=kD.sx V (kD.sx bi (kD.sx bg (kD.sx bo (kD.sx b1 (kD.sl cf)))))
 obtain ⟨js,jj,jk,rfl,fp,ef,ee,fv,eg,fu,fq⟩:=jf ht.1
 obtain ⟨g4,h8,rfl,i9,hj,ia,rfl,ju,hd,ic,rfl,jt⟩:=kD.sx ef (kD.sx ee (kD.sl eg))
 clear hx ht V a9 bl bi bg bo b1 cf du fp ef ee fv eg fu fq
 go_enter func172,ntmps172
 go_wp2_with fail
 generalize R:World.alloc (World.alloc (World.alloc w _) _) _=U
 obtain ⟨Z,K0,K1,K2,K3,K4,K5,K6,K7⟩:=x9
 have D0:Qc U (w.heap.size + 1) 0 (Qs g4 t.1 h8):=vS
 have D1:Qc U (w.heap.size + 1) 1 (Qs hj t.2.1 ia):=vS
 have D2:Qc U (w.heap.size + 1) 2 (Qs hd t.2.2.1 ic):=vS
 have D3:Qc U (w.heap.size + 1) 3 (Qn t.2.2.2.1):=vS
 have D4:Qc U (w.heap.size + 1) 4 (Qn t.2.2.2.2):=vS
 have XR:Hid (Qr U (w.heap.size + 1 + 1) #[.slice none 0 0,Qn 0,.slice none 0 0,.slice none 0 0,.slice none 0 0,.slice none 0 0,.slice none 0 0,Qn 0] 33):=yD tN
 have bx:w.heap.size + 3<=U.heap.size:=bD4
 clear R
 refine (kOa (HX.out.below Z)).mono ?_
 rintro e w1 ⟨bv,ds,mid,rfl,O1,R1,bk,bq,N⟩
 have RW:=jDu O1.kKg R1.raw
 obtain ⟨jp,dh,db,c6,dm,da,ba,ag,el,fn,gu,g6,az,bf,a7,bj⟩:=yO (show jo.raw w1 _ x from RW)
 simp only [List.cons_append,List.nil_append,Ba] at ba
 obtain ⟨rfl,rfl⟩:=ba
 obtain ⟨b3,ae,rfl,_,bp,ad,rfl,_,bh,ac,rfl,_,bd,L,rfl,_,aw,av,rfl,_⟩:=kD.sx gu (kD.sx g6 (kD.sx az (kD.sx bf (kD.sl a7))))
 obtain ⟨oa,on,oc,ho,ay⟩:=O1.parts;obtain rfl:=ho
 have J:=yD O1;have HR:=yD R1
 have bn:=N.size
 have E1:=(tQ Z N)
 replace XR:=yD (kC XR.out N)
 obtain ⟨K0,K1,K2⟩:=DD
 replace K3:=cL N K3
 replace K4:=cL N K4
 replace K5:=cL N K5
 replace K6:=cL N K6
 replace K7:=cL N K7
 replace D0:=cL N D0
 replace D1:=cL N D1
 replace D2:=cL N D2
 replace D3:=cL N D3
 replace D4:=cL N D4
 clear O1 R1 RW N Z ag el fn gu g6 az bf a7 bj
 go_upto_region 2 with fail
 generalize O:World.alloc w1 _=wC
 have aa:Qb w1 wC:=tC
 have XM:Hid (Qr wC w1 #[.slice oa on oc,Qn x.2.1.1,Qs b3 x.2.1.2 ae,Qs bp x.2.2.1 ad,Qs bh x.2.2.2.1 ac,Qs bd x.2.2.2.2.1 L,Qs aw x.2.2.2.2.2.1 av,Qn x.2.2.2.2.2.2] 33):=yD (by rw [<- O];exact jD rfl)
 have bt:w1.heap.size + 1<=wC.heap.size:=bE0
 clear O
 have EC:=(tQ E1 aa)
 replace XR:=yD (kC XR.out aa)
 replace J:=yD (J.out.below aa)
 replace HR:=yD (HR.out.below aa)
 have M0:=kE XM.out (j:=0) rfl
 replace K0:=cL aa K0
 replace K1:=cL aa K1
 replace K2:=cL aa K2
 replace K3:=cL aa K3
 replace K4:=cL aa K4
 replace K5:=cL aa K5
 replace K6:=cL aa K6
 replace K7:=cL aa K7
 replace D0:=cL aa D0
 replace D1:=cL aa D1
 replace D2:=cL aa D2
 replace D3:=cL aa D3
 replace D4:=cL aa D4
 have FX:=yD (λ(W:Aq) (hW:Qb wC W)=>kJf hW M0 D0 D1 D2 D3 D4)
 refine zZ (λW=>Qb wC W) [Tt,Tt,Tt,Ff,Ff] bE5 bE5 qW (bR.drew) ?_
 intro wS E
 all_goals ((iterate 3 refine kS ?_);(first|(refine kI rfl E ?_)|(refine ku rfl (λK H=>?_);go_simp;refine (kBb (b4.out.below (tQ EC E))).mono ?_;rintro e wT ⟨tc,rfl,OT,ai⟩;obtain ⟨fr,c5,c4,rfl,b7,dy,ed,e3,ei,cd,br⟩:=jf OT.raw;obtain ⟨b0,dd,rfl,g8⟩:=kD.sl dy;obtain ⟨b6,ck,rfl,c7⟩:=kD.sl ed;obtain ⟨bb,a3,rfl,c3⟩:=kD.sl ei;clear b7 dy ed e3 ei cd br;have fx:=ai.size;have cc:=E.size;have cg:=yD OT;replace E:=(tQ E ai);refine H _ _ E ?_;clear H K ai OT));refine jH ?_;(first|(refine kI rfl E ?_)|(refine ku rfl (λK H=>?_);go_simp;refine H _ _ (E.alloc E.size _) ?_;clear H K));refine jH ?_;refine yt ?_)
 replace XR:=yD (kC XR.out E)
 replace XM:=yD (kC XM.out E)
 replace J:=yD (J.out.below E)
 replace HR:=yD (HR.out.below E)
 have ET:=(tQ EC E)
 have be:=E.size
 replace K0:=cL E K0
 replace K1:=cL E K1
 replace K2:=cL E K2
 replace K3:=cL E K3
 replace K4:=cL E K4
 replace K5:=cL E K5
 replace K6:=cL E K6
 replace K7:=cL E K7
 go_wp2_with (at_builtin;refine kD.kCh rfl _ _ 24 rfl (r:=jF) (e:=60) underlying24 kTk rfl bF1 bF1 J.out bF4 bF4 rfl cg.out rfl nT bF2 ?_)
 intro v2 w2 hown ar
 have ab:=yD hown;have Y:=yD ar
 obtain ⟨va,vn,vc,hv,am⟩:=hown.parts;obtain rfl:=hv
 have ax:=ar.size
 simp at ax
 clear hown ar
 have TU:Touch (jg U mid) wT w2:=(Touch.of_below (bR.alloc nL _)).trans (Y.out.wide (λk h=>h.2))
 have a2:=TU.kC XM.out (λq=>by have q1:=q.1;have q2:=q.2;omega)
 have N0:=kE a2 (j:=0) rfl
 have NF:=Aa w2 w1 0 _ _ a2
 have a1:vn<=16777217:=by have:=am.out;simp at this;omega
 go_upto_region 3 with fail
 generalize ao:World.setCell w2 ⟨w1,0,none⟩ _=w3
 have TW:Touch (λk=>k=w1.heap.size) w2 w3:=by rw [<- ao];exact kD.ze [_] w2 _ 0
 have D:Hid (Qr w3 w1 #[.slice va vn vc,Qn x.2.1.1,Qs b3 x.2.1.2 ae,Qs bp x.2.2.1 ad,Qs bh x.2.2.2.1 ac,Qs bd x.2.2.2.2.1 L,Qs aw x.2.2.2.2.2.1 av,Qn x.2.2.2.2.2.2] 33):=yD (by
   rw [<- ao];have y0:=heap_setCell_same _ (w1.heap.size) 0 _ 33 (.slice va vn vc) a2;exact y0)
 clear ao
 have TA:Touch (λk=>jg U mid k\/k=w1.heap.size) wT w3:=(TU.wide (λk h=>.inl h)).trans (TW.wide (λk h=>.inr h))
 have ap:=TW.size
 have o:=yD (TA.kC XR.out (λq=>by rcases q with q | q;(have q1:=q.1;omega);omega))
 have a4:=yD (HR.out.touch TA (λi p q=>by have p1:=p.1;have p2:=p.2;rcases q with q | q;(have q2:=q.2;omega);omega))
 have aq:=yD (ab.out.touch TW (λi p q=>by rcases p with p | p | p;(have p2:=p.2;omega);(have p1:=p.1;omega);(have p1:=p.1;omega)))
 have E3:=ET.trans (TA.below (B:=w.heap.size) (by have:=ET.size;omega) (λi q=>by rcases q with q | q;(have q1:=q.1;omega);omega))
 replace K0:=TA.cellAt gZ K0
 replace K1:=TA.cellAt gZ K1
 replace K2:=TA.cellAt gZ K2
 replace K3:=TA.cellAt gZ K3
 replace K4:=TA.cellAt gZ K4
 replace K5:=TA.cellAt gZ K5
 replace K6:=TA.cellAt gZ K6
 replace K7:=TA.cellAt gZ K7
 clear TU a2 N0 NF TW TA XR XM J HR ab Y E ET
 have aj:Hid (x.1.length < 16777216->jo.own w3 [.slice va vn vc,Qn x.2.1.1,Qs b3 x.2.1.2 ae,Qs bp x.2.2.1 ad,Qs bh x.2.2.2.1 ac,Qs bd x.2.2.2.2.1 L,Qs aw x.2.2.2.2.2.1 av,Qn x.2.2.2.2.2.2] (kUd t x) (jg U w3)):=yD (λhl=>kD.jq (r:=kD.slice 60 jF) (q:=(kD.pair kP (kD.pair (kD.slice 107 kH) (kD.pair (kD.slice 140 kz) (kD.pair (kD.slice 176 jA) (kD.pair (kD.slice 179 kN) kD.int)))))) (cs:=[.slice va vn vc]) (ds:=[.int .i64 x.2.1.1,.slice b3 x.2.1.2.length ae,.slice bp x.2.2.1.length ad,.slice bh x.2.2.2.1.length ac,.slice bd x.2.2.2.2.1.length L,.slice aw x.2.2.2.2.2.1.length av,.int .i64 x.2.2.2.2.2.2]) (x:=x.1++[t]) (y:=x.2) (S:=jg U w3) (aq.out.own wI) a4.out (λi p=>by rcases p with p | p | p;exact ⟨p.1,by have:=p.2;omega⟩;exact ⟨by have:=p.1;omega,by have:=p.2;omega⟩;exact ⟨by have:=p.1;omega,by have:=p.2;omega⟩) (λi p=>⟨by have:=p.1;omega,by have:=p.2;omega⟩) (λi p q=>by have q1:=q.1;have q2:=q.2;rcases p with p | p | p;(have p2:=p.2;omega);(have p1:=p.1;omega);(have p1:=p.1;omega)))
 have X:Hid (jo.raw w3 [.slice va vn vc,Qn x.2.1.1,Qs b3 x.2.1.2 ae,Qs bp x.2.2.1 ad,Qs bh x.2.2.2.1 ac,Qs bd x.2.2.2.2.1 L,Qs aw x.2.2.2.2.2.1 av,Qn x.2.2.2.2.2.2] (kUd t x)):=yD (jDu aq.out.kKg a4.out.raw)
 clear aq a4
 have M0:=kE D.out (j:=0) rfl
 have M1:=kE D.out (j:=1) rfl
 have M2:=kE D.out (j:=2) rfl
 have M3:=kE D.out (j:=3) rfl
 have M4:=kE D.out (j:=4) rfl
 have M5:=kE D.out (j:=5) rfl
 have M6:=kE D.out (j:=6) rfl
 have M7:=kE D.out (j:=7) rfl
 go_wp2_with fail
 refine (kXe X.out).mono ?_
 rintro e w4 ⟨rfl,F⟩
 have E4:=(tQ E3 F)
 have b5:=F.size
 replace o:=yD (kC o.out F)
 replace aj:=yD (λhl=>(aj.out hl).below F)
 replace K0:=cL F K0
 replace M0:=cL F M0
 replace K1:=cL F K1
 replace M1:=cL F M1
 replace K2:=cL F K2
 replace M2:=cL F M2
 replace K3:=cL F K3
 replace M3:=cL F M3
 replace K4:=cL F K4
 replace M4:=cL F M4
 replace K5:=cL F K5
 replace M5:=cL F M5
 replace K6:=cL F K6
 replace M6:=cL F M6
 replace K7:=cL F K7
 replace M7:=cL F M7
 clear F X D E3
 cases hv:kAy (kUd t x)
 · have HQ:=yD (addL_no hv);clear hv aj;go_wp2_with fail;refine (kIk (HX.out.below E4)).mono ?_;rintro e w8 ⟨tc,rfl,O8,ak⟩;obtain ⟨di,c9,dp,dg,dl,dn,rfl,af,ah,co,a6,au,an,a5,a8,cl⟩:=yO O8.raw;obtain ⟨c1,b2,rfl,de,c2,cw,rfl,df,cm,bz,rfl,dc,ch,cz,rfl,dj,cv,ce,rfl,c8,bu,bw,rfl,dk⟩:=kD.sx af (kD.sx a6 (kD.sx au (kD.sx an (kD.sx a5 (kD.sl a8)))));clear af ah co a6 au an a5 a8 cl;have al:=yD O8;have E8:=(tQ E4 ak);have b9:=ak.size;have X8:=kC o.out ak;clear O8 ak o;have R0:=kE (b:=w.heap.size + 1 + 1) X8 (j:=0) rfl;have F0:=Aa w8 (w.heap.size + 1 + 1) 0 _ _ X8;have R1:=kE (b:=w.heap.size + 1 + 1) X8 (j:=1) rfl;have F1:=Aa w8 (w.heap.size + 1 + 1) 1 _ _ X8;have R2:=kE (b:=w.heap.size + 1 + 1) X8 (j:=2) rfl;have F2:=Aa w8 (w.heap.size + 1 + 1) 2 _ _ X8;have R3:=kE (b:=w.heap.size + 1 + 1) X8 (j:=3) rfl;have F3:=Aa w8 (w.heap.size + 1 + 1) 3 _ _ X8;have R4:=kE (b:=w.heap.size + 1 + 1) X8 (j:=4) rfl;have F4:=Aa w8 (w.heap.size + 1 + 1) 4 _ _ X8;have R5:=kE (b:=w.heap.size + 1 + 1) X8 (j:=5) rfl;have F5:=Aa w8 (w.heap.size + 1 + 1) 5 _ _ X8;have R6:=kE (b:=w.heap.size + 1 + 1) X8 (j:=6) rfl;have F6:=Aa w8 (w.heap.size + 1 + 1) 6 _ _ X8;have R7:=kE (b:=w.heap.size + 1 + 1) X8 (j:=7) rfl;have F7:=Aa w8 (w.heap.size + 1 + 1) 7 _ _ X8;go_wp2;refine bodyPost_ret (v:=.tuple #[.agg (Qh c1 x.1 b2 x.2.1.1 c2 x.2.1.2 cw cm x.2.2.1 bz ch x.2.2.2.1 cz cv x.2.2.2.2.1 ce bu x.2.2.2.2.2.1 bw x.2.2.2.2.2.2),.bool false]) dK rfl ⟨[_,_,_,_,_,_,_,_],by rw [HQ.out.2],?_,?_⟩
   · rw [HQ.out.1];exact (kD.own.out al.out fE).wide gL
   repeat (first|(with_reducible exact E8) | refine Below.setCell ?_ sK _)
 have HQ:=yD (addL_yes hv)
 have b8:=yD (nodeOk_len hv)
 have bm:=yD (aj.out (by have:=b8.out;simp [kUd] at this;omega))
 clear hv aj
 have R0:=kE (b:=w.heap.size + 1 + 1) o.out (j:=0) rfl
 have F0:=Aa w4 (w.heap.size + 1 + 1) 0 _ _ o.out
 have R1:=kE (b:=w.heap.size + 1 + 1) o.out (j:=1) rfl
 have F1:=Aa w4 (w.heap.size + 1 + 1) 1 _ _ o.out
 have R2:=kE (b:=w.heap.size + 1 + 1) o.out (j:=2) rfl
 have F2:=Aa w4 (w.heap.size + 1 + 1) 2 _ _ o.out
 have R3:=kE (b:=w.heap.size + 1 + 1) o.out (j:=3) rfl
 have F3:=Aa w4 (w.heap.size + 1 + 1) 3 _ _ o.out
 have R4:=kE (b:=w.heap.size + 1 + 1) o.out (j:=4) rfl
 have F4:=Aa w4 (w.heap.size + 1 + 1) 4 _ _ o.out
 have R5:=kE (b:=w.heap.size + 1 + 1) o.out (j:=5) rfl
 have F5:=Aa w4 (w.heap.size + 1 + 1) 5 _ _ o.out
 have R6:=kE (b:=w.heap.size + 1 + 1) o.out (j:=6) rfl
 have F6:=Aa w4 (w.heap.size + 1 + 1) 6 _ _ o.out
 have R7:=kE (b:=w.heap.size + 1 + 1) o.out (j:=7) rfl
 have F7:=Aa w4 (w.heap.size + 1 + 1) 7 _ _ o.out
 go_wp2
 refine bodyPost_ret (v:=.tuple #[.agg #[.slice va vn vc,Qn x.2.1.1,Qs b3 x.2.1.2 ae,Qs bp x.2.2.1 ad,Qs bh x.2.2.2.1 ac,Qs bd x.2.2.2.2.1 L,Qs aw x.2.2.2.2.2.1 av,Qn x.2.2.2.2.2.2],.bool true]) dK rfl ⟨[_,_,_,_,_,_,_,_],by rw [HQ.out.2],?_,?_⟩
 · rw [HQ.out.1];exact (kD.own.out bm.out fE).wide fT
 repeat (first|(with_reducible exact E4) | refine Below.setCell ?_ sK _)
def jEd {w:Aq} {c0 c1 c2 c3 c4 c5 N o:Au} {x0:Ap jQ} {x1:kg} {x2:Ap kF} {x3:Ap jK} {x4:Ap jI} {x5:Ap kW} {x6:Int} (h:jo.raw w [c0,c1,c2,c3,c4,c5,N,o] (x0,x1,x2,x3,x4,x5,x6)):(kD.slice 107 kH).raw w [c3] x2:=by
 obtain ⟨rfl,rfl,a0,a1,a2,a3,a4,a5,a6,a7,D⟩:=RNode_rawL h;exact a4
def node_cache {w:Aq} {c0 c2 c3 c4 c5 N o:Au} {x0:Ap jQ} {xc:Int} {xe:Ap kr} {x2:Ap kF} {x3:Ap jK} {x4:Ap jI} {x5:Ap kW} {x6:Int} (h:jo.rd w [c0,Qn xc,c2,c3,c4,c5,N,o] (x0,(xc,xe),x2,x3,x4,x5,x6)):kP.rd w [Qn xc,c2] (xc,xe):=by
 obtain ⟨v0,v2,v3,v4,v5,v6,he,a0,a1,a2,a3,a4,a5,a6,a7,D⟩:=yO h.1;simp only [Ba,and_true] at he;obtain ⟨rfl,h2,rfl,rfl,rfl,rfl,rfl,rfl⟩:=he;exact ⟨a1,h.2.2.1⟩
def kFk {w:Aq} {c0 c1 c2 c3 c4 c5 N o v:Au} {x0:Ap jQ} {x1:kg} {x2 y:Ap kF} {x3:Ap jK} {x4:Ap jI} {x5:Ap kW} {x6:Int} {S T:Nat->Prop}
    (h:jo.own w [c0,c1,c2,c3,c4,c5,N,o] (x0,x1,x2,x3,x4,x5,x6) S) (hv:(kD.slice 107 kH).own w [v] y T) (hd:∀ k,S k->T k->False):jo.own w [c0,c1,c2,v,c4,c5,N,o] (x0,x1,y,x3,x4,x5,x6) (λk=>S k\/T k) :=
  kD.set_right (c:=[c0]) h rfl (λB hB hq=>kD.set_right (c:=[c1,c2]) hq rfl (λB2 E R=>kD.set_left (c:=[c3]) (c':=[v]) R rfl hv (λk a b=>hd k (hB k (E k a)) b)) (λk a b=>hd k (hB k a) b)) hd
def kMj {w:Aq} {c0 c1 c2 c3 c4 c5 N o v:Au} {x0:Ap jQ} {x1:kg} {x2:Ap kF} {x3 y:Ap jK} {x4:Ap jI} {x5:Ap kW} {x6:Int} {S T:Nat->Prop}
    (h:jo.own w [c0,c1,c2,c3,c4,c5,N,o] (x0,x1,x2,x3,x4,x5,x6) S) (hv:(kD.slice 140 kz).own w [v] y T) (hd:∀ k,S k->T k->False):jo.own w [c0,c1,c2,c3,v,c5,N,o] (x0,x1,x2,y,x4,x5,x6) (λk=>S k\/T k) :=
  kD.set_right (c:=[c0]) h rfl (λB hB hq=>kD.set_right (c:=[c1,c2]) hq rfl (λB2 E R=>kD.set_right (c:=[c3]) R rfl (λB3 I H=>kD.set_left (c:=[c4]) (c':=[v]) H rfl hv (λk a b=>hd k (hB k (E k (I k a))) b)) (λk a b=>hd k (hB k (E k a)) b)) (λk a b=>hd k (hB k a) b)) hd
def jFx {w:Aq} {c0 c1 c2 c3 c4 c5 N o v:Au} {x0:Ap jQ} {x1:kg} {x2:Ap kF} {x3:Ap jK} {x4:Ap jI} {x5 y:Ap kW} {x6:Int} {S T:Nat->Prop}
    (h:jo.own w [c0,c1,c2,c3,c4,c5,N,o] (x0,x1,x2,x3,x4,x5,x6) S) (hv:(kD.slice 179 kN).own w [v] y T) (hd:∀ k,S k->T k->False):jo.own w [c0,c1,c2,c3,c4,c5,v,o] (x0,x1,x2,x3,x4,y,x6) (λk=>S k\/T k) :=
  kD.set_right (c:=[c0]) h rfl (λB hB hq=>kD.set_right (c:=[c1,c2]) hq rfl (λB2 E R=>kD.set_right (c:=[c3]) R rfl (λB3 I H=>kD.set_right (c:=[c4]) H rfl (λB4 Y J=>kD.set_right (c:=[c5]) J rfl (λB5 ac D=>kD.set_left (c:=[N]) (c':=[v]) D rfl hv (λk a b=>hd k (hB k (E k (I k (Y k (ac k a))))) b)) (λk a b=>hd k (hB k (E k (I k (Y k a)))) b)) (λk a b=>hd k (hB k (E k (I k a))) b)) (λk a b=>hd k (hB k (E k a)) b)) (λk a b=>hd k (hB k a) b)) hd
def kKh {w:Aq} {c0 c1 c2 c3 c4 c5 N o v u:Au} {x0:Ap jQ} {x1 y:kg} {x2:Ap kF} {x3:Ap jK} {x4:Ap jI} {x5:Ap kW} {x6:Int} {S T:Nat->Prop}
    (h:jo.own w [c0,c1,c2,c3,c4,c5,N,o] (x0,x1,x2,x3,x4,x5,x6) S) (hv:kP.own w [u,v] y T) (hd:∀ k,S k->T k->False):jo.own w [c0,u,v,c3,c4,c5,N,o] (x0,y,x2,x3,x4,x5,x6) (λk=>S k\/T k) :=
  kD.set_right (c:=[c0]) h rfl (λB hB hq=>kD.set_left (c:=[c1,c2]) (c':=[u,v]) hq rfl hv (λk a b=>hd k (hB k a) b)) hd
def kUl (x y:kW):Bool:=!((x.2.1 != y.2.1) || ((x.2.2 != y.2.2) || !eqN x.1 y.1))
def jDb (x y:kW):kUl x y=decide (x=y):=by
 obtain ⟨x0,x1,x2⟩:=x;obtain ⟨y0,y1,y2⟩:=y;rw [Aw];simp [kUl,eqN];exact nO
def kKw {w:Aq} {va O:Au} {a b:(Ap kW)} (V:(kD.slice 179 kN).raw w [va] a) (ag:(kD.slice 179 kN).raw w [O] b) :
    Bb prog 160 #[va,O] w (bQ w (.bool (decide (a=b)))):=by
 obtain ⟨aa,al,rfl,la,ab,ar,rfl,lb⟩:=kD.sx V (kD.sl ag)
 go_enter func160,ntmps160
 by_cases hl:a.length=b.length
 case neg =>
  exact iQ
 obtain ⟨hz,HL⟩:=uX
 clear hl
 go_wp2
 go_loopw [5] (λi wr=>∃ k:Nat,k<=a.length/\i=.int .i64 k/\Hid (a.take k=b.take k)/\Qb w wr) (λi _=>a.length - (intOf i).toNat)
 case atStart=>exact ⟨0,Nat.zero_le _,rfl,yD rfl,bR⟩
 obtain ⟨k,hk,rfl,Y,o⟩:=hrel
 by_cases hlt:k < a.length
 · have ai:k < b.length:=wZ;obtain ⟨pb,po,rfl,bg,bl,bm,pr,ax,a3,bc⟩:=kD.zL (V.below o) (i:=k) bF2 rfl;obtain ⟨qb,qo,rfl,ac,ae,af,qr,ap,aq,au⟩:=kD.zL (ag.below o) (i:=k) bF2 rfl;obtain ⟨hne,H⟩:=vN;generalize a[k]=x at *;generalize b[k]=y at *;obtain ⟨HD,HX⟩:=uV;have I:=yD (jDb x y);clear hne H;obtain ⟨x0,x1,x2⟩:=x;obtain ⟨y0,y1,y2⟩:=y;obtain ⟨rfl,rfl,a2,az,a9,ay⟩:=yG pr;obtain ⟨a8,bf,rfl,bo⟩:=kD.sl az;obtain ⟨rfl,rfl,ah,aj,ak,aw⟩:=yG qr;obtain ⟨ad,a4,rfl,a6⟩:=kD.sl aj;go_wp2_with fail;have FX:=yD (λ(W:Aq) (hW:Qb wr W)=>kJf hW ax a3 bc ap aq au);refine kK (λW=>Qb wr W) [Tt,Tt,Tt,Tt,Tt,Tt,Tt,Tt,Tt,Tt,Tt,Tt,Tt,Tt,Tt,Tt,Tt,Tt,Tt,Tt,Tt,Tt,Tt,Tt,Tt,Tt,Tt,Tt,Tt,Tt,Tt,Tt,Tt,Tt,Tt,Ff,Tt,Tt] bE5 bE5 qW (bR.drew) ?_;intro wS E;all_goals ((iterate 11 refine kS ?_);refine jT λb an=>?_;cases b <;> try simp only [jS] at an)
   all_goals ((iterate 12 refine kS ?_);refine jT λb J=>?_;cases b <;> try simp only [jS] at J)
   all_goals ((iterate 10 refine kS ?_);(first | refine zi (jU (kD.raw.below a2 E) (kD.raw.below ah E)) (λwS1 E=>?_) | refine kS ?_);refine kS ?_;refine jT λb F=>?_;cases b <;> try simp only [jS] at F)
   all_goals (refine kM ?_;have D:=(tQ o E))
   all_goals first
     | (have X:=I.out.symm.trans (show _=false by simp only [kUl,Ae,Ab,Ag,Ah,Ac,Ad,Ak,Al,Ai,Aj,Am,an,J,F]);have L:=yD (HD.out X);clear X I HD HX;go_wp2;go_ret;exact ⟨kJ L.out.symm,D⟩)
     | (have X:=I.out.symm.trans (show _=true by simp only [kUl,Ae,Ab,Ag,Ah,Ac,Ad,Ak,Al,Ai,Aj,Am,an,J,F]);have L:=yD (HX.out X);clear X I HD HX;refine Qg ?_;exact ⟨k + 1,by omega,by go_num,L,D⟩)
 exact iV
def kZb (x y:kW):Bool:=(eqN x.1 y.1 && (x.2.1==y.2.1)) && (x.2.2==y.2.2)
def vMeas_eq (x y:kW):kZb x y=decide (x=y):=by
 obtain ⟨x0,x1,x2⟩:=x;obtain ⟨y0,y1,y2⟩:=y;rw [Aw];simp [kZb,eqN,and_assoc]
def kKj {w:Aq} {cx:Ap Au} {x:kW} (hx:kN.raw w cx x) {cy:Ap Au} {y:kW} (hy:kN.raw w cy y) :
    Bb prog 224 #[.agg cx.toArray,.agg cy.toArray] w (bQ w (.bool (kZb x y))):=by
 have Hx:=yD hx
 obtain ⟨a4,rfl,Y,N,ae,ag⟩:=kDp hx
 obtain ⟨a5,a2,rfl,ay⟩:=kD.sl N
 have Hy:=yD hy
 obtain ⟨a8,rfl,aa,ad,ah,ak⟩:=kDp hy
 obtain ⟨aq,ap,rfl,ba⟩:=kD.sl ad
 go_enter func224,ntmps224
 go_upto_region 1 with fail
 refine kAe ?_
 intro U Z F an _
 obtain ⟨X,o,R⟩:=kBd F
 obtain ⟨I,ac,af⟩:=kBd an
 clear F an
 have FX:=yD (λ(W:Aq) (hW:Qb U W)=>kJf hW X o R I ac af)
 refine kL (λW=>Qb U W) [Tt,Tt,Tt,Tt,Ff,Tt,Tt,Tt,Tt,Tt,Tt,Tt,Tt,Tt,Tt,Tt,Tt,Tt,Tt,Tt] bR ?_
 intro wS E
 all_goals ((iterate 4 refine kS ?_);(first | refine zi (jw (kD.raw.below Y (tQ Z E)) (kD.raw.below aa (tQ Z E))) (λwS1 E=>?_) | refine kS ?_);refine jT λb a3=>?_;cases b <;> try simp only [jS] at a3)
 all_goals ((iterate 6 refine kS ?_);refine jT λb ab=>?_;cases b <;> try simp only [jS] at ab)
 all_goals ((iterate 6 refine kS ?_);refine jT λb O=>?_;cases b <;> try simp only [jS] at O)
 all_goals (refine kM ?_;have D:=(tQ Z E))
 all_goals first
   | (have L:=yD (show (kZb x y)=false by simp only [kZb,Ae,Ab,Ag,Ah,Ac,Ad,Ak,Al,Ai,Aj,Am,a3,ab,O]);go_wp2;go_ret;exact ⟨kJ L.out.symm,D⟩)
   | (have L:=yD (show (kZb x y)=true by simp only [kZb,Ae,Ab,Ag,Ah,Ac,Ad,Ak,Al,Ai,Aj,Am,a3,ab,O]);go_wp2;go_ret;exact ⟨kJ L.out.symm,D⟩)
def kIc {α:Type} {p:α->Bool} {x:Ap α} (h:¬ idxOf p x < 0):∃ k:Nat,k < x.length/\idxOf p x=k:=by
 unfold idxOf at *;cases e:x.findIdx? p with
 | none=>rw [e] at h;simp at h
 | some i=>exact ⟨i,(List.findIdx?_eq_some_iff_getElem.1 e).1,rfl⟩
def zP (l:Ap kW) (n:ko) (f:Int):Int:=if idxOf (zD n f) l < 0 then 0 else (l.getD (idxOf (zD n f) l).toNat ([],0,0)).2.2
def jEn {l:List kW} {n:ko} {f:Int} (h:idxOf (zD n f) l < 0):zP l n f=0:=by unfold zP;rw [if_pos h]
def jBi {l:Ap kW} {n:ko} {f:Int} {k:Nat} (hk:k < l.length) (h:idxOf (zD n f) l=k):zP l n f=l[k].2.2:=by
 unfold zP;rw [h,if_neg bF2,Int.toNat_natCast,jb hk]
def kUp {w:Aq} {vl:Au} {l:Ap kW} (hl:(kD.slice 179 kN).raw w [vl] l) {cn:Ap Au} {n:ko} (hn:kR.raw w cn n) {f:Int} :
    Bb prog 214 #[vl,.agg cn.toArray,.int .i64 f] w (bQ w (.int .i64 (zP l n f))):=by
 have Y:=yD hn
 have HL:=yD hl
 obtain ⟨av,rfl,_⟩:=kw hn
 obtain ⟨aa,al,rfl,la⟩:=kD.sl hl
 clear hn hl
 go_enter func214,ntmps214
 go_wp2_with fail
 refine (kGj (HL.out.below bI) (Y.out.below bI)).mono ?_
 exact nQ
def kVm {w:Aq} {vl:Au} {l:Ap kW} (hl:(kD.slice 179 kN).raw w [vl] l) {cn:Ap Au} {n:ko} (hn:kR.raw w cn n) {f:Int} :
    Bb prog 205 #[vl,.agg cn.toArray,.int .i64 f] w (bQ w (.int .i64 (zP l n f))):=by
 have Y:=yD hn
 have HL:=yD hl
 obtain ⟨av,rfl,_⟩:=kw hn
 obtain ⟨aa,al,rfl,la⟩:=kD.sl hl
 clear hn hl
 go_enter func205,ntmps205
 go_wp2_with fail
 refine (kLe (HL.out.below bI) (Y.out.below bI)).mono ?_
 exact nQ
def kEx:jL prog 224:=yM func224 bE5 bE5
def kLj {w:Aq} {va O:Au} {a b:Ap kW} (V:(kD.slice 179 kN).raw w [va] a) (ag:(kD.slice 179 kN).raw w [O] b) :
    Bb prog 154 #[va,O] w (bQ w (.bool (decide (a=b)))):=by
 go_enter func154,ntmps154
 go_wp2_with fail
 refine (kLv kEx V ag ?_).mono ?_
 · intro wr hb cs ds x y hx hy;have:=kKj hx hy;rw [vMeas_eq] at this;exact this
 exact iT
end Go.Proofs.YthocbplmdjkifaaGreat

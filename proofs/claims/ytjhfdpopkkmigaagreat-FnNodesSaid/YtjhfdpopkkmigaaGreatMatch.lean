/-
  The longest prefix among routes.
-/
import Derived.Test.YtjhfdpopkkmigaaGreatRecS
set_option linter.unusedVariables false
set_option linter.defProp false
set_option linter.unusedSimpArgs false
set_option linter.unnecessarySimpa false
set_option maxRecDepth 100000
set_option maxHeartbeats 4000000
open Bool renaming true->Tt,false->Ff
open Int renaming natCast_nonneg->Aa,ofNat_lt->Ac,toNat_natCast->Ae
open List.cons renaming injEq->Ab
open Go renaming bodyPost_ret->Ad,World->Ak
open List renaming getElem?_cons_succ->Ag,getElem?_cons_zero->Ah,take_of_length_le->Aj
open Go.RowKit renaming intOf->Ai
open _root_ renaming List->Al
open Option.some renaming injEq->Am
open Go.Addr.mk renaming injEq->Ap
namespace Go.Proofs.YtjhfdpopkkmigaaGreat
open Go.RowKit _root_.Go.Proofs.Tryz
def kJt (n p:kr):Bool:=decide ((p.length:Int)<=n.length) && eqN (n.take p.length) p
def prefN_no {n p:kr} (h:¬ p.length<=n.length):kJt n p=false:=by unfold kJt;rw [decide_eq_false bD1];rfl
def kYl {n p:kr} (h:p.length<=n.length):kJt n p=eqN (n.take p.length) p:=by unfold kJt;rw [decide_eq_true bD1];rfl
def clip {n:kr} (k:Int):∃ m:Nat,max 0 (min k n.length)=(m:Int)/\m<=n.length/\n.take k.toNat=n.take m:=by
 refine ⟨(max 0 (min k n.length)).toNat,by omega,by omega,?_⟩;by_cases h:k.toNat<=n.length
 · congr 1;omega
 rw [Aj bD1,Aj bD1]
def mB (n:kr) (l:Al kz):Nat->Int
  | 0=>-1
  | k + 1=>if kJt n (l.getD k ([],0,0)).1=true/\(mB n l k < 0\/(l.getD (mB n l k).toNat ([],0,0)).1.length < (l.getD k ([],0,0)).1.length) then k else mB n l k
def mB_no {n:kr} {l:Al kz} {k:Nat} (hk:k < l.length) (h:kJt n l[k].1=false):mB n l (k + 1)=mB n l k:=by
 conv=>lhs;unfold mB
 rw [jZ hk,if_neg (by simp [h])]
def mB_new {n:kr} {l:Al kz} {k:Nat} (hk:k < l.length) (h:kJt n l[k].1=true) (h2:mB n l k=-1):mB n l (k + 1)=k:=by
 conv=>lhs;unfold mB
 rw [jZ hk,if_pos ⟨h,.inl bD1⟩]
def mB_up {n:kr} {l:Al kz} {k j:Nat} (hk:k < l.length) (h:kJt n l[k].1=true) (I:j < l.length) (h2:mB n l k=j) (h3:l[j].1.length < l[k].1.length):mB n l (k + 1)=k:=by
 conv=>lhs;unfold mB
 rw [jZ hk,h2,Ae,jZ I,if_pos ⟨h,.inr h3⟩]
def mB_keep {n:kr} {l:Al kz} {k j:Nat} (hk:k < l.length) (I:j < l.length) (h2:mB n l k=j) (h3:¬ l[j].1.length < l[k].1.length):mB n l (k + 1)=j:=by
 conv=>lhs;unfold mB
 rw [jZ hk,h2,Ae,jZ I,if_neg (λq=>by rcases q.2 with h | h;omega;exact h3 h)]
def mOk (n:kr) (l:Al kz):Bool:=!decide (mB n l l.length < 0)
def kDp (n:kr) (l:Al kz):kr:=if mB n l l.length < 0 then [] else (l.getD (mB n l l.length).toNat ([],0,0)).1
def m_no {n:kr} {l:List kz} (h:mB n l l.length=-1):mOk n l=false/\kDp n l=[]:=by simp [mOk,kDp,h]
def m_yes {n:kr} {l:Al kz} {j:Nat} (I:j < l.length) (h:mB n l l.length=j):mOk n l=true/\kDp n l=l[j].1:=by
 unfold mOk kDp;rw [h,Ae,jZ I,if_neg bD1,decide_eq_false bD1];exact ⟨rfl,rfl⟩
def kUs {w:Ak} {ca:Al Value} {x:kr} {k:Int} (ha:kW.rd w ca x):Calls prog 180 #[.agg ca.toArray,.int .i64 k] w (kAe kW (x.take k.toNat) w):=by
 have HA:=yD ha;obtain ⟨av,rfl,G⟩:=ko ha.1;obtain ⟨aa,am,rfl,la⟩:=kD.sl G;have Z:=kD.kBe G;have hb:x.length<=16777216:=ha.2.1;obtain ⟨m,hm,D,W⟩:=clip (n:=x) k;have az:=yD W;clear ha G W;go_enter func180,ntmps180;go_wp2_with fail;refine kYc.mono ?_;rintro e w1 ⟨rfl,rfl⟩;go_wp2_with fail;refine specMax_c.mono ?_;rintro e w1 ⟨rfl,rfl⟩;rw [hm];have N:=yD (kD.kOh (e:=9) (r:=kD.str) HA.out D);have hl:(x.take m).length=m:=bC6;generalize x.take m=y at *;subst hl;have ad:(y.length:Int)<=am:=bD1;have O0:kD.kU 9 kD.str (((w.alloc (.cells #[.slice aa x.length am] 36)).alloc (.cells #[.slice none 0 0] 36)).alloc (.cells #[] 9)) (.slice (some ⟨w.heap.size + 1 + 1,0,none⟩) 0 0) [] (λk=>k=w.heap.size + 1 + 1):=by
  exact aG
 go_wp2_with (at_builtin;refine kD.yU rfl _ _ 34 rfl (r:=kD.str) (e:=9) underlying34 kCe rfl bD0 bD0 kD.kDj (B:=w.heap.size + 1 + 1) O0 bD3 bD3 (N.out.below bG) qV bD2 bC6 ?_);intro v2 V hown o hz;obtain ⟨a2,c2,hv⟩:=hown.zW;obtain rfl:=hv;have hw:=hown.own (by simp [Big];omega);have L:Hid (kW.own V [Qs a2 y c2] y (jU (w.heap.size + 1 + 1) V.heap.size)):=yD hw;have F:Qb w V:=Below.trans bG (o.mono rE);clear hown O0 hw;obtain ⟨R0,F0⟩:=xU;clear o;go_wp2;refine Ad (v:=.agg #[Qs a2 y c2]) (by simp [results,results180,go_sem,R0,F0]) rfl ⟨[_],rfl,?_,?_⟩
 · rw [az.out];exact (L.out.setCell fB).wide fZ
 exact F.setCell bD2 _
def kFj {w:Ak} {ca cb:Al Value} {a b:kr} (ha:kW.rd w ca a) (hb:kW.rd w cb b) :
    Calls prog 129 #[.agg ca.toArray,.agg cb.toArray] w (bQ w (.bool (kJt a b))):=by
 have HA:=yD ha
 have HB:=yD hb
 obtain ⟨av,rfl,G⟩:=ko ha.1
 obtain ⟨bv,rfl,al⟩:=ko hb.1
 clear ha hb
 obtain ⟨aa,am,rfl,la⟩:=kD.sl G
 obtain ⟨ab,aq,rfl,lb⟩:=kD.sl al
 have Z:=kD.kBe G
 go_enter func129,ntmps129
 go_wp2_with fail
 generalize J:World.alloc (World.alloc w _) _=N
 obtain ⟨R,K0,K1⟩:=DY
 clear J
 by_cases hc:b.length<=a.length
 · have hd:decide ((b.length:Int)<=a.length)=true:=bA1;obtain ⟨ad,bm,ac,U,FX⟩:=IJ;refine jo (λW=>Qb N W) [(0,true),(1,true),(2,true),(3,true),(4,true),(5,true),(6,true),(7,true),(8,true),(9,true),(10,true),(11,true),(13,true),(12,false),(14,false),(15,true),(16,true)] bC5 bC5 pY (bR.drew) ?_;intro wS E;simp only [jB,Ag,Ah,List.map_cons,List.map_nil];iterate 7
    all_goals refine kX ?_
   all_goals (refine jd λb X=>?_;cases b <;> try simp only [jc] at X)
   iterate 5
    all_goals refine kX ?_
   all_goals first|(refine kG rfl E ?_)|(refine kY rfl (λK H=>?_);go_simp;refine (kUs (HA.out.below (tQ R E))).mono ?_;rintro e wT ⟨tc,rfl,OT,an⟩;replace E:=(tQ E an);refine H _ _ E ?_;clear H K an)
   all_goals refine jD ?_
   all_goals first | refine wkB (zD OT.raw (HB.out.1.below (tQ R E))) (λwS1 E=>?_) | refine kX ?_
   all_goals refine kX ?_
   all_goals refine kX ?_
   all_goals refine kR ?_
   exact lK
 obtain ⟨hd,ad,U,FX⟩:=IE
 refine jo (λW=>Qb N W) [(0,true),(1,true),(2,true),(3,true),(4,true),(5,true),(6,true),(7,true),(8,true),(9,true),(10,true),(11,true),(13,true),(12,false),(14,false),(15,true),(16,true)] bC5 bC5 pY (bR.drew) ?_
 intro wS E
 simp only [jB,Ag,Ah,List.map_cons,List.map_nil]
 iterate 7
  all_goals refine kX ?_
 all_goals (refine jd λb X=>?_;cases b <;> try simp only [jc] at X)
 iterate 5
  all_goals refine kX ?_
 iterate 2
  all_goals first|(refine kG rfl E ?_)|(fail)
  all_goals refine jD ?_
 all_goals refine kX ?_
 all_goals refine kX ?_
 all_goals refine kR ?_
 exact lK
def kFm {w:Ak} {ca cb:Al Value} {a b:kr} (ha:kW.rd w ca a) (hb:kW.rd w cb b) :
    Calls prog 115 #[.agg ca.toArray,.agg cb.toArray] w (bQ w (.bool (kJt a b))):=by
 have HA:=yD ha
 have HB:=yD hb
 obtain ⟨av,rfl,G⟩:=ko ha.1
 obtain ⟨bv,rfl,al⟩:=ko hb.1
 clear ha hb
 obtain ⟨aa,am,rfl,la⟩:=kD.sl G
 obtain ⟨ab,aq,rfl,lb⟩:=kD.sl al
 have Z:=kD.kBe G
 go_enter func115,ntmps115
 go_wp2_with fail
 generalize J:World.alloc (World.alloc w _) _=N
 obtain ⟨R,K0,K1⟩:=DY
 clear J
 by_cases hc:b.length<=a.length
 · have hd:decide ((b.length:Int)<=a.length)=true:=bA1;obtain ⟨ad,bm,ac,U,FX⟩:=IJ;refine kM (λW=>Qb N W) [Tt,Tt,Tt,Tt,Tt,Tt,Tt,Tt,Tt,Tt,Tt,Tt,Tt,Tt,Tt,Tt,Ff,Tt,Tt] bC5 bC5 pY (bR.drew) ?_;intro wS E;iterate 7
    all_goals refine kX ?_
   all_goals (refine jd λb X=>?_;cases b <;> try simp only [jc] at X)
   iterate 8
    all_goals refine kX ?_
   all_goals first | refine wkB (kLd (kD.kBv (e:=9) (r:=kD.str) (HA.out.1.below (tQ R E)) hc) (HB.out.1.below (tQ R E))) (λwS1 E=>?_) | refine kX ?_
   all_goals refine kX ?_
   all_goals refine kX ?_
   all_goals refine kR ?_
   exact lK
 obtain ⟨hd,ad,U,FX⟩:=IE
 refine kM (λW=>Qb N W) [Tt,Tt,Tt,Tt,Tt,Tt,Tt,Tt,Tt,Tt,Tt,Tt,Tt,Tt,Tt,Tt,Ff,Tt,Tt] bC5 bC5 pY (bR.drew) ?_
 intro wS E
 iterate 7
  all_goals refine kX ?_
 all_goals (refine jd λb X=>?_;cases b <;> try simp only [jc] at X)
 iterate 8
  all_goals refine kX ?_
 all_goals first|(refine kG rfl E ?_)|(fail)
 all_goals refine jD ?_
 all_goals refine kX ?_
 all_goals refine kX ?_
 all_goals refine kR ?_
 exact lK
def kFb {w:Ak} {vl:Value} {l:Al kz} (hl:(kD.slice 131 kS).rd w [vl] l) {cn:Al Value} {n:kr} (hn:kW.rd w cn n) :
    Calls prog 62 #[vl,.agg cn.toArray] w λe w'=>∃ cs,e=.returned (.tuple #[.agg cs.toArray,.bool (mOk n l)])/\kW.own w' cs (kDp n l) (jU w.heap.size w'.heap.size)/\Qb w w':=by
 have HN:=yD hn
 have HL:=yD hl
 obtain ⟨av,rfl,a9⟩:=ko hn.1
 obtain ⟨an,a7,rfl,ln⟩:=kD.sl a9
 obtain ⟨aa,am,rfl,la⟩:=kD.sl hl.1
 clear hn hl a9
 go_enter func62,ntmps62
 go_wp2
 generalize J:World.alloc (World.alloc w _) _=N
 obtain ⟨R,az,K0,K1,F1⟩:=FQ
 clear J
 go_loopw [6,7] (λb i wr=>∃ (k:Nat) (m:Int),k<=l.length/\i=.int .i64 k/\b=.int .i64 m/\Hid (mB n l k=m)/\Hid (m=-1\/∃ j:Nat,j < k/\m=j)/\Qb N wr) (λ_ i _=>l.length - (Ai i).toNat)
 case atStart=>exact ⟨0,-1,Nat.zero_le _,rfl,rfl,yD rfl,yD (.inl rfl),bR⟩
 obtain ⟨k,m,hk,rfl,rfl,HM,HR,o⟩:=hrel
 have Y:=kD.rd.below HL.out (tQ R o)
 by_cases hlt:k < l.length
 · have bk:=Aa k;have co:=Ac.2 hlt;obtain ⟨xb,xo,rfl,cm,cf,cg,xr,aw,ax,au⟩:=kD.zt Y.1 hlt rfl;obtain ⟨a4,ak,ac,Z,ao,ai⟩:=jJ xr;simp only [Ab,and_true] at ak;obtain ⟨rfl,rfl,rfl⟩:=ak;obtain ⟨xa,xp,rfl,xl⟩:=kD.sl Z;have px:kW.rd wr _ l[k].1:=⟨ac,(kD.yh HL.out hlt).1⟩;clear xr ao ai Z ac;rcases HR.out with rfl|⟨j,hjk,rfl⟩
   · have hno:=λq=>(mB_no (n:=n) hlt q).trans HM.out;have af:=λq=>mB_new (n:=n) hlt q HM.out;clear Y;generalize l[k]=x at *;have a5:=yD hno;have ap:=yD af;clear hno af;replace K0:=cL o K0;go_upto_region 5 with fail;have FX:=yD (λ(W:Ak) (hW:Qb wr W)=>kGr hW K0 aw ax au);refine kM (λW=>Qb wr W) [Tt,Tt,Tt,Tt,Tt,Tt,Ff,Tt,Tt,Tt,Tt,Tt,Tt,Tt,Tt,Tt,Tt,Tt,Tt,Tt,Tt,Tt,Tt,Tt,Tt,Tt,Tt,Tt] bC5 bC5 pY (bR.drew) ?_;intro wS E;iterate 6
      all_goals refine kX ?_
     all_goals first | refine wkB (kFj (HN.out.below ((tQ R (tQ o E)))) (px.below E)) (λwS1 E=>?_) | refine kX ?_
     all_goals (refine jd λb X=>?_;cases b <;> try simp only [jc] at X)
     all_goals refine kX ?_
     all_goals refine kX ?_
     all_goals (refine jd λb aq=>?_;cases b <;> try simp only [jc] at aq)
     iterate 16
      all_goals refine kX ?_
     all_goals (refine jd λb D=>?_;cases b <;> try simp only [jc] at D)
     all_goals refine kR ?_
     all_goals have F:=(tQ o E)
     all_goals first
       | (have U:=yD (a5.out X);go_wp2;go_roundw;(case rel=>exact ⟨k + 1,-1,by omega,by go_num,rfl,U,yD (.inl rfl),F⟩);(case measure=>simp [Ai];omega))
       | (have U:=yD (ap.out X);go_wp2;go_roundw;(case rel=>exact ⟨k + 1,(k:Int),by omega,by go_num,rfl,U,yD (.inr ⟨k,by omega,rfl⟩),F⟩);(case measure=>simp [Ai];omega))
   have I:j < l.length:=bD1;have b0:=Aa j;have bn:=Ac.2 I;obtain ⟨yb,yo,yE,bc,bz,bq,yr,G,be,a1⟩:=kD.zt Y.1 I rfl;simp only [Am,Ap,and_true] at yE;obtain ⟨rfl,rfl⟩:=yE;obtain ⟨c9,aj,bl,a3,bx,a6⟩:=jJ yr;simp only [Ab,and_true] at aj;obtain ⟨rfl,rfl,rfl⟩:=aj;obtain ⟨ya,yp,rfl,yl⟩:=kD.sl a3;have py:kW.rd wr _ l[j].1:=⟨bl,(kD.yh HL.out I).1⟩;clear yr bx a6 a3 bl;obtain ⟨hno,ar,ae⟩:=JF;clear Y py;generalize l[k]=x at *;generalize l[j]=y at *;have a5:=yD hno;have ay:=yD ar;have ag:=yD ae;clear hno ar ae;by_cases h3:y.1.length < x.1.length
   · have hd:decide ((y.1.length:Int) < x.1.length)=true:=bA2;have al:decide ((x.1.length:Int) > y.1.length)=true:=bA2;have ad:decide (y.1.length < x.1.length)=true:=bA2;replace K0:=cL o K0;go_upto_region 5 with fail;have FX:=yD (λ(W:Ak) (hW:Qb wr W)=>cLs5 hW K0 aw ax au G);refine kM (λW=>Qb wr W) [Tt,Tt,Tt,Tt,Tt,Tt,Ff,Tt,Tt,Tt,Tt,Tt,Tt,Tt,Tt,Tt,Tt,Tt,Tt,Tt,Tt,Tt,Tt,Tt,Tt,Tt,Tt,Tt] bC5 bC5 pY (bR.drew) ?_;intro wS E;iterate 6
      all_goals refine kX ?_
     all_goals first | refine wkB (kFj (HN.out.below ((tQ R (tQ o E)))) (px.below E)) (λwS1 E=>?_) | refine kX ?_
     all_goals (refine jd λb X=>?_;cases b <;> try simp only [jc] at X)
     all_goals refine kX ?_
     all_goals refine kX ?_
     all_goals (refine jd λb aq=>?_;cases b <;> try simp only [jc] at aq)
     iterate 16
      all_goals refine kX ?_
     all_goals (refine jd λb D=>?_;cases b <;> try simp only [jc] at D)
     all_goals refine kR ?_
     all_goals have F:=(tQ o E)
     all_goals first
       | (have U:=yD (a5.out X);go_wp2;go_roundw;(case rel=>exact ⟨k + 1,(j:Int),by omega,by go_num,rfl,U,yD (.inr ⟨j,by omega,rfl⟩),F⟩);(case measure=>simp [Ai];omega))
       | (have U:=yD ((λq=>ay.out q h3) X);go_wp2;go_roundw;(case rel=>exact ⟨k + 1,(k:Int),by omega,by go_num,rfl,U,yD (.inr ⟨k,by omega,rfl⟩),F⟩);(case measure=>simp [Ai];omega))
   obtain ⟨hd,al,ad,K0⟩:=I6;go_upto_region 5 with fail;have FX:=yD (λ(W:Ak) (hW:Qb wr W)=>cLs5 hW K0 aw ax au G);refine kM (λW=>Qb wr W) [Tt,Tt,Tt,Tt,Tt,Tt,Ff,Tt,Tt,Tt,Tt,Tt,Tt,Tt,Tt,Tt,Tt,Tt,Tt,Tt,Tt,Tt,Tt,Tt,Tt,Tt,Tt,Tt] bC5 bC5 pY (bR.drew) ?_;intro wS E;iterate 6
    all_goals refine kX ?_
   all_goals first | refine wkB (kFj (HN.out.below ((tQ R (tQ o E)))) (px.below E)) (λwS1 E=>?_) | refine kX ?_
   all_goals (refine jd λb X=>?_;cases b <;> try simp only [jc] at X)
   all_goals refine kX ?_
   all_goals refine kX ?_
   all_goals (refine jd λb aq=>?_;cases b <;> try simp only [jc] at aq)
   iterate 16
    all_goals refine kX ?_
   all_goals (refine jd λb D=>?_;cases b <;> try simp only [jc] at D)
   all_goals refine kR ?_
   all_goals have F:=(tQ o E)
   all_goals first
     | (have U:=yD (a5.out X);go_wp2;go_roundw;(case rel=>exact ⟨k + 1,(j:Int),by omega,by go_num,rfl,U,yD (.inr ⟨j,by omega,rfl⟩),F⟩);(case measure=>simp [Ai];omega))
     | (have U:=yD ((λ(_:kJt n x.1=true)=>ag.out h3) X);go_wp2;go_roundw;(case rel=>exact ⟨k + 1,(j:Int),by omega,by go_num,rfl,U,yD (.inr ⟨j,by omega,rfl⟩),F⟩);(case measure=>simp [Ai];omega))
 obtain rfl:k=l.length:=bD1
 obtain ⟨F,R0,F0⟩:=JD
 rcases HR.out with rfl|⟨j,I,rfl⟩
 · have U:=yD (m_no HM.out);clear Y;go_wp2;refine Ad (v:=.tuple #[.agg #[.slice none 0 0],.bool false]) nX rfl ⟨[.slice none 0 0],by rw [U.out.1],?_,?_⟩
   · rw [U.out.2];exact kD.jr
   exact F.setCell bD2 _
 have b0:=Aa j
 have bn:=Ac.2 I
 have U:=yD (m_yes I HM.out)
 obtain ⟨yb,yo,rfl,bc,bz,bq,yr,G,be,a1⟩:=kD.zt Y.1 I rfl
 obtain ⟨c9,aj,bl,a3,bx,a6⟩:=jJ yr
 simp only [Ab,and_true] at aj
 obtain ⟨rfl,rfl,rfl⟩:=aj
 obtain ⟨ya,yp,rfl,yl⟩:=kD.sl a3
 have py:kW.rd wr _ l[j].1:=⟨bl,(kD.yh HL.out I).1⟩
 clear yr bx a6 a3 bl
 clear Y
 generalize l[j]=y at *
 go_wp2_with fail
 refine (zT (py.below bG)).mono ?_
 rintro e V ⟨cs,rfl,O2,ab⟩
 obtain ⟨cv,rfl,ah⟩:=ko O2.raw
 obtain ⟨a2,c2,hv,_⟩:=kD.kAx ah
 obtain rfl:cv=_:=by simpa using hv
 obtain ⟨L,EF,R0,F0⟩:=D6
 clear hv O2 ah ab F
 go_wp2
 refine Ad (v:=.tuple #[.agg #[Qs a2 y.1 c2],.bool true]) nX rfl ⟨[Qs a2 y.1 c2],by rw [U.out.1],?_,?_⟩
 · rw [U.out.2];exact (L.out.setCell fB).wide fZ
 exact EF.setCell bD2 _
def kFh {w:Ak} {vl:Value} {l:Al kz} (hl:(kD.slice 131 kS).rd w [vl] l) {cn:Al Value} {n:kr} (hn:kW.rd w cn n) :
    Calls prog 47 #[vl,.agg cn.toArray] w λe w'=>∃ cs,e=.returned (.tuple #[.agg cs.toArray,.bool (mOk n l)])/\kW.own w' cs (kDp n l) (jU w.heap.size w'.heap.size)/\Qb w w':=by
 have HN:=yD hn
 have HL:=yD hl
 obtain ⟨av,rfl,a9⟩:=ko hn.1
 obtain ⟨an,a7,rfl,ln⟩:=kD.sl a9
 obtain ⟨aa,am,rfl,la⟩:=kD.sl hl.1
 clear hn hl a9
 go_enter func47,ntmps47
 go_wp2
 generalize J:World.alloc (World.alloc w _) _=N
 obtain ⟨R,az,K0,K1,F1⟩:=FQ
 clear J
 go_loopw [6,11] (λb i wr=>∃ (k:Nat) (m:Int),k<=l.length/\i=.int .i64 k/\b=.int .i64 m/\Hid (mB n l k=m)/\Hid (m=-1\/∃ j:Nat,j < k/\m=j)/\Qb N wr) (λ_ i _=>l.length - (Ai i).toNat)
 case atStart=>exact ⟨0,-1,Nat.zero_le _,rfl,rfl,yD rfl,yD (.inl rfl),bR⟩
 obtain ⟨k,m,hk,rfl,rfl,HM,HR,o⟩:=hrel
 have Y:=kD.rd.below HL.out (tQ R o)
 by_cases hlt:k < l.length
 · have bk:=Aa k;have co:=Ac.2 hlt;obtain ⟨xb,xo,rfl,cm,cf,cg,xr,aw,ax,au⟩:=kD.zt Y.1 hlt rfl;obtain ⟨a4,ak,ac,Z,ao,ai⟩:=jJ xr;simp only [Ab,and_true] at ak;obtain ⟨rfl,rfl,rfl⟩:=ak;obtain ⟨xa,xp,rfl,xl⟩:=kD.sl Z;have px:kW.rd wr _ l[k].1:=⟨ac,(kD.yh HL.out hlt).1⟩;clear xr ao ai Z ac;rcases HR.out with rfl|⟨j,hjk,rfl⟩
   · have hno:=λq=>(mB_no (n:=n) hlt q).trans HM.out;have af:=λq=>mB_new (n:=n) hlt q HM.out;clear Y;generalize l[k]=x at *;have a5:=yD hno;have ap:=yD af;clear hno af;replace K0:=cL o K0;go_upto_region 5 with fail;generalize D:World.alloc wr _=wC;obtain ⟨EC,M0,M1,M2,K0⟩:=DC
     (try replace G:=cL EC G);(try replace be:=cL EC be);(try replace a1:=cL EC a1);clear D
     have FX:=yD (λ(W:Ak) (hW:Qb wC W)=>kGr hW K0 M0 M1 M2);refine kM (λW=>Qb wC W) [Tt,Tt,Tt,Ff,Tt,Tt,Tt,Tt,Tt,Tt,Tt,Tt,Tt,Tt,Tt,Tt,Tt,Tt,Tt,Tt,Tt,Tt] bC5 bC5 pY (bR.drew) ?_;intro wS E;iterate 3
      all_goals refine kX ?_
     all_goals first | refine wkB (kFm (HN.out.below ((tQ R ((tQ o (tQ EC E)))))) (px.below (tQ EC E))) (λwS1 E=>?_) | refine kX ?_
     all_goals (refine jd λb O=>?_;cases b <;> try simp only [jc] at O)
     all_goals refine kX ?_
     all_goals refine kX ?_
     all_goals (refine jd λb X=>?_;cases b <;> try simp only [jc] at X)
     iterate 13
      all_goals refine kX ?_
     all_goals (refine jd λb H=>?_;cases b <;> try simp only [jc] at H)
     all_goals refine kR ?_
     all_goals have F:=(tQ o (tQ EC E))
     all_goals first
       | (have U:=yD (a5.out O);go_wp2;go_roundw;(case rel=>exact ⟨k + 1,-1,by omega,by go_num,rfl,U,yD (.inl rfl),F⟩);(case measure=>simp [Ai];omega))
       | (have U:=yD (ap.out O);go_wp2;go_roundw;(case rel=>exact ⟨k + 1,(k:Int),by omega,by go_num,rfl,U,yD (.inr ⟨k,by omega,rfl⟩),F⟩);(case measure=>simp [Ai];omega))
   have I:j < l.length:=bD1;have b0:=Aa j;have bn:=Ac.2 I;obtain ⟨yb,yo,yE,bc,bz,bq,yr,G,be,a1⟩:=kD.zt Y.1 I rfl;simp only [Am,Ap,and_true] at yE;obtain ⟨rfl,rfl⟩:=yE;obtain ⟨c9,aj,bl,a3,bx,a6⟩:=jJ yr;simp only [Ab,and_true] at aj;obtain ⟨rfl,rfl,rfl⟩:=aj;obtain ⟨ya,yp,rfl,yl⟩:=kD.sl a3;have py:kW.rd wr _ l[j].1:=⟨bl,(kD.yh HL.out I).1⟩;clear yr bx a6 a3 bl;obtain ⟨hno,ar,ae⟩:=JF;clear Y py;generalize l[k]=x at *;generalize l[j]=y at *;have a5:=yD hno;have ay:=yD ar;have ag:=yD ae;clear hno ar ae;by_cases h3:y.1.length < x.1.length
   · have hd:decide ((y.1.length:Int) < x.1.length)=true:=bA2;have al:decide ((x.1.length:Int) > y.1.length)=true:=bA2;have ad:decide (y.1.length < x.1.length)=true:=bA2;replace K0:=cL o K0;go_upto_region 5 with fail;generalize D:World.alloc wr _=wC;obtain ⟨EC,M0,M1,M2,K0⟩:=DC
     (try replace G:=cL EC G);(try replace be:=cL EC be);(try replace a1:=cL EC a1);clear D
     have FX:=yD (λ(W:Ak) (hW:Qb wC W)=>cLs5 hW K0 M0 M1 M2 G);refine kM (λW=>Qb wC W) [Tt,Tt,Tt,Ff,Tt,Tt,Tt,Tt,Tt,Tt,Tt,Tt,Tt,Tt,Tt,Tt,Tt,Tt,Tt,Tt,Tt,Tt] bC5 bC5 pY (bR.drew) ?_;intro wS E;iterate 3
      all_goals refine kX ?_
     all_goals first | refine wkB (kFm (HN.out.below ((tQ R ((tQ o (tQ EC E)))))) (px.below (tQ EC E))) (λwS1 E=>?_) | refine kX ?_
     all_goals (refine jd λb O=>?_;cases b <;> try simp only [jc] at O)
     all_goals refine kX ?_
     all_goals refine kX ?_
     all_goals (refine jd λb X=>?_;cases b <;> try simp only [jc] at X)
     iterate 13
      all_goals refine kX ?_
     all_goals (refine jd λb H=>?_;cases b <;> try simp only [jc] at H)
     all_goals refine kR ?_
     all_goals have F:=(tQ o (tQ EC E))
     all_goals first
       | (have U:=yD (a5.out O);go_wp2;go_roundw;(case rel=>exact ⟨k + 1,(j:Int),by omega,by go_num,rfl,U,yD (.inr ⟨j,by omega,rfl⟩),F⟩);(case measure=>simp [Ai];omega))
       | (have U:=yD ((λq=>ay.out q h3) O);go_wp2;go_roundw;(case rel=>exact ⟨k + 1,(k:Int),by omega,by go_num,rfl,U,yD (.inr ⟨k,by omega,rfl⟩),F⟩);(case measure=>simp [Ai];omega))
   obtain ⟨hd,al,ad,K0⟩:=I6;go_upto_region 5 with fail;generalize D:World.alloc wr _=wC;obtain ⟨EC,M0,M1,M2,K0⟩:=DC
   (try replace G:=cL EC G);(try replace be:=cL EC be);(try replace a1:=cL EC a1);clear D
   have FX:=yD (λ(W:Ak) (hW:Qb wC W)=>cLs5 hW K0 M0 M1 M2 G);refine kM (λW=>Qb wC W) [Tt,Tt,Tt,Ff,Tt,Tt,Tt,Tt,Tt,Tt,Tt,Tt,Tt,Tt,Tt,Tt,Tt,Tt,Tt,Tt,Tt,Tt] bC5 bC5 pY (bR.drew) ?_;intro wS E;iterate 3
    all_goals refine kX ?_
   all_goals first | refine wkB (kFm (HN.out.below ((tQ R ((tQ o (tQ EC E)))))) (px.below (tQ EC E))) (λwS1 E=>?_) | refine kX ?_
   all_goals (refine jd λb O=>?_;cases b <;> try simp only [jc] at O)
   all_goals refine kX ?_
   all_goals refine kX ?_
   all_goals (refine jd λb X=>?_;cases b <;> try simp only [jc] at X)
   iterate 13
    all_goals refine kX ?_
   all_goals (refine jd λb H=>?_;cases b <;> try simp only [jc] at H)
   all_goals refine kR ?_
   all_goals have F:=(tQ o (tQ EC E))
   all_goals first
     | (have U:=yD (a5.out O);go_wp2;go_roundw;(case rel=>exact ⟨k + 1,(j:Int),by omega,by go_num,rfl,U,yD (.inr ⟨j,by omega,rfl⟩),F⟩);(case measure=>simp [Ai];omega))
     | (have U:=yD ((λ(_:kJt n x.1=true)=>ag.out h3) O);go_wp2;go_roundw;(case rel=>exact ⟨k + 1,(j:Int),by omega,by go_num,rfl,U,yD (.inr ⟨j,by omega,rfl⟩),F⟩);(case measure=>simp [Ai];omega))
 obtain rfl:k=l.length:=bD1
 obtain ⟨F,R0,F0⟩:=JD
 rcases HR.out with rfl|⟨j,I,rfl⟩
 · have U:=yD (m_no HM.out);clear Y;go_wp2;refine Ad (v:=.tuple #[.agg #[.slice none 0 0],.bool false]) nY rfl ⟨[.slice none 0 0],by rw [U.out.1],?_,?_⟩
   · rw [U.out.2];exact kD.jr
   exact F.setCell bD2 _
 have b0:=Aa j
 have bn:=Ac.2 I
 have U:=yD (m_yes I HM.out)
 obtain ⟨yb,yo,rfl,bc,bz,bq,yr,G,be,a1⟩:=kD.zt Y.1 I rfl
 obtain ⟨c9,aj,bl,a3,bx,a6⟩:=jJ yr
 simp only [Ab,and_true] at aj
 obtain ⟨rfl,rfl,rfl⟩:=aj
 obtain ⟨ya,yp,rfl,yl⟩:=kD.sl a3
 have py:kW.rd wr _ l[j].1:=⟨bl,(kD.yh HL.out I).1⟩
 clear yr bx a6 a3 bl
 clear Y
 generalize l[j]=y at *
 go_wp2_with fail
 refine (kAp (py.below bG)).mono ?_
 rintro e V ⟨cs,rfl,O2,ab⟩
 obtain ⟨cv,rfl,ah⟩:=ko O2.raw
 obtain ⟨a2,c2,hv,_⟩:=kD.kAx ah
 obtain rfl:cv=_:=by simpa using hv
 obtain ⟨L,EF,R0,F0⟩:=D6
 clear hv O2 ah ab F
 go_wp2
 refine Ad (v:=.tuple #[.agg #[Qs a2 y.1 c2],.bool true]) nY rfl ⟨[Qs a2 y.1 c2],by rw [U.out.1],?_,?_⟩
 · rw [U.out.2];exact (L.out.setCell fB).wide fZ
 exact EF.setCell bD2 _
end Go.Proofs.YtjhfdpopkkmigaaGreat

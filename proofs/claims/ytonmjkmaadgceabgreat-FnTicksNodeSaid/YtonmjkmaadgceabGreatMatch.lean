/-
  The longest prefix among routes.
-/
import Derived.Test.YtonmjkmaadgceabGreatSoft5
set_option linter.unusedVariables false
set_option linter.defProp false
set_option linter.unusedSimpArgs false
set_option linter.unnecessarySimpa false
set_option maxRecDepth 100000
set_option maxHeartbeats 4000000
open Bool renaming true->Tt,false->Ff
open Int renaming natCast_nonneg->Aa,ofNat_lt->Ac,toNat_natCast->Ae
open List.cons renaming injEq->Ab
open Go renaming bodyPost_ret->Ad,World->Ak
open List renaming getElem?_cons_succ->Ag,getElem?_cons_zero->Ah,take_of_length_le->Aj
open Go.RowKit renaming intOf->Ai
open _root_ renaming List->Al
open Option.some renaming injEq->Am
open Go.Addr.mk renaming injEq->Ap
namespace Go.Proofs.YtonmjkmaadgceabGreat
open Go.RowKit _root_.Go.Proofs.Tryz
def kJo (n p:ko):Bool:=decide ((p.length:Int)<=n.length) && eqN (n.take p.length) p
def prefN_no {n p:ko} (h:¬ p.length<=n.length):kJo n p=false:=by unfold kJo;rw [decide_eq_false bC9];rfl
def kXx {n p:ko} (h:p.length<=n.length):kJo n p=eqN (n.take p.length) p:=by unfold kJo;rw [decide_eq_true bC9];rfl
def clip {n:ko} (k:Int):∃ m:Nat,max 0 (min k n.length)=(m:Int)/\m<=n.length/\n.take k.toNat=n.take m:=by
 refine ⟨(max 0 (min k n.length)).toNat,by omega,by omega,?_⟩;by_cases h:k.toNat<=n.length
 · congr 1;omega
 rw [Aj bC9,Aj bC9]
def mB (n:ko) (l:Al ky):Nat->Int
  | 0=>-1
  | k + 1=>if kJo n (l.getD k ([],0,0)).1=true/\(mB n l k < 0\/(l.getD (mB n l k).toNat ([],0,0)).1.length < (l.getD k ([],0,0)).1.length) then k else mB n l k
def mB_no {n:ko} {l:Al ky} {k:Nat} (hk:k < l.length) (h:kJo n l[k].1=false):mB n l (k + 1)=mB n l k:=by
 conv=>lhs;unfold mB
 rw [jS hk,if_neg (by simp [h])]
def mB_new {n:ko} {l:Al ky} {k:Nat} (hk:k < l.length) (h:kJo n l[k].1=true) (h2:mB n l k=-1):mB n l (k + 1)=k:=by
 conv=>lhs;unfold mB
 rw [jS hk,if_pos ⟨h,.inl bC9⟩]
def mB_up {n:ko} {l:Al ky} {k j:Nat} (hk:k < l.length) (h:kJo n l[k].1=true) (I:j < l.length) (h2:mB n l k=j) (h3:l[j].1.length < l[k].1.length):mB n l (k + 1)=k:=by
 conv=>lhs;unfold mB
 rw [jS hk,h2,Ae,jS I,if_pos ⟨h,.inr h3⟩]
def mB_keep {n:ko} {l:Al ky} {k j:Nat} (hk:k < l.length) (I:j < l.length) (h2:mB n l k=j) (h3:¬ l[j].1.length < l[k].1.length):mB n l (k + 1)=j:=by
 conv=>lhs;unfold mB
 rw [jS hk,h2,Ae,jS I,if_neg (λq=>by rcases q.2 with h | h;omega;exact h3 h)]
def mOk (n:ko) (l:Al ky):Bool:=!decide (mB n l l.length < 0)
def zX (n:ko) (l:Al ky):ko:=if mB n l l.length < 0 then [] else (l.getD (mB n l l.length).toNat ([],0,0)).1
def m_no {n:ko} {l:List ky} (h:mB n l l.length=-1):mOk n l=false/\zX n l=[]:=by simp [mOk,zX,h]
def m_yes {n:ko} {l:Al ky} {j:Nat} (I:j < l.length) (h:mB n l l.length=j):mOk n l=true/\zX n l=l[j].1:=by
 unfold mOk zX;rw [h,Ae,jS I,if_neg bC9,decide_eq_false bC9];exact ⟨rfl,rfl⟩
def kUc {w:Ak} {ca:Al Value} {x:ko} {k:Int} (ha:kU.rd w ca x):Calls prog 123 #[.agg ca.toArray,.int .i64 k] w (kAe kU (x.take k.toNat) w):=by
 have HA:=yD ha;obtain ⟨av,rfl,ad⟩:=kZ ha.1;obtain ⟨aa,al,rfl,la⟩:=kD.sl ad;have R:=kD.kAd ad;have hb:x.length<=16777216:=ha.2.1;obtain ⟨m,hm,D,W⟩:=clip (n:=x) k;have ag:=yD W;clear ha ad W;go_enter func123,ntmps123;go_wp2_with fail;refine kXn.mono ?_;rintro e Y ⟨rfl,rfl⟩;go_wp2_with fail;refine specMax_c.mono ?_;rintro e Y ⟨rfl,rfl⟩;rw [hm];have O:=yD (kD.kOc (e:=9) (r:=kD.str) HA.out D);have hl:(x.take m).length=m:=bC4;generalize x.take m=y at *;subst hl;have ah:(y.length:Int)<=al:=bC9;have O0:kD.kR 9 kD.str (((w.alloc (.cells #[.slice aa x.length al] 40)).alloc (.cells #[.slice none 0 0] 40)).alloc (.cells #[] 9)) (.slice (some ⟨w.heap.size + 1 + 1,0,none⟩) 0 0) [] (λk=>k=w.heap.size + 1 + 1):=by
  exact aG
 go_wp2_with (at_builtin;refine kD.yQ rfl _ _ 38 rfl (r:=kD.str) (e:=9) underlying38 kCh rfl bC8 bC8 kD.kDo (B:=w.heap.size + 1 + 1) O0 bD1 bD1 (O.out.below bF) qJ bD0 bC4 ?_);intro v2 V hown o hz;obtain ⟨a2,c2,hv⟩:=hown.zP;obtain rfl:=hv;have hw:=hown.own (by simp [Big];omega);have J:Hid (kU.own V [Qs a2 y c2] y (jX (w.heap.size + 1 + 1) V.heap.size)):=yD hw;have F:Qb w V:=Below.trans bF (o.mono qX);clear hown O0 hw;obtain ⟨R0,F0⟩:=xR;clear o;go_wp2;refine Ad (v:=.agg #[Qs a2 y c2]) (by simp [results,results123,go_sem,R0,F0]) rfl ⟨[_],rfl,?_,?_⟩
 · rw [ag.out];exact (J.out.setCell dX).wide fJ
 exact F.setCell bD0 _
def kFm {w:Ak} {ca cb:Al Value} {a b:ko} (ha:kU.rd w ca a) (hb:kU.rd w cb b) :
    Calls prog 75 #[.agg ca.toArray,.agg cb.toArray] w (bQ w (.bool (kJo a b))):=by
 have HA:=yD ha
 have HB:=yD hb
 obtain ⟨av,rfl,ad⟩:=kZ ha.1
 obtain ⟨bv,rfl,ag⟩:=kZ hb.1
 clear ha hb
 obtain ⟨aa,al,rfl,la⟩:=kD.sl ad
 obtain ⟨ab,X,rfl,lb⟩:=kD.sl ag
 have R:=kD.kAd ad
 go_enter func75,ntmps75
 go_wp2_with fail
 generalize D:World.alloc (World.alloc w _) _=N
 obtain ⟨EB,K0,K1⟩:=CW
 clear D
 by_cases hc:b.length<=a.length
 · have hd:decide ((b.length:Int)<=a.length)=true:=wW;obtain ⟨ac,bc,G,L,FX⟩:=GM;refine jm (λW=>Qb N W) [(0,true),(1,true),(2,true),(3,true),(4,true),(5,true),(6,true),(7,true),(8,true),(9,true),(10,true),(11,true),(13,true),(12,false),(14,false),(15,true),(16,true)] bC3 bC3 pK (bR.drew) ?_;intro wS E;simp only [kz,Ag,Ah,List.map_cons,List.map_nil];iterate 7
    all_goals refine ku ?_
   all_goals (refine jy λb aw=>?_;cases b <;> try simp only [jw] at aw)
   iterate 5
    all_goals refine ku ?_
   all_goals first|(refine kI rfl E ?_)|(refine kw rfl (λK H=>?_);go_simp;refine (kUc (HA.out.below (tQ EB E))).mono ?_;rintro e wT ⟨tc,rfl,OT,aq⟩;replace E:=(tQ E aq);refine H _ _ E ?_;clear H K aq)
   all_goals refine jF ?_
   all_goals first | refine wkB (zN OT.raw (HB.out.1.below (tQ EB E))) (λwS1 E=>?_) | refine ku ?_
   all_goals refine ku ?_
   all_goals refine ku ?_
   all_goals refine kS ?_
   exact l6
 obtain ⟨hd,ac,L,FX⟩:=GK
 refine jm (λW=>Qb N W) [(0,true),(1,true),(2,true),(3,true),(4,true),(5,true),(6,true),(7,true),(8,true),(9,true),(10,true),(11,true),(13,true),(12,false),(14,false),(15,true),(16,true)] bC3 bC3 pK (bR.drew) ?_
 intro wS E
 simp only [kz,Ag,Ah,List.map_cons,List.map_nil]
 iterate 7
  all_goals refine ku ?_
 all_goals (refine jy λb aw=>?_;cases b <;> try simp only [jw] at aw)
 iterate 5
  all_goals refine ku ?_
 iterate 2
  all_goals first|(refine kI rfl E ?_)|(fail)
  all_goals refine jF ?_
 all_goals refine ku ?_
 all_goals refine ku ?_
 all_goals refine kS ?_
 exact l6
def kFo {w:Ak} {ca cb:Al Value} {a b:ko} (ha:kU.rd w ca a) (hb:kU.rd w cb b) :
    Calls prog 56 #[.agg ca.toArray,.agg cb.toArray] w (bQ w (.bool (kJo a b))):=by
 have HA:=yD ha
 have HB:=yD hb
 obtain ⟨av,rfl,ad⟩:=kZ ha.1
 obtain ⟨bv,rfl,ag⟩:=kZ hb.1
 clear ha hb
 obtain ⟨aa,al,rfl,la⟩:=kD.sl ad
 obtain ⟨ab,X,rfl,lb⟩:=kD.sl ag
 have R:=kD.kAd ad
 go_enter func56,ntmps56
 go_wp2_with fail
 generalize D:World.alloc (World.alloc w _) _=N
 obtain ⟨EB,K0,K1⟩:=CW
 clear D
 by_cases hc:b.length<=a.length
 · have hd:decide ((b.length:Int)<=a.length)=true:=wW;obtain ⟨ac,bc,G,L,FX⟩:=GM;refine kM (λW=>Qb N W) [Tt,Tt,Tt,Tt,Tt,Tt,Tt,Tt,Tt,Tt,Tt,Tt,Tt,Tt,Tt,Tt,Ff,Tt,Tt] bC3 bC3 pK (bR.drew) ?_;intro wS E;iterate 7
    all_goals refine ku ?_
   all_goals (refine jy λb aw=>?_;cases b <;> try simp only [jw] at aw)
   iterate 8
    all_goals refine ku ?_
   all_goals first | refine wkB (kLe (kD.kCb (e:=9) (r:=kD.str) (HA.out.1.below (tQ EB E)) hc) (HB.out.1.below (tQ EB E))) (λwS1 E=>?_) | refine ku ?_
   all_goals refine ku ?_
   all_goals refine ku ?_
   all_goals refine kS ?_
   exact l6
 obtain ⟨hd,ac,L,FX⟩:=GK
 refine kM (λW=>Qb N W) [Tt,Tt,Tt,Tt,Tt,Tt,Tt,Tt,Tt,Tt,Tt,Tt,Tt,Tt,Tt,Tt,Ff,Tt,Tt] bC3 bC3 pK (bR.drew) ?_
 intro wS E
 iterate 7
  all_goals refine ku ?_
 all_goals (refine jy λb aw=>?_;cases b <;> try simp only [jw] at aw)
 iterate 8
  all_goals refine ku ?_
 all_goals first|(refine kI rfl E ?_)|(fail)
 all_goals refine jF ?_
 all_goals refine ku ?_
 all_goals refine ku ?_
 all_goals refine kS ?_
 exact l6
def kCp {w:Ak} {vl:Value} {l:Al ky} (hl:(kD.slice 77 kY).rd w [vl] l) {cn:Al Value} {n:ko} (hn:kU.rd w cn n) :
    Calls prog 31 #[vl,.agg cn.toArray] w λe w'=>∃ cs,e=.returned (.tuple #[.agg cs.toArray,.bool (mOk n l)])/\kU.own w' cs (zX n l) (jX w.heap.size w'.heap.size)/\Qb w w':=by
 have HN:=yD hn
 have HL:=yD hl
 obtain ⟨av,rfl,a8⟩:=kZ hn.1
 obtain ⟨an,G,rfl,ln⟩:=kD.sl a8
 obtain ⟨aa,al,rfl,la⟩:=kD.sl hl.1
 clear hn hl a8
 go_enter func31,ntmps31
 go_wp2
 generalize D:World.alloc (World.alloc w _) _=N
 obtain ⟨EB,ax,K0,K1,F1⟩:=ES
 clear D
 go_loopw [6,7] (λb i wr=>∃ (k:Nat) (m:Int),k<=l.length/\i=.int .i64 k/\b=.int .i64 m/\Hid (mB n l k=m)/\Hid (m=-1\/∃ j:Nat,j < k/\m=j)/\Qb N wr) (λ_ i _=>l.length - (Ai i).toNat)
 case atStart=>exact ⟨0,-1,Nat.zero_le _,rfl,rfl,yD rfl,yD (.inl rfl),bR⟩
 obtain ⟨k,m,hk,rfl,rfl,HM,HR,o⟩:=hrel
 have H:=kD.rd.below HL.out (tQ EB o)
 by_cases hlt:k < l.length
 · have bp:=Aa k;have dr:=Ac.2 hlt;obtain ⟨xb,xo,rfl,cg,b9,ca,xr,a3,a5,ay⟩:=kD.zg H.1 hlt rfl;obtain ⟨a7,aj,ab,Z,ai,ah⟩:=jM xr;simp only [Ab,and_true] at aj;obtain ⟨rfl,rfl,rfl⟩:=aj;obtain ⟨xa,xp,rfl,xl⟩:=kD.sl Z;have px:kU.rd wr _ l[k].1:=⟨ab,(kD.yX HL.out hlt).1⟩;clear xr ai ah Z ab;rcases HR.out with rfl|⟨j,hjk,rfl⟩
   · have hno:=λq=>(mB_no (n:=n) hlt q).trans HM.out;have af:=λq=>mB_new (n:=n) hlt q HM.out;clear H;generalize l[k]=x at *;have a4:=yD hno;have ar:=yD af;clear hno af;replace K0:=cL o K0;go_upto_region 5 with fail;have FX:=yD (λ(W:Ak) (hW:Qb wr W)=>kGr hW K0 a3 a5 ay);refine kM (λW=>Qb wr W) [Tt,Tt,Tt,Tt,Tt,Tt,Ff,Tt,Tt,Tt,Tt,Tt,Tt,Tt,Tt,Tt,Tt,Tt,Tt,Tt,Tt,Tt,Tt,Tt,Tt,Tt,Tt,Tt] bC3 bC3 pK (bR.drew) ?_;intro wS E;iterate 6
      all_goals refine ku ?_
     all_goals first | refine wkB (kFm (HN.out.below ((tQ EB (tQ o E)))) (px.below E)) (λwS1 E=>?_) | refine ku ?_
     all_goals (refine jy λb aw=>?_;cases b <;> try simp only [jw] at aw)
     all_goals refine ku ?_
     all_goals refine ku ?_
     all_goals (refine jy λb Y=>?_;cases b <;> try simp only [jw] at Y)
     iterate 16
      all_goals refine ku ?_
     all_goals (refine jy λb O=>?_;cases b <;> try simp only [jw] at O)
     all_goals refine kS ?_
     all_goals have F:=(tQ o E)
     all_goals first
       | (have L:=yD (a4.out aw);go_wp2;go_roundw;(case rel=>exact ⟨k + 1,-1,by omega,by go_num,rfl,L,yD (.inl rfl),F⟩);(case measure=>simp [Ai];omega))
       | (have L:=yD (ar.out aw);go_wp2;go_roundw;(case rel=>exact ⟨k + 1,(k:Int),by omega,by go_num,rfl,L,yD (.inr ⟨k,by omega,rfl⟩),F⟩);(case measure=>simp [Ai];omega))
   have I:j < l.length:=bC9;have ch:=Aa j;have br:=Ac.2 I;obtain ⟨yb,yo,yE,be,bh,bf,yr,U,a1,az⟩:=kD.zg H.1 I rfl;simp only [Am,Ap,and_true] at yE;obtain ⟨rfl,rfl⟩:=yE;obtain ⟨dh,am,ba,a9,ck,ao⟩:=jM yr;simp only [Ab,and_true] at am;obtain ⟨rfl,rfl,rfl⟩:=am;obtain ⟨ya,yp,rfl,yl⟩:=kD.sl a9;have py:kU.rd wr _ l[j].1:=⟨ba,(kD.yX HL.out I).1⟩;clear yr ck ao a9 ba;obtain ⟨hno,au,ae⟩:=IA;clear H py;generalize l[k]=x at *;generalize l[j]=y at *;have a4:=yD hno;have a6:=yD au;have ag:=yD ae;clear hno au ae;by_cases h3:y.1.length < x.1.length
   · have hd:decide ((y.1.length:Int) < x.1.length)=true:=wX;have aq:decide ((x.1.length:Int) > y.1.length)=true:=wX;have ac:decide (y.1.length < x.1.length)=true:=wX;replace K0:=cL o K0;go_upto_region 5 with fail;have FX:=yD (λ(W:Ak) (hW:Qb wr W)=>cLs5 hW K0 a3 a5 ay U);refine kM (λW=>Qb wr W) [Tt,Tt,Tt,Tt,Tt,Tt,Ff,Tt,Tt,Tt,Tt,Tt,Tt,Tt,Tt,Tt,Tt,Tt,Tt,Tt,Tt,Tt,Tt,Tt,Tt,Tt,Tt,Tt] bC3 bC3 pK (bR.drew) ?_;intro wS E;iterate 6
      all_goals refine ku ?_
     all_goals first | refine wkB (kFm (HN.out.below ((tQ EB (tQ o E)))) (px.below E)) (λwS1 E=>?_) | refine ku ?_
     all_goals (refine jy λb aw=>?_;cases b <;> try simp only [jw] at aw)
     all_goals refine ku ?_
     all_goals refine ku ?_
     all_goals (refine jy λb Y=>?_;cases b <;> try simp only [jw] at Y)
     iterate 16
      all_goals refine ku ?_
     all_goals (refine jy λb O=>?_;cases b <;> try simp only [jw] at O)
     all_goals refine kS ?_
     all_goals have F:=(tQ o E)
     all_goals first
       | (have L:=yD (a4.out aw);go_wp2;go_roundw;(case rel=>exact ⟨k + 1,(j:Int),by omega,by go_num,rfl,L,yD (.inr ⟨j,by omega,rfl⟩),F⟩);(case measure=>simp [Ai];omega))
       | (have L:=yD ((λq=>a6.out q h3) aw);go_wp2;go_roundw;(case rel=>exact ⟨k + 1,(k:Int),by omega,by go_num,rfl,L,yD (.inr ⟨k,by omega,rfl⟩),F⟩);(case measure=>simp [Ai];omega))
   obtain ⟨hd,aq,ac,K0⟩:=GG;go_upto_region 5 with fail;have FX:=yD (λ(W:Ak) (hW:Qb wr W)=>cLs5 hW K0 a3 a5 ay U);refine kM (λW=>Qb wr W) [Tt,Tt,Tt,Tt,Tt,Tt,Ff,Tt,Tt,Tt,Tt,Tt,Tt,Tt,Tt,Tt,Tt,Tt,Tt,Tt,Tt,Tt,Tt,Tt,Tt,Tt,Tt,Tt] bC3 bC3 pK (bR.drew) ?_;intro wS E;iterate 6
    all_goals refine ku ?_
   all_goals first | refine wkB (kFm (HN.out.below ((tQ EB (tQ o E)))) (px.below E)) (λwS1 E=>?_) | refine ku ?_
   all_goals (refine jy λb aw=>?_;cases b <;> try simp only [jw] at aw)
   all_goals refine ku ?_
   all_goals refine ku ?_
   all_goals (refine jy λb Y=>?_;cases b <;> try simp only [jw] at Y)
   iterate 16
    all_goals refine ku ?_
   all_goals (refine jy λb O=>?_;cases b <;> try simp only [jw] at O)
   all_goals refine kS ?_
   all_goals have F:=(tQ o E)
   all_goals first
     | (have L:=yD (a4.out aw);go_wp2;go_roundw;(case rel=>exact ⟨k + 1,(j:Int),by omega,by go_num,rfl,L,yD (.inr ⟨j,by omega,rfl⟩),F⟩);(case measure=>simp [Ai];omega))
     | (have L:=yD ((λ(_:kJo n x.1=true)=>ag.out h3) aw);go_wp2;go_roundw;(case rel=>exact ⟨k + 1,(j:Int),by omega,by go_num,rfl,L,yD (.inr ⟨j,by omega,rfl⟩),F⟩);(case measure=>simp [Ai];omega))
 obtain rfl:k=l.length:=bC9
 obtain ⟨F,R0,F0⟩:=I7
 rcases HR.out with rfl|⟨j,I,rfl⟩
 · have L:=yD (m_no HM.out);clear H;go_wp2;refine Ad (v:=.tuple #[.agg #[.slice none 0 0],.bool false]) nM rfl ⟨[.slice none 0 0],by rw [L.out.1],?_,?_⟩
   · rw [L.out.2];exact kD.jd
   exact F.setCell bD0 _
 have ch:=Aa j
 have br:=Ac.2 I
 have L:=yD (m_yes I HM.out)
 obtain ⟨yb,yo,rfl,be,bh,bf,yr,U,a1,az⟩:=kD.zg H.1 I rfl
 obtain ⟨dh,am,ba,a9,ck,ao⟩:=jM yr
 simp only [Ab,and_true] at am
 obtain ⟨rfl,rfl,rfl⟩:=am
 obtain ⟨ya,yp,rfl,yl⟩:=kD.sl a9
 have py:kU.rd wr _ l[j].1:=⟨ba,(kD.yX HL.out I).1⟩
 clear yr ck ao a9 ba
 clear H
 generalize l[j]=y at *
 go_wp2_with fail
 refine (zJ (py.below bF)).mono ?_
 rintro e V ⟨cs,rfl,O2,ak⟩
 obtain ⟨cv,rfl,ap⟩:=kZ O2.raw
 obtain ⟨a2,c2,hv,_⟩:=kD.kAy ap
 obtain rfl:cv=_:=by simpa using hv
 obtain ⟨J,R,R0,F0⟩:=BP
 clear hv O2 ap ak F
 go_wp2
 refine Ad (v:=.tuple #[.agg #[Qs a2 y.1 c2],.bool true]) nM rfl ⟨[Qs a2 y.1 c2],by rw [L.out.1],?_,?_⟩
 · rw [L.out.2];exact (J.out.setCell dX).wide fJ
 exact R.setCell bD0 _
def kCu {w:Ak} {vl:Value} {l:Al ky} (hl:(kD.slice 77 kY).rd w [vl] l) {cn:Al Value} {n:ko} (hn:kU.rd w cn n) :
    Calls prog 19 #[vl,.agg cn.toArray] w λe w'=>∃ cs,e=.returned (.tuple #[.agg cs.toArray,.bool (mOk n l)])/\kU.own w' cs (zX n l) (jX w.heap.size w'.heap.size)/\Qb w w':=by
 have HN:=yD hn
 have HL:=yD hl
 obtain ⟨av,rfl,a8⟩:=kZ hn.1
 obtain ⟨an,G,rfl,ln⟩:=kD.sl a8
 obtain ⟨aa,al,rfl,la⟩:=kD.sl hl.1
 clear hn hl a8
 go_enter func19,ntmps19
 go_wp2
 generalize D:World.alloc (World.alloc w _) _=N
 obtain ⟨EB,ax,K0,K1,F1⟩:=ES
 clear D
 go_loopw [6,11] (λb i wr=>∃ (k:Nat) (m:Int),k<=l.length/\i=.int .i64 k/\b=.int .i64 m/\Hid (mB n l k=m)/\Hid (m=-1\/∃ j:Nat,j < k/\m=j)/\Qb N wr) (λ_ i _=>l.length - (Ai i).toNat)
 case atStart=>exact ⟨0,-1,Nat.zero_le _,rfl,rfl,yD rfl,yD (.inl rfl),bR⟩
 obtain ⟨k,m,hk,rfl,rfl,HM,HR,o⟩:=hrel
 have H:=kD.rd.below HL.out (tQ EB o)
 by_cases hlt:k < l.length
 · have bp:=Aa k;have dr:=Ac.2 hlt;obtain ⟨xb,xo,rfl,cg,b9,ca,xr,a3,a5,ay⟩:=kD.zg H.1 hlt rfl;obtain ⟨a7,aj,ab,Z,ai,ah⟩:=jM xr;simp only [Ab,and_true] at aj;obtain ⟨rfl,rfl,rfl⟩:=aj;obtain ⟨xa,xp,rfl,xl⟩:=kD.sl Z;have px:kU.rd wr _ l[k].1:=⟨ab,(kD.yX HL.out hlt).1⟩;clear xr ai ah Z ab;rcases HR.out with rfl|⟨j,hjk,rfl⟩
   · have hno:=λq=>(mB_no (n:=n) hlt q).trans HM.out;have af:=λq=>mB_new (n:=n) hlt q HM.out;clear H;generalize l[k]=x at *;have a4:=yD hno;have ar:=yD af;clear hno af;replace K0:=cL o K0;go_upto_region 5 with fail;generalize X:World.alloc wr _=wC;obtain ⟨EC,M0,M1,M2,K0⟩:=CE
     (try replace U:=cL EC U);(try replace a1:=cL EC a1);(try replace az:=cL EC az);clear X
     have FX:=yD (λ(W:Ak) (hW:Qb wC W)=>kGr hW K0 M0 M1 M2);refine kM (λW=>Qb wC W) [Tt,Tt,Tt,Ff,Tt,Tt,Tt,Tt,Tt,Tt,Tt,Tt,Tt,Tt,Tt,Tt,Tt,Tt,Tt,Tt,Tt,Tt] bC3 bC3 pK (bR.drew) ?_;intro wS E;iterate 3
      all_goals refine ku ?_
     all_goals first | refine wkB (kFo (HN.out.below ((tQ EB ((tQ o (tQ EC E)))))) (px.below (tQ EC E))) (λwS1 E=>?_) | refine ku ?_
     all_goals (refine jy λb O=>?_;cases b <;> try simp only [jw] at O)
     all_goals refine ku ?_
     all_goals refine ku ?_
     all_goals (refine jy λb aw=>?_;cases b <;> try simp only [jw] at aw)
     iterate 13
      all_goals refine ku ?_
     all_goals (refine jy λb ad=>?_;cases b <;> try simp only [jw] at ad)
     all_goals refine kS ?_
     all_goals have F:=(tQ o (tQ EC E))
     all_goals first
       | (have L:=yD (a4.out O);go_wp2;go_roundw;(case rel=>exact ⟨k + 1,-1,by omega,by go_num,rfl,L,yD (.inl rfl),F⟩);(case measure=>simp [Ai];omega))
       | (have L:=yD (ar.out O);go_wp2;go_roundw;(case rel=>exact ⟨k + 1,(k:Int),by omega,by go_num,rfl,L,yD (.inr ⟨k,by omega,rfl⟩),F⟩);(case measure=>simp [Ai];omega))
   have I:j < l.length:=bC9;have ch:=Aa j;have br:=Ac.2 I;obtain ⟨yb,yo,yE,be,bh,bf,yr,U,a1,az⟩:=kD.zg H.1 I rfl;simp only [Am,Ap,and_true] at yE;obtain ⟨rfl,rfl⟩:=yE;obtain ⟨dh,am,ba,a9,ck,ao⟩:=jM yr;simp only [Ab,and_true] at am;obtain ⟨rfl,rfl,rfl⟩:=am;obtain ⟨ya,yp,rfl,yl⟩:=kD.sl a9;have py:kU.rd wr _ l[j].1:=⟨ba,(kD.yX HL.out I).1⟩;clear yr ck ao a9 ba;obtain ⟨hno,au,ae⟩:=IA;clear H py;generalize l[k]=x at *;generalize l[j]=y at *;have a4:=yD hno;have a6:=yD au;have ag:=yD ae;clear hno au ae;by_cases h3:y.1.length < x.1.length
   · have hd:decide ((y.1.length:Int) < x.1.length)=true:=wX;have aq:decide ((x.1.length:Int) > y.1.length)=true:=wX;have ac:decide (y.1.length < x.1.length)=true:=wX;replace K0:=cL o K0;go_upto_region 5 with fail;generalize X:World.alloc wr _=wC;obtain ⟨EC,M0,M1,M2,K0⟩:=CE
     (try replace U:=cL EC U);(try replace a1:=cL EC a1);(try replace az:=cL EC az);clear X
     have FX:=yD (λ(W:Ak) (hW:Qb wC W)=>cLs5 hW K0 M0 M1 M2 U);refine kM (λW=>Qb wC W) [Tt,Tt,Tt,Ff,Tt,Tt,Tt,Tt,Tt,Tt,Tt,Tt,Tt,Tt,Tt,Tt,Tt,Tt,Tt,Tt,Tt,Tt] bC3 bC3 pK (bR.drew) ?_;intro wS E;iterate 3
      all_goals refine ku ?_
     all_goals first | refine wkB (kFo (HN.out.below ((tQ EB ((tQ o (tQ EC E)))))) (px.below (tQ EC E))) (λwS1 E=>?_) | refine ku ?_
     all_goals (refine jy λb O=>?_;cases b <;> try simp only [jw] at O)
     all_goals refine ku ?_
     all_goals refine ku ?_
     all_goals (refine jy λb aw=>?_;cases b <;> try simp only [jw] at aw)
     iterate 13
      all_goals refine ku ?_
     all_goals (refine jy λb ad=>?_;cases b <;> try simp only [jw] at ad)
     all_goals refine kS ?_
     all_goals have F:=(tQ o (tQ EC E))
     all_goals first
       | (have L:=yD (a4.out O);go_wp2;go_roundw;(case rel=>exact ⟨k + 1,(j:Int),by omega,by go_num,rfl,L,yD (.inr ⟨j,by omega,rfl⟩),F⟩);(case measure=>simp [Ai];omega))
       | (have L:=yD ((λq=>a6.out q h3) O);go_wp2;go_roundw;(case rel=>exact ⟨k + 1,(k:Int),by omega,by go_num,rfl,L,yD (.inr ⟨k,by omega,rfl⟩),F⟩);(case measure=>simp [Ai];omega))
   obtain ⟨hd,aq,ac,K0⟩:=GG;go_upto_region 5 with fail;generalize X:World.alloc wr _=wC;obtain ⟨EC,M0,M1,M2,K0⟩:=CE
   (try replace U:=cL EC U);(try replace a1:=cL EC a1);(try replace az:=cL EC az);clear X
   have FX:=yD (λ(W:Ak) (hW:Qb wC W)=>cLs5 hW K0 M0 M1 M2 U);refine kM (λW=>Qb wC W) [Tt,Tt,Tt,Ff,Tt,Tt,Tt,Tt,Tt,Tt,Tt,Tt,Tt,Tt,Tt,Tt,Tt,Tt,Tt,Tt,Tt,Tt] bC3 bC3 pK (bR.drew) ?_;intro wS E;iterate 3
    all_goals refine ku ?_
   all_goals first | refine wkB (kFo (HN.out.below ((tQ EB ((tQ o (tQ EC E)))))) (px.below (tQ EC E))) (λwS1 E=>?_) | refine ku ?_
   all_goals (refine jy λb O=>?_;cases b <;> try simp only [jw] at O)
   all_goals refine ku ?_
   all_goals refine ku ?_
   all_goals (refine jy λb aw=>?_;cases b <;> try simp only [jw] at aw)
   iterate 13
    all_goals refine ku ?_
   all_goals (refine jy λb ad=>?_;cases b <;> try simp only [jw] at ad)
   all_goals refine kS ?_
   all_goals have F:=(tQ o (tQ EC E))
   all_goals first
     | (have L:=yD (a4.out O);go_wp2;go_roundw;(case rel=>exact ⟨k + 1,(j:Int),by omega,by go_num,rfl,L,yD (.inr ⟨j,by omega,rfl⟩),F⟩);(case measure=>simp [Ai];omega))
     | (have L:=yD ((λ(_:kJo n x.1=true)=>ag.out h3) O);go_wp2;go_roundw;(case rel=>exact ⟨k + 1,(j:Int),by omega,by go_num,rfl,L,yD (.inr ⟨j,by omega,rfl⟩),F⟩);(case measure=>simp [Ai];omega))
 obtain rfl:k=l.length:=bC9
 obtain ⟨F,R0,F0⟩:=I7
 rcases HR.out with rfl|⟨j,I,rfl⟩
 · have L:=yD (m_no HM.out);clear H;go_wp2;refine Ad (v:=.tuple #[.agg #[.slice none 0 0],.bool false]) nN rfl ⟨[.slice none 0 0],by rw [L.out.1],?_,?_⟩
   · rw [L.out.2];exact kD.jd
   exact F.setCell bD0 _
 have ch:=Aa j
 have br:=Ac.2 I
 have L:=yD (m_yes I HM.out)
 obtain ⟨yb,yo,rfl,be,bh,bf,yr,U,a1,az⟩:=kD.zg H.1 I rfl
 obtain ⟨dh,am,ba,a9,ck,ao⟩:=jM yr
 simp only [Ab,and_true] at am
 obtain ⟨rfl,rfl,rfl⟩:=am
 obtain ⟨ya,yp,rfl,yl⟩:=kD.sl a9
 have py:kU.rd wr _ l[j].1:=⟨ba,(kD.yX HL.out I).1⟩
 clear yr ck ao a9 ba
 clear H
 generalize l[j]=y at *
 go_wp2_with fail
 refine (zI (py.below bF)).mono ?_
 rintro e V ⟨cs,rfl,O2,ak⟩
 obtain ⟨cv,rfl,ap⟩:=kZ O2.raw
 obtain ⟨a2,c2,hv,_⟩:=kD.kAy ap
 obtain rfl:cv=_:=by simpa using hv
 obtain ⟨J,R,R0,F0⟩:=BP
 clear hv O2 ap ak F
 go_wp2
 refine Ad (v:=.tuple #[.agg #[Qs a2 y.1 c2],.bool true]) nN rfl ⟨[Qs a2 y.1 c2],by rw [L.out.1],?_,?_⟩
 · rw [L.out.2];exact (J.out.setCell dX).wide fJ
 exact R.setCell bD0 _
end Go.Proofs.YtonmjkmaadgceabGreat

/-
  The longest prefix among routes.
-/
import Derived.Test.YtjhfdpopkkmigabGreatSoft5
set_option linter.unusedVariables false
set_option linter.defProp false
set_option linter.unusedSimpArgs false
set_option linter.unnecessarySimpa false
set_option maxRecDepth 100000
set_option maxHeartbeats 4000000
open Bool renaming true->Tt,false->Ff
open Int renaming natCast_nonneg->Aa,ofNat_lt->Ac,toNat_natCast->Ae
open List.cons renaming injEq->Ab
open Go renaming bodyPost_ret->Ad,World->Ak
open List renaming getElem?_cons_succ->Ag,getElem?_cons_zero->Ah,take_of_length_le->Aj
open Go.RowKit renaming intOf->Ai
open _root_ renaming List->Al
open Option.some renaming injEq->Am
open Go.Addr.mk renaming injEq->Ap
namespace Go.Proofs.YtjhfdpopkkmigabGreat
open Go.RowKit _root_.Go.Proofs.Tryz
def kLg (n p:kg):Bool:=decide ((p.length:Int)<=n.length) && eqN (n.take p.length) p
def prefN_no {n p:kg} (h:¬ p.length<=n.length):kLg n p=false:=by unfold kLg;rw [decide_eq_false bH3];rfl
def kZq {n p:kg} (h:p.length<=n.length):kLg n p=eqN (n.take p.length) p:=by unfold kLg;rw [decide_eq_true bH3];rfl
def clip {n:kg} (k:Int):∃ m:Nat,max 0 (min k n.length)=(m:Int)/\m<=n.length/\n.take k.toNat=n.take m:=by
 refine ⟨(max 0 (min k n.length)).toNat,by omega,by omega,?_⟩;by_cases h:k.toNat<=n.length
 · congr 1;omega
 rw [Aj bH3,Aj bH3]
def mB (n:kg) (l:Al jA):Nat->Int
  | 0=>-1
  | k + 1=>if kLg n (l.getD k ([],0,0)).1=true/\(mB n l k < 0\/(l.getD (mB n l k).toNat ([],0,0)).1.length < (l.getD k ([],0,0)).1.length) then k else mB n l k
def mB_no {n:kg} {l:Al jA} {k:Nat} (hk:k < l.length) (h:kLg n l[k].1=false):mB n l (k + 1)=mB n l k:=by
 conv=>lhs;unfold mB
 rw [ja hk,if_neg (by simp [h])]
def mB_new {n:kg} {l:Al jA} {k:Nat} (hk:k < l.length) (h:kLg n l[k].1=true) (h2:mB n l k=-1):mB n l (k + 1)=k:=by
 conv=>lhs;unfold mB
 rw [ja hk,if_pos ⟨h,.inl bH3⟩]
def mB_up {n:kg} {l:Al jA} {k j:Nat} (hk:k < l.length) (h:kLg n l[k].1=true) (hj:j < l.length) (h2:mB n l k=j) (h3:l[j].1.length < l[k].1.length):mB n l (k + 1)=k:=by
 conv=>lhs;unfold mB
 rw [ja hk,h2,Ae,ja hj,if_pos ⟨h,.inr h3⟩]
def mB_keep {n:kg} {l:Al jA} {k j:Nat} (hk:k < l.length) (hj:j < l.length) (h2:mB n l k=j) (h3:¬ l[j].1.length < l[k].1.length):mB n l (k + 1)=j:=by
 conv=>lhs;unfold mB
 rw [ja hk,h2,Ae,ja hj,if_neg (λq=>by rcases q.2 with h | h;omega;exact h3 h)]
def mOk (n:kg) (l:Al jA):Bool:=!decide (mB n l l.length < 0)
def kEl (n:kg) (l:Al jA):kg:=if mB n l l.length < 0 then [] else (l.getD (mB n l l.length).toNat ([],0,0)).1
def m_no {n:kg} {l:List jA} (h:mB n l l.length=-1):mOk n l=false/\kEl n l=[]:=by simp [mOk,kEl,h]
def m_yes {n:kg} {l:Al jA} {j:Nat} (hj:j < l.length) (h:mB n l l.length=j):mOk n l=true/\kEl n l=l[j].1:=by
 unfold mOk kEl;rw [h,Ae,ja hj,if_neg bH3,decide_eq_false bH3];exact ⟨rfl,rfl⟩
def kVx {w:Ak} {ca:Al Value} {x:kg} {k:Int} (ha:kN.rd w ca x):Calls prog 194 #[.agg ca.toArray,.int .i64 k] w (zo kN (x.take k.toNat) w):=by
 have HA:=yD ha;obtain ⟨av,rfl,Z⟩:=kX ha.1;obtain ⟨aa,ao,rfl,la⟩:=kD.sl Z;have b0:=kD.kCt Z;have hb:x.length<=16777216:=ha.2.1;obtain ⟨m,hm,D,ah⟩:=clip (n:=x) k;have au:=yD ah;clear ha Z ah;go_enter func194,ntmps194;go_wp2_with fail;refine kZf.mono ?_;rintro e w1 ⟨rfl,rfl⟩;go_wp2_with fail;refine specMax_c.mono ?_;rintro e w1 ⟨rfl,rfl⟩;rw [hm];have ac:=yD (kD.kPv (e:=9) (r:=kD.str) HA.out D);have hl:(x.take m).length=m:=bG7;generalize x.take m=y at *;subst hl;have ax:(y.length:Int)<=ao:=bH3;have O0:kD.kQ 9 kD.str (((w.alloc (.cells #[.slice aa x.length ao] 36)).alloc (.cells #[.slice none 0 0] 36)).alloc (.cells #[] 9)) (.slice (some ⟨w.heap.size + 1 + 1,0,none⟩) 0 0) [] (λk=>k=w.heap.size + 1 + 1):=by
  exact aL
 go_wp2_with (at_builtin;refine kD.yT rfl _ _ 34 rfl (r:=kD.str) (e:=9) underlying34 kCk rfl bH2 bH2 kD.kEd (B:=w.heap.size + 1 + 1) O0 bH5 bH5 (ac.out.below bI) sG bH4 bG7 ?_);intro v2 V hown o hz;obtain ⟨a2,c2,hv⟩:=hown.yw;obtain rfl:=hv;have hw:=hown.own (by simp [Big];omega);have I:Hid (kN.own V [Qs a2 y c2] y (jb (w.heap.size + 1 + 1) V.heap.size)):=yD hw;have EG:Qb w V:=Below.trans bI (o.mono sP);clear hown O0 hw;obtain ⟨R0,F0⟩:=xS;clear o;go_wp2;refine Ad (v:=.agg #[Qs a2 y c2]) (by simp [results,results194,go_sem,R0,F0]) rfl ⟨[_],rfl,?_,?_⟩
 · rw [au.out];exact (I.out.setCell fH).wide gB
 exact EG.setCell bH4 _
def kGm {w:Ak} {ca cb:Al Value} {a b:kg} (ha:kN.rd w ca a) (hb:kN.rd w cb b) :
    Calls prog 166 #[.agg ca.toArray,.agg cb.toArray] w (bQ w (.bool (kLg a b))):=by
 have HA:=yD ha
 have HB:=yD hb
 obtain ⟨av,rfl,Z⟩:=kX ha.1
 obtain ⟨bv,rfl,a4⟩:=kX hb.1
 clear ha hb
 obtain ⟨aa,ao,rfl,la⟩:=kD.sl Z
 obtain ⟨ab,af,rfl,lb⟩:=kD.sl a4
 have b0:=kD.kCt Z
 go_enter func166,ntmps166
 go_wp2_with fail
 generalize J:World.alloc (World.alloc w _) _=N
 obtain ⟨EB,K0,K1⟩:=DL
 clear J
 by_cases hc:b.length<=a.length
 · have hd:decide ((b.length:Int)<=a.length)=true:=bE0;obtain ⟨ac,bl,dp,L,FX⟩:=IE;refine yN (λW=>Qb N W) [(0,true),(1,true),(2,true),(3,true),(4,true),(5,true),(6,true),(7,true),(8,true),(9,true),(10,true),(11,true),(13,true),(12,false),(14,false),(15,true),(16,true)] bG6 bG6 qY (bR.drew) ?_;intro wS E;simp only [jB,Ag,Ah,List.map_cons,List.map_nil];iterate 7
    all_goals refine ky ?_
   all_goals (refine jy λb ax=>?_;cases b <;> try simp only [jw] at ax)
   iterate 5
    all_goals refine ky ?_
   all_goals first|(refine kJ rfl E ?_)|(refine kw rfl (λK H=>?_);go_simp;refine (kVx (HA.out.below (tQ EB E))).mono ?_;rintro e wT ⟨tc,rfl,OT,al⟩;replace E:=(tQ E al);refine H _ _ E ?_;clear H K al)
   all_goals refine jG ?_
   all_goals first | refine wkB (jq OT.raw (HB.out.1.below (tQ EB E))) (λwS1 E=>?_) | refine ky ?_
   all_goals refine ky ?_
   all_goals refine ky ?_
   all_goals refine kS ?_
   exact lT
 obtain ⟨hd,ac,L,FX⟩:=IA
 refine yN (λW=>Qb N W) [(0,true),(1,true),(2,true),(3,true),(4,true),(5,true),(6,true),(7,true),(8,true),(9,true),(10,true),(11,true),(13,true),(12,false),(14,false),(15,true),(16,true)] bG6 bG6 qY (bR.drew) ?_
 intro wS E
 simp only [jB,Ag,Ah,List.map_cons,List.map_nil]
 iterate 7
  all_goals refine ky ?_
 all_goals (refine jy λb ax=>?_;cases b <;> try simp only [jw] at ax)
 iterate 5
  all_goals refine ky ?_
 iterate 2
  all_goals first|(refine kJ rfl E ?_)|(fail)
  all_goals refine jG ?_
 all_goals refine ky ?_
 all_goals refine ky ?_
 all_goals refine kS ?_
 exact lT
def kGo {w:Ak} {ca cb:Al Value} {a b:kg} (ha:kN.rd w ca a) (hb:kN.rd w cb b) :
    Calls prog 117 #[.agg ca.toArray,.agg cb.toArray] w (bQ w (.bool (kLg a b))):=by
 have HA:=yD ha
 have HB:=yD hb
 obtain ⟨av,rfl,Z⟩:=kX ha.1
 obtain ⟨bv,rfl,a4⟩:=kX hb.1
 clear ha hb
 obtain ⟨aa,ao,rfl,la⟩:=kD.sl Z
 obtain ⟨ab,af,rfl,lb⟩:=kD.sl a4
 have b0:=kD.kCt Z
 go_enter func117,ntmps117
 go_wp2_with fail
 generalize J:World.alloc (World.alloc w _) _=N
 obtain ⟨EB,K0,K1⟩:=DL
 clear J
 by_cases hc:b.length<=a.length
 · have hd:decide ((b.length:Int)<=a.length)=true:=bE0;obtain ⟨ac,bl,dp,L,FX⟩:=IE;refine kK (λW=>Qb N W) [Tt,Tt,Tt,Tt,Tt,Tt,Tt,Tt,Tt,Tt,Tt,Tt,Tt,Tt,Tt,Tt,Ff,Tt,Tt] bG6 bG6 qY (bR.drew) ?_;intro wS E;iterate 7
    all_goals refine ky ?_
   all_goals (refine jy λb ax=>?_;cases b <;> try simp only [jw] at ax)
   iterate 8
    all_goals refine ky ?_
   all_goals first | refine wkB (kMz (kD.kGa (e:=9) (r:=kD.str) (HA.out.1.below (tQ EB E)) hc) (HB.out.1.below (tQ EB E))) (λwS1 E=>?_) | refine ky ?_
   all_goals refine ky ?_
   all_goals refine ky ?_
   all_goals refine kS ?_
   exact lT
 obtain ⟨hd,ac,L,FX⟩:=IA
 refine kK (λW=>Qb N W) [Tt,Tt,Tt,Tt,Tt,Tt,Tt,Tt,Tt,Tt,Tt,Tt,Tt,Tt,Tt,Tt,Ff,Tt,Tt] bG6 bG6 qY (bR.drew) ?_
 intro wS E
 iterate 7
  all_goals refine ky ?_
 all_goals (refine jy λb ax=>?_;cases b <;> try simp only [jw] at ax)
 iterate 8
  all_goals refine ky ?_
 all_goals first|(refine kJ rfl E ?_)|(fail)
 all_goals refine jG ?_
 all_goals refine ky ?_
 all_goals refine ky ?_
 all_goals refine kS ?_
 exact lT
def kGc {w:Ak} {vl:Value} {l:Al jA} (hl:(kD.slice 144 kY).rd w [vl] l) {cn:Al Value} {n:kg} (hn:kN.rd w cn n) :
    Calls prog 112 #[vl,.agg cn.toArray] w λe w'=>∃ cs,e=.returned (.tuple #[.agg cs.toArray,.bool (mOk n l)])/\kN.own w' cs (kEl n l) (jb w.heap.size w'.heap.size)/\Qb w w':=by
 have HN:=yD hn
 have HL:=yD hl
 obtain ⟨av,rfl,a5⟩:=kX hn.1
 obtain ⟨an,au,rfl,ln⟩:=kD.sl a5
 obtain ⟨aa,ao,rfl,la⟩:=kD.sl hl.1
 clear hn hl a5
 go_enter func112,ntmps112
 go_wp2
 generalize J:World.alloc (World.alloc w _) _=N
 obtain ⟨EB,U,K0,K1,F1⟩:=FT
 clear J
 go_loopw [6,7] (λb i wr=>∃ (k:Nat) (m:Int),k<=l.length/\i=.int .i64 k/\b=.int .i64 m/\Hid (mB n l k=m)/\Hid (m=-1\/∃ j:Nat,j < k/\m=j)/\Qb N wr) (λ_ i _=>l.length - (Ai i).toNat)
 case atStart=>exact ⟨0,-1,Nat.zero_le _,rfl,rfl,yD rfl,yD (.inl rfl),bR⟩
 obtain ⟨k,m,hk,rfl,rfl,HM,HR,o⟩:=hrel
 have F:=kD.rd.below HL.out (tQ EB o)
 by_cases hlt:k < l.length
 · have ce:=Aa k;have dl:=Ac.2 hlt;obtain ⟨xb,xo,rfl,b9,b1,b4,xr,ae,ah,X⟩:=kD.kAn F.1 hlt rfl;obtain ⟨ap,ak,Y,R,aj,ai⟩:=jS xr;simp only [Ab,and_true] at ak;obtain ⟨rfl,rfl,rfl⟩:=ak;obtain ⟨xa,xp,rfl,xl⟩:=kD.sl R;have px:kN.rd wr _ l[k].1:=⟨Y,(kD.yX HL.out hlt).1⟩;clear xr aj ai R Y;rcases HR.out with rfl|⟨j,hjk,rfl⟩
   · have hno:=λq=>(mB_no (n:=n) hlt q).trans HM.out;have al:=λq=>mB_new (n:=n) hlt q HM.out;clear F;generalize l[k]=x at *;have a4:=yD hno;have aq:=yD al;clear hno al;replace K0:=cL o K0;go_upto_region 5 with fail;have FX:=yD (λ(W:Ak) (hW:Qb wr W)=>kEe hW K0 ae ah X);refine kK (λW=>Qb wr W) [Tt,Tt,Tt,Tt,Tt,Tt,Ff,Tt,Tt,Tt,Tt,Tt,Tt,Tt,Tt,Tt,Tt,Tt,Tt,Tt,Tt,Tt,Tt,Tt,Tt,Tt,Tt,Tt] bG6 bG6 qY (bR.drew) ?_;intro wS E;iterate 6
      all_goals refine ky ?_
     all_goals first | refine wkB (kGm (HN.out.below ((tQ EB (tQ o E)))) (px.below E)) (λwS1 E=>?_) | refine ky ?_
     all_goals (refine jy λb ax=>?_;cases b <;> try simp only [jw] at ax)
     all_goals refine ky ?_
     all_goals refine ky ?_
     all_goals (refine jy λb ad=>?_;cases b <;> try simp only [jw] at ad)
     iterate 16
      all_goals refine ky ?_
     all_goals (refine jy λb D=>?_;cases b <;> try simp only [jw] at D)
     all_goals refine kS ?_
     all_goals have EG:=(tQ o E)
     all_goals first
       | (have L:=yD (a4.out ax);go_wp2;go_roundw;(case rel=>exact ⟨k + 1,-1,by omega,by go_num,rfl,L,yD (.inl rfl),EG⟩);(case measure=>simp [Ai];omega))
       | (have L:=yD (aq.out ax);go_wp2;go_roundw;(case rel=>exact ⟨k + 1,(k:Int),by omega,by go_num,rfl,L,yD (.inr ⟨k,by omega,rfl⟩),EG⟩);(case measure=>simp [Ai];omega))
   have hj:j < l.length:=bH3;have bz:=Aa j;have bf:=Ac.2 hj;obtain ⟨yb,yo,yE,az,a3,a1,yr,H,aw,ar⟩:=kD.kAn F.1 hj rfl;simp only [Am,Ap,and_true] at yE;obtain ⟨rfl,rfl⟩:=yE;obtain ⟨h9,O,ff,e3,f3,f8⟩:=jS yr;simp only [Ab,and_true] at O;obtain ⟨rfl,rfl,rfl⟩:=O;obtain ⟨ya,yp,rfl,yl⟩:=kD.sl e3;have py:kN.rd wr _ l[j].1:=⟨ff,(kD.yX HL.out hj).1⟩;clear yr f3 f8 e3 ff;obtain ⟨hno,ay,G⟩:=J7;clear F py;generalize l[k]=x at *;generalize l[j]=y at *;have a4:=yD hno;have a6:=yD ay;have am:=yD G;clear hno ay G;by_cases h3:y.1.length < x.1.length
   · have hd:decide ((y.1.length:Int) < x.1.length)=true:=bE1;have Z:decide ((x.1.length:Int) > y.1.length)=true:=bE1;have ac:decide (y.1.length < x.1.length)=true:=bE1;replace K0:=cL o K0;go_upto_region 5 with fail;have FX:=yD (λ(W:Ak) (hW:Qb wr W)=>cLs5 hW K0 ae ah X H);refine kK (λW=>Qb wr W) [Tt,Tt,Tt,Tt,Tt,Tt,Ff,Tt,Tt,Tt,Tt,Tt,Tt,Tt,Tt,Tt,Tt,Tt,Tt,Tt,Tt,Tt,Tt,Tt,Tt,Tt,Tt,Tt] bG6 bG6 qY (bR.drew) ?_;intro wS E;iterate 6
      all_goals refine ky ?_
     all_goals first | refine wkB (kGm (HN.out.below ((tQ EB (tQ o E)))) (px.below E)) (λwS1 E=>?_) | refine ky ?_
     all_goals (refine jy λb ax=>?_;cases b <;> try simp only [jw] at ax)
     all_goals refine ky ?_
     all_goals refine ky ?_
     all_goals (refine jy λb ad=>?_;cases b <;> try simp only [jw] at ad)
     iterate 16
      all_goals refine ky ?_
     all_goals (refine jy λb D=>?_;cases b <;> try simp only [jw] at D)
     all_goals refine kS ?_
     all_goals have EG:=(tQ o E)
     all_goals first
       | (have L:=yD (a4.out ax);go_wp2;go_roundw;(case rel=>exact ⟨k + 1,(j:Int),by omega,by go_num,rfl,L,yD (.inr ⟨j,by omega,rfl⟩),EG⟩);(case measure=>simp [Ai];omega))
       | (have L:=yD ((λq=>a6.out q h3) ax);go_wp2;go_roundw;(case rel=>exact ⟨k + 1,(k:Int),by omega,by go_num,rfl,L,yD (.inr ⟨k,by omega,rfl⟩),EG⟩);(case measure=>simp [Ai];omega))
   obtain ⟨hd,Z,ac,K0⟩:=I1;go_upto_region 5 with fail;have FX:=yD (λ(W:Ak) (hW:Qb wr W)=>cLs5 hW K0 ae ah X H);refine kK (λW=>Qb wr W) [Tt,Tt,Tt,Tt,Tt,Tt,Ff,Tt,Tt,Tt,Tt,Tt,Tt,Tt,Tt,Tt,Tt,Tt,Tt,Tt,Tt,Tt,Tt,Tt,Tt,Tt,Tt,Tt] bG6 bG6 qY (bR.drew) ?_;intro wS E;iterate 6
    all_goals refine ky ?_
   all_goals first | refine wkB (kGm (HN.out.below ((tQ EB (tQ o E)))) (px.below E)) (λwS1 E=>?_) | refine ky ?_
   all_goals (refine jy λb ax=>?_;cases b <;> try simp only [jw] at ax)
   all_goals refine ky ?_
   all_goals refine ky ?_
   all_goals (refine jy λb ad=>?_;cases b <;> try simp only [jw] at ad)
   iterate 16
    all_goals refine ky ?_
   all_goals (refine jy λb D=>?_;cases b <;> try simp only [jw] at D)
   all_goals refine kS ?_
   all_goals have EG:=(tQ o E)
   all_goals first
     | (have L:=yD (a4.out ax);go_wp2;go_roundw;(case rel=>exact ⟨k + 1,(j:Int),by omega,by go_num,rfl,L,yD (.inr ⟨j,by omega,rfl⟩),EG⟩);(case measure=>simp [Ai];omega))
     | (have L:=yD ((λ(_:kLg n x.1=true)=>am.out h3) ax);go_wp2;go_roundw;(case rel=>exact ⟨k + 1,(j:Int),by omega,by go_num,rfl,L,yD (.inr ⟨j,by omega,rfl⟩),EG⟩);(case measure=>simp [Ai];omega))
 obtain rfl:k=l.length:=bH3
 obtain ⟨EG,R0,F0⟩:=JB
 rcases HR.out with rfl|⟨j,hj,rfl⟩
 · have L:=yD (m_no HM.out);clear F;go_wp2;refine Ad (v:=.tuple #[.agg #[.slice none 0 0],.bool false]) pO rfl ⟨[.slice none 0 0],by rw [L.out.1],?_,?_⟩
   · rw [L.out.2];exact kD.jm
   exact EG.setCell bH4 _
 have bz:=Aa j
 have bf:=Ac.2 hj
 have L:=yD (m_yes hj HM.out)
 obtain ⟨yb,yo,rfl,az,a3,a1,yr,H,aw,ar⟩:=kD.kAn F.1 hj rfl
 obtain ⟨h9,O,ff,e3,f3,f8⟩:=jS yr
 simp only [Ab,and_true] at O
 obtain ⟨rfl,rfl,rfl⟩:=O
 obtain ⟨ya,yp,rfl,yl⟩:=kD.sl e3
 have py:kN.rd wr _ l[j].1:=⟨ff,(kD.yX HL.out hj).1⟩
 clear yr f3 f8 e3 ff
 clear F
 generalize l[j]=y at *
 go_wp2_with fail
 refine (zX (py.below bI)).mono ?_
 rintro e V ⟨cs,rfl,O2,af⟩
 obtain ⟨cv,rfl,ag⟩:=kX O2.raw
 obtain ⟨a2,c2,hv,_⟩:=kD.kBd ag
 obtain rfl:cv=_:=by simpa using hv
 obtain ⟨I,EF,R0,F0⟩:=CR
 clear hv O2 ag af EG
 go_wp2
 refine Ad (v:=.tuple #[.agg #[Qs a2 y.1 c2],.bool true]) pO rfl ⟨[Qs a2 y.1 c2],by rw [L.out.1],?_,?_⟩
 · rw [L.out.2];exact (I.out.setCell fH).wide gB
 exact EF.setCell bH4 _
def kGj {w:Ak} {vl:Value} {l:Al jA} (hl:(kD.slice 144 kY).rd w [vl] l) {cn:Al Value} {n:kg} (hn:kN.rd w cn n) :
    Calls prog 54 #[vl,.agg cn.toArray] w λe w'=>∃ cs,e=.returned (.tuple #[.agg cs.toArray,.bool (mOk n l)])/\kN.own w' cs (kEl n l) (jb w.heap.size w'.heap.size)/\Qb w w':=by
 have HN:=yD hn
 have HL:=yD hl
 obtain ⟨av,rfl,a5⟩:=kX hn.1
 obtain ⟨an,au,rfl,ln⟩:=kD.sl a5
 obtain ⟨aa,ao,rfl,la⟩:=kD.sl hl.1
 clear hn hl a5
 go_enter func54,ntmps54
 go_wp2
 generalize J:World.alloc (World.alloc w _) _=N
 obtain ⟨EB,U,K0,K1,F1⟩:=FT
 clear J
 go_loopw [6,11] (λb i wr=>∃ (k:Nat) (m:Int),k<=l.length/\i=.int .i64 k/\b=.int .i64 m/\Hid (mB n l k=m)/\Hid (m=-1\/∃ j:Nat,j < k/\m=j)/\Qb N wr) (λ_ i _=>l.length - (Ai i).toNat)
 case atStart=>exact ⟨0,-1,Nat.zero_le _,rfl,rfl,yD rfl,yD (.inl rfl),bR⟩
 obtain ⟨k,m,hk,rfl,rfl,HM,HR,o⟩:=hrel
 have F:=kD.rd.below HL.out (tQ EB o)
 by_cases hlt:k < l.length
 · have ce:=Aa k;have dl:=Ac.2 hlt;obtain ⟨xb,xo,rfl,b9,b1,b4,xr,ae,ah,X⟩:=kD.kAn F.1 hlt rfl;obtain ⟨ap,ak,Y,R,aj,ai⟩:=jS xr;simp only [Ab,and_true] at ak;obtain ⟨rfl,rfl,rfl⟩:=ak;obtain ⟨xa,xp,rfl,xl⟩:=kD.sl R;have px:kN.rd wr _ l[k].1:=⟨Y,(kD.yX HL.out hlt).1⟩;clear xr aj ai R Y;rcases HR.out with rfl|⟨j,hjk,rfl⟩
   · have hno:=λq=>(mB_no (n:=n) hlt q).trans HM.out;have al:=λq=>mB_new (n:=n) hlt q HM.out;clear F;generalize l[k]=x at *;have a4:=yD hno;have aq:=yD al;clear hno al;replace K0:=cL o K0;go_upto_region 5 with fail;generalize D:World.alloc wr _=wC;obtain ⟨EC,M0,M1,M2,K0⟩:=CY
     (try replace H:=cL EC H);(try replace aw:=cL EC aw);(try replace ar:=cL EC ar);clear D
     have FX:=yD (λ(W:Ak) (hW:Qb wC W)=>kEe hW K0 M0 M1 M2);refine kK (λW=>Qb wC W) [Tt,Tt,Tt,Ff,Tt,Tt,Tt,Tt,Tt,Tt,Tt,Tt,Tt,Tt,Tt,Tt,Tt,Tt,Tt,Tt,Tt,Tt] bG6 bG6 qY (bR.drew) ?_;intro wS E;iterate 3
      all_goals refine ky ?_
     all_goals first | refine wkB (kGo (HN.out.below ((tQ EB ((tQ o (tQ EC E)))))) (px.below (tQ EC E))) (λwS1 E=>?_) | refine ky ?_
     all_goals (refine jy λb co=>?_;cases b <;> try simp only [jw] at co)
     all_goals refine ky ?_
     all_goals refine ky ?_
     all_goals (refine jy λb ax=>?_;cases b <;> try simp only [jw] at ax)
     iterate 13
      all_goals refine ky ?_
     all_goals (refine jy λb ab=>?_;cases b <;> try simp only [jw] at ab)
     all_goals refine kS ?_
     all_goals have EG:=(tQ o (tQ EC E))
     all_goals first
       | (have L:=yD (a4.out co);go_wp2;go_roundw;(case rel=>exact ⟨k + 1,-1,by omega,by go_num,rfl,L,yD (.inl rfl),EG⟩);(case measure=>simp [Ai];omega))
       | (have L:=yD (aq.out co);go_wp2;go_roundw;(case rel=>exact ⟨k + 1,(k:Int),by omega,by go_num,rfl,L,yD (.inr ⟨k,by omega,rfl⟩),EG⟩);(case measure=>simp [Ai];omega))
   have hj:j < l.length:=bH3;have bz:=Aa j;have bf:=Ac.2 hj;obtain ⟨yb,yo,yE,az,a3,a1,yr,H,aw,ar⟩:=kD.kAn F.1 hj rfl;simp only [Am,Ap,and_true] at yE;obtain ⟨rfl,rfl⟩:=yE;obtain ⟨h9,O,ff,e3,f3,f8⟩:=jS yr;simp only [Ab,and_true] at O;obtain ⟨rfl,rfl,rfl⟩:=O;obtain ⟨ya,yp,rfl,yl⟩:=kD.sl e3;have py:kN.rd wr _ l[j].1:=⟨ff,(kD.yX HL.out hj).1⟩;clear yr f3 f8 e3 ff;obtain ⟨hno,ay,G⟩:=J7;clear F py;generalize l[k]=x at *;generalize l[j]=y at *;have a4:=yD hno;have a6:=yD ay;have am:=yD G;clear hno ay G;by_cases h3:y.1.length < x.1.length
   · have hd:decide ((y.1.length:Int) < x.1.length)=true:=bE1;have Z:decide ((x.1.length:Int) > y.1.length)=true:=bE1;have ac:decide (y.1.length < x.1.length)=true:=bE1;replace K0:=cL o K0;go_upto_region 5 with fail;generalize D:World.alloc wr _=wC;obtain ⟨EC,M0,M1,M2,K0⟩:=CY
     (try replace H:=cL EC H);(try replace aw:=cL EC aw);(try replace ar:=cL EC ar);clear D
     have FX:=yD (λ(W:Ak) (hW:Qb wC W)=>cLs5 hW K0 M0 M1 M2 H);refine kK (λW=>Qb wC W) [Tt,Tt,Tt,Ff,Tt,Tt,Tt,Tt,Tt,Tt,Tt,Tt,Tt,Tt,Tt,Tt,Tt,Tt,Tt,Tt,Tt,Tt] bG6 bG6 qY (bR.drew) ?_;intro wS E;iterate 3
      all_goals refine ky ?_
     all_goals first | refine wkB (kGo (HN.out.below ((tQ EB ((tQ o (tQ EC E)))))) (px.below (tQ EC E))) (λwS1 E=>?_) | refine ky ?_
     all_goals (refine jy λb co=>?_;cases b <;> try simp only [jw] at co)
     all_goals refine ky ?_
     all_goals refine ky ?_
     all_goals (refine jy λb ax=>?_;cases b <;> try simp only [jw] at ax)
     iterate 13
      all_goals refine ky ?_
     all_goals (refine jy λb ab=>?_;cases b <;> try simp only [jw] at ab)
     all_goals refine kS ?_
     all_goals have EG:=(tQ o (tQ EC E))
     all_goals first
       | (have L:=yD (a4.out co);go_wp2;go_roundw;(case rel=>exact ⟨k + 1,(j:Int),by omega,by go_num,rfl,L,yD (.inr ⟨j,by omega,rfl⟩),EG⟩);(case measure=>simp [Ai];omega))
       | (have L:=yD ((λq=>a6.out q h3) co);go_wp2;go_roundw;(case rel=>exact ⟨k + 1,(k:Int),by omega,by go_num,rfl,L,yD (.inr ⟨k,by omega,rfl⟩),EG⟩);(case measure=>simp [Ai];omega))
   obtain ⟨hd,Z,ac,K0⟩:=I1;go_upto_region 5 with fail;generalize D:World.alloc wr _=wC;obtain ⟨EC,M0,M1,M2,K0⟩:=CY
   (try replace H:=cL EC H);(try replace aw:=cL EC aw);(try replace ar:=cL EC ar);clear D
   have FX:=yD (λ(W:Ak) (hW:Qb wC W)=>cLs5 hW K0 M0 M1 M2 H);refine kK (λW=>Qb wC W) [Tt,Tt,Tt,Ff,Tt,Tt,Tt,Tt,Tt,Tt,Tt,Tt,Tt,Tt,Tt,Tt,Tt,Tt,Tt,Tt,Tt,Tt] bG6 bG6 qY (bR.drew) ?_;intro wS E;iterate 3
    all_goals refine ky ?_
   all_goals first | refine wkB (kGo (HN.out.below ((tQ EB ((tQ o (tQ EC E)))))) (px.below (tQ EC E))) (λwS1 E=>?_) | refine ky ?_
   all_goals (refine jy λb co=>?_;cases b <;> try simp only [jw] at co)
   all_goals refine ky ?_
   all_goals refine ky ?_
   all_goals (refine jy λb ax=>?_;cases b <;> try simp only [jw] at ax)
   iterate 13
    all_goals refine ky ?_
   all_goals (refine jy λb ab=>?_;cases b <;> try simp only [jw] at ab)
   all_goals refine kS ?_
   all_goals have EG:=(tQ o (tQ EC E))
   all_goals first
     | (have L:=yD (a4.out co);go_wp2;go_roundw;(case rel=>exact ⟨k + 1,(j:Int),by omega,by go_num,rfl,L,yD (.inr ⟨j,by omega,rfl⟩),EG⟩);(case measure=>simp [Ai];omega))
     | (have L:=yD ((λ(_:kLg n x.1=true)=>am.out h3) co);go_wp2;go_roundw;(case rel=>exact ⟨k + 1,(j:Int),by omega,by go_num,rfl,L,yD (.inr ⟨j,by omega,rfl⟩),EG⟩);(case measure=>simp [Ai];omega))
 obtain rfl:k=l.length:=bH3
 obtain ⟨EG,R0,F0⟩:=JB
 rcases HR.out with rfl|⟨j,hj,rfl⟩
 · have L:=yD (m_no HM.out);clear F;go_wp2;refine Ad (v:=.tuple #[.agg #[.slice none 0 0],.bool false]) qC rfl ⟨[.slice none 0 0],by rw [L.out.1],?_,?_⟩
   · rw [L.out.2];exact kD.jm
   exact EG.setCell bH4 _
 have bz:=Aa j
 have bf:=Ac.2 hj
 have L:=yD (m_yes hj HM.out)
 obtain ⟨yb,yo,rfl,az,a3,a1,yr,H,aw,ar⟩:=kD.kAn F.1 hj rfl
 obtain ⟨h9,O,ff,e3,f3,f8⟩:=jS yr
 simp only [Ab,and_true] at O
 obtain ⟨rfl,rfl,rfl⟩:=O
 obtain ⟨ya,yp,rfl,yl⟩:=kD.sl e3
 have py:kN.rd wr _ l[j].1:=⟨ff,(kD.yX HL.out hj).1⟩
 clear yr f3 f8 e3 ff
 clear F
 generalize l[j]=y at *
 go_wp2_with fail
 refine (yh (py.below bI)).mono ?_
 rintro e V ⟨cs,rfl,O2,af⟩
 obtain ⟨cv,rfl,ag⟩:=kX O2.raw
 obtain ⟨a2,c2,hv,_⟩:=kD.kBd ag
 obtain rfl:cv=_:=by simpa using hv
 obtain ⟨I,EF,R0,F0⟩:=CR
 clear hv O2 ag af EG
 go_wp2
 refine Ad (v:=.tuple #[.agg #[Qs a2 y.1 c2],.bool true]) qC rfl ⟨[Qs a2 y.1 c2],by rw [L.out.1],?_,?_⟩
 · rw [L.out.2];exact (I.out.setCell fH).wide gB
 exact EF.setCell bH4 _
end Go.Proofs.YtjhfdpopkkmigabGreat

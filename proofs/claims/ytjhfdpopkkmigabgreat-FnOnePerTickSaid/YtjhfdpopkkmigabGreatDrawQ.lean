/-
  Pending interests drawn.
-/
import Derived.Test.YtjhfdpopkkmigabGreatVPend
import Derived.Test.YtjhfdpopkkmigabGreatAddQ
set_option linter.unusedVariables false
set_option linter.defProp false
set_option linter.unusedSimpArgs false
set_option linter.unnecessarySimpa false
set_option maxRecDepth 100000
set_option maxHeartbeats 4000000
open Bool renaming true->Tt,false->Ff
open List renaming getElem_mem->Aa,mem_singleton->Au,take_length->Aw,mem_append->Ay,mem_or_eq_of_mem_set->Ba,mem_of_mem_drop->Be
open Bool renaming and_false->Ab,not_false->Ah,false_and->Ai,or_true->Aj,true_or->Ak,not_true->Al,and_true->Am,true_and->Ap,or_false->Aq,false_or->Ar,not_not->Av
open Go renaming World->Ac,Value->Bc,Calls->Bh
open _root_ renaming List->Ad
open Int renaming natCast_nonneg->Ae,ofNat_lt->Az,eq_ofNat_of_zero_le->Bd
open List.cons renaming injEq->Ag
open Go.RowKit renaming intOf->Bb
open Go.IntWalk renaming i64_in->Bf
open Go.RowKit.Below renaming mono->Bg
open Go.IntKind renaming i64->Bi
namespace Go.Proofs.YtjhfdpopkkmigabGreat
open Go.RowKit _root_.Go.Proofs.Tryz
def kHm (l:Ad kF) (n:kg):Int:=if idxOf (jQ n) l < 0 then 0 else (l.getD (idxOf (jQ n) l).toNat ([],[],0)).2.2
def kZw {l:List kF} {n:kg} (h:idxOf (jQ n) l < 0):kHm l n=0:=by unfold kHm;rw [if_pos h]
def kKn {l:Ad kF} {n:kg} {k:Nat} (hk:k < l.length) (h:idxOf (jQ n) l=k):kHm l n=l[k].2.2:=by
 unfold kHm;rw [h,if_neg bH3,Int.toNat_natCast,ja hk]
def kIa (c:Int) (r:kU):Bool:=r.2.1==c
def kGh (x:jF) (p:kF):Bool:=eqN p.1 x.1 && p.2.1.any (kIa x.2.1)
def kIe (x:jF) (s:jL):Bool:=eqN s.1 x.1 && (s.2==x.2.1)
def kMl (x:jF) (l:Ad kF) (s:Ad jL):Bool:=l.any (kGh x) || s.any (kIe x)
def kRh {α:Type} {p:α->Bool} {l:Ad α} {k:Nat} (h:k < l.length) (q:p l[k]=true):l.any p=true:=List.any_eq_true.2 ⟨_,Aa h,q⟩
def kRg {α:Type} {p:α->Bool} {l:Ad α} {k:Nat} (h:k < l.length) (a:(l.take k).any p=false) (q:p l[k]=false):(l.take (k + 1)).any p=false:=by
 rw [List.take_succ_eq_append_getElem h,List.any_append,a];simp [q]
def kVf {α:Type} (p:α->Bool) (l:Ad α):decide (0<=idxOf p l)=l.any p:=by
 unfold idxOf;cases h:l.findIdx? p with
 | none =>
   have:l.any p=false:=by rw [List.any_eq_false];intro y hy q;have:=List.findIdx?_eq_none_iff.1 h y hy;rw [q] at this;cases this
   rw [this];simp
 | some i =>
   obtain ⟨hi,hp,_⟩:=List.findIdx?_eq_some_iff_getElem.1 h;rw [kRh hi hp];simp
def kRt {w:Ac} {vl:Bc} {l:Ad kF} (hl:(kD.slice 93 kH).raw w [vl] l) {cn:Ad Bc} {n:kg} (hn:kN.raw w cn n) :
    Bh prog 48 #[vl,.agg cn.toArray] w (bQ w (.int .i64 (kHm l n))):=by
 have HL:=yD hl
 have HN:=yD hn
 obtain ⟨la,lp,rfl,ll⟩:=kD.sl hl
 obtain ⟨av,rfl,Z⟩:=kX hn
 obtain ⟨na,np,rfl,_⟩:=kD.sl Z
 clear hl hn Z
 go_enter func48,ntmps48
 go_wp2_with fail
 refine (kCi (HL.out.below bI) (HN.out.below bI)).mono ?_
 exact lM
def kSm {w:Ac} {vl:Bc} {l:Ad kF} (hl:(kD.slice 93 kH).raw w [vl] l) {cn:Ad Bc} {n:kg} (hn:kN.raw w cn n) :
    Bh prog 30 #[vl,.agg cn.toArray] w (bQ w (.int .i64 (kHm l n))):=by
 have HL:=yD hl
 have HN:=yD hn
 obtain ⟨la,lp,rfl,ll⟩:=kD.sl hl
 obtain ⟨av,rfl,Z⟩:=kX hn
 obtain ⟨na,np,rfl,_⟩:=kD.sl Z
 clear hl hn Z
 go_enter func30,ntmps30
 go_wp2_with fail
 refine (kCg (HL.out.below bI) (HN.out.below bI)).mono ?_
 exact lM
def kYs {w:Ac} {cr:Ad Bc} {r:kU} (hr:kM.raw w cr r) {x:jF} {b9 b1 b4 V:Bc} {U:Nat} (xr:jO.raw w [b9,b1,b4,V] x) (ae:Qc w U 0 b9) (ah:Qc w U 1 b1) (X:Qc w U 2 b4) (G:Qc w U 3 V) :
    Bh prog 78 (#[.agg cr.toArray]++#[.pointer (some ⟨U,0,none⟩)]) w (bQ w (.bool (kIa x.2.1 r))):=by
 have Hr:=yD hr
 obtain ⟨rfl,D,H,O⟩:=yU hr
 obtain ⟨ap,ak,Y,R,aj,ai,al⟩:=jY xr
 simp only [Ag,and_true] at ak
 obtain ⟨rfl,rfl,rfl,rfl⟩:=ak
 obtain ⟨b8,Z,rfl,ar⟩:=kD.sl R
 show Bh prog 78 #[_,_] w _
 go_enter func78,ntmps78
 go_upto_region 1 with fail
 generalize J:World.alloc w _=N
 obtain ⟨EB,I,o,F⟩:=AX
 clear J
 replace ae:=cL EB ae
 replace ah:=cL EB ah
 replace X:=cL EB X
 replace G:=cL EB G
 have FX:=yD (λ(W:Ac) (hW:Qb N W)=>cLs7 hW I o F ae ah X G)
 refine kr (λW=>Qb N W) [Tt,Tt,Tt,Tt,Tt,Tt] bR ?_
 intro wS E
 iterate 5
  all_goals refine ky ?_
 all_goals (refine jy λb c3=>?_;cases b <;> try simp only [jw] at c3)
 all_goals refine kS ?_
 all_goals have EG:=(tQ EB E)
 all_goals first
   | (have L:=yD (show (kIa x.2.1 r)=false by simp only [kIa,Al,Ah,Am,Ap,Ab,Ai,Aj,Ak,Aq,Ar,Av,c3]);go_wp2;go_ret;exact ⟨kW L.out.symm,EG⟩)
   | (have L:=yD (show (kIa x.2.1 r)=true by simp only [kIa,Al,Ah,Am,Ap,Ab,Ai,Aj,Ak,Aq,Ar,Av,c3]);go_wp2;go_ret;exact ⟨kW L.out.symm,EG⟩)
def kKu:jK prog 78:=zP func78 bG6 bG6
def kYr {w:Ac} {cs:Ad Bc} {s:jL} (hs:jD.raw w cs s) {x:jF} {b9 b1 b4 V:Bc} {U:Nat} (xr:jO.raw w [b9,b1,b4,V] x) (ae:Qc w U 0 b9) (ah:Qc w U 1 b1) (X:Qc w U 2 b4) (G:Qc w U 3 V) :
    Bh prog 80 (#[.agg cs.toArray]++#[.pointer (some ⟨U,0,none⟩)]) w (bQ w (.bool (kIe x s))):=by
 have Hs:=yD hs
 obtain ⟨aa,rfl,F,O,ac⟩:=kBq hs
 obtain ⟨D,H,rfl,ab⟩:=kD.sl O
 obtain ⟨ap,ak,Y,R,aj,ai,al⟩:=jY xr
 simp only [Ag,and_true] at ak
 obtain ⟨rfl,rfl,rfl,rfl⟩:=ak
 obtain ⟨b8,Z,rfl,ar⟩:=kD.sl R
 show Bh prog 80 #[_,_] w _
 go_enter func80,ntmps80
 go_upto_region 1 with fail
 generalize J:World.alloc w _=N
 have EB:Qb w N:=by rw [<- J];exact bI
 have I:Qd N w 0 (.slice D (s.1).length H):=wF
 have o:Qd N w 1 (.int .i64 s.2):=wF
 clear J
 replace ae:=cL EB ae
 replace ah:=cL EB ah
 replace X:=cL EB X
 replace G:=cL EB G
 have FX:=yD (λ(W:Ac) (hW:Qb N W)=>kIy hW I o ae ah X G)
 refine kr (λW=>Qb N W) [Tt,Tt,Tt,Tt,Ff,Tt,Tt,Tt,Tt,Tt,Tt,Tt,Tt] bR ?_
 intro wS E
 iterate 4
  all_goals refine ky ?_
 all_goals first | refine wkB (ze (kD.raw.below F (tQ EB E)) (kD.raw.below Y (tQ EB E))) (λwS1 E=>?_) | refine ky ?_
 all_goals (refine jy λb c3=>?_;cases b <;> try simp only [jw] at c3)
 iterate 6
  all_goals refine ky ?_
 all_goals (refine jy λb af=>?_;cases b <;> try simp only [jw] at af)
 all_goals refine kS ?_
 all_goals have EG:=(tQ EB E)
 all_goals first
   | (have L:=yD (show (kIe x s)=false by simp only [kIe,Al,Ah,Am,Ap,Ab,Ai,Aj,Ak,Aq,Ar,Av,c3,af]);go_wp2;go_ret;exact ⟨kW L.out.symm,EG⟩)
   | (have L:=yD (show (kIe x s)=true by simp only [kIe,Al,Ah,Am,Ap,Ab,Ai,Aj,Ak,Aq,Ar,Av,c3,af]);go_wp2;go_ret;exact ⟨kW L.out.symm,EG⟩)
def kKt:jK prog 80:=zP func80 bG6 bG6
def jBj {w:Ac} {vl:Bc} {l:Ad kF} (hl:(kD.slice 93 kH).rd w [vl] l) {vs:Bc} {s:Ad jL} (hs:(kD.slice 121 jD).rd w [vs] s) {cx:Ad Bc} {x:jF} (hx:jO.rd w cx x) :
    Bh prog 37 #[vl,vs,.agg cx.toArray] w (bQ w (.bool (kMl x l s))):=by
 obtain ⟨U,F,x2,x3⟩:=x
 have HL:=yD hl
 have ac:=yD hs
 have HX:=yD hx
 obtain ⟨la,lp,rfl,ll⟩:=kD.sl hl.1
 obtain ⟨sa,sp,rfl,sl⟩:=kD.sl hs.1
 obtain ⟨ap,rfl,Y,R,aj,ai,al⟩:=jY hx.1
 obtain ⟨na,np,rfl,_⟩:=kD.sl R
 have an:Hid (kN.raw w [Qs na U np] U):=yD Y
 clear hl hs hx Y R
 go_enter func37,ntmps37
 go_upto_region 1 with fail
 generalize J:World.alloc w _=N
 have EB:Qb w N:=by rw [<- J];exact bI
 have K0:Qd N w 0 (.slice na U.length np):=wF
 obtain ⟨K1,K2,K3⟩:=DD
 clear J
 have bj:=K1
 go_wp2
 go_loopw [7] (λi wr=>∃ k:Nat,i=.int .i64 k/\k<=l.length/\Hid ((l.take k).any (kGh (U,F,x2,x3))=false)/\Qb N wr) (λi _=>l.length - (Bb i).toNat)
 case atStart=>exact ⟨0,rfl,Nat.zero_le _,yD bH4,bR⟩
 rename Ac=>wq
 obtain ⟨k,rfl,hk,HA,O⟩:=hrel
 have EQ:=(tQ EB O)
 have ce:=Ae k
 by_cases hlt:k < l.length
 · have dl:=Az.2 hlt;obtain ⟨qb,qo,bh,c0,c1,c2,qr,be,a5,bi⟩:=kD.kAn HL.out.1 hlt rfl;have ae:=λq=>kRh (p:=kGh (U,F,x2,x3)) hlt q;have ay:=λq=>kRg (p:=kGh (U,F,x2,x3)) hlt HA.out q;generalize l[k]=y at *;have a3:=yD ae;have ah:=yD ay;clear ae ay;obtain ⟨y0,y1,y2⟩:=y;obtain ⟨a6,bn,G,ag,ak,am,ar⟩:=jR qr;simp only [Ag,and_true] at G;obtain ⟨rfl,rfl,rfl⟩:=G;obtain ⟨ma,mp,rfl,_⟩:=kD.sl ak;obtain ⟨ra,rp,rfl,_⟩:=kD.sl am;have X:Hid (kN.raw w [Qs ma y0 mp] y0):=yD ag;have HQ:=yD am;try simp only at be a5 bi
   clear qr ag ak am ar;subst bh;cases he:eqN y0 U
   · have HE:=yD he;clear he;have a8:=yD (show kGh (U,F,x2,x3) (y0,y1,y2)=false by unfold kGh;simp only [HE.out];rfl);go_wp2;go_loopw [8] (λi wr=>∃ m:Nat,i=.int .i64 m/\m<=y1.length/\Hid ((y1.take m).any (kIa F)=false)/\Qb N wr) (λi _=>y1.length - (Bb i).toNat);case atStart=>exact ⟨0,rfl,Nat.zero_le _,yD bH4,O⟩
     rename Ac=>D;obtain ⟨m,rfl,hm,HM,o⟩:=hrel;have bc:=Ae m;have L:=(tQ EB o);have A0:=cL L be;have A1:=cL L a5;obtain ⟨K0,K1⟩:=IJ;by_cases V:m < y1.length
     · have b7:=Az.2 V;go_upto_region 5 with fail;have FX:=yD (λ(W:Ac) (hW:Qb D W)=>kEe hW A0 A1 K0 K1);refine kK (λW=>Qb D W) [Tt,Tt,Tt,Tt,Tt,Tt,Tt,Tt,Tt,Tt,Tt,Tt,Tt,Tt,Tt,Tt,Ff,Tt] bG6 bG6 qY (bR.drew) ?_;intro wS E;iterate 8
        all_goals refine ky ?_
       all_goals (refine jy λb ck=>?_;cases b <;> try simp only [jw] at ck)
       iterate 7
        all_goals refine ky ?_
       all_goals first|(refine kJ rfl E ?_)|(refine kw rfl (λK H=>?_);go_simp;refine (jq (X.out.below (tQ L E)) (an.out.below (tQ L E))).mono ?_;rintro e wS1 ⟨av,Z⟩;have I:e=.returned (.bool false):=av.trans bG4;subst I;clear av;replace E:=(tQ E Z);refine H _ _ E ?_;clear H K Z)
       all_goals refine jG ?_
       all_goals refine ky ?_
       all_goals refine kS ?_
       exact lN
     have bb:¬ ((m:Int) < y1.length):=bH3;obtain rfl:m=y1.length:=bH3;go_upto_region 5 with fail;have FX:=yD (λ(W:Ac) (hW:Qb D W)=>kEe hW A0 A1 K0 K1);refine kK (λW=>Qb D W) [Tt,Tt,Tt,Tt,Tt,Tt,Tt,Tt,Tt,Tt,Tt,Tt,Tt,Tt,Tt,Tt,Ff,Tt] bG6 bG6 qY (bR.drew) ?_;intro wS E;iterate 8
      all_goals refine ky ?_
     all_goals (refine jy λb ck=>?_;cases b <;> try simp only [jw] at ck)
     iterate 7
      all_goals refine ky ?_
     all_goals first|(refine kJ rfl E ?_)|(refine kw rfl (λK H=>?_);go_simp;refine (jq (X.out.below (tQ L E)) (an.out.below (tQ L E))).mono ?_;rintro e wS1 ⟨av,Z⟩;have I:e=.returned (.bool false):=av.trans bG4;subst I;clear av;replace E:=(tQ E Z);refine H _ _ E ?_;clear H K Z)
     all_goals refine jG ?_
     all_goals refine ky ?_
     all_goals refine kS ?_
     exact lN
   have HE:=yD he;clear he;go_wp2;go_loopw [8] (λi wr=>∃ m:Nat,i=.int .i64 m/\m<=y1.length/\Hid ((y1.take m).any (kIa F)=false)/\Qb N wr) (λi _=>y1.length - (Bb i).toNat);case atStart=>exact ⟨0,rfl,Nat.zero_le _,yD bH4,O⟩
   rename Ac=>D;obtain ⟨m,rfl,hm,HM,o⟩:=hrel;have bc:=Ae m;have L:=(tQ EB o);have A0:=cL L be;have A1:=cL L a5;obtain ⟨K0,K1⟩:=IJ;by_cases V:m < y1.length
   · have b7:=Az.2 V;obtain ⟨rb,ro,ba,r0,r1,r2,rr,a7,aq,bg⟩:=kD.kAn HQ.out V rfl;have af:=λq=>kRh (p:=kIa F) V q;have ad:=λq=>kRg (p:=kIa F) V HM.out q;generalize y1[m]=z at *;have az:=yD af;have ao:=yD ad;clear af ad;obtain ⟨z0,z1,z2⟩:=z;obtain ⟨aa,aw,a4,bf⟩:=yU rr;simp only [Ag,and_true] at aa;obtain ⟨rfl,rfl,rfl⟩:=aa;try simp only at a7 aq bg
     subst ba;clear rr aw a4 bf;go_upto_region 5 with fail;have FX:=yD (λ(W:Ac) (hW:Qb D W)=>kEe hW A0 A1 K0 K1);refine kK (λW=>Qb D W) [Tt,Tt,Tt,Tt,Tt,Tt,Tt,Tt,Tt,Tt,Tt,Tt,Tt,Tt,Tt,Tt,Ff,Tt] bG6 bG6 qY (bR.drew) ?_;intro wS E;iterate 8
      all_goals refine ky ?_
     all_goals (refine jy λb ck=>?_;cases b <;> try simp only [jw] at ck)
     iterate 7
      all_goals refine ky ?_
     all_goals first|(refine kJ rfl E ?_)|(refine kw rfl (λK H=>?_);go_simp;refine (jq (X.out.below (tQ L E)) (an.out.below (tQ L E))).mono ?_;rintro e wS1 ⟨av,Z⟩;have I:e=.returned (.bool true):=av.trans bG4;subst I;clear av;replace E:=(tQ E Z);refine H _ _ E ?_;clear H K Z)
     all_goals refine jG ?_
     all_goals refine ky ?_
     all_goals refine kS ?_
     have EW:=(tQ L E);have ab:=(tQ o E);clear E;have B1:=cL EW a5;have R1:=cL EW aq;have N1:Qd wS1 w 1 (.int .i64 F):=cL (ab) bj;by_cases hz:z1=F
     · have HH:=yD (az.out (by unfold kIa;simp [hz]));have bl:=yD (a3.out (by unfold kGh;simp only [HE.out,HH.out];rfl));go_upto_region 7 with fail;refine kK (λW=>Qb wS1 W) [Tt,Tt,Tt,Tt,Tt,Tt,Tt,Tt,Tt,Tt,Tt,Tt] bG6 bG6 qY (bR.drew) ?_;intro wT ew;iterate 4
        all_goals first|(refine kJ rfl ew ?_)|(refine jE (v:=?_) rfl (λW hW=>?_) ?_;rotate_left;(· go_simp;try with_reducible rfl))
        all_goals refine jG ?_
       all_goals first|(refine kJ rfl ew ?_)|(refine jE (v:=?_) rfl (λW hW=>?_) ?_;rotate_left;(· have au:=cL hW B1;have a2:=cL hW R1;have ax:=cL hW N1;clear hW;go_simp;try with_reducible rfl))
       iterate 3
        all_goals refine jG ?_
        all_goals first|(refine kJ rfl ew ?_)|(refine jE (v:=?_) rfl (λW hW=>?_) ?_;rotate_left;(· go_simp;try with_reducible rfl))
       iterate 2
        all_goals refine jG ?_
        all_goals first|(refine kJ rfl ew ?_)|(refine jE (v:=?_) rfl (λW hW=>?_) ?_;rotate_left;(· have au:=cL hW B1;have a2:=cL hW R1;have ax:=cL hW N1;clear hW;go_simp;try with_reducible rfl))
        all_goals refine jG ?_
        all_goals first|(refine kJ rfl ew ?_)|(refine jE (v:=?_) rfl (λW hW=>?_) ?_;rotate_left;(· go_simp;try with_reducible rfl))
       all_goals refine jG ?_
       all_goals refine kS ?_
       have EV:=(tQ EW ew);go_wp2;go_ret;exact ⟨kW (by unfold kMl;rw [bl.out];rfl),EV⟩
     have HH:=yD (ao.out (by unfold kIa;simp [hz]));go_upto_region 7 with fail;refine kK (λW=>Qb wS1 W) [Tt,Tt,Tt,Tt,Tt,Tt,Tt,Tt,Tt,Tt,Tt,Tt] bG6 bG6 qY (bR.drew) ?_;intro wT ew;iterate 4
      all_goals first|(refine kJ rfl ew ?_)|(refine jE (v:=?_) rfl (λW hW=>?_) ?_;rotate_left;(· go_simp;try with_reducible rfl))
      all_goals refine jG ?_
     all_goals first|(refine kJ rfl ew ?_)|(refine jE (v:=?_) rfl (λW hW=>?_) ?_;rotate_left;(· have au:=cL hW B1;have a2:=cL hW R1;have ax:=cL hW N1;clear hW;go_simp;try with_reducible rfl))
     iterate 3
      all_goals refine jG ?_
      all_goals first|(refine kJ rfl ew ?_)|(refine jE (v:=?_) rfl (λW hW=>?_) ?_;rotate_left;(· go_simp;try with_reducible rfl))
     iterate 2
      all_goals refine jG ?_
      all_goals first|(refine kJ rfl ew ?_)|(refine jE (v:=?_) rfl (λW hW=>?_) ?_;rotate_left;(· have au:=cL hW B1;have a2:=cL hW R1;have ax:=cL hW N1;clear hW;go_simp;try with_reducible rfl))
      all_goals refine jG ?_
      all_goals first|(refine kJ rfl ew ?_)|(refine jE (v:=?_) rfl (λW hW=>?_) ?_;rotate_left;(· go_simp;try with_reducible rfl))
     all_goals refine jG ?_
     all_goals refine kS ?_
     have a1:=(tQ ab ew);go_wp2;go_roundw;case rel=>exact ⟨m + 1,by go_num,by omega,HH,a1⟩
     simp [Bb];omega
   have bb:¬ ((m:Int) < y1.length):=bH3;obtain rfl:m=y1.length:=bH3;have a8:=yD (show kGh (U,F,x2,x3) (y0,y1,y2)=false by have h_:=HM.out;rw [Aw] at h_;unfold kGh;simp only [h_];exact Ab _);go_upto_region 5 with fail;have FX:=yD (λ(W:Ac) (hW:Qb D W)=>kEe hW A0 A1 K0 K1);refine kK (λW=>Qb D W) [Tt,Tt,Tt,Tt,Tt,Tt,Tt,Tt,Tt,Tt,Tt,Tt,Tt,Tt,Tt,Tt,Ff,Tt] bG6 bG6 qY (bR.drew) ?_;intro wS E;iterate 8
    all_goals refine ky ?_
   all_goals (refine jy λb ck=>?_;cases b <;> try simp only [jw] at ck)
   iterate 7
    all_goals refine ky ?_
   all_goals first|(refine kJ rfl E ?_)|(refine kw rfl (λK H=>?_);go_simp;refine (jq (X.out.below (tQ L E)) (an.out.below (tQ L E))).mono ?_;rintro e wS1 ⟨av,Z⟩;have I:e=.returned (.bool true):=av.trans bG4;subst I;clear av;replace E:=(tQ E Z);refine H _ _ E ?_;clear H K Z)
   all_goals refine jG ?_
   all_goals refine ky ?_
   all_goals refine kS ?_
   exact lN
 have fe:¬ ((k:Int) < l.length):=bH3
 obtain rfl:k=l.length:=bH3
 have a9:=yD (show l.any (kGh (U,F,x2,x3))=false by have h_:=HA.out;rwa [Aw] at h_)
 clear HA
 go_wp2
 go_loopw [9] (λi wr=>∃ m:Nat,i=.int .i64 m/\m<=s.length/\Hid ((s.take m).any (kIe (U,F,x2,x3))=false)/\Qb N wr) (λi _=>s.length - (Bb i).toNat)
 case atStart=>exact ⟨0,rfl,Nat.zero_le _,yD bH4,O⟩
 rename Ac=>D
 obtain ⟨m,rfl,hm,HM,o⟩:=hrel
 have bc:=Ae m
 have L:=(tQ EB o)
 obtain ⟨K0,K1⟩:=IJ
 by_cases V:m < s.length
 · have b7:=Az.2 V;obtain ⟨rb,ro,ba,r0,r1,rr,a7,aq⟩:=kD.get2 ac.out.1 V rfl;have af:=λq=>kRh (p:=kIe (U,F,x2,x3)) V q;have ad:=λq=>kRg (p:=kIe (U,F,x2,x3)) V HM.out q;generalize s[m]=z at *;have az:=yD af;have ao:=yD ad;clear af ad;obtain ⟨z0,z1⟩:=z;obtain ⟨zv,aa,aw,a4,bf⟩:=kBq rr;simp only [Ag,and_true] at aa;obtain ⟨rfl,rfl⟩:=aa;obtain ⟨za,zp,rfl,_⟩:=kD.sl a4;have bd:Hid (kN.raw w [Qs za z0 zp] z0):=yD aw;try simp only at a7 aq
   subst ba;clear rr aw a4 bf;have R0:=cL L a7;have R1:=cL L aq;by_cases hz:z1=F
   · subst hz;cases he:eqN z0 U
     · have HE:=yD he;clear he;have HH:=yD (ao.out (by unfold kIe;simp only [HE.out];rfl));go_upto_region 12 with fail;have FX:=yD (λ(W:Ac) (hW:Qb D W)=>kEe hW R0 R1 K0 K1);refine kK (λW=>Qb D W) [Tt,Tt,Tt,Tt,Tt,Tt,Tt,Tt,Tt,Tt,Tt,Tt,Tt,Tt,Tt,Tt,Ff,Tt] bG6 bG6 qY (bR.drew) ?_;intro wS E;iterate 8
        all_goals refine ky ?_
       all_goals (refine jy λb ck=>?_;cases b <;> try simp only [jw] at ck)
       iterate 7
        all_goals refine ky ?_
       all_goals first|(refine kJ rfl E ?_)|(refine kw rfl (λK H=>?_);go_simp;refine (jq (bd.out.below (tQ L E)) (an.out.below (tQ L E))).mono ?_;rintro e wS1 ⟨av,Z⟩;have I:e=.returned (.bool false):=av.trans bG4;subst I;clear av;replace E:=(tQ E Z);refine H _ _ E ?_;clear H K Z)
       all_goals refine jG ?_
       all_goals refine ky ?_
       all_goals refine kS ?_
       exact lQ
     have HE:=yD he;clear he;have HH:=yD (az.out (by unfold kIe;simp only [HE.out];simp));go_upto_region 12 with fail;have FX:=yD (λ(W:Ac) (hW:Qb D W)=>kEe hW R0 R1 K0 K1);refine kK (λW=>Qb D W) [Tt,Tt,Tt,Tt,Tt,Tt,Tt,Tt,Tt,Tt,Tt,Tt,Tt,Tt,Tt,Tt,Ff,Tt] bG6 bG6 qY (bR.drew) ?_;intro wS E;iterate 8
      all_goals refine ky ?_
     all_goals (refine jy λb ck=>?_;cases b <;> try simp only [jw] at ck)
     iterate 7
      all_goals refine ky ?_
     all_goals first|(refine kJ rfl E ?_)|(refine kw rfl (λK H=>?_);go_simp;refine (jq (bd.out.below (tQ L E)) (an.out.below (tQ L E))).mono ?_;rintro e wS1 ⟨av,Z⟩;have I:e=.returned (.bool true):=av.trans bG4;subst I;clear av;replace E:=(tQ E Z);refine H _ _ E ?_;clear H K Z)
     all_goals refine jG ?_
     all_goals refine ky ?_
     all_goals refine kS ?_
     have EV:=(tQ L E);go_wp2;go_ret;exact ⟨kW (by unfold kMl;rw [HH.out];exact (Aj _).symm),EV⟩
   have bk:((z1==F)=false):=bE5;have HH:=yD (ao.out (by unfold kIe;simp [hz]));have HE:Hid (eqN z0 U=eqN z0 U):=yD rfl;go_upto_region 12 with fail;have FX:=yD (λ(W:Ac) (hW:Qb D W)=>kEe hW R0 R1 K0 K1);refine kK (λW=>Qb D W) [Tt,Tt,Tt,Tt,Tt,Tt,Tt,Tt,Tt,Tt,Tt,Tt,Tt,Tt,Tt,Tt,Ff,Tt] bG6 bG6 qY (bR.drew) ?_;intro wS E;iterate 8
    all_goals refine ky ?_
   all_goals (refine jy λb ck=>?_;cases b <;> try simp only [jw] at ck)
   iterate 7
    all_goals refine ky ?_
   all_goals first|(refine kJ rfl E ?_)|(refine kw rfl (λK H=>?_);go_simp;refine (jq (bd.out.below (tQ L E)) (an.out.below (tQ L E))).mono ?_;rintro e wS1 ⟨av,Z⟩;have I:e=.returned (.bool (eqN z0 U)):=av.trans bG4;subst I;clear av;replace E:=(tQ E Z);refine H _ _ E ?_;clear H K Z)
   all_goals refine jG ?_
   all_goals refine ky ?_
   all_goals refine kS ?_
   exact lQ
 have bb:¬ ((m:Int) < s.length):=bH3
 obtain rfl:m=s.length:=bH3
 go_wp2
 go_ret
 exact ⟨kW (by have h_:=HM.out;rw [Aw] at h_;unfold kMl;rw [a9.out,h_];rfl),L⟩
def jBu {w:Ac} {vl:Bc} {l:Ad kF} (hl:(kD.slice 93 kH).rd w [vl] l) {vs:Bc} {s:Ad jL} (hs:(kD.slice 121 jD).rd w [vs] s) {cx:Ad Bc} {x:jF} (hx:jO.rd w cx x) :
    Bh prog 23 #[vl,vs,.agg cx.toArray] w (bQ w (.bool (kMl x l s))):=by
 obtain ⟨U,F,x2,x3⟩:=x
 have HL:=yD hl
 have ac:=yD hs
 have HX:=yD hx
 obtain ⟨la,lp,rfl,ll⟩:=kD.sl hl.1
 obtain ⟨sa,sp,rfl,sl⟩:=kD.sl hs.1
 obtain ⟨ap,rfl,Y,R,aj,ai,al⟩:=jY hx.1
 obtain ⟨na,np,rfl,_⟩:=kD.sl R
 have an:Hid (kN.raw w [Qs na U np] U):=yD Y
 clear hl hs hx Y R
 go_enter func23,ntmps23
 go_upto_region 1 with fail
 generalize J:World.alloc w _=N
 have EB:Qb w N:=by rw [<- J];exact bI
 have K0:Qd N w 0 (.slice na U.length np):=wF
 obtain ⟨K1,K2,K3⟩:=DD
 clear J
 go_wp2
 go_loopw [11] (λi wr=>∃ k:Nat,i=.int .i64 k/\k<=l.length/\Hid ((l.take k).any (kGh (U,F,x2,x3))=false)/\Qb N wr) (λi _=>l.length - (Bb i).toNat)
 case atStart=>exact ⟨0,rfl,Nat.zero_le _,yD bH4,bR⟩
 rename Ac=>wq
 obtain ⟨k,rfl,hk,HA,O⟩:=hrel
 have EQ:=(tQ EB O)
 obtain ⟨K0,K1,K2⟩:=DZ
 replace K3:=cL O K3
 have ce:=Ae k
 by_cases hlt:k < l.length
 · have dl:=Az.2 hlt;obtain ⟨qb,qo,rfl,c0,c1,c2,qr,A0,A1,A2⟩:=kD.kAn (HL.out.1.below EQ) hlt rfl;have ae:=λq=>kRh (p:=kGh (U,F,x2,x3)) hlt q;have ay:=λq=>kRg (p:=kGh (U,F,x2,x3)) hlt HA.out q;generalize l[k]=y at *;obtain ⟨y0,y1,y2⟩:=y;have a3:=yD ae;have ah:=yD ay;clear ae ay;obtain ⟨a6,bn,G,ag,ak,am,ar⟩:=jR qr;simp only [Ag,and_true] at G;obtain ⟨rfl,rfl,rfl⟩:=G;obtain ⟨ma,mp,rfl,_⟩:=kD.sl ak;obtain ⟨ra,rp,rfl,_⟩:=kD.sl am;have X:Hid (kN.raw wq [Qs ma y0 mp] y0):=yD ag;have HQ:=yD am;try simp only at A0 A1 A2
   clear qr ag ak am ar;go_upto_region 4 with fail;generalize D:World.alloc wq _=wC;have EC:Qb wq wC:=tL;have M0:Qd wC wq 0 (.slice ma y0.length mp):=wG;have M1:Qd wC wq 1 (.slice ra y1.length rp):=wG;have M2:Qd wC wq 2 (.int .i64 y2):=wG;replace K0:=cL EC K0;replace K1:=cL EC K1;replace K2:=cL EC K2;replace K3:=cL EC K3;clear D;have FX:=yD (λ(W:Ac) (hW:Qb wC W)=>cLs7 hW K0 K1 K2 K3 M0 M1 M2);refine kr (λW=>Qb wC W) [Tt,Tt,Tt,Tt,Ff,Tt,Tt,Tt,Ff,Ff,Tt] bR ?_;intro wS E;iterate 4
    all_goals refine ky ?_
   all_goals first | refine wkB (ze (X.out.below (tQ EC E)) (an.out.below (EQ.trans (Bg (tQ EC E) EQ.size)))) (λwS1 E=>?_) | refine ky ?_
   all_goals (refine jy λb c3=>?_;cases b <;> try simp only [jw] at c3)
   all_goals refine ky ?_
   all_goals refine ky ?_
   all_goals first|(refine kJ rfl E ?_)|(refine kw rfl (λK H=>?_);go_simp;refine H _ _ E ?_;clear H K)
   all_goals refine jG ?_
   all_goals first|(refine kJ rfl E ?_)|(refine kw rfl (λK H=>?_);go_simp;refine (kDu (kIa F) kKu (HQ.out.below (tQ EC E)) ?_).mono ?_;(· intro cc af i hi d1 V;exact kYs V (kD.raw.below HX.out.1 ((EQ.trans (Bg (tQ EC E) EQ.size)).trans (af.mono (Below.size (EQ.trans (Bg (tQ EC E) EQ.size)))))) (cL af (cL E K0)) (cL af (cL E K1)) (cL af (cL E K2)) (cL af (cL E K3)));rintro e wS1 ⟨rfl,Z⟩;replace E:=(tQ E Z);refine H _ _ E ?_;clear H K Z)
   all_goals refine jG ?_
   all_goals (refine jy λb ad=>?_;cases b <;> try simp only [jw] at ad)
   all_goals refine kS ?_
   all_goals have EG:=O.trans (Bg (tQ EC E) O.size)
   all_goals first|(have L:=yD (a3.out (show _=true by simp only [kGh,<- kVf,Al,Ah,Am,Ap,Ab,Ai,Aj,Ak,Aq,Ar,Av,ge_iff_le,c3,ad]));clear a3 ah HA;go_wp2;go_ret;exact ⟨kW (by unfold kMl;rw [L.out];exact (Ak _).symm),(tQ EB EG)⟩)|(have L:=yD (ah.out (show _=false by simp only [kGh,<- kVf,Al,Ah,Am,Ap,Ab,Ai,Aj,Ak,Aq,Ar,Av,ge_iff_le,c3,ad]));clear a3 ah HA;go_wp2;go_roundw;(case rel=>exact ⟨k + 1,by go_num,by omega,L,EG⟩);(case measure=>simp [Bb];omega))
 have fe:¬ ((k:Int) < l.length):=bH3
 obtain rfl:k=l.length:=bH3
 have a9:=yD (show l.any (kGh (U,F,x2,x3))=false by have h_:=HA.out;rwa [Aw] at h_)
 clear HA
 go_upto_region 7 with fail
 refine kr (λW=>Qb wq W) [Tt,Ff,Ff,Tt] bR ?_
 intro wS E
 all_goals refine ky ?_
 all_goals first|(refine kJ rfl E ?_)|(refine kw rfl (λK H=>?_);go_simp;refine H _ _ E ?_;clear H K)
 all_goals refine jG ?_
 all_goals first|(refine kJ rfl E ?_)|(refine kw rfl (λK H=>?_);go_simp;refine (kJb (kIe (U,F,x2,x3)) kKt (ac.out.1.below (tQ EQ E)) ?_).mono ?_;(· intro cc af i hi d1 V;exact kYr V (kD.raw.below HX.out.1 ((tQ EQ E).trans (af.mono (Below.size (tQ EQ E))))) (cL af (cL E K0)) (cL af (cL E K1)) (cL af (cL E K2)) (cL af (cL E K3)));rintro e wS1 ⟨rfl,Z⟩;replace E:=(tQ E Z);refine H _ _ E ?_;clear H K Z)
 all_goals refine jG ?_
 all_goals refine ky ?_
 all_goals refine kS ?_
 go_wp2
 go_ret
 exact ⟨kW (by unfold kMl;rw [a9.out,kVf];rfl),(tQ EQ E)⟩
def rising (l:Ad kU):Prop:=l.Pairwise (λa b=>a.1 < b.1)
def kFq {n:kg} {p:kF}:jQ n p=true↔p.1=n:=by unfold jQ eqN;simp
def kSa {f:Int} {l:Ad kU} {r:kU} (h:r∈yt f l):r∈l/\r.1≠f:=by
 unfold yt at h;simpa using h
def putR_mem {a r:kU} {l:Ad kU} (h:r∈kIt a l):r=a\/r∈l:=by
 obtain ⟨i,hi,e,_⟩:=kMg a l;rw [e] at h;rcases Ay.1 h with h | h
 · exact .inr (kSa (List.mem_of_mem_take h)).1
 rcases List.mem_cons.1 h with h | h
 · exact .inl h
 exact .inr (kSa (Be h)).1
def putR_self {a:kU} {l:Ad kU}:a∈kIt a l:=by
 obtain ⟨i,hi,e,_⟩:=kMg a l;rw [e];simp
def putR_rising {a:kU} {l:Ad kU} (h:rising l):rising (kIt a l):=by
 obtain ⟨i,hi,e,D⟩:=kMg a l;have h1:rising (yt a.1 l):=h.sublist List.filter_sublist;have ai:∀ r∈(yt a.1 l).take i,r.1 < a.1:=by
  intro r hr;obtain ⟨j,hj,rfl⟩:=List.mem_take_iff_getElem.1 hr;rcases D with ⟨q,rfl⟩ | q
  · have:=kSp.1 (show idxOf (λr:kU=>decide (a.1<=r.1)) (yt a.1 l) < 0 by omega) _ (Aa (show j < (yt a.1 l).length by omega));simp at this;exact this
  obtain ⟨hk,_,hq⟩:=kDc q;have:=hq j bH3;simp at this;exact this
 have o:∀ r∈(yt a.1 l).drop i,a.1 < r.1:=by
  intro r hr;obtain ⟨j,hj,rfl⟩:=List.mem_drop_iff_getElem.1 hr;rcases D with ⟨q,rfl⟩ | q
  · omega
  obtain ⟨hk,hp,_⟩:=kDc q;have hp:a.1<=((yt a.1 l)[i]).1:=bE4;have hne:=(kSa (Aa hk)).2;by_cases E:j=0
  · subst E;simp only [Nat.add_zero] at *;omega
  have:=List.pairwise_iff_getElem.1 h1 i (i + j) hk bH3 bH3;omega
 unfold rising;rw [e];refine List.pairwise_append.2 ⟨h1.sublist (List.take_sublist _ _),List.pairwise_cons.2 ⟨o,h1.sublist (List.drop_sublist _ _)⟩,λx hx y hy=>?_⟩;have h2:=ai x hx;rcases List.mem_cons.1 hy with rfl | hy
 · exact h2
 have:=o y hy;omega
def kRi {x:jF} {f:Int} {l:Ad kF} (h:yH x f l=true):kDk x=true/\inR f 0 6=true/\(idxOf (jQ x.1) l < 0->l.length < 12):=by
 have hl:=λq=>kPm h q;unfold yH at h;simp at h;exact ⟨h.1.1,h.1.2,hl⟩
def kNp {x:jF} {f t:Int} {l:Ad kF} (h:yH x f l=true) :
    (idxOf (jQ x.1) l < 0/\kBk x f t l=l++[(x.1,[kFj x f t],0)])\/∃ k,∃ hk:k < l.length,idxOf (jQ x.1) l=k/\l[k].1=x.1/\kBk x f t l=l.set k (l[k].1,kIt (kFj x f t) l[k].2.1,l[k].2.2):=by
 by_cases hi:idxOf (jQ x.1) l < 0
 · exact .inl ⟨hi,(kRk h hi).1⟩
 obtain ⟨k,hkl,ac⟩:=kAz hi
 obtain ⟨_,hp,_⟩:=kDc ac
 exact .inr ⟨k,hkl,ac,kFq.1 hp,(kRj h ac hkl).1⟩
def addQ_at {x:jF} {f t:Int} {l:Ad kF} (h:yH x f l=true) :
    ∃ k,∃ hk:k < (kBk x f t l).length,idxOf (jQ x.1) (kBk x f t l)=k/\(kBk x f t l)[k].1=x.1/\kFj x f t∈(kBk x f t l)[k].2.1:=by
 rcases kNp (t:=t) h with ⟨hi,e⟩|⟨k,hk,hi,hn,e⟩
 · rw [e];refine ⟨l.length,by simp,idxOf_hit bH4 (by simp [kFq]) (λj hj bf=>?_),by simp,by simp⟩;rw [List.getElem_append_left hj];exact kSp.1 hi _ (Aa hj)
 rw [e]
 obtain ⟨_,hp,hq⟩:=kDc hi
 refine ⟨k,by simpa using hk,idxOf_hit bE2 (by simp [kFq,hn]) (λj hj bf=>?_),by simp [hn],by simp [putR_self]⟩
 rw [List.getElem_set_ne bH3]
 exact hq j hj
def kQv (o:Ad kU):Prop:=rising o/\∀ r∈o,r.2.1 < 100\/1000000 < r.2.1
def goodR_nil:kQv []:=⟨List.Pairwise.nil,λr h=>by simp at h⟩
def kSq {r:kU} (h:r.2.1 < 100\/1000000 < r.2.1):kQv [r]:=⟨List.pairwise_singleton _ _,λq hq=>by rw [Au.1 hq];exact h⟩
def goodR_put {r:kU} {o:Ad kU} (h:r.2.1 < 100) (hr:kQv o):kQv (kIt r o) :=
  ⟨putR_rising hr.1,λq hq=>by rcases putR_mem hq with rfl | hq;exact .inl h;exact hr.2 q hq⟩
def kAj (l:Ad kF) (m:Nat):Prop:=l.length<=m/\∀ y∈l,y.2.1.length<=m/\kQv y.2.1/\zF y.1
def kAj.mono {l:Ad kF} {m k:Nat} (h:kAj l m) (hk:m<=k):kAj l k:=⟨Nat.le_trans h.1 hk,λy hy=>⟨Nat.le_trans (h.2 y hy).1 hk,(h.2 y hy).2⟩⟩
def kXt {x:jF} {f t:Int} {l:Ad kF} {m:Nat} (hn:x.2.1 < 100) (hx:zF x.1) (h:kAj l m):kAj (kBk x f t l) (m + 1):=by
 cases hk:yH x f l
 · rw [(kKw hk).1];have:=h.1;exact ⟨by omega,λy hy=>⟨Nat.le_succ_of_le (h.2 y hy).1,(h.2 y hy).2⟩⟩
 by_cases hi:idxOf (jQ x.1) l < 0
 · rw [(kRk (t:=t) hk hi).1];refine ⟨by have:=h.1;simp;omega,λy hy=>?_⟩;rcases Ay.1 hy with hy | hy
   · exact ⟨Nat.le_succ_of_le (h.2 y hy).1,(h.2 y hy).2⟩
   obtain rfl:=Au.1 hy;exact ⟨by simp,kSq (.inl hn),hx⟩
 obtain ⟨k,hkl,ac⟩:=kAz hi;rw [(kRj (t:=t) hk ac hkl).1];refine ⟨by have:=h.1;simp;omega,λy hy=>?_⟩;rcases Ba hy with hy | rfl
 · exact ⟨Nat.le_succ_of_le (h.2 y hy).1,(h.2 y hy).2⟩
 have h1:=kMf (kFj x f t) l[k].2.1;have h2:=h.2 _ (Aa hkl);have h3:=h2.1;refine ⟨?_,goodR_put hn h2.2.1,h2.2.2⟩;show (kIt (kFj x f t) l[k].2.1).length<=m + 1;omega
def kYv {l:Ad jL} {n:kg} {x:Int}:(kAu l n x).length<=max l.length 24:=by
 unfold kAu;split
 · simp;omega
 simp at *;omega
def kFm (s:Ad jL):Prop:=s.length<=24/\∀ y∈s,y.2 < 100
def smallS_nil:kFm []:=⟨by simp,λy h=>by simp at h⟩
def smallS_snoc {s:Ad jL} {ps:kg} {x:Int} (h:kFm s) (hl:s.length < 24) (hx:x < 100):kFm (s++[(ps,x)]):=by
 refine ⟨by simp;omega,λy hy=>?_⟩;rcases Ay.1 hy with hy | hy
 · exact h.2 y hy
 rw [Au.1 hy];exact hx
def smallS_add {s:Ad jL} {ps:kg} {x:Int} (h:kFm s) (hx:x < 100):kFm (kAu s ps x):=by
 refine ⟨by have h1:=kYv (l:=s) (n:=ps) (x:=x);have:=h.1;omega,λy hy=>?_⟩;have:y∈s++[(ps,x)]:=by
  unfold kAu at hy;split at hy
  · exact Be hy
  exact hy
 rcases Ay.1 this with hy | hy
 · exact h.2 y hy
 rw [Au.1 hy];exact hx
def sentP_small {n:kg} {t:Int} {l:Ad kF} {m:Nat} (h:kAj l m):kAj (kCe n t l) m:=by
 by_cases hi:idxOf (jQ n) l < 0
 · rw [kQg hi];exact h
 obtain ⟨k,hkl,ac⟩:=kAz hi;rw [kGy ac hkl];refine ⟨by have:=h.1;simp;omega,λy hy=>?_⟩;rcases Ba hy with hy | rfl
 · exact h.2 y hy
 exact show l[k].2.1.length<=m/\kQv l[k].2.1/\zF l[k].1 from h.2 _ (Aa hkl)
def kYi {w0 w:Ac} {p:Nat} (hc:yS w0 w p) :
    Bh prog 137 #[.pointer (some ⟨p,0,none⟩)] w λe w'=>∃ a n c l,e=.returned (.slice a n c)/\n=l.length/\kAj l 8/\(kD.slice 93 kH).own w' [.slice a n c] l (jb w.heap.size w'.heap.size)/\yS w0 w' p/\Touch (λk=>k=p) w w':=by
 go_enter func137,ntmps137
 obtain ⟨bd,bw⟩:=hc.lt
 go_upto_region 2 with fail
 generalize G:World.alloc w _=w1
 have E_:Qb w w1:=tK
 have bo:w.heap.size + 1<=w1.heap.size:=bF4
 clear G
 replace hc:=hc.below E_
 have J:Touch (λk=>k=p) w w1:=Touch.of_below E_
 clear E_
 go_wp2_with fail
 refine (ko (n:=8) hc bH2).mono ?_
 rintro e V ⟨x,au,o,be,rfl,F,D⟩
 have bv:=D.size
 replace J:=J.trans D
 clear hc D
 have hc:=F
 clear F
 replace o:=o bH2
 clear be
 obtain ⟨m,rfl⟩:=Bd au
 go_wp2
 go_loopw [3,4] (λv i wr=>∃ (j k:Nat) (a:Option Addr) (n c:Nat) (l:Ad kF),v=.slice a n c/\i=.int .i64 j/\j + k<=8/\Hid (n=l.length)/\Hid (kAj l k)/\Hid ((kD.slice 93 kH).own wr [.slice a n c] l (jb w.heap.size wr.heap.size))/\V.heap.size<=wr.heap.size/\yS w0 wr p/\Touch (λk=>k=p) w wr) (λ_ i _=>(Bb i).toNat)
 case atStart=>exact ⟨m,0,_,0,0,[],rfl,rfl,by omega,yD rfl,yD ⟨Nat.le_refl _,by simp⟩,yD kD.jm,Nat.le_refl _,hc,J⟩
 clear hc J
 obtain ⟨j,k,a,n,c,l,rfl,rfl,hj,HN,ac,I,da,hc,J⟩:=hrel
 cases j with
 | zero =>
   have c9:¬ (0:Int) < (0:Nat):=bH3;go_wp2;refine bodyPost_ret (v:=.slice a n c) (by simp [results,results137,go_sem]) rfl ⟨a,n,c,rfl,l,HN.out,ac.out.mono bH3,I.out,hc,J⟩
 | succ j =>
   have c8:(0:Int) < (j:Int) + 1:=bH3;replace I:=yD (I.out.wide (T:=λq=>w.heap.size<=q/\q < wr.heap.size) (λ_ h=>h));have hkl:k<=7:=bH3;go_wp2_with fail;refine (kKc hc).mono ?_;rintro e w6 ⟨ia,ic,ps,nn,Y,nt,rfl,U,bp,hn,hh,ht,F,D⟩;have dh:=D.size;obtain ⟨I,J⟩:=xK;clear hc D;have hc:=F;clear F;have fu:=yD bp;have HI:=yD ((int_own (n:=nn) U bH3 hh ht).wide (T:=λq=>wr.heap.size<=q/\q < w6.heap.size) (λ_ h=>h));have X:=yD (U.wide (T:=λq=>wr.heap.size<=q/\q < w6.heap.size) (λ_ h=>h));clear U;go_upto_region 6 with fail;generalize G:World.alloc w6 _=w7;have L:Qb w6 w7:=tK;have B:Qr w7 w6.heap.size #[Qs ia ps ic,Qn nn,Qn Y,Qn nt] 38:=wW;have et:w6.heap.size + 1<=w7.heap.size:=bF4;clear G;replace I:=yD (I.out.below L);replace HI:=yD (HI.out.below L);replace X:=yD (X.out.below L);replace hc:=hc.below L;replace J:=J.trans (Touch.of_below L);clear L;have FX:=yD (λ(W:Ac) (hW:Touch (λk=>k=p) w7 W/\yS w0 W p)=>And.intro (kE (hW.1.kC B bH3) (j:=0) (v:=.slice ia ps.length ic) rfl) (And.intro (kE (hW.1.kC B bH3) (j:=1) (v:=.int .i64 nn) rfl) (And.intro (kE (hW.1.kC B bH3) (j:=2) (v:=.int .i64 Y) rfl) (kE (hW.1.kC B bH3) (j:=3) (v:=.int .i64 nt) rfl))));refine yN (λW=>Touch (λk=>k=p) w7 W/\yS w0 W p) [(0,true),(1,true),(2,true),(4,true),(3,false),(5,false),(6,true),(7,false),(8,true),(9,true),(10,true),(11,true)] bG6 bG6 qY (⟨Touch.of_below bR.drew,hc.below bR.drew⟩) ?_;intro wS E;simp only [jB,List.getElem?_cons_succ,List.getElem?_cons_zero,List.map_cons,List.map_nil];iterate 4
    refine ky ?_
   refine kw rfl (λK H=>?_);go_simp;refine (ko (n:=4) E.2 bH2).mono ?_;rintro e wS1 ⟨x,au,o,be,rfl,ap,am⟩;replace o:=o bH2;clear be;replace E:=And.intro (E.1.trans am) ap;clear ap am;refine H _ _ E ?_;clear H K;refine jG ?_;refine kw rfl (λK H=>?_);go_simp;refine (ko (n:=10) E.2 bH2).mono ?_;rintro e wS1 ⟨y,ch,aa,a4,rfl,ap,am⟩;replace aa:=aa bH2;clear a4;replace E:=And.intro (E.1.trans am) ap;clear ap am;have hw:Bi.wrap (40 + y)=40 + y:=Bf _ bH3;refine H _ _ E ?_;clear H K;refine jG ?_;refine ky ?_;refine kw rfl (λK H=>?_);go_simp;refine (kEc ((I.out.touch E.1 qW).rd) (λy hy=>Nat.le_trans (ac.out.2 y hy).1 bH3) (HI.out.touch E.1 qW).rd bH3 bH3).mono ?_;rintro e bm ⟨v2,rfl,O2,Z⟩;have dv:=E.1.size;have bk:=Z.size;replace E:=And.intro (E.1.trans (Touch.of_below Z)) (E.2.below Z);have R:=yD O2;refine H _ _ E ?_;clear H K Z O2;refine jG ?_;iterate 4
    refine ky ?_
   refine kS ?_;obtain ⟨O,ba⟩:∃ O,kBk (ps,nn,Y,nt) x (40 + y) l=O:=⟨_,rfl⟩;rw [ba] at R;have ab:=yD (show kAj O (k + 1) from ba ▸ kXt (show nn < 100 by omega) fu.out.2 ac.out);clear ba HI I;obtain ⟨a2,c2,rfl,_⟩:=kD.sl R.out.raw;rename Ac=>w8;have eo:=E.1.size;have F:=E.2;have D:=E.1;clear E;replace B:=D.kC B bH3;replace X:=yD (X.out.touch D qW);replace J:=J.trans D;clear hc D;have hc:=F;clear F;replace R:=yD (R.out.wide (T:=λq=>w.heap.size<=q/\q < w8.heap.size) sS);go_wp2_with fail;refine (zY (n:=2) hc bH2).mono ?_;rintro e w9 ⟨b,rfl,F,D⟩;have e9:=D.size;replace B:=D.kC B bH3;replace X:=yD (X.out.touch D qW);replace R:=yD (R.out.touch D qW);replace J:=J.trans D;clear hc D;have hc:=F;clear F;cases b
   · go_wp2;go_roundw;case rel=>exact ⟨j,k + 1,a2,O.length,_,O,rfl,by go_num,by omega,yD rfl,ab,yD (R.out.wide sZ),by omega,hc,J⟩
     case measure=>first|(simp [Bb];done)|(simp [Bb];omega)
   · go_upto_region 8 with fail;have FX:=yD (λ(W:Ac) (hW:Touch (λk=>k=p) w9 W/\yS w0 W p)=>And.intro (kE (hW.1.kC B bH3) (j:=0) (v:=.slice ia ps.length ic) rfl) (And.intro (kE (hW.1.kC B bH3) (j:=1) (v:=.int .i64 nn) rfl) (And.intro (kE (hW.1.kC B bH3) (j:=2) (v:=.int .i64 Y) rfl) (kE (hW.1.kC B bH3) (j:=3) (v:=.int .i64 nt) rfl))));refine kK (λW=>Touch (λk=>k=p) w9 W/\yS w0 W p) [Tt,Tt,Tt,Tt,Ff,Tt,Ff,Tt] bG6 bG6 qY (⟨Touch.of_below bR.drew,hc.below bR.drew⟩) ?_;intro wS E;iterate 4
      refine ky ?_
     refine kw rfl (λK H=>?_);go_simp;refine (ko (n:=12) E.2 bH2).mono ?_;rintro e wS1 ⟨z,bi,bf,a9,rfl,ap,am⟩;replace bf:=bf bH2;clear a9;replace E:=And.intro (E.1.trans am) ap;clear ap am;have hw:Bi.wrap (40 + z)=40 + z:=Bf _ bH3;refine H _ _ E ?_;clear H K;refine jG ?_;refine ky ?_;refine kw rfl (λK H=>?_);go_simp;refine (kLz ((R.out.touch E.1 qW).rd) (cn:=[.slice ia ps.length ic]) ((X.out.touch E.1 qW).rd) bH3).mono ?_;rintro e bm ⟨v3,rfl,O3,Z⟩;have dv:=E.1.size;have bk:=Z.size;replace E:=And.intro (E.1.trans (Touch.of_below Z)) (E.2.below Z);have ai:=yD O3;refine H _ _ E ?_;clear H K Z O3;refine jG ?_;refine ky ?_;refine kS ?_;obtain ⟨l3,f7⟩:∃ l3,kCe ps (40 + z) O=l3:=⟨_,rfl⟩;rw [f7] at ai;have ag:=yD (show kAj l3 (k + 1) from f7 ▸ sentP_small ab.out);clear f7 R X;obtain ⟨a3,c3,rfl,_⟩:=kD.sl ai.out.raw;rename Ac=>b9;have e5:=E.1.size;have F:=E.2;have D:=E.1;clear E;replace B:=D.kC B bH3;replace J:=J.trans D;clear hc D;have hc:=F;clear F;have R:=yD (ai.out.wide (T:=λq=>w.heap.size<=q/\q < b9.heap.size) sS);go_wp2;go_roundw;case rel=>exact ⟨j,k + 1,a3,l3.length,_,l3,rfl,by go_num,by omega,yD rfl,ag,yD (R.out.wide sZ),by omega,hc,J⟩
     case measure=>first|(simp [Bb];done)|(simp [Bb];omega)
def kYh {w0 w:Ac} {p:Nat} (hc:yS w0 w p) :
    Bh prog 136 #[.pointer (some ⟨p,0,none⟩)] w λe w'=>∃ a n c s,e=.returned (.slice a n c)/\n=s.length/\kFm s/\(kD.slice 121 jD).own w' [.slice a n c] s (λq=>w.heap.size<=q/\q < w'.heap.size)/\yS w0 w' p/\Touch (λk=>k=p) w w':=by
 go_enter func136,ntmps136
 obtain ⟨bd,bw⟩:=hc.lt
 go_upto_region 2 with fail
 generalize G:World.alloc w _=w1
 have E_:Qb w w1:=tK
 have bo:w.heap.size + 1<=w1.heap.size:=bF4
 clear G
 replace hc:=hc.below E_
 have J:Touch (λk=>k=p) w w1:=Touch.of_below E_
 clear E_
 go_wp2_with fail
 refine (ko (n:=5) hc bH2).mono ?_
 rintro e V ⟨x,au,o,be,rfl,F,D⟩
 have bv:=D.size
 replace J:=J.trans D
 clear hc D
 have hc:=F
 clear F
 replace o:=o bH2
 clear be
 obtain ⟨m,rfl⟩:=Bd au
 go_wp2
 go_loopw [3,4] (λv i wr=>∃ (j:Nat) (a:Option Addr) (n c:Nat) (s:Ad jL),v=.slice a n c/\i=.int .i64 j/\j<=4/\Hid (n=s.length)/\Hid (kFm s)/\Hid ((kD.slice 121 jD).own wr [.slice a n c] s (λq=>w.heap.size<=q/\q < wr.heap.size))/\V.heap.size<=wr.heap.size/\yS w0 wr p/\Touch (λk=>k=p) w wr) (λ_ i _=>(Bb i).toNat)
 case atStart=>exact ⟨m,_,0,0,[],rfl,rfl,by omega,yD rfl,yD smallS_nil,yD kD.jm,Nat.le_refl _,hc,J⟩
 clear hc J
 obtain ⟨j,a,n,c,s,rfl,rfl,hj,HN,HL,I,da,hc,J⟩:=hrel
 cases j with
 | zero =>
   have c9:¬ (0:Int) < (0:Nat):=bH3;go_wp2_with fail;refine (zY (n:=12) hc bH2).mono ?_;rintro e w6 ⟨b,rfl,F,D⟩;have dh:=D.size;obtain ⟨I,J⟩:=xK;clear hc D;have hc:=F;clear F;replace I:=yD (I.out.wide (T:=λq=>w.heap.size<=q/\q < w6.heap.size) sZ);cases b
   · exact iA
   · go_wp2;go_loopw [3] (λv E=>∃ (a:Option Addr) (n c:Nat) (s:Ad jL),v=.slice a n c/\Hid (n=s.length)/\Hid (kFm s)/\Hid ((kD.slice 121 jD).own E [.slice a n c] s (λq=>w.heap.size<=q/\q < E.heap.size))/\w6.heap.size<=E.heap.size/\yS w0 E p/\Touch (λk=>k=p) w E) (λv _=>match v with | .slice _ n _=>25 - n | _=>0);case atStart=>exact ⟨a,n,c,s,rfl,HN,HL,I,Nat.le_refl _,hc,J⟩
     case round =>
       clear hc J I HN HL;obtain ⟨a,n,c,s,rfl,HN,HL,I,dv,hc,J⟩:=hrel;go_wp2_with fail;refine (ko (n:=2) hc bH2).mono ?_;rintro e b9 ⟨y,ch,aa,a4,rfl,F,D⟩;have e5:=D.size;obtain ⟨I,J⟩:=xK;clear hc D;have hc:=F;clear F;replace aa:=aa bH2;clear a4;replace I:=yD (I.out.wide (T:=λq=>w.heap.size<=q/\q < b9.heap.size) sZ);have hw:Bi.wrap (23 + y)=23 + y:=Bf _ bH3;by_cases hlt:(n:Int) < 23 + y
       · have H:n < 24:=bH3;go_wp2_with fail;refine (kVv (s:={ data:=#[47,115] }) bH2).mono ?_;rintro e c6 ⟨na,nc,ps,rfl,hr,db,hb⟩;have fq:=hb.size;replace I:=yD (I.out.below hb);obtain ⟨hc,J⟩:=xI;clear hb;have HR:=yD (hr.wide (T:=λq=>b9.heap.size<=q/\q < c6.heap.size) (λ_ h=>h));clear hr;have ac:-9223372036854775808<=(n:Int)/\(n:Int)<=9223372036854775807:=bH3;go_wp2_with (at_builtin;refine kD.zh rfl _ _ 29 rfl (r:=jD) (e:=121) underlying29 kFa rfl bH2 bH2 (w:=c6) I.out bR (c:=1) (kD.yF (r:=kN) (q:=kD.int) (cs:=[.slice na ps.length nc]) (ds:=[.int .i64 n]) (x:=ps) (y:=(n:Int)) HR.out (kD.ku ac)) bH5 bH5 qE bC0 ?_);intro v2 dm hQ di;have hT:Touch (λk=>w.heap.size<=k/\k < b9.heap.size) c6 dm:=di.wide (λj q=>q.1);have fx:=hT.size;clear di;obtain ⟨s2,bn⟩:∃ s2,s++[(ps,(n:Int))]=s2:=⟨_,rfl⟩;rw [bn] at hQ;have N:=yD (show s2.length=s.length + 1 by rw [<- bn];simp);have br:=yD (show kFm s2 from bn ▸ smallS_snoc HL.out bC0 (show (n:Int) < 100 by omega));clear bn I;obtain ⟨a2,c2,rfl,_⟩:=kD.sl hQ.raw;have R:=yD (hQ.wide (T:=λq=>w.heap.size<=q/\q < dm.heap.size) (λj q=>by rcases q with q | q | q;exact ⟨q.1,by have:=q.2;omega⟩;exact ⟨by have:=q.1;omega,by have:=q.2;omega⟩;exact ⟨by have:=q.1;omega,q.2⟩));clear hQ;have fj:=hc.touch hT wH vE;have bg:=J.kBz hT vE;clear hT hc J;go_wp2;go_roundw;case rel=>exact ⟨a2,s2.length,_,s2,rfl,yD rfl,br,R,by omega,fj,bg⟩
         case measure=>have h1:=N.out;have h2:=HN.out;first | omega|(simp;omega)
       · exact iA
 | succ j =>
   have c8:(0:Int) < (j:Int) + 1:=bH3;replace I:=yD (I.out.wide (T:=λq=>w.heap.size<=q/\q < wr.heap.size) (λ_ h=>h));go_wp2_with fail;refine (kKc hc).mono ?_;rintro e w6 ⟨ia,ic,ps,nn,Y,nt,rfl,U,bp,hn,hh,ht,F,D⟩;have dh:=D.size;obtain ⟨I,J⟩:=xK;clear hc D;have hc:=F;clear F;have X:=yD (U.wide (T:=λq=>wr.heap.size<=q/\q < w6.heap.size) (λ_ h=>h));clear U;go_upto_region 6 with fail;generalize G:World.alloc w6 _=w7;have L:Qb w6 w7:=tK;have B:Qr w7 w6.heap.size #[Qs ia ps ic,Qn nn,Qn Y,Qn nt] 38:=wW;have et:w6.heap.size + 1<=w7.heap.size:=bF4;clear G;replace I:=yD (I.out.below L);replace X:=yD (X.out.below L);replace hc:=hc.below L;replace J:=J.trans (Touch.of_below L);clear L;obtain ⟨ag,af,Z,O⟩:=jZ B;go_wp2_with fail;refine (kHj I.out.rd (by have:=HL.out.1;omega) (cn:=[.slice ia ps.length ic]) X.out.rd bH3).mono ?_;rintro e w8 ⟨v2,rfl,O2,hb⟩;have eo:=hb.size;replace B:=kC B hb;replace I:=yD (I.out.below hb);replace X:=yD (X.out.below hb);obtain ⟨hc,J⟩:=xI;clear ag af Z O;clear hb;obtain ⟨s2,bn⟩:∃ s2,kAu s ps nn=s2:=⟨_,rfl⟩;rw [bn] at O2;have N:=yD (show kFm s2 from bn ▸ smallS_add HL.out (show nn < 100 by omega));clear bn;obtain ⟨a2,c2,rfl,_⟩:=kD.sl O2.raw;have R:=yD (O2.wide (T:=λq=>w.heap.size<=q/\q < w8.heap.size) sS);go_wp2;go_roundw;case rel=>exact ⟨j,a2,s2.length,_,s2,rfl,by go_num,by omega,yD rfl,N,R,by omega,hc,J⟩
   case measure=>first|(simp [Bb];done)|(simp [Bb];omega)
end Go.Proofs.YtjhfdpopkkmigabGreat

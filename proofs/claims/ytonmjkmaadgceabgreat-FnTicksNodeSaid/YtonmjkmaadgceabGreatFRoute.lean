/-
  A route found.
-/
import Derived.Test.YtonmjkmaadgceabGreatWoC
set_option linter.unusedVariables false
set_option linter.defProp false
set_option linter.unusedSimpArgs false
set_option linter.unnecessarySimpa false
set_option maxRecDepth 100000
set_option maxHeartbeats 4000000
open Bool renaming true->Tt,false->Ff
open List.cons renaming injEq->Aa
open Bool renaming not_false->Ab,and_false->Ac,false_and->Ad,not_true->Ae,and_true->Ag,true_and->Ah,or_false->Ai,false_or->Aj,or_true->Ap,true_or->Aq,not_not->Ar
open Go renaming World->Ak,Value->Av,Calls->Bc
open List renaming getElem?_cons_succ->Al,getElem?_cons_zero->Am,drop_succ_cons->Au,length_cons->Aw,cons_append->Ay,length_nil->Az,nil_append->Ba,drop_zero->Bb,map_cons->Bd,map_nil->Bf
open _root_ renaming List->Be
open Go.RowKit renaming intOf->Bg
namespace Go.Proofs.YtonmjkmaadgceabGreat
open Go.RowKit _root_.Go.Proofs.Tryz
def kSq {w:Ak} {vl:Av} {l:Be jN} (hl:(kD.slice 68 jJ).rd w [vl] l) :
    Bc prog 46 #[vl] w (kBs 68 jJ l w):=by
 have HL:=yD hl
 obtain ⟨la,lp,rfl,ll⟩:=kD.sl hl.1
 have a5:l.length<=16777216:=hl.2.1
 clear hl
 go_enter func46,ntmps46
 go_wp2
 go_loopw [3,9] (λv i wr=>∃ k:Nat,k<=l.length/\i=.int .i64 k/\Hid (kD.kR 68 jJ wr v (l.take k) (jX w.heap.size wr.heap.size))/\Qb w wr) (λ_ i _=>l.length - (Bg i).toNat)
 case atStart=>exact ⟨0,Nat.zero_le _,rfl,yD kD.kR.void,bR.alloc nL _⟩
 obtain ⟨k,hk,rfl,J,o⟩:=hrel
 obtain ⟨oa,on,oc,ho,bb⟩:=J.out.parts;obtain rfl:=ho
 have a1:(l.take k).length<=k:=bC4
 have aw:=o.size
 by_cases hlt:k < l.length
 · obtain ⟨qb,qo,rfl,ae,af,ah,cc,ck,qr,ar,ax,a2,an,a4⟩:=kD.get5 (HL.out.1.below o) hlt rfl;obtain ⟨av,ag⟩:=xZ;generalize l[k]=x at *;have ba:=yD ag;clear ag;obtain ⟨x0,x1,x2,x3,x4⟩:=x;obtain ⟨bg,dc,b2,Z,aj,ap,ao,au,bq,bh,cq⟩:=jb qr;simp only [Aa,and_true] at Z;obtain ⟨rfl,rfl,rfl,rfl,rfl⟩:=Z;obtain ⟨ac,ay,rfl,bd⟩:=kD.sl ap;obtain ⟨ai,bc,rfl,bl⟩:=kD.sl ao;obtain ⟨am,bu,rfl,ce⟩:=kD.sl bq;have px:jJ.rd wr _ (x0,x1,x2,x3,x4):=⟨qr,av⟩;go_upto_region 5 with fail;generalize X:World.alloc wr _=wC;have EC:Qb wr wC:=rO;have bi:=EC.size;have M0:Qd wC wr 0 (.slice ac (x0).length ay):=tL;have M1:Qd wC wr 1 (.slice ai (x1).length bc):=tL;have M2:Qd wC wr 2 (.slice am (x2).length bu):=tL;have M3:Qd wC wr 3 (.int .i64 x3):=tL;have M4:Qd wC wr 4 (.int .i64 x4):=tL;clear X;replace J:=yD ((J.out.below EC).wide (T:=jX w.heap.size wC.heap.size) qU);have L:=(tQ o EC);go_wp2_with fail;refine (kKv (px.below EC)).mono ?_;rintro e wT ⟨tc,rfl,OT,aq⟩;obtain ⟨cf,c2,df,rfl,al,b7,b4,cg,b8,ch,cd⟩:=jb OT.raw;obtain ⟨a7,br,rfl,dd⟩:=kD.sl b7;obtain ⟨bx,b9,rfl,db⟩:=kD.sl b4;obtain ⟨be,a8,rfl,c9⟩:=kD.sl b8;clear al b7 b4 cg b8 ch cd;have bo:=aq.size;have ab:=aq;replace J:=yD (J.out.below ab);have O:=(tQ L ab);go_wp2_with (at_builtin;refine kD.jL rfl _ _ 24 rfl (r:=jJ) (e:=68) underlying24 kOx rfl bC8 bC8 (B:=w.heap.size) J.out bD1 bD1 rfl (kD.own.wide (T:=jX wC.heap.size wT.heap.size) (OT) mH) rfl mM qU mH bC9 bC9 ?_);exact aI
 obtain rfl:k=l.length:=bC9
 go_wp2
 go_ret
 exact ⟨_,rfl,kD.kR.cast J.out vE,o⟩
def kSa {w:Ak} {vl:Av} {l:Be jN} (hl:(kD.slice 68 jJ).rd w [vl] l) :
    Bc prog 67 #[vl] w (kBs 68 jJ l w):=by
 have HL:=yD hl
 obtain ⟨la,lp,rfl,ll⟩:=kD.sl hl.1
 have a5:l.length<=16777216:=hl.2.1
 clear hl
 go_enter func67,ntmps67
 go_wp2
 go_loopw [3,4] (λv i wr=>∃ k:Nat,k<=l.length/\i=.int .i64 k/\Hid (kD.kR 68 jJ wr v (l.take k) (jX w.heap.size wr.heap.size))/\Qb w wr) (λ_ i _=>l.length - (Bg i).toNat)
 case atStart=>exact ⟨0,Nat.zero_le _,rfl,yD kD.kR.void,bR.alloc nL _⟩
 obtain ⟨k,hk,rfl,J,o⟩:=hrel
 obtain ⟨oa,on,oc,ho,bb⟩:=J.out.parts;obtain rfl:=ho
 have a1:(l.take k).length<=k:=bC4
 have aw:=o.size
 by_cases hlt:k < l.length
 · obtain ⟨qb,qo,rfl,ae,af,ah,cc,ck,qr,ar,ax,a2,an,a4⟩:=kD.get5 (HL.out.1.below o) hlt rfl;obtain ⟨av,ag⟩:=xZ;generalize l[k]=x at *;have ba:=yD ag;clear ag;obtain ⟨x0,x1,x2,x3,x4⟩:=x;obtain ⟨bg,dc,b2,Z,aj,ap,ao,au,bq,bh,cq⟩:=jb qr;simp only [Aa,and_true] at Z;obtain ⟨rfl,rfl,rfl,rfl,rfl⟩:=Z;obtain ⟨ac,ay,rfl,bd⟩:=kD.sl ap;obtain ⟨ai,bc,rfl,bl⟩:=kD.sl ao;obtain ⟨am,bu,rfl,ce⟩:=kD.sl bq;have px:jJ.rd wr _ (x0,x1,x2,x3,x4):=⟨qr,av⟩;go_wp2_with fail;refine (kBw px).mono ?_;rintro e wT ⟨tc,rfl,OT,aq⟩;obtain ⟨cf,c2,df,rfl,al,b7,b4,cg,b8,ch,cd⟩:=jb OT.raw;obtain ⟨a7,br,rfl,dd⟩:=kD.sl b7;obtain ⟨bx,b9,rfl,db⟩:=kD.sl b4;obtain ⟨be,a8,rfl,c9⟩:=kD.sl b8;clear al b7 b4 cg b8 ch cd;have bo:=aq.size;go_upto_region 6 with fail;generalize ad:World.alloc wT _=wD;have ED:Qb wT wD:=rG;have bn:=ED.size;have D0:Qd wD wT 0 (.slice a7 (x0).length br):=tC;have D1:Qd wD wT 1 (.slice bx (x1).length b9):=tC;have D2:Qd wD wT 2 (.slice be (x2).length a8):=tC;have D3:Qd wD wT 3 (.int .i64 x3):=tC;have D4:Qd wD wT 4 (.int .i64 x4):=tC;clear ad;have ab:=(tQ aq ED);replace J:=yD (J.out.below ab);have O:=(tQ o ab);go_wp2_with (at_builtin;refine kD.jL rfl _ _ 24 rfl (r:=jJ) (e:=68) underlying24 kOx rfl bC8 bC8 (B:=w.heap.size) J.out bD1 bD1 rfl (kD.own.wide (T:=jX wr.heap.size wT.heap.size) (OT.below ED) mH) rfl mM qU mH bC9 bC9 ?_);exact aI
 obtain rfl:k=l.length:=bC9
 go_wp2
 go_ret
 exact ⟨_,rfl,kD.kR.cast J.out vE,o⟩
def kIb {w:Ak} {vl:Av} {l:Be ky} (hl:(kD.slice 77 kY).rd w [vl] l) :
    Bc prog 50 #[vl] w (kBs 77 kY l w):=by
 have HL:=yD hl
 obtain ⟨la,lp,rfl,ll⟩:=kD.sl hl.1
 have a5:l.length<=16777216:=hl.2.1
 clear hl
 go_enter func50,ntmps50
 go_wp2
 have O0:kD.kR 77 kY (w.alloc (.cells #[] 77)) (.slice (some ⟨w.heap.size,0,none⟩) 0 0) [] (jX w.heap.size (w.alloc (.cells #[] 77)).heap.size) :=
   kD.yO (e:=77) (r:=kY) (w:=w) (cs:=[]) (xs:=[]) (T:=λ_=>False) bD0 bD0 rfl (λ_ h=>h.elim) ⟨Nat.le_refl _,by simp⟩
 go_loopw [3,9] (λv i wr=>∃ k:Nat,k<=l.length/\i=.int .i64 k/\Hid (kD.kR 77 kY wr v (l.take k) (jX w.heap.size wr.heap.size))/\Qb w wr) (λ_ i _=>l.length - (Bg i).toNat)
 case atStart=>exact ⟨0,Nat.zero_le _,rfl,yD O0,bR.alloc nL _⟩
 clear O0
 obtain ⟨k,hk,rfl,J,o⟩:=hrel
 obtain ⟨oa,on,oc,ho,bb⟩:=J.out.parts;obtain rfl:=ho
 have a1:(l.take k).length<=k:=bC4
 by_cases hlt:k < l.length
 · obtain ⟨qb,qo,rfl,ae,af,ah,qr,ar,ax,a2⟩:=kD.zg (HL.out.1.below o) hlt rfl;obtain ⟨av,ag⟩:=xZ;generalize l[k]=x at *;have ba:=yD ag;clear ag;obtain ⟨x0,x1,x2⟩:=x;obtain ⟨bg,Z,aj,ap,ao,au⟩:=jM qr;simp only [Aa,and_true] at Z;obtain ⟨rfl,rfl,rfl⟩:=Z;obtain ⟨ac,ay,rfl,bd⟩:=kD.sl ap;have U:kU.rd wr _ x0:=⟨aj,av.1⟩;go_upto_region 5 with fail;generalize X:World.alloc wr _=wC;obtain ⟨EC,ca,M0⟩:=AR;obtain ⟨M1,M2⟩:=F8;clear X;have FX:=yD (λ(W:Ak) (hW:Qb wC W)=>kJd hW M0 M1 M2);refine jU (λW=>Qb wC W) [(0,true),(1,true),(2,true),(4,true),(5,true),(6,true),(7,true),(3,false),(8,true),(9,false)] bC3 bC3 pK (bR.drew) ?_;intro wS E;simp only [kz,Aw,Az,Al,Am,Bd,Bf,Ay,Ba,Au,Bb];iterate 7
    all_goals refine ku ?_
   all_goals first|(refine kI rfl E ?_)|(refine kw rfl (λK H=>?_);go_simp;refine (zI (U.below (tQ EC E))).mono ?_;rintro e am ⟨az,rfl,N,aq⟩;obtain ⟨Y,rfl,L⟩:=kZ N.raw;obtain ⟨ad,ak,rfl,aa⟩:=kD.sl L;clear L;replace N:=yD N;have da:=aq.size;have du:=E.size;replace E:=(tQ E aq);refine H _ _ E ?_;clear H K aq)
   all_goals refine jF ?_
   all_goals refine ku ?_
   all_goals first|(refine kI rfl E ?_)|(refine kw rfl (λK H=>?_);go_simp;refine H _ _ (E.alloc E.size _) ?_;clear H K)
   all_goals refine jF ?_
   all_goals refine jc ?_
   obtain ⟨bj,bi,aw,ab,J,O⟩:=AP;go_wp2_with (at_builtin;refine kD.jL rfl _ _ 30 rfl (r:=kY) (e:=77) underlying30 kCt rfl bC8 bC8 (B:=w.heap.size) J.out bD1 bD1 rfl (kD.own.wide (T:=jX wr.heap.size am.heap.size) (kD.jv (N.out) (kD.yC (kD.jB ao) (kD.jB au))) mH) rfl mM qU mH bC9 sG ?_);exact aI
 exact aL
def kEk {w:Ak} {vl:Av} {l:Be kJ} (hl:(kD.slice 108 kL).rd w [vl] l) :
    Bc prog 51 #[vl] w (kBs 108 kL l w):=by
 have HL:=yD hl
 obtain ⟨la,lp,rfl,ll⟩:=kD.sl hl.1
 have a5:l.length<=16777216:=hl.2.1
 clear hl
 go_enter func51,ntmps51
 go_wp2
 have O0:kD.kR 108 kL (w.alloc (.cells #[] 108)) (.slice (some ⟨w.heap.size,0,none⟩) 0 0) [] (jX w.heap.size (w.alloc (.cells #[] 108)).heap.size) :=
   kD.yO (e:=108) (r:=kL) (w:=w) (cs:=[]) (xs:=[]) (T:=λ_=>False) bD0 bD0 rfl (λ_ h=>h.elim) ⟨Nat.le_refl _,by simp⟩
 go_loopw [3,9] (λv i wr=>∃ k:Nat,k<=l.length/\i=.int .i64 k/\Hid (kD.kR 108 kL wr v (l.take k) (jX w.heap.size wr.heap.size))/\Qb w wr) (λ_ i _=>l.length - (Bg i).toNat)
 case atStart=>exact ⟨0,Nat.zero_le _,rfl,yD O0,bR.alloc nL _⟩
 clear O0
 obtain ⟨k,hk,rfl,J,o⟩:=hrel
 obtain ⟨oa,on,oc,ho,bb⟩:=J.out.parts;obtain rfl:=ho
 have a1:(l.take k).length<=k:=bC4
 by_cases hlt:k < l.length
 · obtain ⟨qb,qo,rfl,ae,af,ah,qr,ar,ax,a2⟩:=kD.zg (HL.out.1.below o) hlt rfl;obtain ⟨av,ag⟩:=xZ;generalize l[k]=x at *;have ba:=yD ag;clear ag;obtain ⟨x0,x1,x2⟩:=x;obtain ⟨bg,Z,aj,ap,ao,au⟩:=yF qr;simp only [Aa,and_true] at Z;obtain ⟨rfl,rfl,rfl⟩:=Z;obtain ⟨ac,ay,rfl,bd⟩:=kD.sl ap;have U:kU.rd wr _ x0:=⟨aj,av.1⟩;go_upto_region 5 with fail;generalize X:World.alloc wr _=wC;obtain ⟨EC,ca,M0⟩:=AR;obtain ⟨M1,M2⟩:=F8;clear X;have FX:=yD (λ(W:Ak) (hW:Qb wC W)=>kJd hW M0 M1 M2);refine jU (λW=>Qb wC W) [(0,true),(1,true),(2,true),(4,true),(5,true),(6,true),(7,true),(3,false),(8,true),(9,false)] bC3 bC3 pK (bR.drew) ?_;intro wS E;simp only [kz,Aw,Az,Al,Am,Bd,Bf,Ay,Ba,Au,Bb];iterate 7
    all_goals refine ku ?_
   all_goals first|(refine kI rfl E ?_)|(refine kw rfl (λK H=>?_);go_simp;refine (zI (U.below (tQ EC E))).mono ?_;rintro e am ⟨az,rfl,N,aq⟩;obtain ⟨Y,rfl,L⟩:=kZ N.raw;obtain ⟨ad,ak,rfl,aa⟩:=kD.sl L;clear L;replace N:=yD N;have da:=aq.size;have du:=E.size;replace E:=(tQ E aq);refine H _ _ E ?_;clear H K aq)
   all_goals refine jF ?_
   all_goals refine ku ?_
   all_goals first|(refine kI rfl E ?_)|(refine kw rfl (λK H=>?_);go_simp;refine H _ _ (E.alloc E.size _) ?_;clear H K)
   all_goals refine jF ?_
   all_goals refine jc ?_
   obtain ⟨bj,bi,aw,ab,J,O⟩:=AP;go_wp2_with (at_builtin;refine kD.jL rfl _ _ 31 rfl (r:=kL) (e:=108) underlying31 zz rfl bC8 bC8 (B:=w.heap.size) J.out bD1 bD1 rfl (kD.own.wide (T:=jX wr.heap.size am.heap.size) (kD.jv (N.out) (kD.yC (kD.jB ao) (kD.jB au))) mH) rfl mM qU mH bC9 sG ?_);exact aI
 exact aL
def kDb {w:Ak} {vl:Av} {l:Be ky} (hl:(kD.slice 77 kY).rd w [vl] l) :
    Bc prog 71 #[vl] w (kBs 77 kY l w):=by
 have HL:=yD hl
 obtain ⟨la,lp,rfl,ll⟩:=kD.sl hl.1
 have a5:l.length<=16777216:=hl.2.1
 clear hl
 go_enter func71,ntmps71
 go_wp2
 have O0:kD.kR 77 kY (w.alloc (.cells #[] 77)) (.slice (some ⟨w.heap.size,0,none⟩) 0 0) [] (jX w.heap.size (w.alloc (.cells #[] 77)).heap.size) :=
   kD.yO (e:=77) (r:=kY) (w:=w) (cs:=[]) (xs:=[]) (T:=λ_=>False) bD0 bD0 rfl (λ_ h=>h.elim) ⟨Nat.le_refl _,by simp⟩
 go_loopw [3,4] (λv i wr=>∃ k:Nat,k<=l.length/\i=.int .i64 k/\Hid (kD.kR 77 kY wr v (l.take k) (jX w.heap.size wr.heap.size))/\Qb w wr) (λ_ i _=>l.length - (Bg i).toNat)
 case atStart=>exact ⟨0,Nat.zero_le _,rfl,yD O0,bR.alloc nL _⟩
 clear O0
 obtain ⟨k,hk,rfl,J,o⟩:=hrel
 obtain ⟨oa,on,oc,ho,bb⟩:=J.out.parts;obtain rfl:=ho
 have a1:(l.take k).length<=k:=bC4
 by_cases hlt:k < l.length
 · obtain ⟨qb,qo,rfl,ae,af,ah,qr,ar,ax,a2⟩:=kD.zg (HL.out.1.below o) hlt rfl;obtain ⟨av,ag⟩:=xZ;generalize l[k]=x at *;have ba:=yD ag;clear ag;obtain ⟨x0,x1,x2⟩:=x;obtain ⟨bg,Z,aj,ap,ao,au⟩:=jM qr;simp only [Aa,and_true] at Z;obtain ⟨rfl,rfl,rfl⟩:=Z;obtain ⟨ac,ay,rfl,bd⟩:=kD.sl ap;have U:kU.rd wr _ x0:=⟨aj,av.1⟩;go_wp2_with fail;refine (zJ U).mono ?_;rintro e wT ⟨tc,rfl,OT,aq⟩;obtain ⟨cf,rfl,al⟩:=kZ OT.raw;obtain ⟨a7,br,rfl,_⟩:=kD.sl al;clear al;go_upto_region 6 with fail;generalize X:World.alloc wT _=wC;obtain ⟨EC,K0⟩:=FY;clear X;have ER:=(tQ aq EC);replace ar:=cL ER ar;replace ax:=cL ER ax;replace a2:=cL ER a2;have FX:=yD (λ(W:Ak) (hW:Qb wC W)=>kGr hW K0 ar ax a2);refine yH (λW=>Qb wC W) [Tt,Tt,Tt,Tt,Tt,Tt,Tt,Tt,Tt,Tt,Tt,Tt,Tt,Ff] bC3 bC3 pK (bR.drew) ?_;intro wS E;iterate 13
    all_goals refine ku ?_
   all_goals first|(refine kI rfl E ?_)|(refine kw rfl (λK H=>?_);go_simp;refine H _ _ (E.alloc E.size _) ?_;clear H K)
   all_goals refine jF ?_
   all_goals refine jc ?_
   obtain ⟨bj,bi,aw,bo,ab,J,O⟩:=EO;go_wp2_with (at_builtin;refine kD.jL rfl _ _ 30 rfl (r:=kY) (e:=77) underlying30 kCt rfl bC8 bC8 (B:=w.heap.size) J.out bD1 bD1 rfl (kD.own.wide (T:=jX wr.heap.size wT.heap.size) (kD.jv (OT.below (tQ EC E)) (kD.yC (kD.jB ao) (kD.jB au))) mH) rfl mM qU mH bC9 sG ?_);exact aI
 exact aL
def kEv {w:Ak} {vl:Av} {l:Be kJ} (hl:(kD.slice 108 kL).rd w [vl] l) :
    Bc prog 72 #[vl] w (kBs 108 kL l w):=by
 have HL:=yD hl
 obtain ⟨la,lp,rfl,ll⟩:=kD.sl hl.1
 have a5:l.length<=16777216:=hl.2.1
 clear hl
 go_enter func72,ntmps72
 go_wp2
 have O0:kD.kR 108 kL (w.alloc (.cells #[] 108)) (.slice (some ⟨w.heap.size,0,none⟩) 0 0) [] (jX w.heap.size (w.alloc (.cells #[] 108)).heap.size) :=
   kD.yO (e:=108) (r:=kL) (w:=w) (cs:=[]) (xs:=[]) (T:=λ_=>False) bD0 bD0 rfl (λ_ h=>h.elim) ⟨Nat.le_refl _,by simp⟩
 go_loopw [3,4] (λv i wr=>∃ k:Nat,k<=l.length/\i=.int .i64 k/\Hid (kD.kR 108 kL wr v (l.take k) (jX w.heap.size wr.heap.size))/\Qb w wr) (λ_ i _=>l.length - (Bg i).toNat)
 case atStart=>exact ⟨0,Nat.zero_le _,rfl,yD O0,bR.alloc nL _⟩
 clear O0
 obtain ⟨k,hk,rfl,J,o⟩:=hrel
 obtain ⟨oa,on,oc,ho,bb⟩:=J.out.parts;obtain rfl:=ho
 have a1:(l.take k).length<=k:=bC4
 by_cases hlt:k < l.length
 · obtain ⟨qb,qo,rfl,ae,af,ah,qr,ar,ax,a2⟩:=kD.zg (HL.out.1.below o) hlt rfl;obtain ⟨av,ag⟩:=xZ;generalize l[k]=x at *;have ba:=yD ag;clear ag;obtain ⟨x0,x1,x2⟩:=x;obtain ⟨bg,Z,aj,ap,ao,au⟩:=yF qr;simp only [Aa,and_true] at Z;obtain ⟨rfl,rfl,rfl⟩:=Z;obtain ⟨ac,ay,rfl,bd⟩:=kD.sl ap;have U:kU.rd wr _ x0:=⟨aj,av.1⟩;go_wp2_with fail;refine (zJ U).mono ?_;rintro e wT ⟨tc,rfl,OT,aq⟩;obtain ⟨cf,rfl,al⟩:=kZ OT.raw;obtain ⟨a7,br,rfl,_⟩:=kD.sl al;clear al;go_upto_region 6 with fail;generalize X:World.alloc wT _=wC;obtain ⟨EC,K0⟩:=FY;clear X;have ER:=(tQ aq EC);replace ar:=cL ER ar;replace ax:=cL ER ax;replace a2:=cL ER a2;have FX:=yD (λ(W:Ak) (hW:Qb wC W)=>kGr hW K0 ar ax a2);refine yH (λW=>Qb wC W) [Tt,Tt,Tt,Tt,Tt,Tt,Tt,Tt,Tt,Tt,Tt,Tt,Tt,Ff] bC3 bC3 pK (bR.drew) ?_;intro wS E;iterate 13
    all_goals refine ku ?_
   all_goals first|(refine kI rfl E ?_)|(refine kw rfl (λK H=>?_);go_simp;refine H _ _ (E.alloc E.size _) ?_;clear H K)
   all_goals refine jF ?_
   all_goals refine jc ?_
   obtain ⟨bj,bi,aw,bo,ab,J,O⟩:=EO;go_wp2_with (at_builtin;refine kD.jL rfl _ _ 31 rfl (r:=kL) (e:=108) underlying31 zz rfl bC8 bC8 (B:=w.heap.size) J.out bD1 bD1 rfl (kD.own.wide (T:=jX wr.heap.size wT.heap.size) (kD.jv (OT.below (tQ EC E)) (kD.yC (kD.jB ao) (kD.jB au))) mH) rfl mM qU mH bC9 sG ?_);exact aI
 exact aL
def kTf (x:yB) (w:Ak) (e:Ending) (w':Ak):Prop :=
  ∃ (v:Av) (ds:Be Av) (mid:Nat),e=.returned (.agg (v :: ds).toArray)/\kD.kR 68 jJ w' v x.1 (jX w.heap.size mid)/\(kD.pair kN (kD.pair (kD.slice 43 kH) (kD.pair (kD.slice 99 jG) (kD.pair (kD.slice 77 kY) (kD.pair (kD.slice 108 kL) kD.int))))).own w' ds x.2 (jX mid w'.heap.size)/\w.heap.size<=mid/\mid<=w'.heap.size/\Qb w w'
def kTf.made {x:yB} {w:Ak} {e:Ending} {w':Ak} (h:kTf x w e w') (hb:jr.bdd Big x):kAe jr x w e w':=by
 obtain ⟨v,ds,mid,rfl,h1,h2,h3,h4,h5⟩:=h;refine ⟨v :: ds,rfl,?_,h5⟩;exact kD.jl (r:=kD.slice 68 jJ) (q:=(kD.pair kN (kD.pair (kD.slice 43 kH) (kD.pair (kD.slice 99 jG) (kD.pair (kD.slice 77 kY) (kD.pair (kD.slice 108 kL) kD.int)))))) (cs:=[v]) (ds:=ds) (x:=x.1) (y:=x.2) (S:=jX w.heap.size w'.heap.size) (h1.own hb.1.1) h2 qU qV mM
def kKj {w:Ak} {cx:Be Av} {x:yB} (hx:jr.rd w cx x):Bc prog 27 #[.agg cx.toArray] w (kTf x w):=by
 obtain ⟨X,q1,q2,q3,q4,q5,q6⟩:=hx.2;obtain ⟨an,a1,ah,ag,al⟩:=FB;obtain ⟨d4,d7,en,el,eg,ef,rfl,ad,a3,bi,a9,az,ba,bm,bz,dg⟩:=yS hx.1;obtain ⟨cw,b6,rfl,d6⟩:=kD.sl ad;obtain ⟨cz,co,rfl,d8⟩:=kD.sl a9;obtain ⟨dk,c8,rfl,eh⟩:=kD.sl az;obtain ⟨dj,di,rfl,ek⟩:=kD.sl ba;obtain ⟨c5,c4,rfl,eq⟩:=kD.sl bm;obtain ⟨c3,cm,rfl,ej⟩:=kD.sl bz;obtain ⟨bd,a4,av,bf,a2,aw⟩:=AC;have ax:=yD dg;clear hx X q1 q2 q3 q4 q5 q6 ad a3 bi a9 az ba bm bz dg;go_enter func27,ntmps27;go_upto_region 1 with fail;generalize D:World.alloc (World.alloc w _) _=N;obtain ⟨EB,K0,K1,K2,K3,K4,K5,K6,K7⟩:=xE;obtain ⟨XR,bu⟩:=EE;clear D;have FX:=yD (λ(W:Ak) (hW:Qb N W)=>cLs8 hW K0 K1 K2 K3 K4 K5 K6 K7);refine jU (λW=>Qb N W) [(0,true),(1,true),(3,true),(4,true),(6,true),(7,true),(9,true),(10,true),(12,true),(13,true),(15,true),(16,true),(18,true),(19,true),(2,false),(5,false),(8,false),(11,false),(14,false),(17,false),(20,true)] bC3 bC3 pK (bR.drew) ?_;intro wS E;simp only [kz,Aw,Az,Al,Am,Bd,Bf,Ay,Ba,Au,Bb];iterate 14
  all_goals refine ku ?_
 all_goals first|(refine kI rfl E ?_)|(refine kw rfl (λK H=>?_);go_simp;refine (kSa (bd.out.below (tQ EB E))).mono ?_;rintro e u0 ⟨v1,rfl,O1,G⟩;obtain ⟨aq,bo,ar,ab,bb⟩:=O1.parts;obtain rfl:=ab;have O:=yD O1;clear O1;have bx:=G.size;have da:=E.size;replace E:=(tQ E G);refine H _ _ E ?_;clear H K G)
 all_goals refine jF ?_
 all_goals first|(refine kI rfl E ?_)|(refine kw rfl (λK H=>?_);go_simp;refine (kMq (a4.out.below (tQ EB E))).mono ?_;rintro e Y ⟨cs,rfl,O2,G⟩;obtain ⟨cv,rfl,ap,au⟩:=jK O2.raw;obtain ⟨am,V,rfl,_⟩:=kD.sl au;have F:=yD O2;clear O2 ap au;replace O:=yD (O.out.below G);have bq:=G.size;have b9:=E.size;replace E:=(tQ E G);refine H _ _ E ?_;clear H K G)
 all_goals refine jF ?_
 all_goals first|(refine kI rfl E ?_)|(refine kw rfl (λK H=>?_);go_simp;refine (kHg (av.out.below (tQ EB E))).mono ?_;rintro e u2 ⟨v1,rfl,O1,G⟩;obtain ⟨ak,bh,ao,ab,a7⟩:=O1.parts;obtain rfl:=ab;have R:=yD (O1.own a1.out);clear O1;replace O:=yD (O.out.below G);replace F:=yD (F.out.below G);have a6:=G.size;have bt:=E.size;replace E:=(tQ E G);refine H _ _ E ?_;clear H K G)
 all_goals refine jF ?_
 all_goals first|(refine kI rfl E ?_)|(refine kw rfl (λK H=>?_);go_simp;refine (kMo (bf.out.below (tQ EB E))).mono ?_;rintro e u3 ⟨v1,rfl,O1,G⟩;obtain ⟨aj,a5,af,ab,bn⟩:=O1.parts;obtain rfl:=ab;have ai:=yD (O1.own ah.out);clear O1;replace O:=yD (O.out.below G);replace F:=yD (F.out.below G);replace R:=yD (R.out.below G);have bk:=G.size;have dl:=E.size;replace E:=(tQ E G);refine H _ _ E ?_;clear H K G)
 all_goals refine jF ?_
 all_goals first|(refine kI rfl E ?_)|(refine kw rfl (λK H=>?_);go_simp;refine (kDb (a2.out.below (tQ EB E))).mono ?_;rintro e u4 ⟨v1,rfl,O1,G⟩;obtain ⟨ae,ay,ac,ab,bj⟩:=O1.parts;obtain rfl:=ab;have be:=yD (O1.own ag.out);clear O1;replace O:=yD (O.out.below G);replace F:=yD (F.out.below G);replace R:=yD (R.out.below G);replace ai:=yD (ai.out.below G);have bw:=G.size;have c6:=E.size;replace E:=(tQ E G);refine H _ _ E ?_;clear H K G)
 all_goals refine jF ?_
 all_goals first|(refine kI rfl E ?_)|(refine kw rfl (λK H=>?_);go_simp;refine (kEv (aw.out.below (tQ EB E))).mono ?_;rintro e U ⟨v1,rfl,O1,G⟩;obtain ⟨aa,J,Z,ab,bg⟩:=O1.parts;obtain rfl:=ab;have bc:=yD (O1.own al.out);clear O1;replace O:=yD (O.out.below G);replace F:=yD (F.out.below G);replace R:=yD (R.out.below G);replace ai:=yD (ai.out.below G);replace be:=yD (be.out.below G);have bv:=G.size;have a8:=E.size;replace E:=(tQ E G);refine H _ _ E ?_;clear H K G)
 all_goals refine jF ?_
 all_goals refine ku ?_
 all_goals refine jc ?_
 have o:=kC XR E;have E1:=(tQ EB E);obtain ⟨M0,F0,M1,F1,M2,F2,M3,F3,M4,F4,M5,F5,M6,F6⟩:=y7;have M7:=kE (b:=w.heap.size + 1) o (j:=7) rfl;have F7:=frozen_of_row U (w.heap.size + 1) 7 _ _ o;go_wp2;refine bodyPost_ret (v:=.agg #[.slice aq bo ar,Qn x.2.1.1,Qs am x.2.1.2 V,.slice ak bh ao,.slice aj a5 af,.slice ae ay ac,.slice aa J Z,Qn x.2.2.2.2.2.2]) (by simp [results,results27,go_sem,M0,F0,M1,F1,M2,F2,M3,F3,M4,F4,M5,F5,M6,F6,M7,F7]) rfl ⟨_,[_,_,_,_,_,_,_],u0.heap.size,rfl,?_,?_,by have:=E1.size;omega,by simp [World.setCell];omega,?_⟩
 · exact aJ
 · exact aK
 repeat (first|(with_reducible exact E1) | refine Below.setCell ?_ qZ _)
def kKi {w:Ak} {cx:Be Av} {x:yB} (hx:jr.rd w cx x):Bc prog 27 #[.agg cx.toArray] w (kAe jr x w) :=
  (kKj hx).mono λe w' h=>h.made hx.2
def kVp {w:Ak} {cx:Be Av} {x:yB} (hx:jr.rd w cx x):Bc prog 15 #[.agg cx.toArray] w (kTf x w):=by
 obtain ⟨X,q1,q2,q3,q4,q5,q6⟩:=hx.2;obtain ⟨an,a1,ah,ag,al⟩:=FB;obtain ⟨d4,d7,en,el,eg,ef,rfl,ad,a3,bi,a9,az,ba,bm,bz,dg⟩:=yS hx.1;obtain ⟨cw,b6,rfl,d6⟩:=kD.sl ad;obtain ⟨cz,co,rfl,d8⟩:=kD.sl a9;obtain ⟨dk,c8,rfl,eh⟩:=kD.sl az;obtain ⟨dj,di,rfl,ek⟩:=kD.sl ba;obtain ⟨c5,c4,rfl,eq⟩:=kD.sl bm;obtain ⟨c3,cm,rfl,ej⟩:=kD.sl bz;obtain ⟨bd,a4,av,bf,a2,aw⟩:=AC;have ax:=yD dg;clear hx X q1 q2 q3 q4 q5 q6 ad a3 bi a9 az ba bm bz dg;go_enter func15,ntmps15;go_upto_region 1 with fail;generalize D:World.alloc (World.alloc w _) _=N;obtain ⟨EB,K0,K1,K2,K3,K4,K5,K6,K7⟩:=xE;obtain ⟨XR,bu⟩:=EE;clear D;have FX:=yD (λ(W:Ak) (hW:Qb N W)=>cLs8 hW K0 K1 K2 K3 K4 K5 K6 K7);refine jU (λW=>Qb N W) [(0,true),(1,true),(3,true),(4,true),(6,true),(7,true),(9,true),(10,true),(12,true),(13,true),(15,true),(16,true),(18,true),(19,true),(2,false),(5,false),(8,false),(11,false),(14,false),(17,false),(20,true)] bC3 bC3 pK (bR.drew) ?_;intro wS E;simp only [kz,Aw,Az,Al,Am,Bd,Bf,Ay,Ba,Au,Bb];iterate 14
  all_goals refine ku ?_
 all_goals first|(refine kI rfl E ?_)|(refine kw rfl (λK H=>?_);go_simp;refine (kSq (bd.out.below (tQ EB E))).mono ?_;rintro e u0 ⟨v1,rfl,O1,G⟩;obtain ⟨aq,bo,ar,ab,bb⟩:=O1.parts;obtain rfl:=ab;have O:=yD O1;clear O1;have bx:=G.size;have da:=E.size;replace E:=(tQ E G);refine H _ _ E ?_;clear H K G)
 all_goals refine jF ?_
 all_goals first|(refine kI rfl E ?_)|(refine kw rfl (λK H=>?_);go_simp;refine (kSp (a4.out.below (tQ EB E))).mono ?_;rintro e Y ⟨cs,rfl,O2,G⟩;obtain ⟨cv,rfl,ap,au⟩:=jK O2.raw;obtain ⟨am,V,rfl,_⟩:=kD.sl au;have F:=yD O2;clear O2 ap au;replace O:=yD (O.out.below G);have bq:=G.size;have b9:=E.size;replace E:=(tQ E G);refine H _ _ E ?_;clear H K G)
 all_goals refine jF ?_
 all_goals first|(refine kI rfl E ?_)|(refine kw rfl (λK H=>?_);go_simp;refine (kOz (av.out.below (tQ EB E))).mono ?_;rintro e u2 ⟨v1,rfl,O1,G⟩;obtain ⟨ak,bh,ao,ab,a7⟩:=O1.parts;obtain rfl:=ab;have R:=yD (O1.own a1.out);clear O1;replace O:=yD (O.out.below G);replace F:=yD (F.out.below G);have a6:=G.size;have bt:=E.size;replace E:=(tQ E G);refine H _ _ E ?_;clear H K G)
 all_goals refine jF ?_
 all_goals first|(refine kI rfl E ?_)|(refine kw rfl (λK H=>?_);go_simp;refine (kKu (bf.out.below (tQ EB E))).mono ?_;rintro e u3 ⟨v1,rfl,O1,G⟩;obtain ⟨aj,a5,af,ab,bn⟩:=O1.parts;obtain rfl:=ab;have ai:=yD (O1.own ah.out);clear O1;replace O:=yD (O.out.below G);replace F:=yD (F.out.below G);replace R:=yD (R.out.below G);have bk:=G.size;have dl:=E.size;replace E:=(tQ E G);refine H _ _ E ?_;clear H K G)
 all_goals refine jF ?_
 all_goals first|(refine kI rfl E ?_)|(refine kw rfl (λK H=>?_);go_simp;refine (kIb (a2.out.below (tQ EB E))).mono ?_;rintro e u4 ⟨v1,rfl,O1,G⟩;obtain ⟨ae,ay,ac,ab,bj⟩:=O1.parts;obtain rfl:=ab;have be:=yD (O1.own ag.out);clear O1;replace O:=yD (O.out.below G);replace F:=yD (F.out.below G);replace R:=yD (R.out.below G);replace ai:=yD (ai.out.below G);have bw:=G.size;have c6:=E.size;replace E:=(tQ E G);refine H _ _ E ?_;clear H K G)
 all_goals refine jF ?_
 all_goals first|(refine kI rfl E ?_)|(refine kw rfl (λK H=>?_);go_simp;refine (kEk (aw.out.below (tQ EB E))).mono ?_;rintro e U ⟨v1,rfl,O1,G⟩;obtain ⟨aa,J,Z,ab,bg⟩:=O1.parts;obtain rfl:=ab;have bc:=yD (O1.own al.out);clear O1;replace O:=yD (O.out.below G);replace F:=yD (F.out.below G);replace R:=yD (R.out.below G);replace ai:=yD (ai.out.below G);replace be:=yD (be.out.below G);have bv:=G.size;have a8:=E.size;replace E:=(tQ E G);refine H _ _ E ?_;clear H K G)
 all_goals refine jF ?_
 all_goals refine ku ?_
 all_goals refine jc ?_
 have o:=kC XR E;have E1:=(tQ EB E);obtain ⟨M0,F0,M1,F1,M2,F2,M3,F3,M4,F4,M5,F5,M6,F6⟩:=y7;have M7:=kE (b:=w.heap.size + 1) o (j:=7) rfl;have F7:=frozen_of_row U (w.heap.size + 1) 7 _ _ o;go_wp2;refine bodyPost_ret (v:=.agg #[.slice aq bo ar,Qn x.2.1.1,Qs am x.2.1.2 V,.slice ak bh ao,.slice aj a5 af,.slice ae ay ac,.slice aa J Z,Qn x.2.2.2.2.2.2]) (by simp [results,results15,go_sem,M0,F0,M1,F1,M2,F2,M3,F3,M4,F4,M5,F5,M6,F6,M7,F7]) rfl ⟨_,[_,_,_,_,_,_,_],u0.heap.size,rfl,?_,?_,by have:=E1.size;omega,by simp [World.setCell];omega,?_⟩
 · exact aJ
 · exact aK
 repeat (first|(with_reducible exact E1) | refine Below.setCell ?_ qZ _)
def kVo {w:Ak} {cx:Be Av} {x:yB} (hx:jr.rd w cx x):Bc prog 15 #[.agg cx.toArray] w (kAe jr x w) :=
  (kVp hx).mono λe w' h=>h.made hx.2
def kTl:kT:=(([],[],[],0,0),0)
def kNg (l:Be kT) (k:Nat) (x:kT):Bool:=!(!kBh x.1 || decide (idxOf (isC x.1.1) (l.take k) ≥ 0))
def kBt (x:kg):Bool:=yh (λj=>kNg x.2 j (x.2.getD j kTl)) x.2.length && (inR x.1 0 8 && decide ((x.2.length:Int)<=x.1))
def kTn {c:Int} {l:Be kT} {k:Nat} (h:k < l.length) (q:kNg l k l[k]=false):kBt (c,l)=false:=by
 unfold kBt;rw [kCx h qB];rfl
def kQt {l:Be kT} {k:Nat} (h:k < l.length) (q:kNg l k l[k]=true) (a:yh (λj=>kNg l j (l.getD j kTl)) k=true):yh (λj=>kNg l j (l.getD j kTl)) (k + 1)=true :=
  kAu a qB
def kQu {c:Int} {l:Be kT} {k:Nat} (q:yh (λj=>kNg l j (l.getD j kTl)) k=true) (h:¬ k < l.length) (hk:k<=l.length):kBt (c,l)=(inR c 0 8 && decide ((l.length:Int)<=c)):=by
 obtain rfl:k=l.length:=bC9;unfold kBt;rw [q];rfl
def kHw {w:Ak} {cs:Be Av} {x:kg} (hx:kN.raw w cs x) :
    Bc prog 190 #[.agg cs.toArray] w (bQ w (.bool (kBt x))):=by
 obtain ⟨sv,rfl,c7,hl⟩:=jK hx
 obtain ⟨aa,pl,rfl,la⟩:=kD.sl hl
 obtain ⟨c,l⟩:=x
 replace hl:(kD.slice 111 jD).raw w [Qs aa l pl] l:=hl
 have R:=kD.kAd hl
 replace la:l.length<=9223372036854775807:=la
 have b0:=yD c7
 clear hx c7
 go_enter func190,ntmps190
 go_wp2
 generalize D:World.alloc w _=N
 have EB:Qb w N:=by rw [<- D];exact bF
 have K0:Qd N w 0 (.int .i64 c):=tK
 have K1:Qd N w 1 (.slice aa l.length pl):=tK
 clear D
 replace hl:=hl.below EB
 go_loopw [3] (λi wr=>∃ k:Nat,k<=l.length/\i=.int .i64 k/\Hid (yh (λj=>kNg l j (l.getD j kTl)) k=true)/\Qb N wr) (λi _=>l.length - (Bg i).toNat)
 case atStart=>exact ⟨0,Nat.zero_le _,rfl,yD rfl,bR⟩
 obtain ⟨k,hk,rfl,HN,o⟩:=hrel
 replace K0:=cL o K0
 replace K1:=cL o K1
 by_cases hlt:k < l.length
 · have ag:=yD (kD.kCb (hl.below o) hk);have hb:=λq=>kTn (c:=c) hlt q;have av:=λq=>kQt hlt q HN.out;obtain ⟨qb,qo,rfl,ae,af,ah,cc,ck,cz,qr,ar,ax,a2,an,a4,a3⟩:=kD.get6 (hl.below o) (i:=k) bC9 rfl;generalize l[k]=x at *;have HB:=yD hb;have HX:=yD av;clear hb av;obtain ⟨bg,dc,b2,Z,aj,ap,ao,au,bq,bh,cq,cw,cv⟩:=jq qr;simp only [Aa,and_true] at Z;obtain ⟨rfl,rfl,rfl,rfl,rfl,rfl⟩:=Z;obtain ⟨ac,ay,rfl,bd⟩:=kD.sl ao;obtain ⟨ai,bc,rfl,bl⟩:=kD.sl au;obtain ⟨am,bu,rfl,ce⟩:=kD.sl bh;obtain ⟨bt,bp,c1,a8⟩:=xS;go_upto_region 4 with fail;have FX:=yD (λ(W:Ak) (hW:Qb wr W)=>cLs8 hW K0 K1 ar ax a2 an a4 a3);refine kM (λW=>Qb wr W) [Tt,Tt,Tt,Tt,Tt,Tt,Ff,Tt,Tt,Tt,Tt,Tt,Tt,Tt,Tt,Tt,Tt,Tt,Tt,Tt,Ff,Tt,Tt] bC3 bC3 pK (bR.drew) ?_;intro wS E;iterate 6
    all_goals refine ku ?_
   all_goals first | refine wkB (kDf (kD.raw.below aj E)) (λwS1 E=>?_) | refine ku ?_
   all_goals refine ku ?_
   all_goals (refine jy λb ak=>?_;cases b <;> try simp only [jw] at ak)
   iterate 11
    all_goals refine ku ?_
   all_goals first | refine wkB (kEx (kD.raw.below ag.out E) (kD.raw.below ap E)) (λwS1 E=>?_) | refine ku ?_
   all_goals refine ku ?_
   all_goals (refine jy λb J=>?_;cases b <;> try simp only [jw] at J)
   all_goals refine kS ?_
   all_goals have F:=(tQ o E)
   all_goals first
     | (have L:=yD (HB.out (show _=false by simp only [kNg,Ae,Ab,Ag,Ah,Ac,Ad,Ap,Aq,Ai,Aj,Ar,ge_iff_le,ak,J]));clear HB HX HN ag;go_wp2;go_ret;exact ⟨kX L.out.symm,(tQ EB F)⟩)
     | (have L:=yD (HX.out (show _=true by simp only [kNg,Ae,Ab,Ag,Ah,Ac,Ad,Ap,Aq,Ai,Aj,Ar,ge_iff_le,ak,J]));clear HB HX HN ag;go_wp2;go_roundw;(case rel=>exact ⟨k + 1,by omega,by go_num,L,F⟩);(case measure=>simp [Bg];omega))
 have L:=yD (kQu (c:=c) HN.out hlt hk)
 have b3:¬ (k:Int) < l.length:=bC9
 go_upto_region 6 with fail
 have FX:=yD (λ(W:Ak) (hW:Qb wr W)=>kIk hW K0 K1)
 refine jE (λW=>Qb wr W) [Tt,Tt,Ff,Tt,Tt,Tt,Tt,Tt,Tt,Tt,Tt,Tt] bR ?_
 intro wS E
 all_goals refine ku ?_
 all_goals refine ku ?_
 all_goals first | refine wkC (jo) ?_ | refine ku ?_
 all_goals (refine jy λb a1=>?_;cases b <;> try simp only [jw] at a1)
 iterate 7
  all_goals refine ku ?_
 all_goals (refine jy λb V=>?_;cases b <;> try simp only [jw] at V)
 all_goals refine kS ?_
 all_goals have F:=(tQ EB (tQ o E))
 all_goals first
   | (have U:=yD (show kBt (c,l)=false by rw [L.out];simp only [Ae,Ab,Ag,Ah,Ac,Ad,Ap,Aq,Ai,Aj,Ar,a1,V]);go_wp2;go_ret;exact ⟨kX U.out.symm,F⟩)
   | (have U:=yD (show kBt (c,l)=true by rw [L.out];simp only [Ae,Ab,Ag,Ah,Ac,Ad,Ap,Aq,Ai,Aj,Ar,a1,V]);go_wp2;go_ret;exact ⟨kX U.out.symm,F⟩)
def zn (n:ko) (f:Int) (m:ky):Bool:=(m.2.1==f) && eqN m.1 n
def kMm {w:Ak} {vl:Av} {l:(Be ky)} (hl:(kD.slice 77 kY).raw w [vl] l) {cn:Be Av} {n:ko} (hn:kU.raw w cn n) {f:Int} :
    Bc prog 195 #[vl,.agg cn.toArray,.int .i64 f] w (bQ w (.int .i64 (idxOf (zn n f) l))):=by
 obtain ⟨al,pl,rfl,ll⟩:=kD.sl hl
 have Hn:=yD hn
 obtain ⟨X,rfl,R⟩:=kZ hn
 obtain ⟨U,J,rfl,aa⟩:=kD.sl R
 go_enter func195,ntmps195
 go_wp2
 generalize D:World.alloc w _=N
 obtain ⟨EB,V⟩:=EG
 clear D
 replace hl:=hl.below EB
 go_loopw [7] (λi wr=>∃ k:Nat,k<=l.length/\i=.int .i64 k/\Hid (∀ j,(h:j < k)->(h2:j < l.length)->(zn n f) l[j]=false)/\Qb N wr) (λi _=>l.length - (Bg i).toNat)
 case atStart=>exact ⟨0,Nat.zero_le _,rfl,yD (λ_ h=>by omega),bR⟩
 obtain ⟨k,hk,rfl,HN,o⟩:=hrel
 replace V:=cL o V
 by_cases hlt:k < l.length
 · obtain ⟨qb,qo,rfl,ae,af,ah,qr,ar,ax,a2⟩:=kD.zg (hl.below o) (i:=k) bC9 rfl;obtain ⟨I,H⟩:=CK;generalize l[k]=x at *;have HD:=yD I;have HX:=yD H;clear I H;obtain ⟨x0,x1,x2⟩:=x;obtain ⟨bg,Z,aj,ap,ao,au⟩:=jM qr;simp only [Aa,and_true] at Z;obtain ⟨rfl,rfl,rfl⟩:=Z;obtain ⟨ac,ay,rfl,bd⟩:=kD.sl ap;go_upto_region 4 with fail;have FX:=yD (λ(W:Ak) (hW:Qb wr W)=>kGr hW V ar ax a2);refine kM (λW=>Qb wr W) [Tt,Tt,Tt,Tt,Tt,Tt,Tt,Tt,Tt,Tt,Tt,Tt,Tt,Tt,Ff,Tt] bC3 bC3 pK (bR.drew) ?_;intro wS E;iterate 7
    all_goals refine ku ?_
   all_goals (refine jy λb aw=>?_;cases b <;> try simp only [jw] at aw)
   iterate 6
    all_goals refine ku ?_
   all_goals first | refine wkB (zN (kD.raw.below aj E) (kD.raw.below Hn.out ((tQ EB (tQ o E))))) (λwS1 E=>?_) | refine ku ?_
   all_goals (refine jy λb G=>?_;cases b <;> try simp only [jw] at G)
   all_goals refine kS ?_
   all_goals have F:=(tQ o E)
   all_goals first
     | (have L:=yD (HD.out (show _=true by simp only [zn,Ae,Ab,Ag,Ah,Ac,Ad,Ap,Aq,Ai,Aj,Ar,aw,G]));clear HD HX;go_wp2;go_ret;exact ⟨jT L.out.symm,(tQ EB F)⟩)
     | (have L:=yD (HX.out (show _=false by simp only [zn,Ae,Ab,Ag,Ah,Ac,Ad,Ap,Aq,Ai,Aj,Ar,aw,G]));clear HD HX;go_wp2;go_roundw;(case rel=>exact ⟨k + 1,by omega,by go_num,L,F⟩);(case measure=>simp [Bg];omega))
 exact iI
def kVl {w:Ak} {cm:Be Av} {m:ky} (hm:kY.raw w cm m) {f:Int} {X:Nat} (o:Qc w X 0 (.int .i64 f)) {n:ko} {ck:Av} {Bn:Nat} (nr:kU.raw w [ck] n) (U:Qc w Bn 0 ck) :
    Bc prog 129 (#[.agg cm.toArray]++#[.pointer (some ⟨X,0,none⟩),.pointer (some ⟨Bn,0,none⟩)]) w (bQ w (.bool (zn n f m))):=by
 have Hm:=yD hm
 obtain ⟨aa,rfl,V,J,ab,Z⟩:=jM hm
 obtain ⟨I,R,rfl,ac⟩:=kD.sl J
 obtain ⟨H,ak,a8⟩:=kZ nr
 simp only [Aa,and_true] at ak
 obtain rfl:=ak
 obtain ⟨ee,am,rfl,ao⟩:=kD.sl a8
 show Bc prog 129 #[_,_,_] w _
 go_enter func129,ntmps129
 go_upto_region 1 with fail
 generalize D:World.alloc w _=N
 obtain ⟨EB,G,ad,af⟩:=I6
 clear D
 replace o:=cL EB o
 replace U:=cL EB U
 have FX:=yD (λ(W:Ak) (hW:Qb N W)=>cLs5 hW G ad af o U)
 refine jE (λW=>Qb N W) [Tt,Tt,Tt,Tt,Tt,Tt,Tt,Tt,Ff,Tt,Tt] bR ?_
 intro wS E
 iterate 4
  all_goals refine ku ?_
 all_goals (refine jy λb O=>?_;cases b <;> try simp only [jw] at O)
 iterate 3
  all_goals refine ku ?_
 all_goals first | refine wkB (kAo (kD.raw.below V (tQ EB E)) (kD.raw.below nr (tQ EB E))) (λwS1 E=>?_) | refine ku ?_
 all_goals refine ku ?_
 all_goals (refine jy λb Y=>?_;cases b <;> try simp only [jw] at Y)
 all_goals refine kS ?_
 all_goals have F:=(tQ EB E)
 all_goals first
   | (have L:=yD (show (zn n f m)=false by simp only [zn,Ae,Ab,Ag,Ah,Ac,Ad,Ap,Aq,Ai,Aj,Ar,O,Y]);go_wp2;go_ret;exact ⟨kX L.out.symm,F⟩)
   | (have L:=yD (show (zn n f m)=true by simp only [zn,Ae,Ab,Ag,Ah,Ac,Ad,Ap,Aq,Ai,Aj,Ar,O,Y]);go_wp2;go_ret;exact ⟨kX L.out.symm,F⟩)
def kIi:jI prog 129:=zQ func129 bC3 bC3
def kWx {w:Ak} {vl:Av} {l:(Be ky)} (hl:(kD.slice 77 kY).raw w [vl] l) {cn:Be Av} {n:ko} (hn:kU.raw w cn n) {f:Int} :
    Bc prog 89 #[vl,.agg cn.toArray,.int .i64 f] w (bQ w (.int .i64 (idxOf (zn n f) l))):=by
 obtain ⟨al,pl,rfl,ll⟩:=kD.sl hl
 have Hn:=yD hn
 obtain ⟨X,rfl,R⟩:=kZ hn
 obtain ⟨U,J,rfl,aa⟩:=kD.sl R
 go_enter func89,ntmps89
 go_upto_region 1 with fail
 generalize D:World.alloc (World.alloc w _) _=N
 obtain ⟨EB,V⟩:=EG
 have o:Qc N (w.heap.size + 1) 0 (.int .i64 f):=tK
 clear D
 go_wp2_with fail
 refine (kGz (zn n f) kIi (kD.raw.below hl EB) ?_).mono ?_
 · intro wr hb i h cs hr;exact kVl hr (cL hb o) (kD.raw.below Hn.out (tQ EB hb)) (cL hb V)
 exact iJ
end Go.Proofs.YtonmjkmaadgceabGreat

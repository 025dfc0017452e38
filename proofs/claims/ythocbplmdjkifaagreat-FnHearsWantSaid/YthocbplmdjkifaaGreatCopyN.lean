/-
  Nodes, copied.
-/
import Derived.Test.YthocbplmdjkifaaGreatCacheD
set_option linter.unusedVariables false
set_option linter.defProp false
set_option linter.unusedSimpArgs false
set_option linter.unnecessarySimpa false
set_option maxRecDepth 100000
set_option maxHeartbeats 4000000
open Bool renaming true->Tt,false->Ff
open List renaming getElem?_cons_succ->Aa,getElem?_cons_zero->Ab,drop_succ_cons->Ac,length_cons->Ae,cons_append->Ag,length_nil->Ah,nil_append->Ai,drop_zero->Aj,map_cons->Ak,map_nil->Al
open Go renaming World->Ad,Value->Am,Calls->Ap
open _root_ renaming List->Aq
namespace Go.Proofs.YthocbplmdjkifaaGreat
open Go.RowKit _root_.Go.Proofs.Tryz
def kXt {w:Ad} {vl:Am} {l:Aq jQ} (hl:(kD.slice 60 jF).rd w [vl] l) :
    Ap prog 96 #[vl] w (kBu 60 jF l w):=by
 have HL:=yD hl
 obtain ⟨la,lp,rfl,ll⟩:=kD.sl hl.1
 have bc:l.length<=16777216:=hl.2.1
 clear hl
 go_enter func96,ntmps96
 go_wp2
 go_loopw [3,9] (λv i wr=>∃ k:Nat,k<=l.length/\i=.int .i64 k/\Hid (kD.kY 60 jF wr v (l.take k) (jg w wr))/\Qb w wr) (λ_ i _=>l.length - (intOf i).toNat)
 case atStart=>exact ⟨0,Nat.zero_le _,rfl,yD kD.kY.void,bR.alloc nL _⟩
 obtain ⟨k,hk,rfl,J,o⟩:=hrel
 obtain ⟨oa,on,oc,ho,ay⟩:=J.out.parts;obtain rfl:=ho
 have f2:(l.take k).length<=k:=bE6
 have ar:=o.size
 by_cases hlt:k < l.length
 · obtain ⟨qb,qo,rfl,ac,ae,af,bt,bu,qr,ap,aq,au,a7,ba⟩:=kD.kTr (HL.out.1.below o) hlt rfl;obtain ⟨av,b3⟩:=xE;generalize l[k]=x at *;have bm:=yD b3;clear b3;obtain ⟨x0,x1,x2,x3,x4⟩:=x;obtain ⟨rfl,rfl,ah,aj,ak,aw,bj,bd,bp⟩:=kAi qr;obtain ⟨ad,a4,rfl,a6,am,bk,rfl,bq,ao,bx,rfl,bw⟩:=kD.sx aj (kD.sx ak (kD.sl bj));have px:jF.rd wr _ (x0,x1,x2,x3,x4):=⟨qr,av⟩;go_upto_region 5 with fail;refine ja ?_;intro wC EC F _;have bg:=EC.size;obtain ⟨M0,M1,M2,M3,M4⟩:=yZ F;clear F;replace J:=yD ((J.out.below EC).wide (T:=jg w wC) sI);have an:=(tQ o EC);go_wp2_with fail;refine (kDi (px.below EC)).mono ?_;rintro e wT ⟨tc,rfl,OT,ai⟩;obtain ⟨fr,c5,c4,rfl,b7,dy,ed,e3,ei,cd,br⟩:=jf OT.raw;obtain ⟨b0,dd,rfl,g8,b6,ck,rfl,c7,bb,a3,rfl,c3⟩:=kD.sx dy (kD.sx ed (kD.sl ei));clear b7 dy ed e3 ei cd br;have fx:=ai.size;have V:=ai;replace J:=yD (J.out.below V);have U:=(tQ an V);go_wp2_with (at_builtin;refine kD.jR rfl _ _ 24 rfl (r:=jF) (e:=60) underlying24 kTk rfl bF1 bF1 (B:=w.heap.size) J.out bF4 bF4 rfl (kD.own.wide (T:=jg wC wT) (OT) nK) rfl nT sI nK bF2 bF2 ?_);exact aP
 exact aQ
def kXc {w:Ad} {vl:Am} {l:Aq jQ} (hl:(kD.slice 60 jF).rd w [vl] l) :
    Ap prog 132 #[vl] w (kBu 60 jF l w):=by
 have HL:=yD hl
 obtain ⟨la,lp,rfl,ll⟩:=kD.sl hl.1
 have bc:l.length<=16777216:=hl.2.1
 clear hl
 go_enter func132,ntmps132
 go_wp2
 go_loopw [3,4] (λv i wr=>∃ k:Nat,k<=l.length/\i=.int .i64 k/\Hid (kD.kY 60 jF wr v (l.take k) (jg w wr))/\Qb w wr) (λ_ i _=>l.length - (intOf i).toNat)
 case atStart=>exact ⟨0,Nat.zero_le _,rfl,yD kD.kY.void,bR.alloc nL _⟩
 obtain ⟨k,hk,rfl,J,o⟩:=hrel
 obtain ⟨oa,on,oc,ho,ay⟩:=J.out.parts;obtain rfl:=ho
 have f2:(l.take k).length<=k:=bE6
 have ar:=o.size
 by_cases hlt:k < l.length
 · obtain ⟨qb,qo,rfl,ac,ae,af,bt,bu,qr,ap,aq,au,a7,ba⟩:=kD.kTr (HL.out.1.below o) hlt rfl;obtain ⟨av,b3⟩:=xE;generalize l[k]=x at *;have bm:=yD b3;clear b3;obtain ⟨x0,x1,x2,x3,x4⟩:=x;obtain ⟨rfl,rfl,ah,aj,ak,aw,bj,bd,bp⟩:=kAi qr;obtain ⟨ad,a4,rfl,a6,am,bk,rfl,bq,ao,bx,rfl,bw⟩:=kD.sx aj (kD.sx ak (kD.sl bj));have px:jF.rd wr _ (x0,x1,x2,x3,x4):=⟨qr,av⟩;go_wp2_with fail;refine (kBb px).mono ?_;rintro e wT ⟨tc,rfl,OT,ai⟩;obtain ⟨fr,c5,c4,rfl,b7,dy,ed,e3,ei,cd,br⟩:=jf OT.raw;obtain ⟨b0,dd,rfl,g8,b6,ck,rfl,c7,bb,a3,rfl,c3⟩:=kD.sx dy (kD.sx ed (kD.sl ei));clear b7 dy ed e3 ei cd br;have fx:=ai.size;go_upto_region 6 with fail;refine ja ?_;intro wD ED F _;have ag:=ED.size;obtain ⟨D0,D1,D2,D3,D4⟩:=yZ F;clear F;have V:=(tQ ai ED);obtain ⟨J,U⟩:=AL;go_wp2_with (at_builtin;refine kD.jR rfl _ _ 24 rfl (r:=jF) (e:=60) underlying24 kTk rfl bF1 bF1 (B:=w.heap.size) J.out bF4 bF4 rfl (kD.own.wide (T:=jg wr wT) (OT.below ED) nK) rfl nT sI nK bF2 bF2 ?_);exact aP
 exact aQ
def kLf {w:Ad} {vl:Am} {l:Aq jI} (hl:(kD.slice 176 jA).rd w [vl] l) :
    Ap prog 100 #[vl] w (kBu 176 jA l w):=by
 have HL:=yD hl
 obtain ⟨la,lp,rfl,ll⟩:=kD.sl hl.1
 have bc:l.length<=16777216:=hl.2.1
 clear hl
 go_enter func100,ntmps100
 go_wp2
 have O0:kD.kY 176 jA (w.alloc (.cells #[] 176)) (.slice (some ⟨w,0,none⟩) 0 0) [] (jg w (w.alloc (.cells #[] 176)).heap.size) :=
   kD.yR (e:=176) (r:=jA) (w:=w) (cs:=[]) (xs:=[]) (T:=λ_=>False) bF3 bF3 rfl (λ_ h=>h.elim) ⟨Nat.le_refl _,by simp⟩
 go_loopw [3,9] (λv i wr=>∃ k:Nat,k<=l.length/\i=.int .i64 k/\Hid (kD.kY 176 jA wr v (l.take k) (jg w wr))/\Qb w wr) (λ_ i _=>l.length - (intOf i).toNat)
 case atStart=>exact ⟨0,Nat.zero_le _,rfl,yD O0,bR.alloc nL _⟩
 clear O0
 obtain ⟨k,hk,rfl,J,o⟩:=hrel
 obtain ⟨oa,on,oc,ho,ay⟩:=J.out.parts
 obtain rfl:=ho
 have f2:(l.take k).length<=k:=bE6
 by_cases hlt:k < l.length
 · obtain ⟨qb,qo,rfl,ac,ae,af,qr,ap,aq,au⟩:=kD.zL (HL.out.1.below o) hlt rfl;obtain ⟨av,b3⟩:=xE;generalize l[k]=x at *;have bm:=yD b3;clear b3;obtain ⟨x0,x1,x2⟩:=x;obtain ⟨rfl,rfl,ah,aj,ak,aw⟩:=yI qr;obtain ⟨ad,a4,rfl,a6⟩:=kD.sl aj;have X:kR.rd wr _ x0:=⟨ah,av.1⟩;go_upto_region 5 with fail;generalize O:World.alloc wr _=wC;obtain ⟨EC,bt,M0⟩:=AB;have M1:Qd wC wr 1 (Qn x1):=vT;have M2:Qd wC wr 2 (Qn x2):=vT;clear O;have FX:=yD (λ(W:Ad) (hW:Qb wC W)=>kMt hW M0 M1 M2);refine je (λW=>Qb wC W) [(0,true),(1,true),(2,true),(4,true),(5,true),(6,true),(7,true),(3,false),(8,true),(9,false)] bE5 bE5 qW (bR.drew) ?_;intro wS E;simp only [jG,Ae,Ah,Aa,Ab,Ak,Al,Ag,Ai,Ac,Aj];all_goals ((iterate 7 refine kS ?_);(first|(refine kI rfl E ?_)|(refine ku rfl (λK H=>?_);go_simp;refine (zG (X.below (tQ EC E))).mono ?_;rintro e ao ⟨a1,rfl,L,ai⟩;obtain ⟨Y,rfl,F⟩:=kw L.raw;obtain ⟨aa,ag,rfl,Z⟩:=kD.sl F;clear F;replace L:=yD L;have bu:=ai.size;have bv:=E.size;replace E:=(tQ E ai);refine H _ _ E ?_;clear H K ai));refine jH ?_;refine kS ?_;(first|(refine kI rfl E ?_)|(refine ku rfl (λK H=>?_);go_simp;refine H _ _ (E.alloc E.size _) ?_;clear H K));refine jH ?_;refine yt ?_)
   have ar:=o.size;have V:Qb wr _:=(tQ EC E);obtain ⟨J,U⟩:=AL;go_wp2_with (at_builtin;refine kD.jR rfl _ _ 30 rfl (r:=jA) (e:=176) underlying30 kGx rfl bF1 bF1 (B:=w.heap.size) J.out bF4 bF4 rfl (kD.own.wide (T:=jg wr ao) (kD.yQ (L.out) (kD.jl (kD.ky ak) (kD.ky aw))) nK) rfl nT sI nK bF2 vD ?_);exact aP
 exact aS
def kMn {w:Ad} {vl:Am} {l:Aq kW} (hl:(kD.slice 179 kN).rd w [vl] l) :
    Ap prog 101 #[vl] w (kBu 179 kN l w):=by
 have HL:=yD hl
 obtain ⟨la,lp,rfl,ll⟩:=kD.sl hl.1
 have bc:l.length<=16777216:=hl.2.1
 clear hl
 go_enter func101,ntmps101
 go_wp2
 have O0:kD.kY 179 kN (w.alloc (.cells #[] 179)) (.slice (some ⟨w,0,none⟩) 0 0) [] (jg w (w.alloc (.cells #[] 179)).heap.size) :=
   kD.yR (e:=179) (r:=kN) (w:=w) (cs:=[]) (xs:=[]) (T:=λ_=>False) bF3 bF3 rfl (λ_ h=>h.elim) ⟨Nat.le_refl _,by simp⟩
 go_loopw [3,9] (λv i wr=>∃ k:Nat,k<=l.length/\i=.int .i64 k/\Hid (kD.kY 179 kN wr v (l.take k) (jg w wr))/\Qb w wr) (λ_ i _=>l.length - (intOf i).toNat)
 case atStart=>exact ⟨0,Nat.zero_le _,rfl,yD O0,bR.alloc nL _⟩
 clear O0
 obtain ⟨k,hk,rfl,J,o⟩:=hrel
 obtain ⟨oa,on,oc,ho,ay⟩:=J.out.parts
 obtain rfl:=ho
 have f2:(l.take k).length<=k:=bE6
 by_cases hlt:k < l.length
 · obtain ⟨qb,qo,rfl,ac,ae,af,qr,ap,aq,au⟩:=kD.zL (HL.out.1.below o) hlt rfl;obtain ⟨av,b3⟩:=xE;generalize l[k]=x at *;have bm:=yD b3;clear b3;obtain ⟨x0,x1,x2⟩:=x;obtain ⟨rfl,rfl,ah,aj,ak,aw⟩:=yG qr;obtain ⟨ad,a4,rfl,a6⟩:=kD.sl aj;have X:kR.rd wr _ x0:=⟨ah,av.1⟩;go_upto_region 5 with fail;generalize O:World.alloc wr _=wC;obtain ⟨EC,bt,M0⟩:=AB;have M1:Qd wC wr 1 (Qn x1):=vT;have M2:Qd wC wr 2 (Qn x2):=vT;clear O;have FX:=yD (λ(W:Ad) (hW:Qb wC W)=>kMt hW M0 M1 M2);refine je (λW=>Qb wC W) [(0,true),(1,true),(2,true),(4,true),(5,true),(6,true),(7,true),(3,false),(8,true),(9,false)] bE5 bE5 qW (bR.drew) ?_;intro wS E;simp only [jG,Ae,Ah,Aa,Ab,Ak,Al,Ag,Ai,Ac,Aj];all_goals ((iterate 7 refine kS ?_);(first|(refine kI rfl E ?_)|(refine ku rfl (λK H=>?_);go_simp;refine (zG (X.below (tQ EC E))).mono ?_;rintro e ao ⟨a1,rfl,L,ai⟩;obtain ⟨Y,rfl,F⟩:=kw L.raw;obtain ⟨aa,ag,rfl,Z⟩:=kD.sl F;clear F;replace L:=yD L;have bu:=ai.size;have bv:=E.size;replace E:=(tQ E ai);refine H _ _ E ?_;clear H K ai));refine jH ?_;refine kS ?_;(first|(refine kI rfl E ?_)|(refine ku rfl (λK H=>?_);go_simp;refine H _ _ (E.alloc E.size _) ?_;clear H K));refine jH ?_;refine yt ?_)
   have ar:=o.size;have V:Qb wr _:=(tQ EC E);obtain ⟨J,U⟩:=AL;go_wp2_with (at_builtin;refine kD.jR rfl _ _ 31 rfl (r:=kN) (e:=179) underlying31 kBf rfl bF1 bF1 (B:=w.heap.size) J.out bF4 bF4 rfl (kD.own.wide (T:=jg wr ao) (kD.yQ (L.out) (kD.jl (kD.ky ak) (kD.ky aw))) nK) rfl nT sI nK bF2 vD ?_);exact aP
 exact aS
def kDw {w:Ad} {vl:Am} {l:Aq jI} (hl:(kD.slice 176 jA).rd w [vl] l) :
    Ap prog 136 #[vl] w (kBu 176 jA l w):=by
 have HL:=yD hl
 obtain ⟨la,lp,rfl,ll⟩:=kD.sl hl.1
 have bc:l.length<=16777216:=hl.2.1
 clear hl
 go_enter func136,ntmps136
 go_wp2
 have O0:kD.kY 176 jA (w.alloc (.cells #[] 176)) (.slice (some ⟨w,0,none⟩) 0 0) [] (jg w (w.alloc (.cells #[] 176)).heap.size) :=
   kD.yR (e:=176) (r:=jA) (w:=w) (cs:=[]) (xs:=[]) (T:=λ_=>False) bF3 bF3 rfl (λ_ h=>h.elim) ⟨Nat.le_refl _,by simp⟩
 go_loopw [3,4] (λv i wr=>∃ k:Nat,k<=l.length/\i=.int .i64 k/\Hid (kD.kY 176 jA wr v (l.take k) (jg w wr))/\Qb w wr) (λ_ i _=>l.length - (intOf i).toNat)
 case atStart=>exact ⟨0,Nat.zero_le _,rfl,yD O0,bR.alloc nL _⟩
 clear O0
 obtain ⟨k,hk,rfl,J,o⟩:=hrel
 obtain ⟨oa,on,oc,ho,ay⟩:=J.out.parts;obtain rfl:=ho
 have f2:(l.take k).length<=k:=bE6
 by_cases hlt:k < l.length
 · obtain ⟨qb,qo,rfl,ac,ae,af,qr,ap,aq,au⟩:=kD.zL (HL.out.1.below o) hlt rfl;obtain ⟨av,b3⟩:=xE;generalize l[k]=x at *;have bm:=yD b3;clear b3;obtain ⟨x0,x1,x2⟩:=x;obtain ⟨rfl,rfl,ah,aj,ak,aw⟩:=yI qr;obtain ⟨ad,a4,rfl,a6⟩:=kD.sl aj;have X:kR.rd wr _ x0:=⟨ah,av.1⟩;go_wp2_with fail;refine (zg X).mono ?_;rintro e wT ⟨tc,rfl,OT,ai⟩;obtain ⟨fr,rfl,b7⟩:=kw OT.raw;obtain ⟨b0,dd,rfl,_⟩:=kD.sl b7;clear b7;go_upto_region 6 with fail;generalize O:World.alloc wT _=wC;have EC:Qb wT wC:=tC;have K0:Qd wC wT 0 (Qs b0 x0 dd):=vT;clear O;have ER:=(tQ ai EC);replace ap:=cL ER ap;replace aq:=cL ER aq;replace au:=cL ER au;have FX:=yD (λ(W:Ad) (hW:Qb wC W)=>kDk hW K0 ap aq au);refine zZ (λW=>Qb wC W) [Tt,Tt,Tt,Tt,Tt,Tt,Tt,Tt,Tt,Tt,Tt,Tt,Tt,Ff] bE5 bE5 qW (bR.drew) ?_;intro wS E;all_goals ((iterate 13 refine kS ?_);(first|(refine kI rfl E ?_)|(refine ku rfl (λK H=>?_);go_simp;refine H _ _ (E.alloc E.size _) ?_;clear H K));refine jH ?_;refine yt ?_)
   have a2:=E.size;have bg:=EC.size;have ar:=o.size;have fx:=ai.size;have V:Qb wr wS:=(tQ ER E);obtain ⟨J,U⟩:=AL;go_wp2_with (at_builtin;refine kD.jR rfl _ _ 30 rfl (r:=jA) (e:=176) underlying30 kGx rfl bF1 bF1 (B:=w.heap.size) J.out bF4 bF4 rfl (kD.own.wide (T:=jg wr wT) (kD.yQ (OT.below (tQ EC E)) (kD.jl (kD.ky ak) (kD.ky aw))) nK) rfl nT sI nK bF2 vD ?_);exact aP
 exact aS
def kGk {w:Ad} {vl:Am} {l:Aq kW} (hl:(kD.slice 179 kN).rd w [vl] l) :
    Ap prog 137 #[vl] w (kBu 179 kN l w):=by
 have HL:=yD hl
 obtain ⟨la,lp,rfl,ll⟩:=kD.sl hl.1
 have bc:l.length<=16777216:=hl.2.1
 clear hl
 go_enter func137,ntmps137
 go_wp2
 have O0:kD.kY 179 kN (w.alloc (.cells #[] 179)) (.slice (some ⟨w,0,none⟩) 0 0) [] (jg w (w.alloc (.cells #[] 179)).heap.size) :=
   kD.yR (e:=179) (r:=kN) (w:=w) (cs:=[]) (xs:=[]) (T:=λ_=>False) bF3 bF3 rfl (λ_ h=>h.elim) ⟨Nat.le_refl _,by simp⟩
 go_loopw [3,4] (λv i wr=>∃ k:Nat,k<=l.length/\i=.int .i64 k/\Hid (kD.kY 179 kN wr v (l.take k) (jg w wr))/\Qb w wr) (λ_ i _=>l.length - (intOf i).toNat)
 case atStart=>exact ⟨0,Nat.zero_le _,rfl,yD O0,bR.alloc nL _⟩
 clear O0
 obtain ⟨k,hk,rfl,J,o⟩:=hrel
 obtain ⟨oa,on,oc,ho,ay⟩:=J.out.parts;obtain rfl:=ho
 have f2:(l.take k).length<=k:=bE6
 by_cases hlt:k < l.length
 · obtain ⟨qb,qo,rfl,ac,ae,af,qr,ap,aq,au⟩:=kD.zL (HL.out.1.below o) hlt rfl;obtain ⟨av,b3⟩:=xE;generalize l[k]=x at *;have bm:=yD b3;clear b3;obtain ⟨x0,x1,x2⟩:=x;obtain ⟨rfl,rfl,ah,aj,ak,aw⟩:=yG qr;obtain ⟨ad,a4,rfl,a6⟩:=kD.sl aj;have X:kR.rd wr _ x0:=⟨ah,av.1⟩;go_wp2_with fail;refine (zg X).mono ?_;rintro e wT ⟨tc,rfl,OT,ai⟩;obtain ⟨fr,rfl,b7⟩:=kw OT.raw;obtain ⟨b0,dd,rfl,_⟩:=kD.sl b7;clear b7;go_upto_region 6 with fail;generalize O:World.alloc wT _=wC;have EC:Qb wT wC:=tC;have K0:Qd wC wT 0 (Qs b0 x0 dd):=vT;clear O;have ER:=(tQ ai EC);replace ap:=cL ER ap;replace aq:=cL ER aq;replace au:=cL ER au;have FX:=yD (λ(W:Ad) (hW:Qb wC W)=>kDk hW K0 ap aq au);refine zZ (λW=>Qb wC W) [Tt,Tt,Tt,Tt,Tt,Tt,Tt,Tt,Tt,Tt,Tt,Tt,Tt,Ff] bE5 bE5 qW (bR.drew) ?_;intro wS E;all_goals ((iterate 13 refine kS ?_);(first|(refine kI rfl E ?_)|(refine ku rfl (λK H=>?_);go_simp;refine H _ _ (E.alloc E.size _) ?_;clear H K));refine jH ?_;refine yt ?_)
   have a2:=E.size;have bg:=EC.size;have ar:=o.size;have fx:=ai.size;have V:Qb wr wS:=(tQ ER E);obtain ⟨J,U⟩:=AL;go_wp2_with (at_builtin;refine kD.jR rfl _ _ 31 rfl (r:=kN) (e:=179) underlying31 kBf rfl bF1 bF1 (B:=w.heap.size) J.out bF4 bF4 rfl (kD.own.wide (T:=jg wr wT) (kD.yQ (OT.below (tQ EC E)) (kD.jl (kD.ky ak) (kD.ky aw))) nK) rfl nT sI nK bF2 vD ?_);exact aP
 exact aS
def kYk (x:jX) (w:Ad) (e:Ending) (w':Ad):Prop :=
  ∃ (v:Am) (ds:Aq Am) (mid:Nat),e=.returned (.agg (v :: ds).toArray)/\kD.kY 60 jF w' v x.1 (jg w mid)/\(kD.pair kP (kD.pair (kD.slice 107 kH) (kD.pair (kD.slice 140 kz) (kD.pair (kD.slice 176 jA) (kD.pair (kD.slice 179 kN) kD.int))))).own w' ds x.2 (jg mid w')/\w.heap.size<=mid/\mid<=w'.heap.size/\Qb w w'
def kYk.made {x:jX} {w:Ad} {e:Ending} {w':Ad} (h:kYk x w e w') (hb:jo.bdd Big x):kAb jo x w e w':=by
 obtain ⟨v,ds,mid,rfl,h1,h2,h3,h4,h5⟩:=h;refine ⟨v :: ds,rfl,?_,h5⟩;exact kD.jq (r:=kD.slice 60 jF) (q:=(kD.pair kP (kD.pair (kD.slice 107 kH) (kD.pair (kD.slice 140 kz) (kD.pair (kD.slice 176 jA) (kD.pair (kD.slice 179 kN) kD.int)))))) (cs:=[v]) (ds:=ds) (x:=x.1) (y:=x.2) (S:=jg w w') (h1.own hb.1.1) h2 sI sJ nT
def kOa {w:Ad} {cx:Aq Am} {x:jX} (hx:jo.rd w cx x):Ap prog 54 #[.agg cx.toArray] w (kYk x w):=by
 obtain ⟨q0,q1,q2,q3,q4,q5,q6⟩:=hx.2;obtain ⟨ag,ai,az,ak,aj⟩:=DL;obtain ⟨f6,f4,gp,gm,gj,gb,rfl,V,a9,bl,bi,bg,bo,b1,cf,du⟩:=yO hx.1;obtain ⟨em,d7,rfl,gi,dx,dw,rfl,gf,e9,e6,rfl,gx,e7,e4,rfl,gz,e0,ey,rfl,g3,en,ej,rfl,gv⟩:=kD.sx V (kD.sx bi (kD.sx bg (kD.sx bo (kD.sx b1 (kD.sl cf)))));obtain ⟨aw,av,an,ay,au,ar⟩:=xS;have cc:=yD du;clear hx q0 q1 q2 q3 q4 q5 q6 V a9 bl bi bg bo b1 cf du;go_enter func54,ntmps54;go_upto_region 1 with fail;generalize R:World.alloc (World.alloc w _) _=U;obtain ⟨Z,K0,K1,K2,K3,K4,K5,K6,K7⟩:=x9;obtain ⟨XR,bx⟩:=CR;clear R;have FX:=yD (λ(W:Ad) (hW:Qb U W)=>cLs8 hW K0 K1 K2 K3 K4 K5 K6 K7);refine je (λW=>Qb U W) [(0,true),(1,true),(3,true),(4,true),(6,true),(7,true),(9,true),(10,true),(12,true),(13,true),(15,true),(16,true),(18,true),(19,true),(2,false),(5,false),(8,false),(11,false),(14,false),(17,false),(20,true)] bE5 bE5 qW (bR.drew) ?_;intro wS E;simp only [jG,Ae,Ah,Aa,Ab,Ak,Al,Ag,Ai,Ac,Aj];all_goals ((iterate 14 refine kS ?_);(first|(refine kI rfl E ?_)|(refine ku rfl (λK H=>?_);go_simp;refine (kXc (aw.out.below (tQ Z E))).mono ?_;rintro e u0 ⟨v1,rfl,O1,D⟩;obtain ⟨dv,bj,ek,al,br⟩:=O1.parts;obtain rfl:=al;have F:=yD O1;clear O1;have a5:=D.size;have bu:=E.size;replace E:=(tQ E D);refine H _ _ E ?_;clear H K D));refine jH ?_;(first|(refine kI rfl E ?_)|(refine ku rfl (λK H=>?_);go_simp;refine (kRc (av.out.below (tQ Z E))).mono ?_;rintro e u1 ⟨cs,rfl,O2,D⟩;obtain ⟨cv,rfl,af,ah⟩:=jN O2.raw;obtain ⟨b9,Y,rfl,_⟩:=kD.sl ah;have aa:=yD O2;clear O2 af ah;replace F:=yD (F.out.below D);have bn:=D.size;have ck:=E.size;replace E:=(tQ E D);refine H _ _ E ?_;clear H K D));refine jH ?_;(first|(refine kI rfl E ?_)|(refine ku rfl (λK H=>?_);go_simp;refine (kKb (an.out.below (tQ Z E))).mono ?_;rintro e u2 ⟨v1,rfl,O1,D⟩;obtain ⟨b3,bf,ae,al,ba⟩:=O1.parts;obtain rfl:=al;have ab:=yD (O1.own ai.out);clear O1;replace F:=yD (F.out.below D);replace aa:=yD (aa.out.below D);have ax:=D.size;have bq:=E.size;replace E:=(tQ E D);refine H _ _ E ?_;clear H K D));refine jH ?_;(first|(refine kI rfl E ?_)|(refine ku rfl (λK H=>?_);go_simp;refine (kRa (ay.out.below (tQ Z E))).mono ?_;rintro e u3 ⟨v1,rfl,O1,D⟩;obtain ⟨bp,O,ad,al,bb⟩:=O1.parts;obtain rfl:=al;have aq:=yD (O1.own az.out);clear O1;replace F:=yD (F.out.below D);replace aa:=yD (aa.out.below D);replace ab:=yD (ab.out.below D);have ap:=D.size;have d3:=E.size;replace E:=(tQ E D);refine H _ _ E ?_;clear H K D));refine jH ?_;(first|(refine kI rfl E ?_)|(refine ku rfl (λK H=>?_);go_simp;refine (kDw (au.out.below (tQ Z E))).mono ?_;rintro e u4 ⟨v1,rfl,O1,D⟩;obtain ⟨bh,N,ac,al,a7⟩:=O1.parts;obtain rfl:=al;have ao:=yD (O1.own ak.out);clear O1;replace F:=yD (F.out.below D);replace aa:=yD (aa.out.below D);replace ab:=yD (ab.out.below D);replace aq:=yD (aq.out.below D);have b5:=D.size;have d5:=E.size;replace E:=(tQ E D);refine H _ _ E ?_;clear H K D));refine jH ?_;(first|(refine kI rfl E ?_)|(refine ku rfl (λK H=>?_);go_simp;refine (kGk (ar.out.below (tQ Z E))).mono ?_;rintro e J ⟨v1,rfl,O1,D⟩;obtain ⟨bd,o,L,al,a1⟩:=O1.parts;obtain rfl:=al;have am:=yD (O1.own aj.out);clear O1;replace F:=yD (F.out.below D);replace aa:=yD (aa.out.below D);replace ab:=yD (ab.out.below D);replace aq:=yD (aq.out.below D);replace ao:=yD (ao.out.below D);have b4:=D.size;have a2:=E.size;replace E:=(tQ E D);refine H _ _ E ?_;clear H K D));refine jH ?_;refine kS ?_;refine yt ?_)
 have X:=kC XR E;have E1:=(tQ Z E);obtain ⟨M0,F0,M1,F1,M2,F2,M3,F3,M4,F4,M5,F5,M6,F6⟩:=xI;have M7:=kE (b:=w.heap.size + 1) X (j:=7) rfl;have F7:=frozen_of_row J (w.heap.size + 1) 7 _ _ X;go_wp2;refine bodyPost_ret (v:=.agg #[.slice dv bj ek,Qn x.2.1.1,Qs b9 x.2.1.2 Y,.slice b3 bf ae,.slice bp O ad,.slice bh N ac,.slice bd o L,Qn x.2.2.2.2.2.2]) (by simp [results,results54,go_sem,M0,F0,M1,F1,M2,F2,M3,F3,M4,F4,M5,F5,M6,F6,M7,F7]) rfl ⟨_,[_,_,_,_,_,_,_],u0.heap.size,rfl,?_,?_,by have:=E1.size;omega,by simp [World.setCell];omega,?_⟩
 · refine kD.kY.wide (S:=jg wS u0) (kD.kY.keep F.out ?_) ?_
   · exact cZ
   exact sJ
 · exact aR
 repeat (first|(with_reducible exact E1) | refine Below.setCell ?_ sQ _)
def kIk {w:Ad} {cx:Aq Am} {x:jX} (hx:jo.rd w cx x):Ap prog 54 #[.agg cx.toArray] w (kAb jo x w) :=
  (kOa hx).mono λe w' h=>h.made hx.2
def jBf {w:Ad} {cx:Aq Am} {x:jX} (hx:jo.rd w cx x):Ap prog 32 #[.agg cx.toArray] w (kYk x w):=by
 obtain ⟨q0,q1,q2,q3,q4,q5,q6⟩:=hx.2;obtain ⟨ag,ai,az,ak,aj⟩:=DL;obtain ⟨f6,f4,gp,gm,gj,gb,rfl,V,a9,bl,bi,bg,bo,b1,cf,du⟩:=yO hx.1;obtain ⟨em,d7,rfl,gi,dx,dw,rfl,gf,e9,e6,rfl,gx,e7,e4,rfl,gz,e0,ey,rfl,g3,en,ej,rfl,gv⟩:=kD.sx V (kD.sx bi (kD.sx bg (kD.sx bo (kD.sx b1 (kD.sl cf)))));obtain ⟨aw,av,an,ay,au,ar⟩:=xS;have cc:=yD du;clear hx q0 q1 q2 q3 q4 q5 q6 V a9 bl bi bg bo b1 cf du;go_enter func32,ntmps32;go_upto_region 1 with fail;generalize R:World.alloc (World.alloc w _) _=U;obtain ⟨Z,K0,K1,K2,K3,K4,K5,K6,K7⟩:=x9;obtain ⟨XR,bx⟩:=CR;clear R;have FX:=yD (λ(W:Ad) (hW:Qb U W)=>cLs8 hW K0 K1 K2 K3 K4 K5 K6 K7);refine je (λW=>Qb U W) [(0,true),(1,true),(3,true),(4,true),(6,true),(7,true),(9,true),(10,true),(12,true),(13,true),(15,true),(16,true),(18,true),(19,true),(2,false),(5,false),(8,false),(11,false),(14,false),(17,false),(20,true)] bE5 bE5 qW (bR.drew) ?_;intro wS E;simp only [jG,Ae,Ah,Aa,Ab,Ak,Al,Ag,Ai,Ac,Aj];all_goals ((iterate 14 refine kS ?_);(first|(refine kI rfl E ?_)|(refine ku rfl (λK H=>?_);go_simp;refine (kXt (aw.out.below (tQ Z E))).mono ?_;rintro e u0 ⟨v1,rfl,O1,D⟩;obtain ⟨dv,bj,ek,al,br⟩:=O1.parts;obtain rfl:=al;have F:=yD O1;clear O1;have a5:=D.size;have bu:=E.size;replace E:=(tQ E D);refine H _ _ E ?_;clear H K D));refine jH ?_;(first|(refine kI rfl E ?_)|(refine ku rfl (λK H=>?_);go_simp;refine (kNj (av.out.below (tQ Z E))).mono ?_;rintro e u1 ⟨cs,rfl,O2,D⟩;obtain ⟨cv,rfl,af,ah⟩:=jN O2.raw;obtain ⟨b9,Y,rfl,_⟩:=kD.sl ah;have aa:=yD O2;clear O2 af ah;replace F:=yD (F.out.below D);have bn:=D.size;have ck:=E.size;replace E:=(tQ E D);refine H _ _ E ?_;clear H K D));refine jH ?_;(first|(refine kI rfl E ?_)|(refine ku rfl (λK H=>?_);go_simp;refine (kJp (an.out.below (tQ Z E))).mono ?_;rintro e u2 ⟨v1,rfl,O1,D⟩;obtain ⟨b3,bf,ae,al,ba⟩:=O1.parts;obtain rfl:=al;have ab:=yD (O1.own ai.out);clear O1;replace F:=yD (F.out.below D);replace aa:=yD (aa.out.below D);have ax:=D.size;have bq:=E.size;replace E:=(tQ E D);refine H _ _ E ?_;clear H K D));refine jH ?_;(first|(refine kI rfl E ?_)|(refine ku rfl (λK H=>?_);go_simp;refine (kOl (ay.out.below (tQ Z E))).mono ?_;rintro e u3 ⟨v1,rfl,O1,D⟩;obtain ⟨bp,O,ad,al,bb⟩:=O1.parts;obtain rfl:=al;have aq:=yD (O1.own az.out);clear O1;replace F:=yD (F.out.below D);replace aa:=yD (aa.out.below D);replace ab:=yD (ab.out.below D);have ap:=D.size;have d3:=E.size;replace E:=(tQ E D);refine H _ _ E ?_;clear H K D));refine jH ?_;(first|(refine kI rfl E ?_)|(refine ku rfl (λK H=>?_);go_simp;refine (kLf (au.out.below (tQ Z E))).mono ?_;rintro e u4 ⟨v1,rfl,O1,D⟩;obtain ⟨bh,N,ac,al,a7⟩:=O1.parts;obtain rfl:=al;have ao:=yD (O1.own ak.out);clear O1;replace F:=yD (F.out.below D);replace aa:=yD (aa.out.below D);replace ab:=yD (ab.out.below D);replace aq:=yD (aq.out.below D);have b5:=D.size;have d5:=E.size;replace E:=(tQ E D);refine H _ _ E ?_;clear H K D));refine jH ?_;(first|(refine kI rfl E ?_)|(refine ku rfl (λK H=>?_);go_simp;refine (kMn (ar.out.below (tQ Z E))).mono ?_;rintro e J ⟨v1,rfl,O1,D⟩;obtain ⟨bd,o,L,al,a1⟩:=O1.parts;obtain rfl:=al;have am:=yD (O1.own aj.out);clear O1;replace F:=yD (F.out.below D);replace aa:=yD (aa.out.below D);replace ab:=yD (ab.out.below D);replace aq:=yD (aq.out.below D);replace ao:=yD (ao.out.below D);have b4:=D.size;have a2:=E.size;replace E:=(tQ E D);refine H _ _ E ?_;clear H K D));refine jH ?_;refine kS ?_;refine yt ?_)
 have X:=kC XR E;have E1:=(tQ Z E);obtain ⟨M0,F0,M1,F1,M2,F2,M3,F3,M4,F4,M5,F5,M6,F6⟩:=xI;have M7:=kE (b:=w.heap.size + 1) X (j:=7) rfl;have F7:=frozen_of_row J (w.heap.size + 1) 7 _ _ X;go_wp2;refine bodyPost_ret (v:=.agg #[.slice dv bj ek,Qn x.2.1.1,Qs b9 x.2.1.2 Y,.slice b3 bf ae,.slice bp O ad,.slice bh N ac,.slice bd o L,Qn x.2.2.2.2.2.2]) (by simp [results,results32,go_sem,M0,F0,M1,F1,M2,F2,M3,F3,M4,F4,M5,F5,M6,F6,M7,F7]) rfl ⟨_,[_,_,_,_,_,_,_],u0.heap.size,rfl,?_,?_,by have:=E1.size;omega,by simp [World.setCell];omega,?_⟩
 · refine kD.kY.wide (S:=jg wS u0) (kD.kY.keep F.out ?_) ?_
   · exact cZ
   exact sJ
 · exact aR
 repeat (first|(with_reducible exact E1) | refine Below.setCell ?_ sQ _)
def jBe {w:Ad} {cx:Aq Am} {x:jX} (hx:jo.rd w cx x):Ap prog 32 #[.agg cx.toArray] w (kAb jo x w) :=
  (jBf hx).mono λe w' h=>h.made hx.2
end Go.Proofs.YthocbplmdjkifaaGreat

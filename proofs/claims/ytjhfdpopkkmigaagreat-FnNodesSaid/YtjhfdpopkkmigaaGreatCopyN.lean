/-
  Nodes, copied.
-/
import Derived.Test.YtjhfdpopkkmigaaGreatWoC
set_option linter.unusedVariables false
set_option linter.defProp false
set_option linter.unusedSimpArgs false
set_option linter.unnecessarySimpa false
set_option maxRecDepth 100000
set_option maxHeartbeats 4000000
open Bool renaming true->Tt,false->Ff
open List renaming getElem?_cons_succ->Aa,getElem?_cons_zero->Ab,drop_succ_cons->Ad,length_cons->Ag,cons_append->Ah,length_nil->Ai,nil_append->Aj,drop_zero->Ak,map_cons->Al,map_nil->Am
open List.cons renaming injEq->Ac
open Go renaming World->Ae,Value->Ap,Calls->Aq
open _root_ renaming List->Ar
namespace Go.Proofs.YtjhfdpopkkmigaaGreat
open Go.RowKit _root_.Go.Proofs.Tryz
def kJv {w:Ae} {vl:Ap} {l:Ar jL} (hl:(kD.slice 38 jF).rd w [vl] l) :
    Aq prog 52 #[vl] w (kCl 38 jF l w):=by
 have HL:=yD hl
 obtain ⟨la,lp,rfl,ll⟩:=kD.sl hl.1
 have bc:l.length<=16777216:=hl.2.1
 clear hl
 go_enter func52,ntmps52
 go_wp2
 go_loopw [3,9] (λv i wr=>∃ k:Nat,k<=l.length/\i=.int .i64 k/\Hid (kD.kU 38 jF wr v (l.take k) (jU w.heap.size wr.heap.size))/\Qb w wr) (λ_ i _=>l.length - (intOf i).toNat)
 case atStart=>exact ⟨0,Nat.zero_le _,rfl,yD kD.kU.void,bR.alloc nL _⟩
 obtain ⟨k,hk,rfl,L,o⟩:=hrel
 obtain ⟨oa,on,oc,ho,bh⟩:=L.out.parts;obtain rfl:=ho
 have aq:(l.take k).length<=k:=bC6
 have aa:=o.size
 by_cases hlt:k < l.length
 · obtain ⟨qb,qo,rfl,ae,af,ah,cv,cw,qr,ap,ar,ay,bo,b2⟩:=kD.get5 (HL.out.1.below o) hlt rfl;obtain ⟨al,am⟩:=AP;generalize l[k]=x at *;have bl:=yD am;clear am;obtain ⟨x0,x1,x2,x3,x4⟩:=x;obtain ⟨bd,b5,cq,ac,ag,ak,ao,ax,b3,bq,cm⟩:=jM qr;simp only [Ac,and_true] at ac;obtain ⟨rfl,rfl,rfl,rfl,rfl⟩:=ac;obtain ⟨ad,aw,rfl,bf⟩:=kD.sl ak;obtain ⟨ai,bj,rfl,cg⟩:=kD.sl ao;obtain ⟨aj,cl,rfl,c2⟩:=kD.sl b3;have px:jF.rd wr _ (x0,x1,x2,x3,x4):=⟨qr,al⟩;go_upto_region 5 with fail;generalize D:World.alloc wr _=wC;have EC:Qb wr wC:=rU;have au:=EC.size;have M0:Qd wC wr 0 (.slice ad (x0).length aw):=tV;have M1:Qd wC wr 1 (.slice ai (x1).length bj):=tV;have M2:Qd wC wr 2 (.slice aj (x2).length cl):=tV;have M3:Qd wC wr 3 (.int .i64 x3):=tV;have M4:Qd wC wr 4 (.int .i64 x4):=tV;clear D;replace L:=yD ((L.out.below EC).wide (T:=jU w.heap.size wC.heap.size) rC);have U:=(tQ o EC);go_wp2_with fail;refine (kCs (px.below EC)).mono ?_;rintro e wT ⟨tc,rfl,OT,an⟩;obtain ⟨c7,dl,dr,rfl,a5,ce,b7,c1,cf,c6,c0⟩:=jM OT.raw;obtain ⟨a8,bm,rfl,dp⟩:=kD.sl ce;obtain ⟨bn,c4,rfl,dn⟩:=kD.sl b7;obtain ⟨bb,a9,rfl,dm⟩:=kD.sl cf;clear a5 ce b7 c1 cf c6 c0;have bk:=an.size;have X:=an;replace L:=yD (L.out.below X);have R:=(tQ U X);go_wp2_with (at_builtin;refine kD.jO rfl _ _ 24 rfl (r:=jF) (e:=38) underlying24 kLr rfl bD0 bD0 (B:=w.heap.size) L.out bD3 bD3 rfl (kD.own.wide (T:=jU wC.heap.size wT.heap.size) (OT) mU) rfl mZ rC mU bD1 bD1 ?_);exact aI
 obtain rfl:k=l.length:=bD1
 go_wp2
 go_ret
 exact ⟨_,rfl,kD.kU.cast L.out vH,o⟩
def kJm {w:Ae} {vl:Ap} {l:Ar jL} (hl:(kD.slice 38 jF).rd w [vl] l) :
    Aq prog 65 #[vl] w (kCl 38 jF l w):=by
 have HL:=yD hl
 obtain ⟨la,lp,rfl,ll⟩:=kD.sl hl.1
 have bc:l.length<=16777216:=hl.2.1
 clear hl
 go_enter func65,ntmps65
 go_wp2
 go_loopw [3,4] (λv i wr=>∃ k:Nat,k<=l.length/\i=.int .i64 k/\Hid (kD.kU 38 jF wr v (l.take k) (jU w.heap.size wr.heap.size))/\Qb w wr) (λ_ i _=>l.length - (intOf i).toNat)
 case atStart=>exact ⟨0,Nat.zero_le _,rfl,yD kD.kU.void,bR.alloc nL _⟩
 obtain ⟨k,hk,rfl,L,o⟩:=hrel
 obtain ⟨oa,on,oc,ho,bh⟩:=L.out.parts;obtain rfl:=ho
 have aq:(l.take k).length<=k:=bC6
 have aa:=o.size
 by_cases hlt:k < l.length
 · obtain ⟨qb,qo,rfl,ae,af,ah,cv,cw,qr,ap,ar,ay,bo,b2⟩:=kD.get5 (HL.out.1.below o) hlt rfl;obtain ⟨al,am⟩:=AP;generalize l[k]=x at *;have bl:=yD am;clear am;obtain ⟨x0,x1,x2,x3,x4⟩:=x;obtain ⟨bd,b5,cq,ac,ag,ak,ao,ax,b3,bq,cm⟩:=jM qr;simp only [Ac,and_true] at ac;obtain ⟨rfl,rfl,rfl,rfl,rfl⟩:=ac;obtain ⟨ad,aw,rfl,bf⟩:=kD.sl ak;obtain ⟨ai,bj,rfl,cg⟩:=kD.sl ao;obtain ⟨aj,cl,rfl,c2⟩:=kD.sl b3;have px:jF.rd wr _ (x0,x1,x2,x3,x4):=⟨qr,al⟩;go_wp2_with fail;refine (kAu px).mono ?_;rintro e wT ⟨tc,rfl,OT,an⟩;obtain ⟨c7,dl,dr,rfl,a5,ce,b7,c1,cf,c6,c0⟩:=jM OT.raw;obtain ⟨a8,bm,rfl,dp⟩:=kD.sl ce;obtain ⟨bn,c4,rfl,dn⟩:=kD.sl b7;obtain ⟨bb,a9,rfl,dm⟩:=kD.sl cf;clear a5 ce b7 c1 cf c6 c0;have bk:=an.size;go_upto_region 6 with fail;generalize Y:World.alloc wT _=wD;have ED:Qb wT wD:=rX;have bw:=ED.size;have D0:Qd wD wT 0 (.slice a8 (x0).length bm):=tX;have D1:Qd wD wT 1 (.slice bn (x1).length c4):=tX;have D2:Qd wD wT 2 (.slice bb (x2).length a9):=tX;have D3:Qd wD wT 3 (.int .i64 x3):=tX;have D4:Qd wD wT 4 (.int .i64 x4):=tX;clear Y;have X:=(tQ an ED);replace L:=yD (L.out.below X);have R:=(tQ o X);go_wp2_with (at_builtin;refine kD.jO rfl _ _ 24 rfl (r:=jF) (e:=38) underlying24 kLr rfl bD0 bD0 (B:=w.heap.size) L.out bD3 bD3 rfl (kD.own.wide (T:=jU wr.heap.size wT.heap.size) (OT.below ED) mU) rfl mZ rC mU bD1 bD1 ?_);exact aI
 obtain rfl:k=l.length:=bD1
 go_wp2
 go_ret
 exact ⟨_,rfl,kD.kU.cast L.out vH,o⟩
def kEp {w:Ae} {vl:Ap} {l:Ar kz} (hl:(kD.slice 131 kS).rd w [vl] l) :
    Aq prog 54 #[vl] w (kCl 131 kS l w):=by
 have HL:=yD hl
 obtain ⟨la,lp,rfl,ll⟩:=kD.sl hl.1
 have bc:l.length<=16777216:=hl.2.1
 clear hl
 go_enter func54,ntmps54
 go_wp2
 have O0:kD.kU 131 kS (w.alloc (.cells #[] 131)) (.slice (some ⟨w.heap.size,0,none⟩) 0 0) [] (jU w.heap.size (w.alloc (.cells #[] 131)).heap.size) :=
   kD.yO (e:=131) (r:=kS) (w:=w) (cs:=[]) (xs:=[]) (T:=λ_=>False) bD2 bD2 rfl (λ_ h=>h.elim) ⟨Nat.le_refl _,by simp⟩
 go_loopw [3,9] (λv i wr=>∃ k:Nat,k<=l.length/\i=.int .i64 k/\Hid (kD.kU 131 kS wr v (l.take k) (jU w.heap.size wr.heap.size))/\Qb w wr) (λ_ i _=>l.length - (intOf i).toNat)
 case atStart=>exact ⟨0,Nat.zero_le _,rfl,yD O0,bR.alloc nL _⟩
 clear O0
 obtain ⟨k,hk,rfl,L,o⟩:=hrel
 obtain ⟨oa,on,oc,ho,bh⟩:=L.out.parts;obtain rfl:=ho
 have aq:(l.take k).length<=k:=bC6
 by_cases hlt:k < l.length
 · obtain ⟨qb,qo,rfl,ae,af,ah,qr,ap,ar,ay⟩:=kD.zt (HL.out.1.below o) hlt rfl;obtain ⟨al,am⟩:=AP;generalize l[k]=x at *;have bl:=yD am;clear am;obtain ⟨x0,x1,x2⟩:=x;obtain ⟨bd,ac,ag,ak,ao,ax⟩:=jJ qr;simp only [Ac,and_true] at ac;obtain ⟨rfl,rfl,rfl⟩:=ac;obtain ⟨ad,aw,rfl,bf⟩:=kD.sl ak;have U:kW.rd wr _ x0:=⟨ag,al.1⟩;go_upto_region 5 with fail;generalize D:World.alloc wr _=wC;obtain ⟨EC,cl⟩:=IU;obtain ⟨M0,M1,M2⟩:=CS;clear D;have FX:=yD (λ(W:Ae) (hW:Qb wC W)=>kKb hW M0 M1 M2);refine jS (λW=>Qb wC W) [(0,true),(1,true),(2,true),(4,true),(5,true),(6,true),(7,true),(3,false),(8,true),(9,false)] bC5 bC5 pY (bR.drew) ?_;intro wS E;simp only [jB,Ag,Ai,Aa,Ab,Al,Am,Ah,Aj,Ad,Ak];iterate 7
    all_goals refine kX ?_
   all_goals first|(refine kG rfl E ?_)|(refine kY rfl (λK H=>?_);go_simp;refine (kAp (U.below (tQ EC E))).mono ?_;rintro e az ⟨a3,rfl,N,an⟩;obtain ⟨Y,rfl,J⟩:=ko N.raw;obtain ⟨aj,av,rfl,ab⟩:=kD.sl J;clear J;replace N:=yD N;have cq:=an.size;have a8:=E.size;replace E:=(tQ E an);refine H _ _ E ?_;clear H K an)
   all_goals refine jD ?_
   all_goals refine kX ?_
   all_goals first|(refine kG rfl E ?_)|(refine kY rfl (λK H=>?_);go_simp;refine H _ _ (E.alloc E.size _) ?_;clear H K)
   all_goals refine jD ?_
   all_goals refine jy ?_
   obtain ⟨a2,au,aa,X,L,R⟩:=DI;go_wp2_with (at_builtin;refine kD.jO rfl _ _ 30 rfl (r:=kS) (e:=131) underlying30 kCr rfl bD0 bD0 (B:=w.heap.size) L.out bD3 bD3 rfl (kD.own.wide (T:=jU wr.heap.size az.heap.size) (kD.yN (N.out) (kD.yJ (kD.jG ao) (kD.jG ax))) mU) rfl mZ rC mU bD1 sO ?_);exact aI
 exact aL
def kJd {w:Ae} {vl:Ap} {l:Ar kT} (hl:(kD.slice 149 kL).rd w [vl] l) :
    Aq prog 93 #[vl] w (kCl 149 kL l w):=by
 have HL:=yD hl
 obtain ⟨la,lp,rfl,ll⟩:=kD.sl hl.1
 have bc:l.length<=16777216:=hl.2.1
 clear hl
 go_enter func93,ntmps93
 go_wp2
 have O0:kD.kU 149 kL (w.alloc (.cells #[] 149)) (.slice (some ⟨w.heap.size,0,none⟩) 0 0) [] (jU w.heap.size (w.alloc (.cells #[] 149)).heap.size) :=
   kD.yO (e:=149) (r:=kL) (w:=w) (cs:=[]) (xs:=[]) (T:=λ_=>False) bD2 bD2 rfl (λ_ h=>h.elim) ⟨Nat.le_refl _,by simp⟩
 go_loopw [3,9] (λv i wr=>∃ k:Nat,k<=l.length/\i=.int .i64 k/\Hid (kD.kU 149 kL wr v (l.take k) (jU w.heap.size wr.heap.size))/\Qb w wr) (λ_ i _=>l.length - (intOf i).toNat)
 case atStart=>exact ⟨0,Nat.zero_le _,rfl,yD O0,bR.alloc nL _⟩
 clear O0
 obtain ⟨k,hk,rfl,L,o⟩:=hrel
 obtain ⟨oa,on,oc,ho,bh⟩:=L.out.parts;obtain rfl:=ho
 have aq:(l.take k).length<=k:=bC6
 by_cases hlt:k < l.length
 · obtain ⟨qb,qo,rfl,ae,af,ah,qr,ap,ar,ay⟩:=kD.zt (HL.out.1.below o) hlt rfl;obtain ⟨al,am⟩:=AP;generalize l[k]=x at *;have bl:=yD am;clear am;obtain ⟨x0,x1,x2⟩:=x;obtain ⟨bd,ac,ag,ak,ao,ax⟩:=jh qr;simp only [Ac,and_true] at ac;obtain ⟨rfl,rfl,rfl⟩:=ac;obtain ⟨ad,aw,rfl,bf⟩:=kD.sl ak;have U:kW.rd wr _ x0:=⟨ag,al.1⟩;go_upto_region 5 with fail;generalize D:World.alloc wr _=wC;obtain ⟨EC,cl⟩:=IU;obtain ⟨M0,M1,M2⟩:=CS;clear D;have FX:=yD (λ(W:Ae) (hW:Qb wC W)=>kKb hW M0 M1 M2);refine jS (λW=>Qb wC W) [(0,true),(1,true),(2,true),(4,true),(5,true),(6,true),(7,true),(3,false),(8,true),(9,false)] bC5 bC5 pY (bR.drew) ?_;intro wS E;simp only [jB,Ag,Ai,Aa,Ab,Al,Am,Ah,Aj,Ad,Ak];iterate 7
    all_goals refine kX ?_
   all_goals first|(refine kG rfl E ?_)|(refine kY rfl (λK H=>?_);go_simp;refine (kAp (U.below (tQ EC E))).mono ?_;rintro e az ⟨a3,rfl,N,an⟩;obtain ⟨Y,rfl,J⟩:=ko N.raw;obtain ⟨aj,av,rfl,ab⟩:=kD.sl J;clear J;replace N:=yD N;have cq:=an.size;have a8:=E.size;replace E:=(tQ E an);refine H _ _ E ?_;clear H K an)
   all_goals refine jD ?_
   all_goals refine kX ?_
   all_goals first|(refine kG rfl E ?_)|(refine kY rfl (λK H=>?_);go_simp;refine H _ _ (E.alloc E.size _) ?_;clear H K)
   all_goals refine jD ?_
   all_goals refine jy ?_
   obtain ⟨a2,au,aa,X,L,R⟩:=DI;go_wp2_with (at_builtin;refine kD.jO rfl _ _ 31 rfl (r:=kL) (e:=149) underlying31 kAo rfl bD0 bD0 (B:=w.heap.size) L.out bD3 bD3 rfl (kD.own.wide (T:=jU wr.heap.size az.heap.size) (kD.yN (N.out) (kD.yJ (kD.jG ao) (kD.jG ax))) mU) rfl mZ rC mU bD1 sO ?_);exact aI
 exact aL
def kCc {w:Ae} {vl:Ap} {l:Ar kz} (hl:(kD.slice 131 kS).rd w [vl] l) :
    Aq prog 67 #[vl] w (kCl 131 kS l w):=by
 have HL:=yD hl
 obtain ⟨la,lp,rfl,ll⟩:=kD.sl hl.1
 have bc:l.length<=16777216:=hl.2.1
 clear hl
 go_enter func67,ntmps67
 go_wp2
 have O0:kD.kU 131 kS (w.alloc (.cells #[] 131)) (.slice (some ⟨w.heap.size,0,none⟩) 0 0) [] (jU w.heap.size (w.alloc (.cells #[] 131)).heap.size) :=
   kD.yO (e:=131) (r:=kS) (w:=w) (cs:=[]) (xs:=[]) (T:=λ_=>False) bD2 bD2 rfl (λ_ h=>h.elim) ⟨Nat.le_refl _,by simp⟩
 go_loopw [3,4] (λv i wr=>∃ k:Nat,k<=l.length/\i=.int .i64 k/\Hid (kD.kU 131 kS wr v (l.take k) (jU w.heap.size wr.heap.size))/\Qb w wr) (λ_ i _=>l.length - (intOf i).toNat)
 case atStart=>exact ⟨0,Nat.zero_le _,rfl,yD O0,bR.alloc nL _⟩
 clear O0
 obtain ⟨k,hk,rfl,L,o⟩:=hrel
 obtain ⟨oa,on,oc,ho,bh⟩:=L.out.parts;obtain rfl:=ho
 have aq:(l.take k).length<=k:=bC6
 by_cases hlt:k < l.length
 · obtain ⟨qb,qo,rfl,ae,af,ah,qr,ap,ar,ay⟩:=kD.zt (HL.out.1.below o) hlt rfl;obtain ⟨al,am⟩:=AP;generalize l[k]=x at *;have bl:=yD am;clear am;obtain ⟨x0,x1,x2⟩:=x;obtain ⟨bd,ac,ag,ak,ao,ax⟩:=jJ qr;simp only [Ac,and_true] at ac;obtain ⟨rfl,rfl,rfl⟩:=ac;obtain ⟨ad,aw,rfl,bf⟩:=kD.sl ak;have U:kW.rd wr _ x0:=⟨ag,al.1⟩;go_wp2_with fail;refine (zT U).mono ?_;rintro e wT ⟨tc,rfl,OT,an⟩;obtain ⟨c7,rfl,a5⟩:=ko OT.raw;obtain ⟨a8,bm,rfl,_⟩:=kD.sl a5;clear a5;go_upto_region 6 with fail;generalize D:World.alloc wT _=wC;obtain ⟨EC,K0⟩:=H9;clear D;have ER:=(tQ an EC);replace ap:=cL ER ap;replace ar:=cL ER ar;replace ay:=cL ER ay;have FX:=yD (λ(W:Ae) (hW:Qb wC W)=>kGr hW K0 ap ar ay);refine zX (λW=>Qb wC W) [Tt,Tt,Tt,Tt,Tt,Tt,Tt,Tt,Tt,Tt,Tt,Tt,Tt,Ff] bC5 bC5 pY (bR.drew) ?_;intro wS E;iterate 13
    all_goals refine kX ?_
   all_goals first|(refine kG rfl E ?_)|(refine kY rfl (λK H=>?_);go_simp;refine H _ _ (E.alloc E.size _) ?_;clear H K)
   all_goals refine jD ?_
   all_goals refine jy ?_
   obtain ⟨a2,au,aa,bk,X,L,R⟩:=FT;go_wp2_with (at_builtin;refine kD.jO rfl _ _ 30 rfl (r:=kS) (e:=131) underlying30 kCr rfl bD0 bD0 (B:=w.heap.size) L.out bD3 bD3 rfl (kD.own.wide (T:=jU wr.heap.size wT.heap.size) (kD.yN (OT.below (tQ EC E)) (kD.yJ (kD.jG ao) (kD.jG ax))) mU) rfl mZ rC mU bD1 sO ?_);exact aI
 exact aL
def kEu {w:Ae} {vl:Ap} {l:Ar kT} (hl:(kD.slice 149 kL).rd w [vl] l) :
    Aq prog 99 #[vl] w (kCl 149 kL l w):=by
 have HL:=yD hl
 obtain ⟨la,lp,rfl,ll⟩:=kD.sl hl.1
 have bc:l.length<=16777216:=hl.2.1
 clear hl
 go_enter func99,ntmps99
 go_wp2
 have O0:kD.kU 149 kL (w.alloc (.cells #[] 149)) (.slice (some ⟨w.heap.size,0,none⟩) 0 0) [] (jU w.heap.size (w.alloc (.cells #[] 149)).heap.size) :=
   kD.yO (e:=149) (r:=kL) (w:=w) (cs:=[]) (xs:=[]) (T:=λ_=>False) bD2 bD2 rfl (λ_ h=>h.elim) ⟨Nat.le_refl _,by simp⟩
 go_loopw [3,4] (λv i wr=>∃ k:Nat,k<=l.length/\i=.int .i64 k/\Hid (kD.kU 149 kL wr v (l.take k) (jU w.heap.size wr.heap.size))/\Qb w wr) (λ_ i _=>l.length - (intOf i).toNat)
 case atStart=>exact ⟨0,Nat.zero_le _,rfl,yD O0,bR.alloc nL _⟩
 clear O0
 obtain ⟨k,hk,rfl,L,o⟩:=hrel
 obtain ⟨oa,on,oc,ho,bh⟩:=L.out.parts;obtain rfl:=ho
 have aq:(l.take k).length<=k:=bC6
 by_cases hlt:k < l.length
 · obtain ⟨qb,qo,rfl,ae,af,ah,qr,ap,ar,ay⟩:=kD.zt (HL.out.1.below o) hlt rfl;obtain ⟨al,am⟩:=AP;generalize l[k]=x at *;have bl:=yD am;clear am;obtain ⟨x0,x1,x2⟩:=x;obtain ⟨bd,ac,ag,ak,ao,ax⟩:=jh qr;simp only [Ac,and_true] at ac;obtain ⟨rfl,rfl,rfl⟩:=ac;obtain ⟨ad,aw,rfl,bf⟩:=kD.sl ak;have U:kW.rd wr _ x0:=⟨ag,al.1⟩;go_wp2_with fail;refine (zT U).mono ?_;rintro e wT ⟨tc,rfl,OT,an⟩;obtain ⟨c7,rfl,a5⟩:=ko OT.raw;obtain ⟨a8,bm,rfl,_⟩:=kD.sl a5;clear a5;go_upto_region 6 with fail;generalize D:World.alloc wT _=wC;obtain ⟨EC,K0⟩:=H9;clear D;have ER:=(tQ an EC);replace ap:=cL ER ap;replace ar:=cL ER ar;replace ay:=cL ER ay;have FX:=yD (λ(W:Ae) (hW:Qb wC W)=>kGr hW K0 ap ar ay);refine zX (λW=>Qb wC W) [Tt,Tt,Tt,Tt,Tt,Tt,Tt,Tt,Tt,Tt,Tt,Tt,Tt,Ff] bC5 bC5 pY (bR.drew) ?_;intro wS E;iterate 13
    all_goals refine kX ?_
   all_goals first|(refine kG rfl E ?_)|(refine kY rfl (λK H=>?_);go_simp;refine H _ _ (E.alloc E.size _) ?_;clear H K)
   all_goals refine jD ?_
   all_goals refine jy ?_
   obtain ⟨a2,au,aa,bk,X,L,R⟩:=FT;go_wp2_with (at_builtin;refine kD.jO rfl _ _ 31 rfl (r:=kL) (e:=149) underlying31 kAo rfl bD0 bD0 (B:=w.heap.size) L.out bD3 bD3 rfl (kD.own.wide (T:=jU wr.heap.size wT.heap.size) (kD.yN (OT.below (tQ EC E)) (kD.yJ (kD.jG ao) (kD.jG ax))) mU) rfl mZ rC mU bD1 sO ?_);exact aI
 exact aL
def kTv (x:jq) (w:Ae) (e:Ending) (w':Ae):Prop :=
  ∃ (v:Ap) (ds:Ar Ap) (mid:Nat),e=.returned (.agg (v :: ds).toArray)/\kD.kU 38 jF w' v x.1 (jU w.heap.size mid)/\(kD.pair kP (kD.pair (kD.slice 145 kJ) (kD.pair (kD.slice 102 jE) (kD.pair (kD.slice 131 kS) (kD.pair (kD.slice 149 kL) kD.int))))).own w' ds x.2 (jU mid w'.heap.size)/\w.heap.size<=mid/\mid<=w'.heap.size/\Qb w w'
def kTv.made {x:jq} {w:Ae} {e:Ending} {w':Ae} (h:kTv x w e w') (hb:je.bdd Big x):kAe je x w e w':=by
 obtain ⟨v,ds,mid,rfl,h1,h2,h3,h4,h5⟩:=h;refine ⟨v :: ds,rfl,?_,h5⟩;exact kD.jY (r:=kD.slice 38 jF) (q:=(kD.pair kP (kD.pair (kD.slice 145 kJ) (kD.pair (kD.slice 102 jE) (kD.pair (kD.slice 131 kS) (kD.pair (kD.slice 149 kL) kD.int)))))) (cs:=[v]) (ds:=ds) (x:=x.1) (y:=x.2) (S:=jU w.heap.size w'.heap.size) (h1.own hb.1.1) h2 rC rD mZ
def kKo {w:Ae} {cx:Ar Ap} {x:jq} (hx:je.rd w cx x):Aq prog 35 #[.agg cx.toArray] w (kTv x w):=by
 obtain ⟨V,q1,q2,q3,q4,Y,q6⟩:=hx.2;obtain ⟨an,a1,bh,ao,al⟩:=G9;obtain ⟨ch,cz,dg,df,db,c9,rfl,G,aq,ba,a3,au,a4,a6,bg,br⟩:=yB hx.1;obtain ⟨bp,bi,rfl,co⟩:=kD.sl G;obtain ⟨bw,bt,rfl,dd⟩:=kD.sl a3;obtain ⟨ck,cc,rfl,dh⟩:=kD.sl au;obtain ⟨b9,b8,rfl,dj⟩:=kD.sl a4;obtain ⟨bx,bu,rfl,dk⟩:=kD.sl a6;obtain ⟨b0,bz,rfl,di⟩:=kD.sl bg;obtain ⟨bd,bc,ax,bf,a9,a2⟩:=BI;have ap:=yD br;clear hx V q1 q2 q3 q4 Y q6 G aq ba a3 au a4 a6 bg br;go_enter func35,ntmps35;go_upto_region 1 with fail;generalize J:World.alloc (World.alloc w _) _=N;obtain ⟨R,K0,K1,K2,K3,K4,K5,K6,K7⟩:=xA;obtain ⟨XR,bq⟩:=xY;clear J;have FX:=yD (λ(W:Ae) (hW:Qb N W)=>cLs8 hW K0 K1 K2 K3 K4 K5 K6 K7);refine jS (λW=>Qb N W) [(0,true),(1,true),(3,true),(4,true),(6,true),(7,true),(9,true),(10,true),(12,true),(13,true),(15,true),(16,true),(18,true),(19,true),(2,false),(5,false),(8,false),(11,false),(14,false),(17,false),(20,true)] bC5 bC5 pY (bR.drew) ?_;intro wS E;simp only [jB,Ag,Ai,Aa,Ab,Al,Am,Ah,Aj,Ad,Ak];iterate 14
  all_goals refine kX ?_
 all_goals first|(refine kG rfl E ?_)|(refine kY rfl (λK H=>?_);go_simp;refine (kJm (bd.out.below (tQ R E))).mono ?_;rintro e O ⟨v1,rfl,O1,L⟩;obtain ⟨f9,bn,av,aj,bl⟩:=O1.parts;obtain rfl:=aj;have D:=yD O1;clear O1;have b1:=L.size;have cq:=E.size;replace E:=(tQ E L);refine H _ _ E ?_;clear H K L)
 all_goals refine jD ?_
 all_goals first|(refine kG rfl E ?_)|(refine kY rfl (λK H=>?_);go_simp;refine (kMs (bc.out.below (tQ R E))).mono ?_;rintro e u1 ⟨cs,rfl,O2,L⟩;obtain ⟨cv,rfl,ah,ak⟩:=jI O2.raw;obtain ⟨e0,ad,rfl,_⟩:=kD.sl ak;have aa:=yD O2;clear O2 ah ak;replace D:=yD (D.out.below L);have bj:=L.size;have cm:=E.size;replace E:=(tQ E L);refine H _ _ E ?_;clear H K L)
 all_goals refine jD ?_
 all_goals first|(refine kG rfl E ?_)|(refine kY rfl (λK H=>?_);go_simp;refine (kHn (ax.out.below (tQ R E))).mono ?_;rintro e u2 ⟨v1,rfl,O1,L⟩;obtain ⟨b5,bb,am,aj,a8⟩:=O1.parts;obtain rfl:=aj;have Z:=yD (O1.own a1.out);clear O1;replace D:=yD (D.out.below L);replace aa:=yD (aa.out.below L);have a7:=L.size;have bo:=E.size;replace E:=(tQ E L);refine H _ _ E ?_;clear H K L)
 all_goals refine jD ?_
 all_goals first|(refine kG rfl E ?_)|(refine kY rfl (λK H=>?_);go_simp;refine (kMq (bf.out.below (tQ R E))).mono ?_;rintro e u3 ⟨v1,rfl,O1,L⟩;obtain ⟨ag,ay,af,aj,be⟩:=O1.parts;obtain rfl:=aj;have ai:=yD (O1.own bh.out);clear O1;replace D:=yD (D.out.below L);replace aa:=yD (aa.out.below L);replace Z:=yD (Z.out.below L);have ar:=L.size;have dl:=E.size;replace E:=(tQ E L);refine H _ _ E ?_;clear H K L)
 all_goals refine jD ?_
 all_goals first|(refine kG rfl E ?_)|(refine kY rfl (λK H=>?_);go_simp;refine (kCc (a9.out.below (tQ R E))).mono ?_;rintro e u4 ⟨v1,rfl,O1,L⟩;obtain ⟨ae,aw,ac,aj,bv⟩:=O1.parts;obtain rfl:=aj;have bm:=yD (O1.own ao.out);clear O1;replace D:=yD (D.out.below L);replace aa:=yD (aa.out.below L);replace Z:=yD (Z.out.below L);replace ai:=yD (ai.out.below L);have b3:=L.size;have de:=E.size;replace E:=(tQ E L);refine H _ _ E ?_;clear H K L)
 all_goals refine jD ?_
 all_goals first|(refine kG rfl E ?_)|(refine kY rfl (λK H=>?_);go_simp;refine (kEu (a2.out.below (tQ R E))).mono ?_;rintro e F ⟨v1,rfl,O1,L⟩;obtain ⟨ab,o,U,aj,bk⟩:=O1.parts;obtain rfl:=aj;have az:=yD (O1.own al.out);clear O1;replace D:=yD (D.out.below L);replace aa:=yD (aa.out.below L);replace Z:=yD (Z.out.below L);replace ai:=yD (ai.out.below L);replace bm:=yD (bm.out.below L);have ce:=L.size;have a5:=E.size;replace E:=(tQ E L);refine H _ _ E ?_;clear H K L)
 all_goals refine jD ?_
 all_goals refine kX ?_
 all_goals refine jy ?_
 have X:=kC XR E;have E1:=(tQ R E);obtain ⟨M0,F0,M1,F1,M2,F2,M3,F3,M4,F4,M5,F5,M6,F6⟩:=AJ;have M7:=kE (b:=w.heap.size + 1) X (j:=7) rfl;have F7:=frozen_of_row F (w.heap.size + 1) 7 _ _ X;go_wp2;refine bodyPost_ret (v:=.agg #[.slice f9 bn av,Qn x.2.1.1,Qs e0 x.2.1.2 ad,.slice b5 bb am,.slice ag ay af,.slice ae aw ac,.slice ab o U,Qn x.2.2.2.2.2.2]) (by simp [results,results35,go_sem,M0,F0,M1,F1,M2,F2,M3,F3,M4,F4,M5,F5,M6,F6,M7,F7]) rfl ⟨_,[_,_,_,_,_,_,_],O.heap.size,rfl,?_,?_,by have:=E1.size;omega,by simp [World.setCell];omega,?_⟩
 · exact aJ
 · exact aK
 repeat (first|(with_reducible exact E1) | refine Below.setCell ?_ rJ _)
def kKn {w:Ae} {cx:Ar Ap} {x:jq} (hx:je.rd w cx x):Aq prog 35 #[.agg cx.toArray] w (kAe je x w) :=
  (kKo hx).mono λe w' h=>h.made hx.2
def kKw {w:Ae} {cx:Ar Ap} {x:jq} (hx:je.rd w cx x):Aq prog 33 #[.agg cx.toArray] w (kTv x w):=by
 obtain ⟨V,q1,q2,q3,q4,Y,q6⟩:=hx.2;obtain ⟨an,a1,bh,ao,al⟩:=G9;obtain ⟨ch,cz,dg,df,db,c9,rfl,G,aq,ba,a3,au,a4,a6,bg,br⟩:=yB hx.1;obtain ⟨bp,bi,rfl,co⟩:=kD.sl G;obtain ⟨bw,bt,rfl,dd⟩:=kD.sl a3;obtain ⟨ck,cc,rfl,dh⟩:=kD.sl au;obtain ⟨b9,b8,rfl,dj⟩:=kD.sl a4;obtain ⟨bx,bu,rfl,dk⟩:=kD.sl a6;obtain ⟨b0,bz,rfl,di⟩:=kD.sl bg;obtain ⟨bd,bc,ax,bf,a9,a2⟩:=BI;have ap:=yD br;clear hx V q1 q2 q3 q4 Y q6 G aq ba a3 au a4 a6 bg br;go_enter func33,ntmps33;go_upto_region 1 with fail;generalize J:World.alloc (World.alloc w _) _=N;obtain ⟨R,K0,K1,K2,K3,K4,K5,K6,K7⟩:=xA;obtain ⟨XR,bq⟩:=xY;clear J;have FX:=yD (λ(W:Ae) (hW:Qb N W)=>cLs8 hW K0 K1 K2 K3 K4 K5 K6 K7);refine jS (λW=>Qb N W) [(0,true),(1,true),(3,true),(4,true),(6,true),(7,true),(9,true),(10,true),(12,true),(13,true),(15,true),(16,true),(18,true),(19,true),(2,false),(5,false),(8,false),(11,false),(14,false),(17,false),(20,true)] bC5 bC5 pY (bR.drew) ?_;intro wS E;simp only [jB,Ag,Ai,Aa,Ab,Al,Am,Ah,Aj,Ad,Ak];iterate 14
  all_goals refine kX ?_
 all_goals first|(refine kG rfl E ?_)|(refine kY rfl (λK H=>?_);go_simp;refine (kJv (bd.out.below (tQ R E))).mono ?_;rintro e O ⟨v1,rfl,O1,L⟩;obtain ⟨f9,bn,av,aj,bl⟩:=O1.parts;obtain rfl:=aj;have D:=yD O1;clear O1;have b1:=L.size;have cq:=E.size;replace E:=(tQ E L);refine H _ _ E ?_;clear H K L)
 all_goals refine jD ?_
 all_goals first|(refine kG rfl E ?_)|(refine kY rfl (λK H=>?_);go_simp;refine (kTb (bc.out.below (tQ R E))).mono ?_;rintro e u1 ⟨cs,rfl,O2,L⟩;obtain ⟨cv,rfl,ah,ak⟩:=jI O2.raw;obtain ⟨e0,ad,rfl,_⟩:=kD.sl ak;have aa:=yD O2;clear O2 ah ak;replace D:=yD (D.out.below L);have bj:=L.size;have cm:=E.size;replace E:=(tQ E L);refine H _ _ E ?_;clear H K L)
 all_goals refine jD ?_
 all_goals first|(refine kG rfl E ?_)|(refine kY rfl (λK H=>?_);go_simp;refine (kPf (ax.out.below (tQ R E))).mono ?_;rintro e u2 ⟨v1,rfl,O1,L⟩;obtain ⟨b5,bb,am,aj,a8⟩:=O1.parts;obtain rfl:=aj;have Z:=yD (O1.own a1.out);clear O1;replace D:=yD (D.out.below L);replace aa:=yD (aa.out.below L);have a7:=L.size;have bo:=E.size;replace E:=(tQ E L);refine H _ _ E ?_;clear H K L)
 all_goals refine jD ?_
 all_goals first|(refine kG rfl E ?_)|(refine kY rfl (λK H=>?_);go_simp;refine (kWd (bf.out.below (tQ R E))).mono ?_;rintro e u3 ⟨v1,rfl,O1,L⟩;obtain ⟨ag,ay,af,aj,be⟩:=O1.parts;obtain rfl:=aj;have ai:=yD (O1.own bh.out);clear O1;replace D:=yD (D.out.below L);replace aa:=yD (aa.out.below L);replace Z:=yD (Z.out.below L);have ar:=L.size;have dl:=E.size;replace E:=(tQ E L);refine H _ _ E ?_;clear H K L)
 all_goals refine jD ?_
 all_goals first|(refine kG rfl E ?_)|(refine kY rfl (λK H=>?_);go_simp;refine (kEp (a9.out.below (tQ R E))).mono ?_;rintro e u4 ⟨v1,rfl,O1,L⟩;obtain ⟨ae,aw,ac,aj,bv⟩:=O1.parts;obtain rfl:=aj;have bm:=yD (O1.own ao.out);clear O1;replace D:=yD (D.out.below L);replace aa:=yD (aa.out.below L);replace Z:=yD (Z.out.below L);replace ai:=yD (ai.out.below L);have b3:=L.size;have de:=E.size;replace E:=(tQ E L);refine H _ _ E ?_;clear H K L)
 all_goals refine jD ?_
 all_goals first|(refine kG rfl E ?_)|(refine kY rfl (λK H=>?_);go_simp;refine (kJd (a2.out.below (tQ R E))).mono ?_;rintro e F ⟨v1,rfl,O1,L⟩;obtain ⟨ab,o,U,aj,bk⟩:=O1.parts;obtain rfl:=aj;have az:=yD (O1.own al.out);clear O1;replace D:=yD (D.out.below L);replace aa:=yD (aa.out.below L);replace Z:=yD (Z.out.below L);replace ai:=yD (ai.out.below L);replace bm:=yD (bm.out.below L);have ce:=L.size;have a5:=E.size;replace E:=(tQ E L);refine H _ _ E ?_;clear H K L)
 all_goals refine jD ?_
 all_goals refine kX ?_
 all_goals refine jy ?_
 have X:=kC XR E;have E1:=(tQ R E);obtain ⟨M0,F0,M1,F1,M2,F2,M3,F3,M4,F4,M5,F5,M6,F6⟩:=AJ;have M7:=kE (b:=w.heap.size + 1) X (j:=7) rfl;have F7:=frozen_of_row F (w.heap.size + 1) 7 _ _ X;go_wp2;refine bodyPost_ret (v:=.agg #[.slice f9 bn av,Qn x.2.1.1,Qs e0 x.2.1.2 ad,.slice b5 bb am,.slice ag ay af,.slice ae aw ac,.slice ab o U,Qn x.2.2.2.2.2.2]) (by simp [results,results33,go_sem,M0,F0,M1,F1,M2,F2,M3,F3,M4,F4,M5,F5,M6,F6,M7,F7]) rfl ⟨_,[_,_,_,_,_,_,_],O.heap.size,rfl,?_,?_,by have:=E1.size;omega,by simp [World.setCell];omega,?_⟩
 · exact aJ
 · exact aK
 repeat (first|(with_reducible exact E1) | refine Below.setCell ?_ rJ _)
def kWf {w:Ae} {cx:Ar Ap} {x:jq} (hx:je.rd w cx x):Aq prog 33 #[.agg cx.toArray] w (kAe je x w) :=
  (kKw hx).mono λe w' h=>h.made hx.2
end Go.Proofs.YtjhfdpopkkmigaaGreat

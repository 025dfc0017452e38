/-
  A region that draws its order, where two operations may come up at one time: both ways are walked. No program in sight.
-/
import Derived.Test.YtjhfdpopkkmigaaGreatPend
set_option linter.unusedVariables false
set_option linter.defProp false
set_option linter.unusedSimpArgs false
set_option linter.unnecessarySimpa false
set_option maxRecDepth 100000
set_option maxHeartbeats 4000000
open Bool renaming true->Tt,false->Ff
open List.cons renaming injEq->Aa
open Go renaming World->Ab,Value->Ai,yielded->Az
open Go.Value.slice renaming injEq->Ac
open List renaming getElem?_cons_succ->Ad,getElem?_cons_zero->Ae,drop_succ_cons->Ah,length_cons->Ak,cons_append->Al,length_nil->Ap,nil_append->Aq,drop_zero->Ar,map_cons->Au,map_nil->Av,append_assoc->Ay
open Go.Region renaming wanted->Ag,ready->Am
open _root_ renaming List->Aj
open Option.some renaming injEq->Aw
open Go.Addr.mk renaming injEq->Ba
namespace Go.Proofs.YtjhfdpopkkmigaaGreat
open Go.RowKit _root_.Go.Proofs.Tryz
def kPf {w:Ab} {vl:Ai} {l:Aj kI} (hl:(kD.slice 145 kJ).rd w [vl] l) :
    Calls prog 91 #[vl] w (kCl 145 kJ l w):=by
 have HL:=yD hl
 obtain ⟨la,lp,rfl,ll⟩:=kD.sl hl.1
 have bc:l.length<=16777216:=hl.2.1
 clear hl
 go_enter func91,ntmps91
 go_wp2
 have O0:kD.kU 145 kJ (w.alloc (.cells #[] 145)) (.slice (some ⟨w.heap.size,0,none⟩) 0 0) [] (jU w.heap.size (w.alloc (.cells #[] 145)).heap.size) :=
   kD.yO (e:=145) (r:=kJ) (w:=w) (cs:=[]) (xs:=[]) (T:=λ_=>False) bD2 bD2 rfl (λ_ h=>h.elim) ⟨Nat.le_refl _,by simp⟩
 go_loopw [3,9] (λv i wr=>∃ k:Nat,k<=l.length/\i=.int .i64 k/\Hid (kD.kU 145 kJ wr v (l.take k) (jU w.heap.size wr.heap.size))/\Qb w wr) (λ_ i _=>l.length - (intOf i).toNat)
 case atStart=>exact ⟨0,Nat.zero_le _,rfl,yD O0,bR.alloc nL _⟩
 clear O0
 obtain ⟨k,hk,rfl,L,o⟩:=hrel
 obtain ⟨oa,on,oc,ho,bh⟩:=L.out.parts;obtain rfl:=ho
 have aq:(l.take k).length<=k:=bC6
 by_cases hlt:k < l.length
 · obtain ⟨qb,qo,rfl,ae,af,ah,qr,ap,ar,ay⟩:=kD.zt (HL.out.1.below o) hlt rfl;obtain ⟨al,am⟩:=AP;generalize l[k]=x at *;have bl:=yD am;clear am;obtain ⟨x0,x1,x2⟩:=x;obtain ⟨bd,b5,ac,ag,ak,ao,ax⟩:=jT qr;simp only [Aa,and_true] at ac;obtain ⟨rfl,rfl,rfl⟩:=ac;obtain ⟨ad,aw,rfl,bf⟩:=kD.sl ak;obtain ⟨ai,bj,rfl,cg⟩:=kD.sl ao;have U:kW.rd wr _ x0:=⟨ag,al.1⟩;have a1:(kD.slice 147 jN).rd wr _ x1:=⟨ao,al.2.1⟩;go_upto_region 5 with fail;generalize D:World.alloc wr _=wC;obtain ⟨EC,cl⟩:=IU;have M0:Qd wC wr 0 (.slice ad (x0).length aw):=tV;have M1:Qd wC wr 1 (.slice ai (x1).length bj):=tV;have M2:Qd wC wr 2 (.int .i64 x2):=tV;clear D;have FX:=yD (λ(W:Ab) (hW:Qb wC W)=>kKb hW M0 M1 M2);refine jS (λW=>Qb wC W) [(0,true),(1,true),(2,true),(4,true),(5,true),(7,true),(8,true),(3,false),(6,false),(9,true),(10,false)] bC5 bC5 pY (bR.drew) ?_;intro wS E;simp only [jB,Ak,Ap,Ad,Ae,Au,Av,Al,Aq,Ah,Ar];iterate 7
    all_goals refine kX ?_
   all_goals first|(refine kG rfl E ?_)|(refine kY rfl (λK H=>?_);go_simp;refine (kAp (U.below (tQ EC E))).mono ?_;rintro e az ⟨a3,rfl,N,an⟩;obtain ⟨Y,rfl,J⟩:=ko N.raw;obtain ⟨aj,av,rfl,ab⟩:=kD.sl J;clear J;replace N:=yD N;have cq:=an.size;have a8:=E.size;replace E:=(tQ E an);refine H _ _ E ?_;clear H K an)
   all_goals refine jD ?_
   all_goals first|(refine kG rfl E ?_)|(refine kY rfl (λK H=>?_);go_simp;refine (kPs (a1.below (tQ EC E))).mono ?_;rintro e a5 ⟨bb,rfl,a4,an⟩;obtain ⟨ba,a9,rfl,_⟩:=kD.sl a4.raw;replace a4:=yD a4;have cm:=an.size;have a6:=E.size;replace N:=yD (N.out.below an);replace E:=(tQ E an);refine H _ _ E ?_;clear H K an)
   all_goals refine jD ?_
   all_goals refine kX ?_
   all_goals first|(refine kG rfl E ?_)|(refine kY rfl (λK H=>?_);go_simp;refine H _ _ (E.alloc E.size _) ?_;clear H K)
   all_goals refine jD ?_
   all_goals refine jy ?_
   obtain ⟨a2,au,aa,X,L,R⟩:=DI;go_wp2_with (at_builtin;refine kD.jO rfl _ _ 28 rfl (r:=kJ) (e:=145) underlying28 zN rfl bD0 bD0 (B:=w.heap.size) L.out bD3 bD3 rfl (kD.own.wide (T:=jU wr.heap.size a5.heap.size) (kD.jY (S:=jU (wS.heap.size) (a5.heap.size)) (N.out) (kD.yN (a4.out) (kD.jG ax)) mU mU mZ) mU) rfl mZ rC mU bD1 sO ?_);exact aI
 exact aL
def kHn {w:Ab} {vl:Ai} {l:Aj kI} (hl:(kD.slice 145 kJ).rd w [vl] l) :
    Calls prog 97 #[vl] w (kCl 145 kJ l w):=by
 have HL:=yD hl
 obtain ⟨la,lp,rfl,ll⟩:=kD.sl hl.1
 have bc:l.length<=16777216:=hl.2.1
 clear hl
 go_enter func97,ntmps97
 go_wp2
 have O0:kD.kU 145 kJ (w.alloc (.cells #[] 145)) (.slice (some ⟨w.heap.size,0,none⟩) 0 0) [] (jU w.heap.size (w.alloc (.cells #[] 145)).heap.size) :=
   kD.yO (e:=145) (r:=kJ) (w:=w) (cs:=[]) (xs:=[]) (T:=λ_=>False) bD2 bD2 rfl (λ_ h=>h.elim) ⟨Nat.le_refl _,by simp⟩
 go_loopw [3,4] (λv i wr=>∃ k:Nat,k<=l.length/\i=.int .i64 k/\Hid (kD.kU 145 kJ wr v (l.take k) (jU w.heap.size wr.heap.size))/\Qb w wr) (λ_ i _=>l.length - (intOf i).toNat)
 case atStart=>exact ⟨0,Nat.zero_le _,rfl,yD O0,bR.alloc nL _⟩
 clear O0
 obtain ⟨k,hk,rfl,L,o⟩:=hrel
 obtain ⟨oa,on,oc,ho,bh⟩:=L.out.parts;obtain rfl:=ho
 have aq:(l.take k).length<=k:=bC6
 by_cases hlt:k < l.length
 · obtain ⟨qb,qo,rfl,ae,af,ah,qr,ap,ar,ay⟩:=kD.zt (HL.out.1.below o) hlt rfl;obtain ⟨al,am⟩:=AP;generalize l[k]=x at *;have bl:=yD am;clear am;obtain ⟨x0,x1,x2⟩:=x;obtain ⟨bd,b5,ac,ag,ak,ao,ax⟩:=jT qr;simp only [Aa,and_true] at ac;obtain ⟨rfl,rfl,rfl⟩:=ac;obtain ⟨ad,aw,rfl,bf⟩:=kD.sl ak;obtain ⟨ai,bj,rfl,cg⟩:=kD.sl ao;have U:kW.rd wr _ x0:=⟨ag,al.1⟩;go_wp2_with fail;refine (zT U).mono ?_;rintro e wT ⟨tc,rfl,OT,an⟩;obtain ⟨c7,rfl,a5⟩:=ko OT.raw;obtain ⟨a8,bm,rfl,_⟩:=kD.sl a5;clear a5;go_upto_region 6 with fail;generalize D:World.alloc wT _=wC;obtain ⟨EC,K0⟩:=H9;clear D;have ER:=(tQ an EC);replace ap:=cL ER ap;replace ar:=cL ER ar;replace ay:=cL ER ay;have a1:(kD.slice 147 jN).rd wC _ x1:=⟨kD.raw.below ao ER,al.2.1⟩;have FX:=yD (λ(W:Ab) (hW:Qb wC W)=>kGr hW K0 ap ar ay);refine jS (λW=>Qb wC W) [(0,true),(1,true),(3,true),(4,true),(5,true),(6,true),(7,true),(9,true),(10,true),(11,true),(12,true),(13,true),(2,false),(8,false),(14,true),(15,false)] bC5 bC5 pY (bR.drew) ?_;intro wS E;simp only [jB,Ak,Ap,Ad,Ae,Au,Av,Al,Aq,Ah,Ar];iterate 12
    all_goals refine kX ?_
   all_goals first|(refine kG rfl E ?_)|(refine kY rfl (λK H=>?_);go_simp;generalize az:World.alloc wS _=wU;have bb:wU.heap.size=wS.heap.size + 1:=(by rw [<- az];simp);have cw:=E.size;replace E:Qb wC wU:=(by rw [<- az];exact E.alloc E.size _);clear az;refine H _ _ E ?_;clear H K)
   all_goals refine jD ?_
   all_goals first|(refine kG rfl E ?_)|(refine kY rfl (λK H=>?_);obtain ⟨a3,wV,Y,J,ab,a9⟩:=kD.kLj (P:=prog) (t:=143) (ty:=143) (r:=jN) (e:=147) (w:=wU) (v:=.slice (some ⟨wS.heap.size,0,none⟩) 0 0) (xs:=[]) (S:=λ_=>False) (B:=wU.heap.size) underlying143 kBt rfl bD0 bD0 kMx kD.kU.void (a1.below E) (λ_ h=>h.elim) nL (by have:=a1.2.1;simp;unfold Big at this;omega);refine kD.kV _ _ _ rfl bD3 bD3 Y ?_;obtain ⟨av,a4,N⟩:=J.zW;obtain rfl:=N;replace E:=(tQ E ab);have aj:=yD (J.own a1.2.1);refine H _ _ E ?_;clear H K Y J)
   all_goals refine jD ?_
   all_goals refine kX ?_
   all_goals first|(refine kG rfl E ?_)|(refine kY rfl (λK H=>?_);go_simp;refine H _ _ (E.alloc E.size _) ?_;clear H K)
   all_goals refine jD ?_
   all_goals refine jy ?_
   have a2:=E.size;have au:=EC.size;have aa:=o.size;have bk:=an.size;have X:Qb wr wV:=(tQ ER E);replace L:=yD (L.out.below X);have R:=(tQ o X);go_wp2_with (at_builtin;refine kD.jO rfl _ _ 28 rfl (r:=kJ) (e:=145) underlying28 zN rfl bD0 bD0 (B:=w.heap.size) L.out bD3 bD3 rfl (kD.own.wide (T:=jU wr.heap.size wV.heap.size) (kD.jY (S:=jU (wr.heap.size) (wV.heap.size)) (OT.below (tQ EC E)) (kD.yN (aj.out) (kD.jG ax)) mU mU mZ) mU) rfl mZ rC mU bD1 sO ?_);exact aI
 exact aL
def kWd {w:Ab} {vl:Ai} {l:Aj jK} (hl:(kD.slice 102 jE).rd w [vl] l) :
    Calls prog 92 #[vl] w (kCl 102 jE l w):=by
 have HL:=yD hl
 obtain ⟨la,lp,rfl,ll⟩:=kD.sl hl.1
 have bc:l.length<=16777216:=hl.2.1
 clear hl
 go_enter func92,ntmps92
 go_wp2
 have O0:kD.kU 102 jE (w.alloc (.cells #[] 102)) (.slice (some ⟨w.heap.size,0,none⟩) 0 0) [] (jU w.heap.size (w.alloc (.cells #[] 102)).heap.size) :=
   kD.yO (e:=102) (r:=jE) (w:=w) (cs:=[]) (xs:=[]) (T:=λ_=>False) bD2 bD2 rfl (λ_ h=>h.elim) ⟨Nat.le_refl _,by simp⟩
 go_loopw [3,9] (λv i wr=>∃ k:Nat,k<=l.length/\i=.int .i64 k/\Hid (kD.kU 102 jE wr v (l.take k) (jU w.heap.size wr.heap.size))/\Qb w wr) (λ_ i _=>l.length - (intOf i).toNat)
 case atStart=>exact ⟨0,Nat.zero_le _,rfl,yD O0,bR.alloc nL _⟩
 clear O0
 obtain ⟨k,hk,rfl,L,o⟩:=hrel
 obtain ⟨oa,on,oc,ho,bh⟩:=L.out.parts;obtain rfl:=ho
 have aq:(l.take k).length<=k:=bC6
 by_cases hlt:k < l.length
 · obtain ⟨qb,qo,rfl,ae,af,qr,ap,ar⟩:=kD.get2 (HL.out.1.below o) hlt rfl;obtain ⟨al,am⟩:=AP;generalize l[k]=x at *;have bl:=yD am;clear am;obtain ⟨x0,x1⟩:=x;obtain ⟨bd,ac,ag,ak,ao⟩:=kAb qr;simp only [Aa,and_true] at ac;obtain ⟨rfl,rfl⟩:=ac;obtain ⟨ad,aw,rfl,bf⟩:=kD.sl ak;have U:kW.rd wr _ x0:=⟨ag,al.1⟩;go_upto_region 5 with fail;generalize D:World.alloc wr _=wC;obtain ⟨EC,cl⟩:=IU;have M0:Qd wC wr 0 (.slice ad (x0).length aw):=tV;have M1:Qd wC wr 1 (.int .i64 x1):=tV;clear D;have FX:=yD (λ(W:Ab) (hW:Qb wC W)=>kHv hW M0 M1);refine jS (λW=>Qb wC W) [(0,true),(1,true),(2,true),(4,true),(5,true),(3,false),(6,true),(7,false)] bC5 bC5 pY (bR.drew) ?_;intro wS E;simp only [jB,Ak,Ap,Ad,Ae,Au,Av,Al,Aq,Ah,Ar];iterate 5
    all_goals refine kX ?_
   all_goals first|(refine kG rfl E ?_)|(refine kY rfl (λK H=>?_);go_simp;refine (kAp (U.below (tQ EC E))).mono ?_;rintro e az ⟨a3,rfl,N,an⟩;obtain ⟨Y,rfl,J⟩:=ko N.raw;obtain ⟨aj,av,rfl,ab⟩:=kD.sl J;clear J;replace N:=yD N;have cq:=an.size;have a8:=E.size;replace E:=(tQ E an);refine H _ _ E ?_;clear H K an)
   all_goals refine jD ?_
   all_goals refine kX ?_
   all_goals first|(refine kG rfl E ?_)|(refine kY rfl (λK H=>?_);go_simp;refine H _ _ (E.alloc E.size _) ?_;clear H K)
   all_goals refine jD ?_
   all_goals refine jy ?_
   obtain ⟨a2,au,aa,X,L,R⟩:=DI;go_wp2_with (at_builtin;refine kD.jO rfl _ _ 29 rfl (r:=jE) (e:=102) underlying29 kFv rfl bD0 bD0 (B:=w.heap.size) L.out bD3 bD3 rfl (kD.own.wide (T:=jU wr.heap.size az.heap.size) (kD.yN (N.out) (kD.jG ao)) mU) rfl mZ rC mU bD1 sO ?_);exact aI
 exact aL
def kMq {w:Ab} {vl:Ai} {l:Aj jK} (hl:(kD.slice 102 jE).rd w [vl] l) :
    Calls prog 98 #[vl] w (kCl 102 jE l w):=by
 have HL:=yD hl
 obtain ⟨la,lp,rfl,ll⟩:=kD.sl hl.1
 have bc:l.length<=16777216:=hl.2.1
 clear hl
 go_enter func98,ntmps98
 go_wp2
 have O0:kD.kU 102 jE (w.alloc (.cells #[] 102)) (.slice (some ⟨w.heap.size,0,none⟩) 0 0) [] (jU w.heap.size (w.alloc (.cells #[] 102)).heap.size) :=
   kD.yO (e:=102) (r:=jE) (w:=w) (cs:=[]) (xs:=[]) (T:=λ_=>False) bD2 bD2 rfl (λ_ h=>h.elim) ⟨Nat.le_refl _,by simp⟩
 go_loopw [3,4] (λv i wr=>∃ k:Nat,k<=l.length/\i=.int .i64 k/\Hid (kD.kU 102 jE wr v (l.take k) (jU w.heap.size wr.heap.size))/\Qb w wr) (λ_ i _=>l.length - (intOf i).toNat)
 case atStart=>exact ⟨0,Nat.zero_le _,rfl,yD O0,bR.alloc nL _⟩
 clear O0
 obtain ⟨k,hk,rfl,L,o⟩:=hrel
 obtain ⟨oa,on,oc,ho,bh⟩:=L.out.parts;obtain rfl:=ho
 have aq:(l.take k).length<=k:=bC6
 by_cases hlt:k < l.length
 · obtain ⟨qb,qo,rfl,ae,af,qr,ap,ar⟩:=kD.get2 (HL.out.1.below o) hlt rfl;obtain ⟨al,am⟩:=AP;generalize l[k]=x at *;have bl:=yD am;clear am;obtain ⟨x0,x1⟩:=x;obtain ⟨bd,ac,ag,ak,ao⟩:=kAb qr;simp only [Aa,and_true] at ac;obtain ⟨rfl,rfl⟩:=ac;obtain ⟨ad,aw,rfl,bf⟩:=kD.sl ak;have U:kW.rd wr _ x0:=⟨ag,al.1⟩;go_wp2_with fail;refine (zT U).mono ?_;rintro e wT ⟨tc,rfl,OT,an⟩;obtain ⟨c7,rfl,a5⟩:=ko OT.raw;obtain ⟨a8,bm,rfl,_⟩:=kD.sl a5;clear a5;go_upto_region 6 with fail;generalize D:World.alloc wT _=wC;obtain ⟨EC,K0⟩:=H9;clear D;have ER:=(tQ an EC);replace ap:=cL ER ap;replace ar:=cL ER ar;have FX:=yD (λ(W:Ab) (hW:Qb wC W)=>kKb hW K0 ap ar);refine zX (λW=>Qb wC W) [Tt,Tt,Tt,Tt,Tt,Tt,Tt,Tt,Ff] bC5 bC5 pY (bR.drew) ?_;intro wS E;iterate 8
    all_goals refine kX ?_
   all_goals first|(refine kG rfl E ?_)|(refine kY rfl (λK H=>?_);go_simp;refine H _ _ (E.alloc E.size _) ?_;clear H K)
   all_goals refine jD ?_
   all_goals refine jy ?_
   obtain ⟨a2,au,aa,bk,X,L,R⟩:=FT;go_wp2_with (at_builtin;refine kD.jO rfl _ _ 29 rfl (r:=jE) (e:=102) underlying29 kFv rfl bD0 bD0 (B:=w.heap.size) L.out bD3 bD3 rfl (kD.own.wide (T:=jU wr.heap.size wT.heap.size) (kD.yN (OT.below (tQ EC E)) (kD.jG ao)) mU) rfl mZ rC mU bD1 sO ?_);exact aI
 exact aL
namespace kD
section
variable {α β:Type} {r q:kD α} {e:TypeId} {w w':Ab} {v:Ai} {xs:Aj α} {S T:Nat->Prop}
def headed (e:TypeId) (n:Nat) (w:Ab) (cs:Aj Ai):Prop :=
  ∀ a len cap,cs=[.slice a len cap]->(len=0/\cap=0)\/∃ b cur,a=some ⟨b,0,none⟩/\w.heap[b]?=some (.cells cur e (0,0))/\cur.size=cap * n
def headed_keep {cs:Aj Ai} (h:(slice e r).is true w cs xs S) (hh:headed e r.n w cs) (k:∀ k,S k->w'.heap[k]?=w.heap[k]?):headed e r.n w' cs:=by
 intro a len cap hc;rcases hh a len cap hc with h1|⟨b,cur,rfl,h2,h3⟩
 · exact .inl h1
 obtain ⟨a',E,cap',h0,h4,h5,h6,h7⟩:=h;rw [hc] at h0;simp only [Aa,Ac,and_true] at h0;obtain ⟨rfl,rfl,rfl⟩:=h0;rcases h7 with ⟨h8,h9⟩|⟨b',off,hb,cur',e',fr,hd,cs',tl,g1,g2,g3,g4,g5,g6,g7⟩
 · have:=h9 rfl;exact .inl ⟨by omega,this⟩
 simp only [Aw,Ba,and_true] at hb;obtain ⟨rfl,rfl⟩:=hb;exact .inr ⟨b,cur,rfl,(k b g6).trans h2,h3⟩
def slice0 {α:Type} (e:TypeId) (r:kD α):kD (Aj α) :=
  { slice e r with
    is:=λo w cs xs S=>(slice e r).is o w cs xs S/\(o=true->headed e r.n w cs)
    len:=λh=>(slice e r).len h.1
    one:=λh=>(slice e r).one h.1
    mono:=by
      intro o w w' cs xs S h k;refine ⟨(slice e r).mono h.1 k,λho=>?_⟩;subst ho;exact headed_keep h.1 (h.2 rfl) k
    wide:=λh k=>⟨(slice e r).wide h.1 k,h.2⟩
    weak:=λh=>⟨(slice e r).weak h.1,λq=>by cases q⟩
    live:=λh=>⟨(slice e r).live h.1,h.2⟩
    is_zero:=⟨(slice e r).is_zero,λ_ a len cap h=>by
      have E:([.slice none 0 0]:Aj Ai)=[.slice a len cap]:=h;simp only [Aa,Ac,and_true] at E;exact .inl ⟨E.2.1.symm,E.2.2.symm⟩⟩ }
def kU.own0h (h:kU e r w v xs S) (hl:xs.length<=Big):(slice0 e r).own w [v] xs S:=by
 have h1:=h.own hl;refine ⟨⟨h1.1,λ_ a len cap hc=>?_⟩,h1.2⟩;obtain ⟨hb,h⟩:=h;simp only [Aa,and_true] at hc;rcases h with ⟨⟨a',rfl⟩,rfl⟩|⟨b,cap',cur,cs,tl,rfl,g1,g2,g3,g4,g5,g6,g7⟩
 · simp only [Ac] at hc;exact .inl ⟨hc.2.1.symm,hc.2.2.symm⟩
 simp only [Ac] at hc;obtain ⟨rfl,rfl,rfl⟩:=hc;exact .inr ⟨b,cur,rfl,g3,g5⟩
def row_to (hn:∀ {cs:Aj Ai} {x:α} {S:Nat->Prop},r.is true w cs x S->q.is true w cs x S):∀ {cells:Aj Ai} {ys:Aj α} {S:Nat->Prop},row r true w cells ys S->row q true w cells ys S
  | _,[],_,h=>h
  | _,y :: ys,_,⟨c,d,A,B,h,h1,h2,hA,hB,hd⟩=>⟨c,d,A,B,h,hn h1,row_to hn h2,hA,hB,hd⟩
def kU.to (hn:∀ {cs:Aj Ai} {x:α} {S:Nat->Prop},r.is true w cs x S->q.is true w cs x S) (hb:∀ x,r.bdd Big x->q.bdd Big x) (hq:q.n=r.n) (h:kU e r w v xs S):kU e q w v xs S:=by
 obtain ⟨h0,h⟩:=h;refine ⟨λx hx=>hb x (h0 x hx),?_⟩;rcases h with h|⟨b,cap,cur,cs,tl,g0,g1,g2,g3,g4,g5,g6,g7⟩
 · exact .inl h
 exact .inr ⟨b,cap,cur,cs,tl,g0,g1,g2,g3,g4,by rw [hq];exact g5,g6,row_to hn g7⟩
end
end kD
def kQd (x:zh):Bool:=(((zf x.1 && decide (0 < x.1.length)) && inR x.2.1 0 1000000) && inR x.2.2.1 0 16) && inR x.2.2.2 1 20
def kFp {w:Ab} {cx:Aj Ai} {x:zh} (hx:kLv.raw w cx x) :
    Calls prog 204 #[.agg cx.toArray] w (bQ w (.bool (kQd x))):=by
 have Hx:=yD hx
 obtain ⟨ax,rfl,I,o,ad,ah,am⟩:=kNa hx
 obtain ⟨ac,Y,rfl,av⟩:=kD.sl o
 go_enter func204,ntmps204
 go_upto_region 1 with fail
 generalize J:World.alloc w _=N
 have R:Qb w N:=by rw [<- J];exact bG
 have ae:Qd N w 0 (.slice ac (x.1).length Y):=tT
 have O:Qd N w 1 (.int .i64 x.2.1):=tT
 have L:Qd N w 2 (.int .i64 x.2.2.1):=tT
 have D:Qd N w 3 (.int .i64 x.2.2.2):=tT
 clear J
 have FX:=yD (λ(W:Ab) (hW:Qb N W)=>kGr hW ae O L D)
 refine ky (λW=>Qb N W) [Tt,Tt,Ff,Tt,Tt,Tt,Tt,Tt,Tt,Tt,Tt,Tt,Tt,Ff,Tt,Tt,Tt,Tt,Ff,Tt,Tt,Tt,Tt,Ff,Tt,Tt] bR ?_
 intro wS E
 all_goals refine kX ?_
 all_goals refine kX ?_
 all_goals first | refine wkB (yZ (kD.raw.below I (tQ R E))) (λwS1 E=>?_) | refine kX ?_
 all_goals (refine jd λb a1=>?_;cases b <;> try simp only [jc] at a1)
 iterate 6
  all_goals refine kX ?_
 all_goals (refine jd λb aq=>?_;cases b <;> try simp only [jc] at aq)
 all_goals refine kX ?_
 all_goals refine kX ?_
 all_goals first | refine wkC (jw) ?_ | refine kX ?_
 all_goals refine kX ?_
 all_goals (refine jd λb a3=>?_;cases b <;> try simp only [jc] at a3)
 all_goals refine kX ?_
 all_goals refine kX ?_
 all_goals first | refine wkC (jw) ?_ | refine kX ?_
 all_goals refine kX ?_
 all_goals (refine jd λb de=>?_;cases b <;> try simp only [jc] at de)
 all_goals refine kX ?_
 all_goals refine kX ?_
 all_goals first | refine wkC (jw) ?_ | refine kX ?_
 all_goals refine kX ?_
 all_goals (refine jd λb H=>?_;cases b <;> try simp only [jc] at H)
 all_goals refine kR ?_
 all_goals have F:=(tQ R E)
 all_goals first
   | (have U:=yD (show (kQd x)=false by simp only [kQd,Bool.not_true,Bool.not_false,Bool.and_true,Bool.true_and,Bool.and_false,Bool.false_and,Bool.or_true,Bool.true_or,Bool.or_false,Bool.false_or,Bool.not_not,a1,aq,a3,de,H]);go_wp2;go_ret;exact ⟨kK U.out.symm,F⟩)
   | (have U:=yD (show (kQd x)=true by simp only [kQd,Bool.not_true,Bool.not_false,Bool.and_true,Bool.true_and,Bool.and_false,Bool.false_and,Bool.or_true,Bool.true_or,Bool.or_false,Bool.false_or,Bool.not_not,a1,aq,a3,de,H]);go_wp2;go_ret;exact ⟨kK U.out.symm,F⟩)
namespace kD
section
variable {α:Type} {r:kD α} {e:TypeId} {w:Ab} {b cap len i j p:Nat} {xs:Aj α} {y:α} {u:Ai} {S T:Nat->Prop}
def jAf (h:kU e r w (.slice (some ⟨b,0,none⟩) len cap) xs S) (hi:i < xs.length) (I:j < r.n)
    (hy:∀ {cs:Aj Ai} {B:Nat->Prop},r.is true w cs xs[i] B->(∀ k,B k->S k)->r.is true w (cs.set j u) y (λk=>B k\/T k)) (hby:r.bdd Big y) (hST:∀ k,S k->T k->False) (hp:p=i * r.n + j) :
    kU e r (w.setCell ⟨b,p,none⟩ u) (.slice (some ⟨b,0,none⟩) len cap) (xs.set i y) (λk=>S k\/T k)/\Touch (λk=>k=b) w (w.setCell ⟨b,p,none⟩ u):=by
 subst hp
 refine ⟨?_,yt [u] w b _⟩
 obtain ⟨hb,h⟩:=h
 rcases h with ⟨⟨a,h0⟩,rfl⟩|⟨b',cap',cur,cs,tl,h0,h1,h2,h3,h4,h5,h6,h7⟩
 · simp at hi
 simp only [Ac,Aw,Ba,and_true] at h0
 obtain ⟨rfl,rfl,rfl⟩:=h0
 obtain ⟨c1,c,c2,A,B,C,rfl,hl,W,r2,U,hA,hB,hC,hd⟩:=kVe h7 hi
 have hc:=r.len r2
 have an:∀ k,T k->k≠b:=λk hk q=>hST k (q ▸ h6) hk
 have n2:=hy r2 (λk hk=>(hB k hk).1)
 have o:cur=((c1++(c++c2))++tl).toArray:=by rw [<- h4]
 subst o
 have E:=heap_setCell_same w b (i * r.n + j) _ e u h3
 refine ⟨?_,.inr ⟨b,cap,_,c1++(c.set j u++c2),tl,by rw [List.length_set],by rw [List.length_set];exact h1,h2,E,?_,?_,.inl h6,?_⟩⟩
 · intro z hz;rcases List.mem_or_eq_of_mem_set hz with q | q
   · exact hb z q
   rw [q];exact hby
 · simp only [Array.toList_setIfInBounds,List.toList_toArray];rw [Ay,Ay,List.set_append_right _ _ bD1,hl,show i * r.n + j - i * r.n=j by omega,List.set_append_left _ _ bD1];simp
 · simpa using h5
 have L:∀ k,k≠b->(w.setCell ⟨b,i * r.n + j,none⟩ u).heap[k]?=w.heap[k]?:=λk hk=>heap_setCell_other w ⟨b,i * r.n + j,none⟩ k u hk
 have mono:∀ {cs:Aj Ai} {ys:Aj α} {D:Nat->Prop},row r true w cs ys D->(∀ k,D k->k≠b)->row r true (w.setCell ⟨b,i * r.n + j,none⟩ u) cs ys D:=λhr hk=>yG hr (λk hd=>L k (hk k hd))
 refine jAb (A:=A) (B:=λk=>B k\/T k) (C:=C) hi (mono W (λk hk=>(hA k hk).2)) (r.mono n2 (λk hk=>L k (hk.elim (λq=>(hB k q).2) (an k)))) (mono U (λk hk=>(hC k hk).2)) ?_ ?_ ?_ ?_
 · exact λk hk=>⟨.inl (hA k hk).1,(hA k hk).2⟩
 · exact λk hk=>hk.elim (λq=>⟨.inl (hB k q).1,(hB k q).2⟩) (λq=>⟨.inr q,an k q⟩)
 · exact λk hk=>⟨.inl (hC k hk).1,(hC k hk).2⟩
 exact λ_ k=>⟨λa q=>q.elim ((hd rfl k).1 a) (λt=>hST k (hA k a).1 t),(hd rfl k).2.1,λq c=>q.elim (λb=>(hd rfl k).2.2 b c) (λt=>hST k (hC k c).1 t)⟩
end
end kD
end Go.Proofs.YtjhfdpopkkmigaaGreat
namespace Go.Proofs.YtjhfdpopkkmigaaGreat
open Go Go.RowKit _root_.Go.Proofs.Tryz
section
variable {P:Program} {l:Aj Oper} {S:Ab->Prop} {Q:Exit->Act->Ab->Prop} {fuel:Nat} {listed:Aj Bool} {a:Act} {w:Ab}
@[irreducible] def tree (P:Program) (l:Aj Oper) (S:Ab->Prop) (Q:Exit->Act->Ab->Prop) (fuel:Nat) (listed:Aj Bool) (a:Act) (w:Ab):Prop:=wpAnyH P .any l.toArray Q S fuel listed.toArray a w
def kVu (k:Nat):listed.toArray.setIfInBounds k true=(listed.set k true).toArray:=by simp
def yM {id:Nat} (S:Ab->Prop) (hm:P.follows .mixedOrders=true) (hS:S { w with drawn:=w.drawn + 1 })
    (h:∀ w',S w'->tree P l S Q l.length (List.replicate l.length false) a w'):(Code.region id l.toArray true).wp P Q a w:=by
 have h:=h _ hS
 exact oI
def zY {id:Nat} (S:Ab->Prop) (hm:P.follows .mixedOrders=true) (hS:S { w with drawn:=w.drawn + 1 })
    (h:∀ w',w'=w.drew->S w'->tree P l S Q l.length (List.replicate l.length false) a w'):(Code.region id l.toArray true).wp P Q a w:=by
 have h:=h _ rfl hS
 exact oI
def kLf {k:Nat} {o:Oper} {v:Ai} (h0:l[k]?=some o) (hc:(Region.noSelect l.toArray && (Region.free .any l.toArray listed.toArray k && (Am .any l.toArray listed.toArray).contains k))=true)
    (hQ:∀ c a d v w,Q (.panic c) (Act.put a d v) w->Q (.panic c) a w) (hg:Ag o (Az l.toArray a.tmps)=true) (hS:S w)
    (hv:∀ w,S w->(execOp a.eval o).run P w=.ok (.value v) w) (h:tree P l S Q fuel (listed.set k true) (a.put o.dst v) w):tree P l S Q (fuel + 1) listed a w:=by
 unfold tree at h ⊢
 simp only [Bool.and_eq_true] at hc
 rw [<- kVu] at h
 exact wpAnyH_take bA7 hc.1 hc.2.1 hc.2.2 (λc a w=>hQ c a _ _ w) (.inl ⟨hg,hv⟩) hS h
def kQ (k : Nat) {q : Prop} {o : Oper} {v : Value} (c : q) (h0 : l[k]? = some o := by rfl) (hc : (Region.noSelect l.toArray && (Region.free .any l.toArray listed.toArray k && (Region.ready .any l.toArray listed.toArray).contains k)) = true := by kernel_rfl)
    (hQ:∀ c a d v w,Q (.panic c) (Act.put a d v) w->Q (.panic c) a w:=by exact λc a d v w h=>by cases d <;> exact h) (hg:Region.wanted o (yielded l.toArray a.tmps)=true:=by rfl) (hS:S w:=by exact E)
    (hv:∀ w,S w->(execOp a.eval o).run P w=.ok (.value v) w:=by intro W hW;(try have A:=FX.out W hW);clear hW;go_simp;try with_reducible rfl)
    (hp:Hid q->tree P l S Q fuel (listed.set k true) (a.put o.dst v) w:=by intro kq;(try simp only [Act.put,zA,zB,zC]);exact kq.out):tree P l S Q (fuel + 1) listed a w:=kLf h0 hc hQ hg hS hv (hp (yD c))
def kLg {k:Nat} {o:Oper} (h0:l[k]?=some o) (hg:Ag o (Az l.toArray a.tmps)=true)
    (h:∀ K:Act->Ab->Prop,(∀ a' w',S w'->tree P l S Q fuel (listed.set k true) a' w'->K a' w')->o.wp P a w K Q) :
    wpOp P l.toArray Q k (λa' w'=>S w'/\wpAnyH P .any l.toArray Q S fuel (listed.toArray.setIfInBounds k true) a' w') a w:=by
 unfold wpOp
 rw [show l.toArray[k]?=some o by simpa using h0]
 simp only [hg,if_true]
 refine .inl (h _ (λa' w' h1 h2=>⟨h1,?_⟩))
 unfold tree at h2
 rw [kVu]
 exact h2
def kN {k:Nat} {o:Oper} (h0:l[k]?=some o) (hr:(Am .any l.toArray listed.toArray==[k])=true) (hg:Ag o (Az l.toArray a.tmps)=true)
    (h:∀ K:Act->Ab->Prop,(∀ a' w',S w'->tree P l S Q fuel (listed.set k true) a' w'->K a' w')->o.wp P a w K Q):tree P l S Q (fuel + 1) listed a w:=by
 unfold tree
 refine wpAnyH_all bB0 bD2 ?_
 intro j I
 obtain rfl:j=k:=bB6
 exact kLg h0 hg h
def jl {i j:Nat} {V N:Oper} (hi:l[i]?=some V) (I:l[j]?=some N) (hr:(Am .any l.toArray listed.toArray==[i,j])=true) (D:Ag V (Az l.toArray a.tmps)=true) (o:Ag N (Az l.toArray a.tmps)=true)
    (h1:∀ K:Act->Ab->Prop,(∀ a' w',S w'->tree P l S Q fuel (listed.set i true) a' w'->K a' w')->V.wp P a w K Q)
    (h2:∀ K:Act->Ab->Prop,(∀ a' w',S w'->tree P l S Q fuel (listed.set j true) a' w'->K a' w')->N.wp P a w K Q):tree P l S Q (fuel + 1) listed a w:=by
 unfold tree
 refine wpAnyH_all bB0 bD2 ?_
 intro k hk
 rcases List.mem_cons.1 hk with rfl | hk
 · exact kLg hi D h1
 obtain rfl:k=j:=bA5
 exact kLg I o h2
def jW (hr:(Am .any l.toArray listed.toArray==[])=true) (h:Q .normal a w):tree P l S Q fuel listed a w:=by
 unfold tree;exact wpAnyH_done bB0 h fuel
end
end Go.Proofs.YtjhfdpopkkmigaaGreat

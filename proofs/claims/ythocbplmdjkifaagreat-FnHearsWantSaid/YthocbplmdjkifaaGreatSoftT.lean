/-
  A region that draws its order, where two operations may come up at one time: both ways are walked. No program in sight.
-/
import Derived.Test.YthocbplmdjkifaaGreatIns
set_option linter.unusedVariables false
set_option linter.defProp false
set_option linter.unusedSimpArgs false
set_option linter.unnecessarySimpa false
set_option maxRecDepth 100000
set_option maxHeartbeats 4000000
open Bool renaming true->Tt,false->Ff
open Go renaming World->Aa,Value->Ag,yielded->Br,Calls->Bt,TypeId->Bu
open Go.Value.slice renaming injEq->Ab
open List renaming getElem?_cons_succ->Ac,getElem?_cons_zero->Ad,drop_succ_cons->Ah,length_cons->Aj,cons_append->Ak,length_nil->Am,nil_append->Ap,length_set->Ar,drop_zero->Au,map_cons->Az,length_eq_zero_iff->Bg,map_nil->Bh,append_assoc->Bq
open Option.some renaming injEq->Ae
open _root_ renaming List->Ai
open Go.Region renaming wanted->Al,ready->Bn
open List.cons renaming injEq->Aq
open Bool renaming not_false->Av,and_false->Aw,false_and->Ay,not_true->Bb,and_true->Bc,true_and->Bd,or_false->Be,false_or->Bf,or_true->Bi,true_or->Bj,not_not->Bl
open Go.Addr.mk renaming injEq->Ba
open Go.Proofs.Tryz renaming underlying28->Bo
namespace Go.Proofs.YthocbplmdjkifaaGreat
open Go.RowKit _root_.Go.Proofs.Tryz
def kJp {w:Aa} {vl:Ag} {l:Ai kF} (hl:(kD.slice 107 kH).rd w [vl] l) :
    Bt prog 98 #[vl] w (kBu 107 kH l w):=by
 have HL:=yD hl
 obtain ⟨la,lp,rfl,ll⟩:=kD.sl hl.1
 have bc:l.length<=16777216:=hl.2.1
 clear hl
 go_enter func98,ntmps98
 go_wp2
 have O0:kD.kY 107 kH (w.alloc (.cells #[] 107)) (.slice (some ⟨w,0,none⟩) 0 0) [] (jg w (w.alloc (.cells #[] 107)).heap.size) :=
   kD.yR (e:=107) (r:=kH) (w:=w) (cs:=[]) (xs:=[]) (T:=λ_=>False) bF3 bF3 rfl (λ_ h=>h.elim) ⟨Nat.le_refl _,by simp⟩
 go_loopw [3,9] (λv i wr=>∃ k:Nat,k<=l.length/\i=.int .i64 k/\Hid (kD.kY 107 kH wr v (l.take k) (jg w wr))/\Qb w wr) (λ_ i _=>l.length - (intOf i).toNat)
 case atStart=>exact ⟨0,Nat.zero_le _,rfl,yD O0,bR.alloc nL _⟩
 clear O0
 obtain ⟨k,hk,rfl,J,o⟩:=hrel
 obtain ⟨oa,on,oc,ho,ay⟩:=J.out.parts
 obtain rfl:=ho
 have f2:(l.take k).length<=k:=bE6
 by_cases hlt:k < l.length
 · obtain ⟨qb,qo,rfl,ac,ae,af,qr,ap,aq,au⟩:=kD.zL (HL.out.1.below o) hlt rfl;obtain ⟨av,b3⟩:=xE;generalize l[k]=x at *;have bm:=yD b3;clear b3;obtain ⟨x0,x1,x2⟩:=x;obtain ⟨rfl,ah,aj,ak,aw⟩:=jP qr;obtain ⟨ad,a4,rfl,a6,am,bk,rfl,bq⟩:=kD.sx aj (kD.sl ak);have X:kR.rd wr _ x0:=⟨ah,av.1⟩;have an:(kD.slice 105 kQ).rd wr _ x1:=⟨ak,av.2.1⟩;go_upto_region 5 with fail;generalize O:World.alloc wr _=wC;obtain ⟨EC,bt,M0⟩:=AB;have M1:Qd wC wr 1 (Qs am x1 bk):=vT;have M2:Qd wC wr 2 (Qn x2):=vT;clear O;have FX:=yD (λ(W:Aa) (hW:Qb wC W)=>kMt hW M0 M1 M2);refine je (λW=>Qb wC W) [(0,true),(1,true),(2,true),(4,true),(5,true),(7,true),(8,true),(3,false),(6,false),(9,true),(10,false)] bE5 bE5 qW (bR.drew) ?_;intro wS E;simp only [jG,Aj,Am,Ac,Ad,Az,Bh,Ak,Ap,Ah,Au];all_goals ((iterate 7 refine kS ?_);(first|(refine kI rfl E ?_)|(refine ku rfl (λK H=>?_);go_simp;refine (zG (X.below (tQ EC E))).mono ?_;rintro e ao ⟨a1,rfl,L,ai⟩;obtain ⟨Y,rfl,F⟩:=kw L.raw;obtain ⟨aa,ag,rfl,Z⟩:=kD.sl F;clear F;replace L:=yD L;have bu:=ai.size;have bv:=E.size;replace E:=(tQ E ai);refine H _ _ E ?_;clear H K ai));refine jH ?_;(first|(refine kI rfl E ?_)|(refine ku rfl (λK H=>?_);go_simp;refine (kUh (an.below (tQ EC E))).mono ?_;rintro e az ⟨a8,rfl,al,ai⟩;obtain ⟨a5,a3,rfl,_⟩:=kD.sl al.raw;replace al:=yD al;have ck:=ai.size;have a7:=E.size;replace L:=yD (L.out.below ai);replace E:=(tQ E ai);refine H _ _ E ?_;clear H K ai));refine jH ?_;refine kS ?_;(first|(refine kI rfl E ?_)|(refine ku rfl (λK H=>?_);go_simp;refine H _ _ (E.alloc E.size _) ?_;clear H K));refine jH ?_;refine yt ?_)
   have a2:=E.size;have ar:=o.size;have V:Qb wr _:=(tQ EC E);obtain ⟨J,U⟩:=AL;go_wp2_with (at_builtin;refine kD.jR rfl _ _ 28 rfl (r:=kH) (e:=107) Bo yj rfl bF1 bF1 (B:=w.heap.size) J.out bF4 bF4 rfl (kD.own.wide (T:=jg wr az) (kD.jq (S:=jg (wS.heap.size) (az.heap.size)) (L.out) (kD.yQ (al.out) (kD.ky aw)) nK nK nT) nK) rfl nT sI nK bF2 vD ?_);exact aP
 exact aS
def kKb {w:Aa} {vl:Ag} {l:Ai kF} (hl:(kD.slice 107 kH).rd w [vl] l) :
    Bt prog 134 #[vl] w (kBu 107 kH l w):=by
 have HL:=yD hl
 obtain ⟨la,lp,rfl,ll⟩:=kD.sl hl.1
 have bc:l.length<=16777216:=hl.2.1
 clear hl
 go_enter func134,ntmps134
 go_wp2
 have O0:kD.kY 107 kH (w.alloc (.cells #[] 107)) (.slice (some ⟨w,0,none⟩) 0 0) [] (jg w (w.alloc (.cells #[] 107)).heap.size) :=
   kD.yR (e:=107) (r:=kH) (w:=w) (cs:=[]) (xs:=[]) (T:=λ_=>False) bF3 bF3 rfl (λ_ h=>h.elim) ⟨Nat.le_refl _,by simp⟩
 go_loopw [3,4] (λv i wr=>∃ k:Nat,k<=l.length/\i=.int .i64 k/\Hid (kD.kY 107 kH wr v (l.take k) (jg w wr))/\Qb w wr) (λ_ i _=>l.length - (intOf i).toNat)
 case atStart=>exact ⟨0,Nat.zero_le _,rfl,yD O0,bR.alloc nL _⟩
 clear O0
 obtain ⟨k,hk,rfl,J,o⟩:=hrel
 obtain ⟨oa,on,oc,ho,ay⟩:=J.out.parts
 obtain rfl:=ho
 have f2:(l.take k).length<=k:=bE6
 by_cases hlt:k < l.length
 · obtain ⟨qb,qo,rfl,ac,ae,af,qr,ap,aq,au⟩:=kD.zL (HL.out.1.below o) hlt rfl;obtain ⟨av,b3⟩:=xE;generalize l[k]=x at *;have bm:=yD b3;clear b3;obtain ⟨x0,x1,x2⟩:=x;obtain ⟨rfl,ah,aj,ak,aw⟩:=jP qr;obtain ⟨ad,a4,rfl,a6,am,bk,rfl,bq⟩:=kD.sx aj (kD.sl ak);have X:kR.rd wr _ x0:=⟨ah,av.1⟩;go_wp2_with fail;refine (zg X).mono ?_;rintro e wT ⟨tc,rfl,OT,ai⟩;obtain ⟨fr,rfl,b7⟩:=kw OT.raw;obtain ⟨b0,dd,rfl,_⟩:=kD.sl b7;clear b7;go_upto_region 6 with fail;generalize O:World.alloc wT _=wC;have EC:Qb wT wC:=tC;have K0:Qd wC wT 0 (Qs b0 x0 dd):=vT;clear O;have ER:=(tQ ai EC);replace ap:=cL ER ap;replace aq:=cL ER aq;replace au:=cL ER au;have an:(kD.slice 105 kQ).rd wC _ x1:=⟨kD.raw.below ak ER,av.2.1⟩;have FX:=yD (λ(W:Aa) (hW:Qb wC W)=>kDk hW K0 ap aq au);refine je (λW=>Qb wC W) [(0,true),(1,true),(3,true),(4,true),(5,true),(6,true),(7,true),(9,true),(10,true),(11,true),(12,true),(13,true),(2,false),(8,false),(14,true),(15,false)] bE5 bE5 qW (bR.drew) ?_;intro wS E;simp only [jG,Aj,Am,Ac,Ad,Az,Bh,Ak,Ap,Ah,Au];all_goals ((iterate 12 refine kS ?_);(first|(refine kI rfl E ?_)|(refine ku rfl (λK H=>?_);go_simp;generalize al:World.alloc wS _=wU;have bp:wU.heap.size=wS.heap.size + 1:=(by rw [<- al];simp);have a5:=E.size;replace E:Qb wC wU:=(by rw [<- al];exact E.alloc E.size _);clear al;refine H _ _ E ?_;clear H K));refine jH ?_;(first|(refine kI rfl E ?_)|(refine ku rfl (λK H=>?_);obtain ⟨ag,wV,Y,F,a3,az⟩:=kD.kPg (P:=prog) (t:=103) (ty:=103) (r:=kQ) (e:=105) (w:=wU) (v:=.slice (some ⟨wS,0,none⟩) 0 0) (xs:=[]) (S:=λ_=>False) (B:=wU.heap.size) underlying103 zK rfl bF1 bF1 kEa kD.kY.void (an.below E) (λ_ h=>h.elim) nL (by have:=an.2.1;simp;unfold Big at this;omega);refine kD.kX _ _ _ rfl bF4 bF4 Y ?_;obtain ⟨aa,ao,L⟩:=F.zJ;obtain rfl:=L;replace E:=(tQ E a3);have Z:=yD (F.own an.2.1);refine H _ _ E ?_;clear H K Y F));refine jH ?_;refine kS ?_;(first|(refine kI rfl E ?_)|(refine ku rfl (λK H=>?_);go_simp;refine H _ _ (E.alloc E.size _) ?_;clear H K));refine jH ?_;refine yt ?_)
   have bg:=EC.size;have ar:=o.size;have fx:=ai.size;have V:Qb wr wV:=(tQ ER E);obtain ⟨J,U⟩:=AL;go_wp2_with (at_builtin;refine kD.jR rfl _ _ 28 rfl (r:=kH) (e:=107) Bo yj rfl bF1 bF1 (B:=w.heap.size) J.out bF4 bF4 rfl (kD.own.wide (T:=jg wr wV) (kD.jq (S:=jg (wr.heap.size) (wV.heap.size)) (OT.below (tQ EC E)) (kD.yQ (Z.out) (kD.ky aw)) nK nK nT) nK) rfl nT sI nK bF2 vD ?_);exact aP
 exact aS
def kOl {w:Aa} {vl:Ag} {l:Ai jK} (hl:(kD.slice 140 kz).rd w [vl] l) :
    Bt prog 99 #[vl] w (kBu 140 kz l w):=by
 have HL:=yD hl
 obtain ⟨la,lp,rfl,ll⟩:=kD.sl hl.1
 have bc:l.length<=16777216:=hl.2.1
 clear hl
 go_enter func99,ntmps99
 go_wp2
 have O0:kD.kY 140 kz (w.alloc (.cells #[] 140)) (.slice (some ⟨w,0,none⟩) 0 0) [] (jg w (w.alloc (.cells #[] 140)).heap.size) :=
   kD.yR (e:=140) (r:=kz) (w:=w) (cs:=[]) (xs:=[]) (T:=λ_=>False) bF3 bF3 rfl (λ_ h=>h.elim) ⟨Nat.le_refl _,by simp⟩
 go_loopw [3,9] (λv i wr=>∃ k:Nat,k<=l.length/\i=.int .i64 k/\Hid (kD.kY 140 kz wr v (l.take k) (jg w wr))/\Qb w wr) (λ_ i _=>l.length - (intOf i).toNat)
 case atStart=>exact ⟨0,Nat.zero_le _,rfl,yD O0,bR.alloc nL _⟩
 clear O0
 obtain ⟨k,hk,rfl,J,o⟩:=hrel
 obtain ⟨oa,on,oc,ho,ay⟩:=J.out.parts
 obtain rfl:=ho
 have f2:(l.take k).length<=k:=bE6
 by_cases hlt:k < l.length
 · obtain ⟨qb,qo,rfl,ac,ae,qr,ap,aq⟩:=kD.get2 (HL.out.1.below o) hlt rfl;obtain ⟨av,b3⟩:=xE;generalize l[k]=x at *;have bm:=yD b3;clear b3;obtain ⟨x0,x1⟩:=x;obtain ⟨rfl,ah,aj,ak⟩:=zh qr;obtain ⟨ad,a4,rfl,a6⟩:=kD.sl aj;have X:kR.rd wr _ x0:=⟨ah,av.1⟩;go_upto_region 5 with fail;generalize O:World.alloc wr _=wC;obtain ⟨EC,bt,M0⟩:=AB;have M1:Qd wC wr 1 (Qn x1):=vT;clear O;have FX:=yD (λ(W:Aa) (hW:Qb wC W)=>kQm hW M0 M1);refine je (λW=>Qb wC W) [(0,true),(1,true),(2,true),(4,true),(5,true),(3,false),(6,true),(7,false)] bE5 bE5 qW (bR.drew) ?_;intro wS E;simp only [jG,Aj,Am,Ac,Ad,Az,Bh,Ak,Ap,Ah,Au];all_goals ((iterate 5 refine kS ?_);(first|(refine kI rfl E ?_)|(refine ku rfl (λK H=>?_);go_simp;refine (zG (X.below (tQ EC E))).mono ?_;rintro e ao ⟨a1,rfl,L,ai⟩;obtain ⟨Y,rfl,F⟩:=kw L.raw;obtain ⟨aa,ag,rfl,Z⟩:=kD.sl F;clear F;replace L:=yD L;have bu:=ai.size;have bv:=E.size;replace E:=(tQ E ai);refine H _ _ E ?_;clear H K ai));refine jH ?_;refine kS ?_;(first|(refine kI rfl E ?_)|(refine ku rfl (λK H=>?_);go_simp;refine H _ _ (E.alloc E.size _) ?_;clear H K));refine jH ?_;refine yt ?_)
   have a2:=E.size;have ar:=o.size;have V:Qb wr _:=(tQ EC E);obtain ⟨J,U⟩:=AL;go_wp2_with (at_builtin;refine kD.jR rfl _ _ 29 rfl (r:=kz) (e:=140) underlying29 kFn rfl bF1 bF1 (B:=w.heap.size) J.out bF4 bF4 rfl (kD.own.wide (T:=jg wr ao) (kD.yQ (L.out) (kD.ky ak)) nK) rfl nT sI nK bF2 vD ?_);exact aP
 exact aS
def kRa {w:Aa} {vl:Ag} {l:Ai jK} (hl:(kD.slice 140 kz).rd w [vl] l) :
    Bt prog 135 #[vl] w (kBu 140 kz l w):=by
 have HL:=yD hl
 obtain ⟨la,lp,rfl,ll⟩:=kD.sl hl.1
 have bc:l.length<=16777216:=hl.2.1
 clear hl
 go_enter func135,ntmps135
 go_wp2
 have O0:kD.kY 140 kz (w.alloc (.cells #[] 140)) (.slice (some ⟨w,0,none⟩) 0 0) [] (jg w (w.alloc (.cells #[] 140)).heap.size) :=
   kD.yR (e:=140) (r:=kz) (w:=w) (cs:=[]) (xs:=[]) (T:=λ_=>False) bF3 bF3 rfl (λ_ h=>h.elim) ⟨Nat.le_refl _,by simp⟩
 go_loopw [3,4] (λv i wr=>∃ k:Nat,k<=l.length/\i=.int .i64 k/\Hid (kD.kY 140 kz wr v (l.take k) (jg w wr))/\Qb w wr) (λ_ i _=>l.length - (intOf i).toNat)
 case atStart=>exact ⟨0,Nat.zero_le _,rfl,yD O0,bR.alloc nL _⟩
 clear O0
 obtain ⟨k,hk,rfl,J,o⟩:=hrel
 obtain ⟨oa,on,oc,ho,ay⟩:=J.out.parts;obtain rfl:=ho
 have f2:(l.take k).length<=k:=bE6
 by_cases hlt:k < l.length
 · obtain ⟨qb,qo,rfl,ac,ae,qr,ap,aq⟩:=kD.get2 (HL.out.1.below o) hlt rfl;obtain ⟨av,b3⟩:=xE;generalize l[k]=x at *;have bm:=yD b3;clear b3;obtain ⟨x0,x1⟩:=x;obtain ⟨rfl,ah,aj,ak⟩:=zh qr;obtain ⟨ad,a4,rfl,a6⟩:=kD.sl aj;have X:kR.rd wr _ x0:=⟨ah,av.1⟩;go_wp2_with fail;refine (zg X).mono ?_;rintro e wT ⟨tc,rfl,OT,ai⟩;obtain ⟨fr,rfl,b7⟩:=kw OT.raw;obtain ⟨b0,dd,rfl,_⟩:=kD.sl b7;clear b7;go_upto_region 6 with fail;generalize O:World.alloc wT _=wC;have EC:Qb wT wC:=tC;have K0:Qd wC wT 0 (Qs b0 x0 dd):=vT;clear O;have ER:=(tQ ai EC);replace ap:=cL ER ap;replace aq:=cL ER aq;have FX:=yD (λ(W:Aa) (hW:Qb wC W)=>kMt hW K0 ap aq);refine zZ (λW=>Qb wC W) [Tt,Tt,Tt,Tt,Tt,Tt,Tt,Tt,Ff] bE5 bE5 qW (bR.drew) ?_;intro wS E;all_goals ((iterate 8 refine kS ?_);(first|(refine kI rfl E ?_)|(refine ku rfl (λK H=>?_);go_simp;refine H _ _ (E.alloc E.size _) ?_;clear H K));refine jH ?_;refine yt ?_)
   have a2:=E.size;have bg:=EC.size;have ar:=o.size;have fx:=ai.size;have V:Qb wr wS:=(tQ ER E);obtain ⟨J,U⟩:=AL;go_wp2_with (at_builtin;refine kD.jR rfl _ _ 29 rfl (r:=kz) (e:=140) underlying29 kFn rfl bF1 bF1 (B:=w.heap.size) J.out bF4 bF4 rfl (kD.own.wide (T:=jg wr wT) (kD.yQ (OT.below (tQ EC E)) (kD.ky ak)) nK) rfl nT sI nK bF2 vD ?_);exact aP
 exact aS
namespace kD
section
variable {α β:Type} {r q:kD α} {e:Bu} {w w':Aa} {v:Ag} {xs:Ai α} {S T:Nat->Prop}
def headed (e:Bu) (n:Nat) (w:Aa) (cs:Ai Ag):Prop :=
  ∀ a len cap,cs=[.slice a len cap]->(len=0/\cap=0)\/∃ b cur,a=some ⟨b,0,none⟩/\w.heap[b]?=some (.cells cur e (0,0))/\cur.size=cap * n
def headed_keep {cs:Ai Ag} (h:(slice e r).is true w cs xs S) (hh:headed e r.n w cs) (k:∀ k,S k->w'.heap[k]?=w.heap[k]?):headed e r.n w' cs:=by
 intro a len cap hc;rcases hh a len cap hc with h1|⟨b,cur,rfl,h2,h3⟩
 · exact .inl h1
 obtain ⟨a',E,cap',h0,h4,h5,h6,h7⟩:=h;rw [hc] at h0;simp only [Aq,Ab,and_true] at h0;obtain ⟨rfl,rfl,rfl⟩:=h0;rcases h7 with ⟨h8,h9⟩|⟨b',off,hb,cur',e',fr,hd,cs',tl,g1,g2,g3,g4,g5,g6,g7⟩
 · have:=h9 rfl;exact .inl ⟨by omega,this⟩
 simp only [Ae,Ba,and_true] at hb;obtain ⟨rfl,rfl⟩:=hb;exact .inr ⟨b,cur,rfl,(k b g6).trans h2,h3⟩
def kRs {α:Type} (e:Bu) (r:kD α):kD (Ai α) :=
  { slice e r with
    is:=λo w cs xs S=>(slice e r).is o w cs xs S/\(o=true->headed e r.n w cs)
    len:=λh=>(slice e r).len h.1
    one:=λh=>(slice e r).one h.1
    mono:=by
      intro o w w' cs xs S h k;refine ⟨(slice e r).mono h.1 k,λho=>?_⟩;subst ho;exact headed_keep h.1 (h.2 rfl) k
    wide:=λh k=>⟨(slice e r).wide h.1 k,h.2⟩
    weak:=λh=>⟨(slice e r).weak h.1,λq=>by cases q⟩
    live:=λh=>⟨(slice e r).live h.1,h.2⟩
    is_zero:=⟨(slice e r).is_zero,λ_ a len cap h=>by
      have F:([.slice none 0 0]:Ai Ag)=[.slice a len cap]:=h;simp only [Aq,Ab,and_true] at F;exact .inl ⟨F.2.1.symm,F.2.2.symm⟩⟩ }
def kY.own0h (h:kY e r w v xs S) (hl:xs.length<=Big):(kRs e r).own w [v] xs S:=by
 have h1:=h.own hl;refine ⟨⟨h1.1,λ_ a len cap hc=>?_⟩,h1.2⟩;obtain ⟨hb,h⟩:=h;simp only [Aq,and_true] at hc;rcases h with ⟨⟨a',rfl⟩,rfl⟩|⟨b,cap',cur,cs,tl,rfl,g1,g2,g3,g4,g5,g6,g7⟩
 · simp only [Ab] at hc;exact .inl ⟨hc.2.1.symm,hc.2.2.symm⟩
 simp only [Ab] at hc;obtain ⟨rfl,rfl,rfl⟩:=hc;exact .inr ⟨b,cur,rfl,g3,g5⟩
def own0_of (h:(kRs e r).own w [v] xs S):kY e r w v xs S:=by
 obtain ⟨⟨⟨a,len,cap,hv,rfl,h2,h3,h4⟩,hh⟩,hl,hb⟩:=h;simp only [Aq,and_true] at hv;subst hv;refine ⟨hb,?_⟩;rcases h4 with ⟨rfl,h5⟩|⟨b,off,rfl,cur,e',fr,hd,cs,tl,g1,g2,g3,g4,g5,g6,g7⟩
 · exact .inl ⟨⟨a,by rw [h5 rfl];rfl⟩,rfl⟩
 rcases hh rfl _ _ _ rfl with ⟨k1,k2⟩|⟨b',cur',k1,k2,k3⟩
 · have:xs=[]:=Bg.1 k1;subst this;subst k2;exact .inl ⟨⟨_,rfl⟩,rfl⟩
 simp only [Ae,Ba,and_true] at k1;obtain ⟨rfl,rfl⟩:=k1;rw [g1] at k2;simp only [Ae,Obj.cells.injEq] at k2;obtain ⟨rfl,rfl,rfl⟩:=k2;have:hd=[]:=Bg.1 g3;subst this;exact .inr ⟨b,cap,cur,cs,tl,rfl,h2,h3,g1,by simpa using g2,k3,g6,yU g7 (λk hk=>⟨hk.1,hk.2 rfl⟩)⟩
def row_to (hn:∀ {cs:Ai Ag} {x:α} {S:Nat->Prop},r.is true w cs x S->q.is true w cs x S):∀ {cells:Ai Ag} {ys:Ai α} {S:Nat->Prop},row r true w cells ys S->row q true w cells ys S
  | _,[],_,h=>h
  | _,y :: ys,_,⟨c,d,A,B,h,h1,h2,hA,hB,hd⟩=>⟨c,d,A,B,h,hn h1,row_to hn h2,hA,hB,hd⟩
def kY.to (hn:∀ {cs:Ai Ag} {x:α} {S:Nat->Prop},r.is true w cs x S->q.is true w cs x S) (hb:∀ x,r.bdd Big x->q.bdd Big x) (hq:q.n=r.n) (h:kY e r w v xs S):kY e q w v xs S:=by
 obtain ⟨h0,h⟩:=h;refine ⟨λx hx=>hb x (h0 x hx),?_⟩;rcases h with h|⟨b,cap,cur,cs,tl,g0,g1,g2,g3,g4,g5,g6,g7⟩
 · exact .inl h
 exact .inr ⟨b,cap,cur,cs,tl,g0,g1,g2,g3,g4,by rw [hq];exact g5,g6,row_to hn g7⟩
def own0_part {b cap len i j p:Nat} (h:kY e r w (.slice (some ⟨b,0,none⟩) len cap) xs S) (hi:i < xs.length) (I:j < r.n) (hp:p=i * r.n + j) :
    ∃ (cs:Ai Ag) (B:Nat->Prop),r.is true w cs xs[i] B/\(∀ k,B k->S k/\k≠b)/\(∀ c,cs[j]?=some c->Qc w b p c)/\w.frozen? ⟨b,p,none⟩=false/\S b/\b < w.heap.size /\
      ∀ (w':Aa) (u:Ag) (y:α) (T:Nat->Prop),(∀ k,S k->¬ B k->w'.heap[k]?=w.heap[k]?)->r.is true w' (cs.set j u) y T->(∀ k,T k->B k\/¬ S k)->r.bdd Big y ->
        kY e r (w'.setCell ⟨b,p,none⟩ u) (.slice (some ⟨b,0,none⟩) len cap) (xs.set i y) (λk=>S k\/T k):=by
 subst hp
 obtain ⟨hb,h⟩:=h
 rcases h with ⟨⟨a,h0⟩,rfl⟩|⟨b',cap',cur,cs,tl,h0,h1,h2,h3,h4,h5,h6,h7⟩
 · simp at hi
 simp only [Ab,Ae,Ba,and_true] at h0
 obtain ⟨rfl,rfl,rfl⟩:=h0
 obtain ⟨c1,c,c2,A,B,C,rfl,hl,r1,r2,L,hA,hB,hC,hd⟩:=kRt h7 hi
 have hc:=r.len r2
 have o:cur=((c1++(c++c2))++tl).toArray:=bF0
 refine ⟨c,B,r2,hB,?_,frozen_of_row w b _ _ _ h3,h6,(Array.getElem?_eq_some_iff.1 h3).1,?_⟩
 · intro u hu;have d4:=(List.getElem?_eq_some_iff.1 hu).1;rw [cell_of_row w b _ _ e (0,0) h3,o];simp only [List.getElem?_toArray];rw [Bq,List.getElem?_append_right bF2,hl,show i * r.n + j - i * r.n=j by omega,Bq,List.getElem?_append_left bF2];exact hu
 intro w' u y T hw hy hT hby
 have ai:∀ k,T k->k≠b:=λk hk q=>by
   subst q;rcases hT _ hk with t | t
   · exact (hB _ t).2 rfl
   · exact t h6
 have hb':w'.heap[b]?=some (.cells cur e (0,0)):=(hw b h6 (λt=>(hB b t).2 rfl)).trans h3
 subst o
 have ac:=heap_setCell_same w' b (i * r.n + j) _ e u hb'
 refine ⟨?_,.inr ⟨b,cap,_,c1++(c.set j u++c2),tl,by rw [Ar],by rw [Ar];exact h1,h2,ac,?_,?_,.inl h6,?_⟩⟩
 · exact lG
 · exact lH
 · simpa using h5
 have E:∀ k,k≠b->(w'.setCell ⟨b,i * r.n + j,none⟩ u).heap[k]?=w'.heap[k]?:=λk hk=>heap_setCell_other w' ⟨b,i * r.n + j,none⟩ k u hk
 have keep:∀ {D:Nat->Prop},(∀ k,D k->S k/\k≠b)->(∀ k,D k->B k->False)->∀ k,D k->(w'.setCell ⟨b,i * r.n + j,none⟩ u).heap[k]?=w.heap[k]?:=λhD hx k hk=>(E k (hD k hk).2).trans (hw k (hD k hk).1 (λt=>hx k hk t))
 refine kYe (A:=A) (B:=T) (C:=C) hi (yV r1 (keep hA (λk a t=>(hd rfl k).1 a t))) (r.mono hy (λk hk=>E k (ai k hk))) (yV L (keep hC (λk a t=>(hd rfl k).2.2 t a))) ?_ ?_ ?_ ?_
 · exact λk hk=>⟨.inl (hA k hk).1,(hA k hk).2⟩
 · exact λk hk=>⟨.inr hk,ai k hk⟩
 · exact λk hk=>⟨.inl (hC k hk).1,(hC k hk).2⟩
 refine λ_ k=>⟨λa t=>?_,(hd rfl k).2.1,λt a=>?_⟩
 · rcases hT k t with q | q
   · exact (hd rfl k).1 a q
   exact q (hA k a).1
 rcases hT k t with q | q
 · exact (hd rfl k).2.2 q a
 exact q (hC k a).1
end
end kD
def kHj:kD kF:=kD.pair kR (kD.pair (kD.kRs 105 kQ) kD.int)
def pend_to {w:Aa} {cs:Ai Ag} {x:kF} {S:Nat->Prop} (h:kHj.is true w cs x S):kH.is true w cs x S:=by
 obtain ⟨c,d,A,B,rfl,h1,⟨c2,d2,A2,B2,rfl,h2,h3,k1,k2,k3⟩,k4,k5,k6⟩:=h;exact ⟨c,c2++d2,A,B,rfl,h1,⟨c2,d2,A2,B2,rfl,h2.1,h3,k1,k2,k3⟩,k4,k5,k6⟩
def kIb {w:Aa} {v:Ag} {l:Ai kF} {S:Nat->Prop} {e:Bu} (h:kD.kY e kHj w v l S):kD.kY e kH w v l S :=
  kD.kY.to (q:=kH) pend_to (λ_ h=>h) rfl h
def pend_part {e:Bu} {w:Aa} {b cap len k:Nat} {l:Ai kF} {S:Nat->Prop} (h:kD.kY e kHj w (.slice (some ⟨b,0,none⟩) len cap) l S) (hk:k < l.length) :
    ∃ (ra:Option Addr) (rp:Nat) (B:Nat->Prop),Qc w b (k * 3 + 1) (.slice ra l[k].2.1.length rp)/\kD.kY 105 kQ w (.slice ra l[k].2.1.length rp) l[k].2.1 B/\(∀ j,B j->S j/\j≠b)/\w.frozen? ⟨b,k * 3 + 1,none⟩=false/\S b/\b < w.heap.size /\
      ∀ (w':Aa) (v':Ag) (F:Ai kV) (T:Nat->Prop),(∀ j,S j->¬ B j->w'.heap[j]?=w.heap[j]?)->kD.kY 105 kQ w' v' F T->(∀ j,T j->B j\/¬ S j)->F.length<=Big ->
        kD.kY e kHj (w'.setCell ⟨b,k * 3 + 1,none⟩ v') (.slice (some ⟨b,0,none⟩) len cap) (l.set k (l[k].1,F,l[k].2.2)) (λj=>S j\/T j):=by
 have bf:=h.1 l[k] (List.getElem_mem hk)
 obtain ⟨cs,D,J,hD,U,o,ck,cg,ac⟩:=kD.own0_part h hk (j:=1) (p:=k * 3 + 1) bF1 rfl
 obtain ⟨c,d,A,B,rfl,h1,⟨c2,d2,A2,B2,rfl,h2,h3,k1,k2,k3⟩,k4,k5,k6⟩:=J
 have dj:c.length=1:=kR.len h1
 obtain ⟨cn,rfl⟩:=List.length_eq_one_iff.1 dj
 obtain ⟨ra,ln,rp,rfl,rfl,L⟩:=h2.1
 have ho:=kD.own0_of (e:=105) (r:=kQ) (w:=w) (v:=.slice ra l[k].2.1.length rp) (xs:=l[k].2.1) (S:=A2) ⟨h2,bf.2.1⟩
 refine ⟨ra,rp,A2,U _ rfl,ho,λj I=>hD j (k5 j (k1 j I)),o,ck,cg,?_⟩
 intro w' v' F T hw hv hT hl
 have H:∀ j,D j->¬ A2 j->w'.heap[j]?=w.heap[j]?:=λj I hn=>hw j (hD j I).1 hn
 have E:∀ j,T j->A j->False:=λj ht ha=>by
   rcases hT j ht with q | q
   · exact k6 rfl j ha (k1 j q)
   · exact q (hD j (k4 j ha)).1
 refine (ac w' v' (l[k].1,F,l[k].2.2) (λj=>A j\/T j) (λj hs hn=>hw j hs (λq=>hn (k5 j (k1 j q)))) ?_ ?_ ⟨bf.1,(hv.own0h hl).2,trivial⟩).wide ?_
 · refine ⟨[cn],v' :: d2,A,T,rfl,kR.mono h1 (λj I=>H j (k4 j I) (λq=>k6 rfl j I (k1 j q))),?_,λj=>.inl,λj=>.inr,λ_ j a t=>E j t a⟩;exact ⟨[v'],d2,T,λ_=>False,rfl,(hv.own0h hl).1,h3,λj I=>I,λj I=>I.elim,λ_ j _ I=>I⟩
 · rintro j (I | I)
   · exact .inl (k4 j I)
   rcases hT j I with q | q
   · exact .inl (k5 j (k1 j q))
   exact .inr q
 rintro j (I | I | I)
 · exact .inl I
 · exact .inl (hD j (k4 j I)).1
 exact .inr I
def kUg {w:Aa} {va:Ag} {x:Ai kV} (ha:(kD.slice 105 kQ).rd w [va] x):Bt prog 184 #[va] w (kBu 105 kQ x w):=by
 obtain ⟨aa,al,rfl,la⟩:=kD.sl ha.1;obtain ⟨HA,E⟩:=FI;cases aa with
 | none =>
   have hx:x=[]:=by
     cases x with
     | nil=>rfl
     | cons y ys =>
       exact aJ
   subst hx;clear ha;go_enter func184,ntmps184;go_wp2;go_ret;exact ⟨_,rfl,kD.kY.void,bR⟩
 | some a =>
   have hb:x.length<=16777216:=ha.2.1;clear ha;go_enter func184,ntmps184;have O0:kD.kY 105 kQ (w.alloc (.cells #[] 105)) (.slice (some ⟨w,0,none⟩) 0 0) [] (λk=>k=w.heap.size):=kD.yR (cs:=[]) (xs:=[]) (T:=λ_=>False) bF3 bF3 rfl (λ_ h=>h.elim) rfl;go_wp2_with (at_builtin;refine kD.yh rfl _ _ 103 rfl (r:=kQ) (e:=105) underlying103 zK rfl bF1 bF1 kEa (B:=w.heap.size) O0 bF4 bF4 (HA.out.alloc _) rY bF3 bE6 ?_);intro v2 w2 hown o hz;have J:=yD hown;obtain ⟨a2,c2,hv⟩:=hown.zJ;obtain rfl:=hv;have D:Qb w w2:=Below.trans bI o;clear hown O0 o;go_wp2;go_ret;exact ⟨_,rfl,by simpa using J.out,D⟩
def kTm {w:Aa} {vl:Ag} {l:Ai kF} (hl:(kD.slice 107 kH).rd w [vl] l) :
    Bt prog 98 #[vl] w (kBu 107 kHj l w):=by
 have HL:=yD hl
 obtain ⟨la,lp,rfl,ll⟩:=kD.sl hl.1
 have bc:l.length<=16777216:=hl.2.1
 clear hl
 go_enter func98,ntmps98
 go_wp2
 have O0:kD.kY 107 kHj (w.alloc (.cells #[] 107)) (.slice (some ⟨w,0,none⟩) 0 0) [] (jg w (w.alloc (.cells #[] 107)).heap.size) :=
   kD.yR (e:=107) (r:=kHj) (w:=w) (cs:=[]) (xs:=[]) (T:=λ_=>False) bF3 bF3 rfl (λ_ h=>h.elim) ⟨Nat.le_refl _,by simp⟩
 go_loopw [3,9] (λv i wr=>∃ k:Nat,k<=l.length/\i=.int .i64 k/\Hid (kD.kY 107 kHj wr v (l.take k) (jg w wr))/\Qb w wr) (λ_ i _=>l.length - (intOf i).toNat)
 case atStart=>exact ⟨0,Nat.zero_le _,rfl,yD O0,bR.alloc nL _⟩
 clear O0
 obtain ⟨k,hk,rfl,J,o⟩:=hrel
 obtain ⟨oa,on,oc,ho,ay⟩:=J.out.parts
 obtain rfl:=ho
 have f2:(l.take k).length<=k:=bE6
 by_cases hlt:k < l.length
 · obtain ⟨qb,qo,rfl,ac,ae,af,qr,ap,aq,au⟩:=kD.zL (HL.out.1.below o) hlt rfl;obtain ⟨av,b3⟩:=xE;generalize l[k]=x at *;have bm:=yD b3;clear b3;obtain ⟨x0,x1,x2⟩:=x;obtain ⟨rfl,ah,aj,ak,aw⟩:=jP qr;obtain ⟨ad,a4,rfl,a6,am,bk,rfl,bq⟩:=kD.sx aj (kD.sl ak);have X:kR.rd wr _ x0:=⟨ah,av.1⟩;have an:(kD.slice 105 kQ).rd wr _ x1:=⟨ak,av.2.1⟩;go_upto_region 5 with fail;generalize O:World.alloc wr _=wC;obtain ⟨EC,bt,M0⟩:=AB;have M1:Qd wC wr 1 (Qs am x1 bk):=vT;have M2:Qd wC wr 2 (Qn x2):=vT;clear O;have FX:=yD (λ(W:Aa) (hW:Qb wC W)=>kMt hW M0 M1 M2);refine je (λW=>Qb wC W) [(0,true),(1,true),(2,true),(4,true),(5,true),(7,true),(8,true),(3,false),(6,false),(9,true),(10,false)] bE5 bE5 qW (bR.drew) ?_;intro wS E;simp only [jG,Aj,Am,Ac,Ad,Az,Bh,Ak,Ap,Ah,Au];all_goals ((iterate 7 refine kS ?_);(first|(refine kI rfl E ?_)|(refine ku rfl (λK H=>?_);go_simp;refine (zG (X.below (tQ EC E))).mono ?_;rintro e ao ⟨a1,rfl,L,ai⟩;obtain ⟨Y,rfl,F⟩:=kw L.raw;obtain ⟨aa,ag,rfl,Z⟩:=kD.sl F;clear F;replace L:=yD L;have bu:=ai.size;have bv:=E.size;replace E:=(tQ E ai);refine H _ _ E ?_;clear H K ai));refine jH ?_;(first|(refine kI rfl E ?_)|(refine ku rfl (λK H=>?_);go_simp;refine (kUg (an.below (tQ EC E))).mono ?_;rintro e az ⟨a8,rfl,al,ai⟩;obtain ⟨a5,a3,rfl,_⟩:=kD.sl al.kKg;replace al:=yD al;have ck:=ai.size;have a7:=E.size;replace L:=yD (L.out.below ai);replace E:=(tQ E ai);refine H _ _ E ?_;clear H K ai));refine jH ?_;refine kS ?_;(first|(refine kI rfl E ?_)|(refine ku rfl (λK H=>?_);go_simp;refine H _ _ (E.alloc E.size _) ?_;clear H K));refine jH ?_;refine yt ?_)
   have a2:=E.size;have ar:=o.size;have V:Qb wr _:=(tQ EC E);obtain ⟨J,U⟩:=AL;go_wp2_with (at_builtin;refine kD.jR rfl _ _ 28 rfl (r:=kHj) (e:=107) Bo yj rfl bF1 bF1 (B:=w.heap.size) J.out bF4 bF4 rfl (kD.own.wide (T:=jg wr az) (kD.jq (S:=jg (wS.heap.size) (az.heap.size)) (L.out) (kD.yQ (al.out.own0h an.2.1) (kD.ky aw)) nK nK nT) nK) rfl nT sI nK bF2 vD ?_);exact aP
 exact aS
def kEl (x:jE):Bool:=(((zx x.1 && decide (0 < x.1.length)) && inR x.2.1 0 1000000) && inR x.2.2.1 0 16) && inR x.2.2.2 1 20
def kDt {w:Aa} {cx:Ai Ag} {x:jE} (hx:jM.raw w cx x) :
    Bt prog 50 #[.agg cx.toArray] w (bQ w (.bool (kEl x))):=by
 have Hx:=yD hx
 obtain ⟨a4,rfl,Y,N,ae,ag,aj⟩:=jY hx
 obtain ⟨a5,a2,rfl,ay⟩:=kD.sl N
 go_enter func50,ntmps50
 go_upto_region 1 with fail
 refine ja ?_
 intro U Z F _
 obtain ⟨O,aa,H,o⟩:=jW F
 clear F
 have FX:=yD (λ(W:Aa) (hW:Qb U W)=>kDk hW O aa H o)
 refine kL (λW=>Qb U W) [Tt,Tt,Ff,Tt,Tt,Tt,Tt,Tt,Tt,Tt,Tt,Tt,Tt,Ff,Tt,Tt,Tt,Tt,Ff,Tt,Tt,Tt,Tt,Ff,Tt,Tt] bR ?_
 intro wS E
 all_goals (refine kS ?_;refine kS ?_;(first | refine zi (zF (kD.raw.below Y (tQ Z E))) (λwS1 E=>?_) | refine kS ?_);refine jT λb bh=>?_;cases b <;> try simp only [jS] at bh)
 all_goals ((iterate 6 refine kS ?_);refine jT λb ar=>?_;cases b <;> try simp only [jS] at ar)
 all_goals (refine kS ?_;refine kS ?_;(first | refine wkC (yL) ?_ | refine kS ?_);refine kS ?_;refine jT λb co=>?_;cases b <;> try simp only [jS] at co)
 all_goals (refine kS ?_;refine kS ?_;(first | refine wkC (yL) ?_ | refine kS ?_);refine kS ?_;refine jT λb I=>?_;cases b <;> try simp only [jS] at I)
 all_goals (refine kS ?_;refine kS ?_;(first | refine wkC (yL) ?_ | refine kS ?_);refine kS ?_;refine jT λb R=>?_;cases b <;> try simp only [jS] at R)
 all_goals (refine kM ?_;have D:=(tQ Z E))
 all_goals first
   | (have L:=yD (show (kEl x)=false by simp only [kEl,Bb,Av,Bc,Bd,Aw,Ay,Bi,Bj,Be,Bf,Bl,bh,ar,co,I,R]);go_wp2;go_ret;exact ⟨kJ L.out.symm,D⟩)
   | (have L:=yD (show (kEl x)=true by simp only [kEl,Bb,Av,Bc,Bd,Aw,Ay,Bi,Bj,Be,Bf,Bl,bh,ar,co,I,R]);go_wp2;go_ret;exact ⟨kJ L.out.symm,D⟩)
def kDu {w:Aa} {cx:Ai Ag} {x:jE} (hx:jM.raw w cx x) :
    Bt prog 33 #[.agg cx.toArray] w (bQ w (.bool (kEl x))):=by
 have Hx:=yD hx
 obtain ⟨a4,rfl,Y,N,ae,ag,aj⟩:=jY hx
 obtain ⟨a5,a2,rfl,ay⟩:=kD.sl N
 go_enter func33,ntmps33
 go_upto_region 1 with fail
 refine ja ?_
 intro U Z F _
 obtain ⟨O,aa,H,o⟩:=jW F
 clear F
 have FX:=yD (λ(W:Aa) (hW:Qb U W)=>kDk hW O aa H o)
 refine kL (λW=>Qb U W) [Tt,Tt,Ff,Tt,Tt,Tt,Tt,Tt,Tt,Tt,Tt,Tt,Tt,Ff,Tt,Tt,Tt,Tt,Ff,Tt,Tt,Tt,Tt,Ff,Tt,Tt] bR ?_
 intro wS E
 all_goals (refine kS ?_;refine kS ?_;(first | refine zi (kBo (kD.raw.below Y (tQ Z E))) (λwS1 E=>?_) | refine kS ?_);refine jT λb bh=>?_;cases b <;> try simp only [jS] at bh)
 all_goals ((iterate 6 refine kS ?_);refine jT λb ar=>?_;cases b <;> try simp only [jS] at ar)
 all_goals (refine kS ?_;refine kS ?_;(first | refine wkC (yC) ?_ | refine kS ?_);refine kS ?_;refine jT λb co=>?_;cases b <;> try simp only [jS] at co)
 all_goals (refine kS ?_;refine kS ?_;(first | refine wkC (yC) ?_ | refine kS ?_);refine kS ?_;refine jT λb I=>?_;cases b <;> try simp only [jS] at I)
 all_goals (refine kS ?_;refine kS ?_;(first | refine wkC (yC) ?_ | refine kS ?_);refine kS ?_;refine jT λb R=>?_;cases b <;> try simp only [jS] at R)
 all_goals (refine kM ?_;have D:=(tQ Z E))
 all_goals first
   | (have L:=yD (show (kEl x)=false by simp only [kEl,Bb,Av,Bc,Bd,Aw,Ay,Bi,Bj,Be,Bf,Bl,bh,ar,co,I,R]);go_wp2;go_ret;exact ⟨kJ L.out.symm,D⟩)
   | (have L:=yD (show (kEl x)=true by simp only [kEl,Bb,Av,Bc,Bd,Aw,Ay,Bi,Bj,Be,Bf,Bl,bh,ar,co,I,R]);go_wp2;go_ret;exact ⟨kJ L.out.symm,D⟩)
namespace kD
section
variable {α:Type} {r:kD α} {e:Bu} {w:Aa} {b cap len i j p:Nat} {xs:Ai α} {y:α} {u:Ag} {S T:Nat->Prop}
def jFt (h:kY e r w (.slice (some ⟨b,0,none⟩) len cap) xs S) (hi:i < xs.length) (I:j < r.n)
    (hy:∀ {cs:Ai Ag} {B:Nat->Prop},r.is true w cs xs[i] B->(∀ k,B k->S k)->r.is true w (cs.set j u) y (λk=>B k\/T k)) (hby:r.bdd Big y) (hST:∀ k,S k->T k->False) (hp:p=i * r.n + j) :
    kY e r (w.setCell ⟨b,p,none⟩ u) (.slice (some ⟨b,0,none⟩) len cap) (xs.set i y) (λk=>S k\/T k)/\Touch (λk=>k=b) w (w.setCell ⟨b,p,none⟩ u):=by
 subst hp
 refine ⟨?_,ze [u] w b _⟩
 obtain ⟨hb,h⟩:=h
 rcases h with ⟨⟨a,h0⟩,rfl⟩|⟨b',cap',cur,cs,tl,h0,h1,h2,h3,h4,h5,h6,h7⟩
 · simp at hi
 simp only [Ab,Ae,Ba,and_true] at h0
 obtain ⟨rfl,rfl,rfl⟩:=h0
 obtain ⟨c1,c,c2,A,B,C,rfl,hl,r1,r2,L,hA,hB,hC,hd⟩:=kRt h7 hi
 have hc:=r.len r2
 have ai:∀ k,T k->k≠b:=λk hk q=>hST k (q ▸ h6) hk
 have n2:=hy r2 (λk hk=>(hB k hk).1)
 have o:cur=((c1++(c++c2))++tl).toArray:=bF0
 subst o
 have ac:=heap_setCell_same w b (i * r.n + j) _ e u h3
 refine ⟨?_,.inr ⟨b,cap,_,c1++(c.set j u++c2),tl,by rw [Ar],by rw [Ar];exact h1,h2,ac,?_,?_,.inl h6,?_⟩⟩
 · exact lG
 · exact lH
 · simpa using h5
 have E:∀ k,k≠b->(w.setCell ⟨b,i * r.n + j,none⟩ u).heap[k]?=w.heap[k]?:=λk hk=>heap_setCell_other w ⟨b,i * r.n + j,none⟩ k u hk
 have mono:∀ {cs:Ai Ag} {ys:Ai α} {D:Nat->Prop},row r true w cs ys D->(∀ k,D k->k≠b)->row r true (w.setCell ⟨b,i * r.n + j,none⟩ u) cs ys D:=λhr hk=>yV hr (λk hd=>E k (hk k hd))
 refine kYe (A:=A) (B:=λk=>B k\/T k) (C:=C) hi (mono r1 (λk hk=>(hA k hk).2)) (r.mono n2 (λk hk=>E k (hk.elim (λq=>(hB k q).2) (ai k)))) (mono L (λk hk=>(hC k hk).2)) ?_ ?_ ?_ ?_
 · exact λk hk=>⟨.inl (hA k hk).1,(hA k hk).2⟩
 · exact λk hk=>hk.elim (λq=>⟨.inl (hB k q).1,(hB k q).2⟩) (λq=>⟨.inr q,ai k q⟩)
 · exact λk hk=>⟨.inl (hC k hk).1,(hC k hk).2⟩
 exact λ_ k=>⟨λa q=>q.elim ((hd rfl k).1 a) (λt=>hST k (hA k a).1 t),(hd rfl k).2.1,λq c=>q.elim (λb=>(hd rfl k).2.2 b c) (λt=>hST k (hC k c).1 t)⟩
end
end kD
end Go.Proofs.YthocbplmdjkifaaGreat
namespace Go.Proofs.YthocbplmdjkifaaGreat
open Go Go.RowKit _root_.Go.Proofs.Tryz
section
variable {P:Program} {l:Ai Oper} {S:Aa->Prop} {Q:Exit->Act->Aa->Prop} {fuel:Nat} {listed:Ai Bool} {a:Act} {w:Aa}
@[irreducible] def tree (P:Program) (l:Ai Oper) (S:Aa->Prop) (Q:Exit->Act->Aa->Prop) (fuel:Nat) (listed:Ai Bool) (a:Act) (w:Aa):Prop:=wpAnyH P .any l.toArray Q S fuel listed.toArray a w
def jAo (k:Nat):listed.toArray.setIfInBounds k true=(listed.set k true).toArray:=by simp
def yg {id:Nat} (S:Aa->Prop) (hm:P.follows .mixedOrders=true) (hS:S { w with drawn:=w.drawn + 1 })
    (h:∀ w',S w'->tree P l S Q l.length (List.replicate l.length false) a w'):(Code.region id l.toArray true).wp P Q a w:=by
 have h:=h _ hS
 exact aB
def kCn {id:Nat} (S:Aa->Prop) (hm:P.follows .mixedOrders=true) (hS:S { w with drawn:=w.drawn + 1 })
    (h:∀ w',w'=w.drew->S w'->tree P l S Q l.length (List.replicate l.length false) a w'):(Code.region id l.toArray true).wp P Q a w:=by
 have h:=h _ rfl hS
 exact aB
def kCr {k:Nat} {o:Oper} {v:Ag} (h0:l[k]?=some o) (hc:(Region.noSelect l.toArray && (Region.free .any l.toArray listed.toArray k && (Bn .any l.toArray listed.toArray).contains k))=true)
    (hQ:∀ c a d v w,Q (.panic c) (Act.put a d v) w->Q (.panic c) a w) (hg:Al o (Br l.toArray a.tmps)=true) (hS:S w)
    (hv:∀ w,S w->(execOp a.eval o).run P w=.ok (.value v) w) (h:tree P l S Q fuel (listed.set k true) (a.put o.dst v) w):tree P l S Q (fuel + 1) listed a w:=by
 unfold tree at h ⊢
 simp only [Bool.and_eq_true] at hc
 rw [<- jAo] at h
 exact wpAnyH_take (by simpa using h0) hc.1 hc.2.1 hc.2.2 (λc a w=>hQ c a _ _ w) (.inl ⟨hg,hv⟩) hS h
def kT (k : Nat) {q : Prop} {o : Oper} {v : Value} (c : q) (h0 : l[k]? = some o := by rfl) (hc : (Region.noSelect l.toArray && (Region.free .any l.toArray listed.toArray k && (Region.ready .any l.toArray listed.toArray).contains k)) = true := by kernel_rfl)
    (hQ:∀ c a d v w,Q (.panic c) (Act.put a d v) w->Q (.panic c) a w:=by exact λc a d v w h=>by cases d <;> exact h) (hg:Region.wanted o (yielded l.toArray a.tmps)=true:=by rfl) (hS:S w:=by exact E)
    (hv:∀ w,S w->(execOp a.eval o).run P w=.ok (.value v) w:=by intro W hW;(try have A:=FX.out W hW);clear hW;go_simp;try with_reducible rfl)
    (hp:Hid q->tree P l S Q fuel (listed.set k true) (a.put o.dst v) w:=by intro kq;(try simp only [Act.put,zA,zB,zC]);exact kq.out):tree P l S Q (fuel + 1) listed a w:=kCr h0 hc hQ hg hS hv (hp (yD c))
def kPd {k:Nat} {o:Oper} (h0:l[k]?=some o) (hg:Al o (Br l.toArray a.tmps)=true)
    (h:∀ K:Act->Aa->Prop,(∀ a' w',S w'->tree P l S Q fuel (listed.set k true) a' w'->K a' w')->o.wp P a w K Q) :
    wpOp P l.toArray Q k (λa' w'=>S w'/\wpAnyH P .any l.toArray Q S fuel (listed.toArray.setIfInBounds k true) a' w') a w:=by
 unfold wpOp
 rw [show l.toArray[k]?=some o by simpa using h0]
 simp only [hg,if_true]
 refine .inl (h _ (λa' w' h1 h2=>⟨h1,?_⟩))
 unfold tree at h2
 rw [jAo]
 exact h2
def kU {k:Nat} {o:Oper} (h0:l[k]?=some o) (hr:(Bn .any l.toArray listed.toArray==[k])=true) (hg:Al o (Br l.toArray a.tmps)=true)
    (h:∀ K:Act->Aa->Prop,(∀ a' w',S w'->tree P l S Q fuel (listed.set k true) a' w'->K a' w')->o.wp P a w K Q):tree P l S Q (fuel + 1) listed a w:=by
 unfold tree
 refine wpAnyH_all bC8 bF3 ?_
 intro j I
 obtain rfl:j=k:=bD7
 exact kPd h0 hg h
def yH {i j:Nat} {W oj:Oper} (hi:l[i]?=some W) (I:l[j]?=some oj) (hr:(Bn .any l.toArray listed.toArray==[i,j])=true) (D:Al W (Br l.toArray a.tmps)=true) (o:Al oj (Br l.toArray a.tmps)=true)
    (h1:∀ K:Act->Aa->Prop,(∀ a' w',S w'->tree P l S Q fuel (listed.set i true) a' w'->K a' w')->W.wp P a w K Q)
    (h2:∀ K:Act->Aa->Prop,(∀ a' w',S w'->tree P l S Q fuel (listed.set j true) a' w'->K a' w')->oj.wp P a w K Q):tree P l S Q (fuel + 1) listed a w:=by
 unfold tree
 refine wpAnyH_all bC8 bF3 ?_
 intro k hk
 rcases List.mem_cons.1 hk with rfl | hk
 · exact kPd hi D h1
 obtain rfl:k=j:=bC2
 exact kPd I o h2
def jv (hr:(Bn .any l.toArray listed.toArray==[])=true) (h:Q .normal a w):tree P l S Q fuel listed a w:=by
 unfold tree;exact wpAnyH_done bC8 h fuel
end
end Go.Proofs.YthocbplmdjkifaaGreat

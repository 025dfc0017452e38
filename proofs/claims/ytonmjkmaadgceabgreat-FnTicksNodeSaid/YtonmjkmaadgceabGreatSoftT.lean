/-
  A region that draws its order, where two operations may come up at one time: both ways are walked. No program in sight.
-/
import Derived.Test.YtonmjkmaadgceabGreatPend
set_option linter.unusedVariables false
set_option linter.defProp false
set_option linter.unusedSimpArgs false
set_option linter.unnecessarySimpa false
set_option maxRecDepth 100000
set_option maxHeartbeats 4000000
open Bool renaming true->Tt,false->Ff
open List.cons renaming injEq->Aa
open Go renaming World->Ab,Value->Al,yielded->Bc
open List renaming getElem?_cons_succ->Ac,getElem?_cons_zero->Ad,drop_succ_cons->Ag,length_cons->Ai,cons_append->Aj,length_nil->Am,nil_append->Ap,drop_zero->Ar,map_cons->Au,length_eq_zero_iff->Av,map_nil->Aw,append_assoc->Bb
open Go.Value.slice renaming injEq->Ae
open Option.some renaming injEq->Ah
open Go.Region renaming wanted->Ak,ready->Ay
open _root_ renaming List->Aq
open Go.Addr.mk renaming injEq->Az
open Go.Proofs.Tryz renaming underlying28->Ba
namespace Go.Proofs.YtonmjkmaadgceabGreat
open Go.RowKit _root_.Go.Proofs.Tryz
def kOz {w:Ab} {vl:Al} {l:Aq kF} (hl:(kD.slice 43 kH).rd w [vl] l) :
    Calls prog 48 #[vl] w (kBs 43 kH l w):=by
 have HL:=yD hl
 obtain ⟨la,lp,rfl,ll⟩:=kD.sl hl.1
 have a5:l.length<=16777216:=hl.2.1
 clear hl
 go_enter func48,ntmps48
 go_wp2
 have O0:kD.kR 43 kH (w.alloc (.cells #[] 43)) (.slice (some ⟨w.heap.size,0,none⟩) 0 0) [] (jX w.heap.size (w.alloc (.cells #[] 43)).heap.size) :=
   kD.yO (e:=43) (r:=kH) (w:=w) (cs:=[]) (xs:=[]) (T:=λ_=>False) bD0 bD0 rfl (λ_ h=>h.elim) ⟨Nat.le_refl _,by simp⟩
 go_loopw [3,9] (λv i wr=>∃ k:Nat,k<=l.length/\i=.int .i64 k/\Hid (kD.kR 43 kH wr v (l.take k) (jX w.heap.size wr.heap.size))/\Qb w wr) (λ_ i _=>l.length - (intOf i).toNat)
 case atStart=>exact ⟨0,Nat.zero_le _,rfl,yD O0,bR.alloc nL _⟩
 clear O0
 obtain ⟨k,hk,rfl,J,o⟩:=hrel
 obtain ⟨oa,on,oc,ho,bb⟩:=J.out.parts;obtain rfl:=ho
 have a1:(l.take k).length<=k:=bC4
 by_cases hlt:k < l.length
 · obtain ⟨qb,qo,rfl,ae,af,ah,qr,ar,ax,a2⟩:=kD.zg (HL.out.1.below o) hlt rfl;obtain ⟨av,ag⟩:=xZ;generalize l[k]=x at *;have ba:=yD ag;clear ag;obtain ⟨x0,x1,x2⟩:=x;obtain ⟨bg,dc,Z,aj,ap,ao,au⟩:=jQ qr;simp only [Aa,and_true] at Z;obtain ⟨rfl,rfl,rfl⟩:=Z;obtain ⟨ac,ay,rfl,bd⟩:=kD.sl ap;obtain ⟨ai,bc,rfl,bl⟩:=kD.sl ao;have U:kU.rd wr _ x0:=⟨aj,av.1⟩;have an:(kD.slice 45 jA).rd wr _ x1:=⟨ao,av.2.1⟩;go_upto_region 5 with fail;generalize X:World.alloc wr _=wC;obtain ⟨EC,ca,M0⟩:=AR;have M1:Qd wC wr 1 (.slice ai (x1).length bc):=tL;have M2:Qd wC wr 2 (.int .i64 x2):=tL;clear X;have FX:=yD (λ(W:Ab) (hW:Qb wC W)=>kJd hW M0 M1 M2);refine jU (λW=>Qb wC W) [(0,true),(1,true),(2,true),(4,true),(5,true),(7,true),(8,true),(3,false),(6,false),(9,true),(10,false)] bC3 bC3 pK (bR.drew) ?_;intro wS E;simp only [kz,Ai,Am,Ac,Ad,Au,Aw,Aj,Ap,Ag,Ar];iterate 7
    all_goals refine ku ?_
   all_goals first|(refine kI rfl E ?_)|(refine kw rfl (λK H=>?_);go_simp;refine (zI (U.below (tQ EC E))).mono ?_;rintro e am ⟨az,rfl,N,aq⟩;obtain ⟨Y,rfl,L⟩:=kZ N.raw;obtain ⟨ad,ak,rfl,aa⟩:=kD.sl L;clear L;replace N:=yD N;have da:=aq.size;have du:=E.size;replace E:=(tQ E aq);refine H _ _ E ?_;clear H K aq)
   all_goals refine jF ?_
   all_goals first|(refine kI rfl E ?_)|(refine kw rfl (λK H=>?_);go_simp;refine (kPn (an.below (tQ EC E))).mono ?_;rintro e a3 ⟨a9,rfl,al,aq⟩;obtain ⟨a8,a4,rfl,_⟩:=kD.sl al.raw;replace al:=yD al;have b9:=aq.size;have a7:=E.size;replace N:=yD (N.out.below aq);replace E:=(tQ E aq);refine H _ _ E ?_;clear H K aq)
   all_goals refine jF ?_
   all_goals refine ku ?_
   all_goals first|(refine kI rfl E ?_)|(refine kw rfl (λK H=>?_);go_simp;refine H _ _ (E.alloc E.size _) ?_;clear H K)
   all_goals refine jF ?_
   all_goals refine jc ?_
   obtain ⟨bj,bi,aw,ab,J,O⟩:=AP;go_wp2_with (at_builtin;refine kD.jL rfl _ _ 28 rfl (r:=kH) (e:=43) Ba yP rfl bC8 bC8 (B:=w.heap.size) J.out bD1 bD1 rfl (kD.own.wide (T:=jX wr.heap.size a3.heap.size) (kD.jl (S:=jX (wS.heap.size) (a3.heap.size)) (N.out) (kD.jv (al.out) (kD.jB au)) mH mH mM) mH) rfl mM qU mH bC9 sG ?_);exact aI
 exact aL
def kHg {w:Ab} {vl:Al} {l:Aq kF} (hl:(kD.slice 43 kH).rd w [vl] l) :
    Calls prog 69 #[vl] w (kBs 43 kH l w):=by
 have HL:=yD hl
 obtain ⟨la,lp,rfl,ll⟩:=kD.sl hl.1
 have a5:l.length<=16777216:=hl.2.1
 clear hl
 go_enter func69,ntmps69
 go_wp2
 have O0:kD.kR 43 kH (w.alloc (.cells #[] 43)) (.slice (some ⟨w.heap.size,0,none⟩) 0 0) [] (jX w.heap.size (w.alloc (.cells #[] 43)).heap.size) :=
   kD.yO (e:=43) (r:=kH) (w:=w) (cs:=[]) (xs:=[]) (T:=λ_=>False) bD0 bD0 rfl (λ_ h=>h.elim) ⟨Nat.le_refl _,by simp⟩
 go_loopw [3,4] (λv i wr=>∃ k:Nat,k<=l.length/\i=.int .i64 k/\Hid (kD.kR 43 kH wr v (l.take k) (jX w.heap.size wr.heap.size))/\Qb w wr) (λ_ i _=>l.length - (intOf i).toNat)
 case atStart=>exact ⟨0,Nat.zero_le _,rfl,yD O0,bR.alloc nL _⟩
 clear O0
 obtain ⟨k,hk,rfl,J,o⟩:=hrel
 obtain ⟨oa,on,oc,ho,bb⟩:=J.out.parts;obtain rfl:=ho
 have a1:(l.take k).length<=k:=bC4
 by_cases hlt:k < l.length
 · obtain ⟨qb,qo,rfl,ae,af,ah,qr,ar,ax,a2⟩:=kD.zg (HL.out.1.below o) hlt rfl;obtain ⟨av,ag⟩:=xZ;generalize l[k]=x at *;have ba:=yD ag;clear ag;obtain ⟨x0,x1,x2⟩:=x;obtain ⟨bg,dc,Z,aj,ap,ao,au⟩:=jQ qr;simp only [Aa,and_true] at Z;obtain ⟨rfl,rfl,rfl⟩:=Z;obtain ⟨ac,ay,rfl,bd⟩:=kD.sl ap;obtain ⟨ai,bc,rfl,bl⟩:=kD.sl ao;have U:kU.rd wr _ x0:=⟨aj,av.1⟩;go_wp2_with fail;refine (zJ U).mono ?_;rintro e wT ⟨tc,rfl,OT,aq⟩;obtain ⟨cf,rfl,al⟩:=kZ OT.raw;obtain ⟨a7,br,rfl,_⟩:=kD.sl al;clear al;go_upto_region 6 with fail;generalize X:World.alloc wT _=wC;obtain ⟨EC,K0⟩:=FY;clear X;have ER:=(tQ aq EC);replace ar:=cL ER ar;replace ax:=cL ER ax;replace a2:=cL ER a2;have an:(kD.slice 45 jA).rd wC _ x1:=⟨kD.raw.below ao ER,av.2.1⟩;have FX:=yD (λ(W:Ab) (hW:Qb wC W)=>kGr hW K0 ar ax a2);refine jU (λW=>Qb wC W) [(0,true),(1,true),(3,true),(4,true),(5,true),(6,true),(7,true),(9,true),(10,true),(11,true),(12,true),(13,true),(2,false),(8,false),(14,true),(15,false)] bC3 bC3 pK (bR.drew) ?_;intro wS E;simp only [kz,Ai,Am,Ac,Ad,Au,Aw,Aj,Ap,Ag,Ar];iterate 12
    all_goals refine ku ?_
   all_goals first|(refine kI rfl E ?_)|(refine kw rfl (λK H=>?_);go_simp;generalize am:World.alloc wS _=wU;have a8:wU.heap.size=wS.heap.size + 1:=(by rw [<- am];simp);have cg:=E.size;replace E:Qb wC wU:=(by rw [<- am];exact E.alloc E.size _);clear am;refine H _ _ E ?_;clear H K)
   all_goals refine jF ?_
   all_goals first|(refine kI rfl E ?_)|(refine kw rfl (λK H=>?_);obtain ⟨ak,wV,Y,L,a4,a3⟩:=kD.kLk (P:=prog) (t:=41) (ty:=41) (r:=jA) (e:=45) (w:=wU) (v:=.slice (some ⟨wS.heap.size,0,none⟩) 0 0) (xs:=[]) (S:=λ_=>False) (B:=wU.heap.size) underlying41 zo rfl bC8 bC8 kHm kD.kR.void (an.below E) (λ_ h=>h.elim) nL (by have:=an.2.1;simp;unfold Big at this;omega);refine kD.kV _ _ _ rfl bD1 bD1 Y ?_;obtain ⟨ad,az,N⟩:=L.zP;obtain rfl:=N;replace E:=(tQ E a4);have aa:=yD (L.own an.2.1);refine H _ _ E ?_;clear H K Y L)
   all_goals refine jF ?_
   all_goals refine ku ?_
   all_goals first|(refine kI rfl E ?_)|(refine kw rfl (λK H=>?_);go_simp;refine H _ _ (E.alloc E.size _) ?_;clear H K)
   all_goals refine jF ?_
   all_goals refine jc ?_
   have bj:=E.size;have bi:=EC.size;have aw:=o.size;have bo:=aq.size;have ab:Qb wr wV:=(tQ ER E);replace J:=yD (J.out.below ab);have O:=(tQ o ab);go_wp2_with (at_builtin;refine kD.jL rfl _ _ 28 rfl (r:=kH) (e:=43) Ba yP rfl bC8 bC8 (B:=w.heap.size) J.out bD1 bD1 rfl (kD.own.wide (T:=jX wr.heap.size wV.heap.size) (kD.jl (S:=jX (wr.heap.size) (wV.heap.size)) (OT.below (tQ EC E)) (kD.jv (aa.out) (kD.jB au)) mH mH mM) mH) rfl mM qU mH bC9 sG ?_);exact aI
 exact aL
def kKu {w:Ab} {vl:Al} {l:Aq jH} (hl:(kD.slice 99 jG).rd w [vl] l) :
    Calls prog 49 #[vl] w (kBs 99 jG l w):=by
 have HL:=yD hl
 obtain ⟨la,lp,rfl,ll⟩:=kD.sl hl.1
 have a5:l.length<=16777216:=hl.2.1
 clear hl
 go_enter func49,ntmps49
 go_wp2
 have O0:kD.kR 99 jG (w.alloc (.cells #[] 99)) (.slice (some ⟨w.heap.size,0,none⟩) 0 0) [] (jX w.heap.size (w.alloc (.cells #[] 99)).heap.size) :=
   kD.yO (e:=99) (r:=jG) (w:=w) (cs:=[]) (xs:=[]) (T:=λ_=>False) bD0 bD0 rfl (λ_ h=>h.elim) ⟨Nat.le_refl _,by simp⟩
 go_loopw [3,9] (λv i wr=>∃ k:Nat,k<=l.length/\i=.int .i64 k/\Hid (kD.kR 99 jG wr v (l.take k) (jX w.heap.size wr.heap.size))/\Qb w wr) (λ_ i _=>l.length - (intOf i).toNat)
 case atStart=>exact ⟨0,Nat.zero_le _,rfl,yD O0,bR.alloc nL _⟩
 clear O0
 obtain ⟨k,hk,rfl,J,o⟩:=hrel
 obtain ⟨oa,on,oc,ho,bb⟩:=J.out.parts;obtain rfl:=ho
 have a1:(l.take k).length<=k:=bC4
 by_cases hlt:k < l.length
 · obtain ⟨qb,qo,rfl,ae,af,qr,ar,ax⟩:=kD.get2 (HL.out.1.below o) hlt rfl;obtain ⟨av,ag⟩:=xZ;generalize l[k]=x at *;have ba:=yD ag;clear ag;obtain ⟨x0,x1⟩:=x;obtain ⟨bg,Z,aj,ap,ao⟩:=kEm qr;simp only [Aa,and_true] at Z;obtain ⟨rfl,rfl⟩:=Z;obtain ⟨ac,ay,rfl,bd⟩:=kD.sl ap;have U:kU.rd wr _ x0:=⟨aj,av.1⟩;go_upto_region 5 with fail;generalize X:World.alloc wr _=wC;obtain ⟨EC,ca,M0⟩:=AR;have M1:Qd wC wr 1 (.int .i64 x1):=tL;clear X;have FX:=yD (λ(W:Ab) (hW:Qb wC W)=>kIk hW M0 M1);refine jU (λW=>Qb wC W) [(0,true),(1,true),(2,true),(4,true),(5,true),(3,false),(6,true),(7,false)] bC3 bC3 pK (bR.drew) ?_;intro wS E;simp only [kz,Ai,Am,Ac,Ad,Au,Aw,Aj,Ap,Ag,Ar];iterate 5
    all_goals refine ku ?_
   all_goals first|(refine kI rfl E ?_)|(refine kw rfl (λK H=>?_);go_simp;refine (zI (U.below (tQ EC E))).mono ?_;rintro e am ⟨az,rfl,N,aq⟩;obtain ⟨Y,rfl,L⟩:=kZ N.raw;obtain ⟨ad,ak,rfl,aa⟩:=kD.sl L;clear L;replace N:=yD N;have da:=aq.size;have du:=E.size;replace E:=(tQ E aq);refine H _ _ E ?_;clear H K aq)
   all_goals refine jF ?_
   all_goals refine ku ?_
   all_goals first|(refine kI rfl E ?_)|(refine kw rfl (λK H=>?_);go_simp;refine H _ _ (E.alloc E.size _) ?_;clear H K)
   all_goals refine jF ?_
   all_goals refine jc ?_
   obtain ⟨bj,bi,aw,ab,J,O⟩:=AP;go_wp2_with (at_builtin;refine kD.jL rfl _ _ 29 rfl (r:=jG) (e:=99) underlying29 kEi rfl bC8 bC8 (B:=w.heap.size) J.out bD1 bD1 rfl (kD.own.wide (T:=jX wr.heap.size am.heap.size) (kD.jv (N.out) (kD.jB ao)) mH) rfl mM qU mH bC9 sG ?_);exact aI
 exact aL
def kMo {w:Ab} {vl:Al} {l:Aq jH} (hl:(kD.slice 99 jG).rd w [vl] l) :
    Calls prog 70 #[vl] w (kBs 99 jG l w):=by
 have HL:=yD hl
 obtain ⟨la,lp,rfl,ll⟩:=kD.sl hl.1
 have a5:l.length<=16777216:=hl.2.1
 clear hl
 go_enter func70,ntmps70
 go_wp2
 have O0:kD.kR 99 jG (w.alloc (.cells #[] 99)) (.slice (some ⟨w.heap.size,0,none⟩) 0 0) [] (jX w.heap.size (w.alloc (.cells #[] 99)).heap.size) :=
   kD.yO (e:=99) (r:=jG) (w:=w) (cs:=[]) (xs:=[]) (T:=λ_=>False) bD0 bD0 rfl (λ_ h=>h.elim) ⟨Nat.le_refl _,by simp⟩
 go_loopw [3,4] (λv i wr=>∃ k:Nat,k<=l.length/\i=.int .i64 k/\Hid (kD.kR 99 jG wr v (l.take k) (jX w.heap.size wr.heap.size))/\Qb w wr) (λ_ i _=>l.length - (intOf i).toNat)
 case atStart=>exact ⟨0,Nat.zero_le _,rfl,yD O0,bR.alloc nL _⟩
 clear O0
 obtain ⟨k,hk,rfl,J,o⟩:=hrel
 obtain ⟨oa,on,oc,ho,bb⟩:=J.out.parts;obtain rfl:=ho
 have a1:(l.take k).length<=k:=bC4
 by_cases hlt:k < l.length
 · obtain ⟨qb,qo,rfl,ae,af,qr,ar,ax⟩:=kD.get2 (HL.out.1.below o) hlt rfl;obtain ⟨av,ag⟩:=xZ;generalize l[k]=x at *;have ba:=yD ag;clear ag;obtain ⟨x0,x1⟩:=x;obtain ⟨bg,Z,aj,ap,ao⟩:=kEm qr;simp only [Aa,and_true] at Z;obtain ⟨rfl,rfl⟩:=Z;obtain ⟨ac,ay,rfl,bd⟩:=kD.sl ap;have U:kU.rd wr _ x0:=⟨aj,av.1⟩;go_wp2_with fail;refine (zJ U).mono ?_;rintro e wT ⟨tc,rfl,OT,aq⟩;obtain ⟨cf,rfl,al⟩:=kZ OT.raw;obtain ⟨a7,br,rfl,_⟩:=kD.sl al;clear al;go_upto_region 6 with fail;generalize X:World.alloc wT _=wC;obtain ⟨EC,K0⟩:=FY;clear X;have ER:=(tQ aq EC);replace ar:=cL ER ar;replace ax:=cL ER ax;have FX:=yD (λ(W:Ab) (hW:Qb wC W)=>kJd hW K0 ar ax);refine yH (λW=>Qb wC W) [Tt,Tt,Tt,Tt,Tt,Tt,Tt,Tt,Ff] bC3 bC3 pK (bR.drew) ?_;intro wS E;iterate 8
    all_goals refine ku ?_
   all_goals first|(refine kI rfl E ?_)|(refine kw rfl (λK H=>?_);go_simp;refine H _ _ (E.alloc E.size _) ?_;clear H K)
   all_goals refine jF ?_
   all_goals refine jc ?_
   obtain ⟨bj,bi,aw,bo,ab,J,O⟩:=EO;go_wp2_with (at_builtin;refine kD.jL rfl _ _ 29 rfl (r:=jG) (e:=99) underlying29 kEi rfl bC8 bC8 (B:=w.heap.size) J.out bD1 bD1 rfl (kD.own.wide (T:=jX wr.heap.size wT.heap.size) (kD.jv (OT.below (tQ EC E)) (kD.jB ao)) mH) rfl mM qU mH bC9 sG ?_);exact aI
 exact aL
namespace kD
section
variable {α β:Type} {r q:kD α} {e:TypeId} {w w':Ab} {v:Al} {xs:Aq α} {S T:Nat->Prop}
def headed (e:TypeId) (n:Nat) (w:Ab) (cs:Aq Al):Prop :=
  ∀ a len cap,cs=[.slice a len cap]->(len=0/\cap=0)\/∃ b cur,a=some ⟨b,0,none⟩/\w.heap[b]?=some (.cells cur e (0,0))/\cur.size=cap * n
def headed_keep {cs:Aq Al} (h:(slice e r).is true w cs xs S) (hh:headed e r.n w cs) (k:∀ k,S k->w'.heap[k]?=w.heap[k]?):headed e r.n w' cs:=by
 intro a len cap hc;rcases hh a len cap hc with h1|⟨b,cur,rfl,h2,h3⟩
 · exact .inl h1
 obtain ⟨a',E,cap',h0,h4,h5,h6,h7⟩:=h;rw [hc] at h0;simp only [Aa,Ae,and_true] at h0;obtain ⟨rfl,rfl,rfl⟩:=h0;rcases h7 with ⟨h8,h9⟩|⟨b',off,hb,cur',e',fr,hd,cs',tl,g1,g2,g3,g4,g5,g6,g7⟩
 · have:=h9 rfl;exact .inl ⟨by omega,this⟩
 simp only [Ah,Az,and_true] at hb;obtain ⟨rfl,rfl⟩:=hb;exact .inr ⟨b,cur,rfl,(k b g6).trans h2,h3⟩
def slice0 {α:Type} (e:TypeId) (r:kD α):kD (Aq α) :=
  { slice e r with
    is:=λo w cs xs S=>(slice e r).is o w cs xs S/\(o=true->headed e r.n w cs)
    len:=λh=>(slice e r).len h.1
    one:=λh=>(slice e r).one h.1
    mono:=by
      intro o w w' cs xs S h k;refine ⟨(slice e r).mono h.1 k,λho=>?_⟩;subst ho;exact headed_keep h.1 (h.2 rfl) k
    wide:=λh k=>⟨(slice e r).wide h.1 k,h.2⟩
    weak:=λh=>⟨(slice e r).weak h.1,λq=>by cases q⟩
    live:=λh=>⟨(slice e r).live h.1,h.2⟩
    is_zero:=⟨(slice e r).is_zero,λ_ a len cap h=>by
      have F:([.slice none 0 0]:Aq Al)=[.slice a len cap]:=h;simp only [Aa,Ae,and_true] at F;exact .inl ⟨F.2.1.symm,F.2.2.symm⟩⟩ }
def kR.own0h (h:kR e r w v xs S) (hl:xs.length<=Big):(slice0 e r).own w [v] xs S:=by
 have h1:=h.own hl;refine ⟨⟨h1.1,λ_ a len cap hc=>?_⟩,h1.2⟩;obtain ⟨hb,h⟩:=h;simp only [Aa,and_true] at hc;rcases h with ⟨⟨a',rfl⟩,rfl⟩|⟨b,cap',cur,cs,tl,rfl,g1,g2,g3,g4,g5,g6,g7⟩
 · simp only [Ae] at hc;exact .inl ⟨hc.2.1.symm,hc.2.2.symm⟩
 simp only [Ae] at hc;obtain ⟨rfl,rfl,rfl⟩:=hc;exact .inr ⟨b,cur,rfl,g3,g5⟩
def own0_of (h:(slice0 e r).own w [v] xs S):kR e r w v xs S:=by
 obtain ⟨⟨⟨a,len,cap,hv,rfl,h2,h3,h4⟩,hh⟩,hl,hb⟩:=h;simp only [Aa,and_true] at hv;subst hv;refine ⟨hb,?_⟩;rcases h4 with ⟨rfl,h5⟩|⟨b,off,rfl,cur,e',fr,hd,cs,tl,g1,g2,g3,g4,g5,g6,g7⟩
 · exact .inl ⟨⟨a,by rw [h5 rfl];rfl⟩,rfl⟩
 rcases hh rfl _ _ _ rfl with ⟨k1,k2⟩|⟨b',cur',k1,k2,k3⟩
 · have:xs=[]:=Av.1 k1;subst this;subst k2;exact .inl ⟨⟨_,rfl⟩,rfl⟩
 simp only [Ah,Az,and_true] at k1;obtain ⟨rfl,rfl⟩:=k1;rw [g1] at k2;simp only [Ah,Obj.cells.injEq] at k2;obtain ⟨rfl,rfl,rfl⟩:=k2;have:hd=[]:=Av.1 g3;subst this;exact .inr ⟨b,cap,cur,cs,tl,rfl,h2,h3,g1,by simpa using g2,k3,g6,yL g7 (λk hk=>⟨hk.1,hk.2 rfl⟩)⟩
def row_to (hn:∀ {cs:Aq Al} {x:α} {S:Nat->Prop},r.is true w cs x S->q.is true w cs x S):∀ {cells:Aq Al} {ys:Aq α} {S:Nat->Prop},row r true w cells ys S->row q true w cells ys S
  | _,[],_,h=>h
  | _,y :: ys,_,⟨c,d,A,B,h,h1,h2,hA,hB,hd⟩=>⟨c,d,A,B,h,hn h1,row_to hn h2,hA,hB,hd⟩
def kR.to (hn:∀ {cs:Aq Al} {x:α} {S:Nat->Prop},r.is true w cs x S->q.is true w cs x S) (hb:∀ x,r.bdd Big x->q.bdd Big x) (hq:q.n=r.n) (h:kR e r w v xs S):kR e q w v xs S:=by
 obtain ⟨h0,h⟩:=h;refine ⟨λx hx=>hb x (h0 x hx),?_⟩;rcases h with h|⟨b,cap,cur,cs,tl,g0,g1,g2,g3,g4,g5,g6,g7⟩
 · exact .inl h
 exact .inr ⟨b,cap,cur,cs,tl,g0,g1,g2,g3,g4,by rw [hq];exact g5,g6,row_to hn g7⟩
end
end kD
def kGo:kD kF:=kD.pair kU (kD.pair (kD.slice0 45 jA) kD.int)
def kPm {w:Ab} {va:Al} {x:Aq kW} (ha:(kD.slice 45 jA).rd w [va] x):Calls prog 100 #[va] w (kBs 45 jA x w):=by
 obtain ⟨aa,al,rfl,la⟩:=kD.sl ha.1;obtain ⟨HA,D⟩:=GZ;cases aa with
 | none =>
   have hx:x=[]:=by
     cases x with
     | nil=>rfl
     | cons y ys =>
       exact aD
   subst hx;clear ha;go_enter func100,ntmps100;go_wp2;go_ret;exact ⟨_,rfl,kD.kR.void,bR⟩
 | some a =>
   have hb:x.length<=16777216:=ha.2.1;clear ha;go_enter func100,ntmps100;have O0:kD.kR 45 jA (w.alloc (.cells #[] 45)) (.slice (some ⟨w.heap.size,0,none⟩) 0 0) [] (λk=>k=w.heap.size):=kD.yO (cs:=[]) (xs:=[]) (T:=λ_=>False) bD0 bD0 rfl (λ_ h=>h.elim) rfl;go_wp2_with (at_builtin;refine kD.yQ rfl _ _ 41 rfl (r:=jA) (e:=45) underlying41 zo rfl bC8 bC8 kHm (B:=w.heap.size) O0 bD1 bD1 (HA.out.alloc _) qJ bD0 bC4 ?_);intro v2 V hown o hz;have J:=yD hown;obtain ⟨a2,c2,hv⟩:=hown.zP;obtain rfl:=hv;have F:Qb w V:=Below.trans bF o;clear hown O0 o;go_wp2;go_ret;exact ⟨_,rfl,by simpa using J.out,F⟩
def kPa {w:Ab} {vl:Al} {l:Aq kF} (hl:(kD.slice 43 kH).rd w [vl] l) :
    Calls prog 48 #[vl] w (kBs 43 kGo l w):=by
 have HL:=yD hl
 obtain ⟨la,lp,rfl,ll⟩:=kD.sl hl.1
 have a5:l.length<=16777216:=hl.2.1
 clear hl
 go_enter func48,ntmps48
 go_wp2
 have O0:kD.kR 43 kGo (w.alloc (.cells #[] 43)) (.slice (some ⟨w.heap.size,0,none⟩) 0 0) [] (jX w.heap.size (w.alloc (.cells #[] 43)).heap.size) :=
   kD.yO (e:=43) (r:=kGo) (w:=w) (cs:=[]) (xs:=[]) (T:=λ_=>False) bD0 bD0 rfl (λ_ h=>h.elim) ⟨Nat.le_refl _,by simp⟩
 go_loopw [3,9] (λv i wr=>∃ k:Nat,k<=l.length/\i=.int .i64 k/\Hid (kD.kR 43 kGo wr v (l.take k) (jX w.heap.size wr.heap.size))/\Qb w wr) (λ_ i _=>l.length - (intOf i).toNat)
 case atStart=>exact ⟨0,Nat.zero_le _,rfl,yD O0,bR.alloc nL _⟩
 clear O0
 obtain ⟨k,hk,rfl,J,o⟩:=hrel
 obtain ⟨oa,on,oc,ho,bb⟩:=J.out.parts;obtain rfl:=ho
 have a1:(l.take k).length<=k:=bC4
 by_cases hlt:k < l.length
 · obtain ⟨qb,qo,rfl,ae,af,ah,qr,ar,ax,a2⟩:=kD.zg (HL.out.1.below o) hlt rfl;obtain ⟨av,ag⟩:=xZ;generalize l[k]=x at *;have ba:=yD ag;clear ag;obtain ⟨x0,x1,x2⟩:=x;obtain ⟨bg,dc,Z,aj,ap,ao,au⟩:=jQ qr;simp only [Aa,and_true] at Z;obtain ⟨rfl,rfl,rfl⟩:=Z;obtain ⟨ac,ay,rfl,bd⟩:=kD.sl ap;obtain ⟨ai,bc,rfl,bl⟩:=kD.sl ao;have U:kU.rd wr _ x0:=⟨aj,av.1⟩;have an:(kD.slice 45 jA).rd wr _ x1:=⟨ao,av.2.1⟩;go_upto_region 5 with fail;generalize X:World.alloc wr _=wC;obtain ⟨EC,ca,M0⟩:=AR;have M1:Qd wC wr 1 (.slice ai (x1).length bc):=tL;have M2:Qd wC wr 2 (.int .i64 x2):=tL;clear X;have FX:=yD (λ(W:Ab) (hW:Qb wC W)=>kJd hW M0 M1 M2);refine jU (λW=>Qb wC W) [(0,true),(1,true),(2,true),(4,true),(5,true),(7,true),(8,true),(3,false),(6,false),(9,true),(10,false)] bC3 bC3 pK (bR.drew) ?_;intro wS E;simp only [kz,Ai,Am,Ac,Ad,Au,Aw,Aj,Ap,Ag,Ar];iterate 7
    all_goals refine ku ?_
   all_goals first|(refine kI rfl E ?_)|(refine kw rfl (λK H=>?_);go_simp;refine (zI (U.below (tQ EC E))).mono ?_;rintro e am ⟨az,rfl,N,aq⟩;obtain ⟨Y,rfl,L⟩:=kZ N.raw;obtain ⟨ad,ak,rfl,aa⟩:=kD.sl L;clear L;replace N:=yD N;have da:=aq.size;have du:=E.size;replace E:=(tQ E aq);refine H _ _ E ?_;clear H K aq)
   all_goals refine jF ?_
   all_goals first|(refine kI rfl E ?_)|(refine kw rfl (λK H=>?_);go_simp;refine (kPm (an.below (tQ EC E))).mono ?_;rintro e a3 ⟨a9,rfl,al,aq⟩;obtain ⟨a8,a4,rfl,_⟩:=kD.sl al.kBc;replace al:=yD al;have b9:=aq.size;have a7:=E.size;replace N:=yD (N.out.below aq);replace E:=(tQ E aq);refine H _ _ E ?_;clear H K aq)
   all_goals refine jF ?_
   all_goals refine ku ?_
   all_goals first|(refine kI rfl E ?_)|(refine kw rfl (λK H=>?_);go_simp;refine H _ _ (E.alloc E.size _) ?_;clear H K)
   all_goals refine jF ?_
   all_goals refine jc ?_
   obtain ⟨bj,bi,aw,ab,J,O⟩:=AP;go_wp2_with (at_builtin;refine kD.jL rfl _ _ 28 rfl (r:=kGo) (e:=43) Ba yP rfl bC8 bC8 (B:=w.heap.size) J.out bD1 bD1 rfl (kD.own.wide (T:=jX wr.heap.size a3.heap.size) (kD.jl (S:=jX (wS.heap.size) (a3.heap.size)) (N.out) (kD.jv (al.out.own0h an.2.1) (kD.jB au)) mH mH mM) mH) rfl mM qU mH bC9 sG ?_);exact aI
 exact aL
def kPy (x:zh):Bool:=(((zM x.1 && decide (0 < x.1.length)) && inR x.2.1 0 1000000) && inR x.2.2.1 0 16) && inR x.2.2.2 1 20
def kFp {w:Ab} {cx:Aq Al} {x:zh} (hx:kLs.raw w cx x) :
    Calls prog 171 #[.agg cx.toArray] w (bQ w (.bool (kPy x))):=by
 have Hx:=yD hx
 obtain ⟨ar,rfl,ab,Z,ac,ae,V⟩:=kMw hx
 obtain ⟨aa,R,rfl,an⟩:=kD.sl Z
 go_enter func171,ntmps171
 go_upto_region 1 with fail
 generalize D:World.alloc w _=N
 have EB:Qb w N:=by rw [<- D];exact bF
 have af:Qd N w 0 (.slice aa (x.1).length R):=tK
 have J:Qd N w 1 (.int .i64 x.2.1):=tK
 have I:Qd N w 2 (.int .i64 x.2.2.1):=tK
 have o:Qd N w 3 (.int .i64 x.2.2.2):=tK
 clear D
 have FX:=yD (λ(W:Ab) (hW:Qb N W)=>kGr hW af J I o)
 refine jE (λW=>Qb N W) [Tt,Tt,Ff,Tt,Tt,Tt,Tt,Tt,Tt,Tt,Tt,Tt,Tt,Ff,Tt,Tt,Tt,Tt,Ff,Tt,Tt,Tt,Tt,Ff,Tt,Tt] bR ?_
 intro wS E
 all_goals refine ku ?_
 all_goals refine ku ?_
 all_goals first | refine wkB (yY (kD.raw.below ab (tQ EB E))) (λwS1 E=>?_) | refine ku ?_
 all_goals (refine jy λb a1=>?_;cases b <;> try simp only [jw] at a1)
 iterate 6
  all_goals refine ku ?_
 all_goals (refine jy λb Y=>?_;cases b <;> try simp only [jw] at Y)
 all_goals refine ku ?_
 all_goals refine ku ?_
 all_goals first | refine wkC (jo) ?_ | refine ku ?_
 all_goals refine ku ?_
 all_goals (refine jy λb G=>?_;cases b <;> try simp only [jw] at G)
 all_goals refine ku ?_
 all_goals refine ku ?_
 all_goals first | refine wkC (jo) ?_ | refine ku ?_
 all_goals refine ku ?_
 all_goals (refine jy λb X=>?_;cases b <;> try simp only [jw] at X)
 all_goals refine ku ?_
 all_goals refine ku ?_
 all_goals first | refine wkC (jo) ?_ | refine ku ?_
 all_goals refine ku ?_
 all_goals (refine jy λb H=>?_;cases b <;> try simp only [jw] at H)
 all_goals refine kS ?_
 all_goals have F:=(tQ EB E)
 all_goals first
   | (have L:=yD (show (kPy x)=false by simp only [kPy,Bool.not_true,Bool.not_false,Bool.and_true,Bool.true_and,Bool.and_false,Bool.false_and,Bool.or_true,Bool.true_or,Bool.or_false,Bool.false_or,Bool.not_not,a1,Y,G,X,H]);go_wp2;go_ret;exact ⟨kX L.out.symm,F⟩)
   | (have L:=yD (show (kPy x)=true by simp only [kPy,Bool.not_true,Bool.not_false,Bool.and_true,Bool.true_and,Bool.and_false,Bool.false_and,Bool.or_true,Bool.true_or,Bool.or_false,Bool.false_or,Bool.not_not,a1,Y,G,X,H]);go_wp2;go_ret;exact ⟨kX L.out.symm,F⟩)
namespace kD
section
variable {α:Type} {r:kD α} {e:TypeId} {w:Ab} {b cap len i j p:Nat} {xs:Aq α} {y:α} {u:Al} {S T:Nat->Prop}
def kZv (h:kR e r w (.slice (some ⟨b,0,none⟩) len cap) xs S) (hi:i < xs.length) (I:j < r.n)
    (hy:∀ {cs:Aq Al} {B:Nat->Prop},r.is true w cs xs[i] B->(∀ k,B k->S k)->r.is true w (cs.set j u) y (λk=>B k\/T k)) (hby:r.bdd Big y) (hST:∀ k,S k->T k->False) (hp:p=i * r.n + j) :
    kR e r (w.setCell ⟨b,p,none⟩ u) (.slice (some ⟨b,0,none⟩) len cap) (xs.set i y) (λk=>S k\/T k)/\Touch (λk=>k=b) w (w.setCell ⟨b,p,none⟩ u):=by
 subst hp
 refine ⟨?_,zH [u] w b _⟩
 obtain ⟨hb,h⟩:=h
 rcases h with ⟨⟨a,h0⟩,rfl⟩|⟨b',cap',cur,cs,tl,h0,h1,h2,h3,h4,h5,h6,h7⟩
 · simp at hi
 simp only [Ae,Ah,Az,and_true] at h0
 obtain ⟨rfl,rfl,rfl⟩:=h0
 obtain ⟨c1,c,c2,A,B,C,rfl,hl,r1,r2,W,hA,hB,hC,hd⟩:=kUl h7 hi
 have hc:=r.len r2
 have aq:∀ k,T k->k≠b:=λk hk q=>hST k (q ▸ h6) hk
 have n2:=hy r2 (λk hk=>(hB k hk).1)
 have J:cur=((c1++(c++c2))++tl).toArray:=by rw [<- h4]
 subst J
 have E:=heap_setCell_same w b (i * r.n + j) _ e u h3
 refine ⟨?_,.inr ⟨b,cap,_,c1++(c.set j u++c2),tl,by rw [List.length_set],by rw [List.length_set];exact h1,h2,E,?_,?_,.inl h6,?_⟩⟩
 · intro z hz;rcases List.mem_or_eq_of_mem_set hz with q | q
   · exact hb z q
   rw [q];exact hby
 · simp only [Array.toList_setIfInBounds,List.toList_toArray];rw [Bb,Bb,List.set_append_right _ _ bC9,hl,show i * r.n + j - i * r.n=j by omega,List.set_append_left _ _ bC9];simp
 · simpa using h5
 have o:∀ k,k≠b->(w.setCell ⟨b,i * r.n + j,none⟩ u).heap[k]?=w.heap[k]?:=λk hk=>heap_setCell_other w ⟨b,i * r.n + j,none⟩ k u hk
 have mono:∀ {cs:Aq Al} {ys:Aq α} {D:Nat->Prop},row r true w cs ys D->(∀ k,D k->k≠b)->row r true (w.setCell ⟨b,i * r.n + j,none⟩ u) cs ys D:=λhr hk=>yM hr (λk hd=>o k (hk k hd))
 refine kZq (A:=A) (B:=λk=>B k\/T k) (C:=C) hi (mono r1 (λk hk=>(hA k hk).2)) (r.mono n2 (λk hk=>o k (hk.elim (λq=>(hB k q).2) (aq k)))) (mono W (λk hk=>(hC k hk).2)) ?_ ?_ ?_ ?_
 · exact λk hk=>⟨.inl (hA k hk).1,(hA k hk).2⟩
 · exact λk hk=>hk.elim (λq=>⟨.inl (hB k q).1,(hB k q).2⟩) (λq=>⟨.inr q,aq k q⟩)
 · exact λk hk=>⟨.inl (hC k hk).1,(hC k hk).2⟩
 exact λ_ k=>⟨λa q=>q.elim ((hd rfl k).1 a) (λt=>hST k (hA k a).1 t),(hd rfl k).2.1,λq c=>q.elim (λb=>(hd rfl k).2.2 b c) (λt=>hST k (hC k c).1 t)⟩
end
end kD
end Go.Proofs.YtonmjkmaadgceabGreat
namespace Go.Proofs.YtonmjkmaadgceabGreat
open Go Go.RowKit _root_.Go.Proofs.Tryz
section
variable {P:Program} {l:Aq Oper} {S:Ab->Prop} {Q:Exit->Act->Ab->Prop} {fuel:Nat} {listed:Aq Bool} {a:Act} {w:Ab}
@[irreducible] def tree (P:Program) (l:Aq Oper) (S:Ab->Prop) (Q:Exit->Act->Ab->Prop) (fuel:Nat) (listed:Aq Bool) (a:Act) (w:Ab):Prop:=wpAnyH P .any l.toArray Q S fuel listed.toArray a w
def kVe (k:Nat):listed.toArray.setIfInBounds k true=(listed.set k true).toArray:=by simp
def yR {id:Nat} (S:Ab->Prop) (hm:P.follows .mixedOrders=true) (hS:S { w with drawn:=w.drawn + 1 })
    (h:∀ w',S w'->tree P l S Q l.length (List.replicate l.length false) a w'):(Code.region id l.toArray true).wp P Q a w:=by
 have h:=h _ hS
 exact oH
def kFl {id:Nat} (S:Ab->Prop) (hm:P.follows .mixedOrders=true) (hS:S { w with drawn:=w.drawn + 1 })
    (h:∀ w',w'=w.drew->S w'->tree P l S Q l.length (List.replicate l.length false) a w'):(Code.region id l.toArray true).wp P Q a w:=by
 have h:=h _ rfl hS
 exact oH
def tree_read {k:Nat} {o:Oper} {v:Al} (h0:l[k]?=some o) (hc:(Region.noSelect l.toArray && (Region.free .any l.toArray listed.toArray k && (Ay .any l.toArray listed.toArray).contains k))=true)
    (hQ:∀ c a d v w,Q (.panic c) (Act.put a d v) w->Q (.panic c) a w) (hg:Ak o (Bc l.toArray a.tmps)=true) (hS:S w)
    (hv:∀ w,S w->(execOp a.eval o).run P w=.ok (.value v) w) (h:tree P l S Q fuel (listed.set k true) (a.put o.dst v) w):tree P l S Q (fuel + 1) listed a w:=by
 unfold tree at h ⊢
 simp only [Bool.and_eq_true] at hc
 rw [<- kVe] at h
 exact wpAnyH_take bA2 hc.1 hc.2.1 hc.2.2 (λc a w=>hQ c a _ _ w) (.inl ⟨hg,hv⟩) hS h
def kQ (k : Nat) {q : Prop} {o : Oper} {v : Value} (c : q) (h0 : l[k]? = some o := by rfl) (hc : (Region.noSelect l.toArray && (Region.free .any l.toArray listed.toArray k && (Region.ready .any l.toArray listed.toArray).contains k)) = true := by kernel_rfl)
    (hQ:∀ c a d v w,Q (.panic c) (Act.put a d v) w->Q (.panic c) a w:=by exact λc a d v w h=>by cases d <;> exact h) (hg:Region.wanted o (yielded l.toArray a.tmps)=true:=by rfl) (hS:S w:=by exact E)
    (hv:∀ w,S w->(execOp a.eval o).run P w=.ok (.value v) w:=by intro W hW;(try have A:=FX.out W hW);clear hW;go_simp;try with_reducible rfl)
    (hp:Hid q->tree P l S Q fuel (listed.set k true) (a.put o.dst v) w:=by intro kq;(try simp only [Act.put,zA,zB,zC]);exact kq.out):tree P l S Q (fuel + 1) listed a w:=tree_read h0 hc hQ hg hS hv (hp (yD c))
def kLg {k:Nat} {o:Oper} (h0:l[k]?=some o) (hg:Ak o (Bc l.toArray a.tmps)=true)
    (h:∀ K:Act->Ab->Prop,(∀ a' w',S w'->tree P l S Q fuel (listed.set k true) a' w'->K a' w')->o.wp P a w K Q) :
    wpOp P l.toArray Q k (λa' w'=>S w'/\wpAnyH P .any l.toArray Q S fuel (listed.toArray.setIfInBounds k true) a' w') a w:=by
 unfold wpOp
 rw [show l.toArray[k]?=some o by simpa using h0]
 simp only [hg,if_true]
 refine .inl (h _ (λa' w' h1 h2=>⟨h1,?_⟩))
 unfold tree at h2
 rw [kVe]
 exact h2
def kP {k:Nat} {o:Oper} (h0:l[k]?=some o) (hr:(Ay .any l.toArray listed.toArray==[k])=true) (hg:Ak o (Bc l.toArray a.tmps)=true)
    (h:∀ K:Act->Ab->Prop,(∀ a' w',S w'->tree P l S Q fuel (listed.set k true) a' w'->K a' w')->o.wp P a w K Q):tree P l S Q (fuel + 1) listed a w:=by
 unfold tree
 refine wpAnyH_all bA6 bD0 ?_
 intro j I
 obtain rfl:j=k:=bB4
 exact kLg h0 hg h
def je {i j:Nat} {V J:Oper} (hi:l[i]?=some V) (I:l[j]?=some J) (hr:(Ay .any l.toArray listed.toArray==[i,j])=true) (D:Ak V (Bc l.toArray a.tmps)=true) (o:Ak J (Bc l.toArray a.tmps)=true)
    (h1:∀ K:Act->Ab->Prop,(∀ a' w',S w'->tree P l S Q fuel (listed.set i true) a' w'->K a' w')->V.wp P a w K Q)
    (h2:∀ K:Act->Ab->Prop,(∀ a' w',S w'->tree P l S Q fuel (listed.set j true) a' w'->K a' w')->J.wp P a w K Q):tree P l S Q (fuel + 1) listed a w:=by
 unfold tree
 refine wpAnyH_all bA6 bD0 ?_
 intro k hk
 rcases List.mem_cons.1 hk with rfl | hk
 · exact kLg hi D h1
 obtain rfl:k=j:=bA0
 exact kLg I o h2
def jf (hr:(Ay .any l.toArray listed.toArray==[])=true) (h:Q .normal a w):tree P l S Q fuel listed a w:=by
 unfold tree;exact wpAnyH_done bA6 h fuel
end
end Go.Proofs.YtonmjkmaadgceabGreat

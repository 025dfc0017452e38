/-
  A region that draws its order, where two operations may come up at one time: both ways are walked. No program in sight.
-/
import Derived.Test.YthocbplmdjkifabGreatPut
set_option linter.unusedVariables false
set_option linter.defProp false
set_option linter.unusedSimpArgs false
set_option linter.unnecessarySimpa false
set_option maxRecDepth 100000
set_option maxHeartbeats 4000000
open Bool renaming true->Tt,false->Ff
open Go renaming World->Aa,Value->Ae,yielded->Aq
open Go.Value.slice renaming injEq->Ab
open Option.some renaming injEq->Ac
open Go.Region renaming wanted->Ad,ready->Ak
open List.cons renaming injEq->Ag
open _root_ renaming List->Ah,and_true->Ai
open List renaming length_eq_zero_iff->Aj,append_assoc->Ap
open Go.Addr.mk renaming injEq->Al
open Go.Proofs.Tryz renaming underlying28->Am
namespace Go.Proofs.YthocbplmdjkifabGreat
open Go.RowKit _root_.Go.Proofs.Tryz
variable {w:Aa} {vl:Ae} {l:Ah kF}
def kKx (hl:Ce.rd w [vl] l) :
    Calls prog 86 #[vl] w (kAo 106 kH l w):=by
 have HL:=yD hl;obtain ⟨la,lp,rfl,ll⟩:=kD.sl hl.1;refine oL λbm=>?_;clear hl;go_enter func86,ntmps86;go_wp2;refine ES λO0=>?_;go_loopw [3,9] (λv i wr=>∃ k:Nat,k<=l.length/\i=.int .i64 k/\Hid (kD.ko 106 kH wr v (l.take k) (jW w wr))/\Qb w wr) (λ_ i _=>l.length - (intOf i).toNat);case atStart=>exact ⟨0,Nat.zero_le _,rfl,yD O0,bR.alloc nL _⟩
 clear O0;obtain ⟨k,hk,rfl,F,D⟩:=hrel;refine aH F λoa on oc ho ak=>?_;obtain rfl:=ho;refine FB λag=>?_;by_cases hlt:k < l.length
 · obtain ⟨qb,qo,rfl,ah,aj,ao,qr,a2,a4,a5⟩:=kD.zx (HL.1.below D) hlt rfl;refine CZ λa3 dh=>?_;generalize l[k]=x at *;have ch:=yD dh;clear dh;obtain ⟨x0,x1,x2⟩:=x;obtain ⟨rfl,au,az,aw,bi⟩:=jV qr;obtain ⟨ai,a6,rfl,bb,ar,bd,rfl,b2⟩:=kD.sx az (kD.sl aw);refine GQ λN=>?_;have al:Ci.rd wr _ x1:=⟨aw,a3.2.1⟩;go_upto_region 5 with fail;refine PU λwC EC a9 M0 M1 M2 FX wS I=>?_;all_goals ((first|(refine kI rfl I ?_)|(refine ku rfl (λK E=>?_);go_simp;refine (zl (N.below (tQ EC I))).mono ?_;rintro e an ⟨ap,rfl,L,ba⟩;obtain ⟨Y,rfl,H⟩:=kT L.raw;obtain ⟨aa,ab,rfl,Z⟩:=kD.sl H;clear H;replace L:=yD L;have du:=ba.size;have cw:=I.size;replace I:=(tQ I ba);refine E _ _ I ?_;clear E K ba));refine jD ?_;(first|(refine kI rfl I ?_)|(refine ku rfl (λK E=>?_);go_simp;refine (kVr (al.below (tQ EC I))).mono ?_;rintro e aq ⟨ay,rfl,ac,ba⟩;obtain ⟨ax,av,rfl,_⟩:=kD.sl ac.raw;replace ac:=yD ac;have bv:=ba.size;have b1:=I.size;replace L:=yD (L.below ba);replace I:=(tQ I ba);refine E _ _ I ?_;clear E K ba));refine jD ?_;refine kZ ?_;(first|(refine kI rfl I ?_)|(refine ku rfl (λK E=>?_);go_simp;refine E _ _ (I.alloc I.size _) ?_;clear E K));refine jD ?_;refine jq ?_)
   have gx:=I.size;refine OI λX af F V=>?_;go_wp2_with (at_builtin;refine kD.jN rfl _ _ 28 rfl (r:=kH) (e:=106) Am jl rfl bJ4 bJ4 (B:=w.heap.size) F.out bJ7 bJ7 rfl (kD.own.wide (T:=jW wr aq) (kD.ji (S:=jW (wS.heap.size) (aq.heap.size)) (L.out) (kD.yR (ac.out) (kD.jB bi)) pJ pJ pQ) pJ) rfl pQ vD pJ bJ5 wO ?_);exact iA
 exact uE
def kHy (hl:Ce.rd w [vl] l) :
    Calls prog 110 #[vl] w (kAo 106 kH l w):=by
 have HL:=yD hl;obtain ⟨la,lp,rfl,ll⟩:=kD.sl hl.1;refine oL λbm=>?_;clear hl;go_enter func110,ntmps110;go_wp2;refine ES λO0=>?_;go_loopw [3,4] (λv i wr=>∃ k:Nat,k<=l.length/\i=.int .i64 k/\Hid (kD.ko 106 kH wr v (l.take k) (jW w wr))/\Qb w wr) (λ_ i _=>l.length - (intOf i).toNat);case atStart=>exact ⟨0,Nat.zero_le _,rfl,yD O0,bR.alloc nL _⟩
 clear O0;obtain ⟨k,hk,rfl,F,D⟩:=hrel;refine aH F λoa on oc ho ak=>?_;obtain rfl:=ho;refine FB λag=>?_;by_cases hlt:k < l.length
 · obtain ⟨qb,qo,rfl,ah,aj,ao,qr,a2,a4,a5⟩:=kD.zx (HL.1.below D) hlt rfl;refine CZ λa3 dh=>?_;generalize l[k]=x at *;have ch:=yD dh;clear dh;obtain ⟨x0,x1,x2⟩:=x;obtain ⟨rfl,au,az,aw,bi⟩:=jV qr;obtain ⟨ai,a6,rfl,bb,ar,bd,rfl,b2⟩:=kD.sx az (kD.sl aw);refine GQ λN=>?_;go_wp2_with fail;refine SS λwT ba a7 b7 OT wC EC Y ER=>?_;refine aJ ER a2 a4 a5 λa2 a4 a5=>?_;have al:Ci.rd wC _ x1:=⟨kD.raw.below aw ER,a3.2.1⟩;have FX:=yD (λ(W:Aa) (hW:Qb wC W)=>kIm hW Y a2 a4 a5);refine je (λW=>Qb wC W) [(0,true),(1,true),(3,true),(4,true),(5,true),(6,true),(7,true),(9,true),(10,true),(11,true),(12,true),(13,true),(2,false),(8,false),(14,true),(15,false)] bI9 bI9 sD (bR.drew) ?_;refine uK λwS I=>?_;all_goals ((iterate 12 refine kZ ?_);(first|(refine kI rfl I ?_)|(refine ku rfl (λK E=>?_);go_simp;generalize ax:World.alloc wS _=wU;have ay:wU.heap.size=wS.heap.size + 1:=(by rw [<- ax];simp);have b6:=I.size;replace I:Qb wC wU:=(by rw [<- ax];exact I.alloc I.size _);clear ax;refine E _ _ I ?_;clear E K));refine jD ?_;(first|(refine kI rfl I ?_)|(refine ku rfl (λK E=>?_);obtain ⟨aa,H,ab,L,ac,ap⟩:=kD.kQk (P:=prog) (t:=79) (ty:=79) (r:=ky) (e:=83) (w:=wU) (v:=.slice (Qa wS) 0 0) (xs:=[]) (S:=λ_=>False) (B:=wU.heap.size) underlying79 kAn rfl bJ4 bJ4 kIc kD.ko.void (al.below I) (λ_ h=>h.elim) nL (by have:=al.2.1;simp;unfold Big at this;omega);refine kD.kV _ _ _ rfl bJ7 bJ7 ab ?_;obtain ⟨aq,av,Z⟩:=L.zK;obtain rfl:=Z;replace I:=(tQ I ac);have an:=yD (L.own al.2.1);refine E _ _ I ?_;clear E K ab L));refine jD ?_;refine kZ ?_;(first|(refine kI rfl I ?_)|(refine ku rfl (λK E=>?_);go_simp;refine E _ _ (I.alloc I.size _) ?_;clear E K));refine jD ?_;refine jq ?_)
   have bl:=EC.size;have X:=D.size;have ee:=ba.size;have af:Qb wr H:=(tQ ER I);refine aI af λF=>?_;have V:=(tQ D af);go_wp2_with (at_builtin;refine kD.jN rfl _ _ 28 rfl (r:=kH) (e:=106) Am jl rfl bJ4 bJ4 (B:=w.heap.size) F.out bJ7 bJ7 rfl (kD.own.wide (T:=jW wr H) (kD.ji (S:=jW (wr.heap.size) (H.heap.size)) (OT.below (tQ EC I)) (kD.yR (an.out) (kD.jB bi)) pJ pJ pQ) pJ) rfl pQ vD pJ bJ5 wO ?_);exact iA
 exact uE
def kPs {l:Ah jI} (hl:Cj.rd w [vl] l) :
    Calls prog 87 #[vl] w (kAo 131 jG l w):=by
 have HL:=yD hl;obtain ⟨la,lp,rfl,ll⟩:=kD.sl hl.1;refine oL λbm=>?_;clear hl;go_enter func87,ntmps87;go_wp2;refine EU λO0=>?_;go_loopw [3,9] (λv i wr=>∃ k:Nat,k<=l.length/\i=.int .i64 k/\Hid (kD.ko 131 jG wr v (l.take k) (jW w wr))/\Qb w wr) (λ_ i _=>l.length - (intOf i).toNat);case atStart=>exact ⟨0,Nat.zero_le _,rfl,yD O0,bR.alloc nL _⟩
 clear O0;obtain ⟨k,hk,rfl,F,D⟩:=hrel;refine aH F λoa on oc ho ak=>?_;obtain rfl:=ho;refine FB λag=>?_;by_cases hlt:k < l.length
 · obtain ⟨qb,qo,rfl,ah,aj,qr,a2,a4⟩:=kD.kRc (HL.1.below D) hlt rfl;refine CZ λa3 dh=>?_;generalize l[k]=x at *;have ch:=yD dh;clear dh;obtain ⟨x0,x1⟩:=x;obtain ⟨rfl,au,az,aw⟩:=kCj qr;obtain ⟨ai,a6,rfl,bb⟩:=kD.sl az;refine GQ λN=>?_;go_upto_region 5 with fail;refine uY λwC R EC a9 M0=>?_;have M1:Qd wC wr 1 (Qn x1):=bB0;clear R;have FX:=yD (λ(W:Aa) (hW:Qb wC W)=>kNa hW M0 M1);refine je (λW=>Qb wC W) [(0,true),(1,true),(2,true),(4,true),(5,true),(3,false),(6,true),(7,false)] bI9 bI9 sD (bR.drew) ?_;refine uK λwS I=>?_;all_goals ((iterate 5 refine kZ ?_);(first|(refine kI rfl I ?_)|(refine ku rfl (λK E=>?_);go_simp;refine (zl (N.below (tQ EC I))).mono ?_;rintro e an ⟨ap,rfl,L,ba⟩;obtain ⟨Y,rfl,H⟩:=kT L.raw;obtain ⟨aa,ab,rfl,Z⟩:=kD.sl H;clear H;replace L:=yD L;have du:=ba.size;have cw:=I.size;replace I:=(tQ I ba);refine E _ _ I ?_;clear E K ba));refine jD ?_;refine kZ ?_;(first|(refine kI rfl I ?_)|(refine ku rfl (λK E=>?_);go_simp;refine E _ _ (I.alloc I.size _) ?_;clear E K));refine jD ?_;refine jq ?_)
   have gx:=I.size;refine OI λX af F V=>?_;go_wp2_with (at_builtin;refine kD.jN rfl _ _ 29 rfl (r:=jG) (e:=131) underlying29 kHd rfl bJ4 bJ4 (B:=w.heap.size) F.out bJ7 bJ7 rfl (kD.own.wide (T:=jW wr an) (kD.yR (L.out) (kD.jB aw)) pJ) rfl pQ vD pJ bJ5 wO ?_);exact iA
 exact uE
def kRu {l:Ah jI} (hl:Cj.rd w [vl] l) :
    Calls prog 111 #[vl] w (kAo 131 jG l w):=by
 have HL:=yD hl;obtain ⟨la,lp,rfl,ll⟩:=kD.sl hl.1;refine oL λbm=>?_;clear hl;go_enter func111,ntmps111;go_wp2;refine EU λO0=>?_;go_loopw [3,4] (λv i wr=>∃ k:Nat,k<=l.length/\i=.int .i64 k/\Hid (kD.ko 131 jG wr v (l.take k) (jW w wr))/\Qb w wr) (λ_ i _=>l.length - (intOf i).toNat);case atStart=>exact ⟨0,Nat.zero_le _,rfl,yD O0,bR.alloc nL _⟩
 clear O0;obtain ⟨k,hk,rfl,F,D⟩:=hrel;refine aH F λoa on oc ho ak=>?_;obtain rfl:=ho;refine FB λag=>?_;by_cases hlt:k < l.length
 · obtain ⟨qb,qo,rfl,ah,aj,qr,a2,a4⟩:=kD.kRc (HL.1.below D) hlt rfl;refine CZ λa3 dh=>?_;generalize l[k]=x at *;have ch:=yD dh;clear dh;obtain ⟨x0,x1⟩:=x;obtain ⟨rfl,au,az,aw⟩:=kCj qr;obtain ⟨ai,a6,rfl,bb⟩:=kD.sl az;refine GQ λN=>?_;go_wp2_with fail;refine SS λwT ba a7 b7 OT wC EC Y ER=>?_;refine aL ER a2 a4 λa2 a4=>?_;have FX:=yD (λ(W:Aa) (hW:Qb wC W)=>kJf hW Y a2 a4);refine jU (λW=>Qb wC W) [Tt,Tt,Tt,Tt,Tt,Tt,Tt,Tt,Ff] bI9 bI9 sD (bR.drew) ?_;intro wS I;all_goals ((iterate 8 refine kZ ?_);(first|(refine kI rfl I ?_)|(refine ku rfl (λK E=>?_);go_simp;refine E _ _ (I.alloc I.size _) ?_;clear E K));refine jD ?_;refine jq ?_)
   refine P6 λgx bl X ee af F V=>?_;go_wp2_with (at_builtin;refine kD.jN rfl _ _ 29 rfl (r:=jG) (e:=131) underlying29 kHd rfl bJ4 bJ4 (B:=w.heap.size) F.out bJ7 bJ7 rfl (kD.own.wide (T:=jW wr wT) (kD.yR (OT.below (tQ EC I)) (kD.jB aw)) pJ) rfl pQ vD pJ bJ5 wO ?_);exact iA
 exact uE
namespace kD
section
variable {α β:Type} {r q:kD α} {e:TypeId} {w w':Aa} {v:Ae} {xs:Ah α} {S T:Nat->Prop}
def headed (e:TypeId) (n:Nat) (w:Aa) (cs:Ah Ae):Prop :=
  ∀ a len cap,cs=[.slice a len cap]->(len=0/\cap=0)\/∃ b cur,a=some ⟨b,0,none⟩/\w.heap[b]?=some (.cells cur e (0,0))/\cur.size=cap * n
def headed_keep {cs:Ah Ae} (h:(slice e r).is true w cs xs S) (hh:headed e r.n w cs) (k:∀ k,S k->w'.heap[k]?=w.heap[k]?):headed e r.n w' cs:=by
 intro a len cap hc;rcases hh a len cap hc with h1|⟨b,cur,rfl,h2,h3⟩;exact .inl h1;obtain ⟨a',H,cap',h0,h4,h5,h6,h7⟩:=h;rw [hc] at h0;simp only [Ag,Ab,Ai] at h0;obtain ⟨rfl,rfl,rfl⟩:=h0;rcases h7 with ⟨h8,h9⟩|⟨b',off,hb,cur',e',fr,hd,cs',tl,g1,g2,g3,g4,g5,g6,g7⟩;have:=h9 rfl;exact .inl ⟨by omega,this⟩;simp only [Ac,Al,Ai] at hb;obtain ⟨rfl,rfl⟩:=hb;exact .inr ⟨b,cur,rfl,(k b g6).trans h2,h3⟩
def slice0 {α:Type} (e:TypeId) (r:kD α):kD (Ah α) :=
  { slice e r with
    is:=λo w cs xs S=>(slice e r).is o w cs xs S/\(o=true->headed e r.n w cs)
    len:=λh=>(slice e r).len h.1
    one:=λh=>(slice e r).one h.1
    mono:=by
      intro o w w' cs xs S h k;refine ⟨(slice e r).mono h.1 k,λho=>?_⟩;subst ho;exact headed_keep h.1 (h.2 rfl) k
    wide:=λh k=>⟨(slice e r).wide h.1 k,h.2⟩
    weak:=λh=>⟨(slice e r).weak h.1,λq=>by cases q⟩
    live:=λh=>⟨(slice e r).live h.1,h.2⟩
    is_zero:=⟨(slice e r).is_zero,λ_ a len cap h=>by
      have G:([.slice none 0 0]:Ah Ae)=[.slice a len cap]:=h;simp only [Ag,Ab,Ai] at G;exact .inl ⟨G.2.1.symm,G.2.2.symm⟩⟩ }
def ko.own0h (h:ko e r w v xs S) (hl:xs.length<=Big):(slice0 e r).own w [v] xs S:=by
 have h1:=h.own hl;refine ⟨⟨h1.1,λ_ a len cap hc=>?_⟩,h1.2⟩;obtain ⟨hb,h⟩:=h;simp only [Ag,Ai] at hc;rcases h with ⟨⟨a',rfl⟩,rfl⟩|⟨b,cap',cur,cs,tl,rfl,g1,g2,g3,g4,g5,g6,g7⟩;simp only [Ab] at hc;exact .inl ⟨hc.2.1.symm,hc.2.2.symm⟩;simp only [Ab] at hc;obtain ⟨rfl,rfl,rfl⟩:=hc;exact .inr ⟨b,cur,rfl,g3,g5⟩
def own0_of (h:(slice0 e r).own w [v] xs S):ko e r w v xs S:=by
 obtain ⟨⟨⟨a,len,cap,hv,rfl,h2,h3,h4⟩,hh⟩,hl,hb⟩:=h;simp only [Ag,Ai] at hv;subst hv;refine ⟨hb,?_⟩;rcases h4 with ⟨rfl,h5⟩|⟨b,off,rfl,cur,e',fr,hd,cs,tl,g1,g2,g3,g4,g5,g6,g7⟩;exact .inl ⟨⟨a,by rw [h5 rfl];rfl⟩,rfl⟩;rcases hh rfl _ _ _ rfl with ⟨k1,k2⟩|⟨b',cur',k1,k2,k3⟩
 · have:xs=[]:=Aj.1 k1;subst this;subst k2;exact .inl ⟨⟨_,rfl⟩,rfl⟩
 simp only [Ac,Al,Ai] at k1;obtain ⟨rfl,rfl⟩:=k1;rw [g1] at k2;simp only [Ac,Obj.cells.injEq] at k2;obtain ⟨rfl,rfl,rfl⟩:=k2;have:hd=[]:=Aj.1 g3;subst this;exact .inr ⟨b,cap,cur,cs,tl,rfl,h2,h3,g1,by simpa using g2,k3,g6,yx g7 (λk hk=>⟨hk.1,hk.2 rfl⟩)⟩
def row_to (hn:∀ {cs:Ah Ae} {x:α} {S:Nat->Prop},r.is true w cs x S->q.is true w cs x S):∀ {cells:Ah Ae} {ys:Ah α} {S:Nat->Prop},row r true w cells ys S->row q true w cells ys S
  | _,[],_,h=>h
  | _,y :: ys,_,⟨c,d,A,B,h,h1,h2,hA,hB,hd⟩=>⟨c,d,A,B,h,hn h1,row_to hn h2,hA,hB,hd⟩
def ko.to (hn:∀ {cs:Ah Ae} {x:α} {S:Nat->Prop},r.is true w cs x S->q.is true w cs x S) (hb:∀ x,r.bdd Big x->q.bdd Big x) (hq:q.n=r.n) (h:ko e r w v xs S):ko e q w v xs S:=by
 obtain ⟨h0,h⟩:=h;refine ⟨λx hx=>hb x (h0 x hx),?_⟩;rcases h with h|⟨b,cap,cur,cs,tl,g0,g1,g2,g3,g4,g5,g6,g7⟩;exact .inl h;exact .inr ⟨b,cap,cur,cs,tl,g0,g1,g2,g3,g4,by rw [hq];exact g5,g6,row_to hn g7⟩
end
end kD
def kKg:kD kF:=kD.pair kQ (kD.pair (kD.slice0 83 ky) kD.int)
def kVq {va:Ae} {x:Ah kY} (ha:Ci.rd w [va] x):Calls prog 162 #[va] w (kAo 83 ky x w):=by
 obtain ⟨aa,H,rfl,la⟩:=kD.sl ha.1;obtain ⟨HA,E⟩:=WO;cases aa with
 | none =>
   have hx:x=[]:=by
     cases x with
     | nil=>rfl
     | cons y ys =>
       exact UK
   subst hx;clear ha;go_enter func162,ntmps162;go_wp2;go_ret;exact ⟨_,rfl,kD.ko.void,bR⟩
 | some a =>
   have hb:x.length<=16777216:=ha.2.1;clear ha;go_enter func162,ntmps162;have O0:kD.ko 83 ky (w.alloc (.cells #[] 83)) (.slice (Qa w) 0 0) [] (λk=>k=w.heap.size):=kD.yf (cs:=[]) (xs:=[]) (T:=λ_=>False) bJ6 bJ6 rfl (λ_ h=>h.elim) rfl;go_wp2_with (at_builtin;refine kD.yH rfl _ _ 79 rfl (r:=ky) (e:=83) underlying79 kAn rfl bJ4 bJ4 kIc (B:=w.heap.size) O0 bJ7 bJ7 (HA.alloc _) tO bJ6 bJ0 ?_);exact UN
def kUt (hl:Ce.rd w [vl] l) :
    Calls prog 86 #[vl] w (kAo 106 kKg l w):=by
 have HL:=yD hl;obtain ⟨la,lp,rfl,ll⟩:=kD.sl hl.1;refine oL λbm=>?_;clear hl;go_enter func86,ntmps86;go_wp2;have O0:kD.ko 106 kKg (w.alloc (.cells #[] 106)) (.slice (Qa w) 0 0) [] (jW w (w.alloc (.cells #[] 106)).heap.size) :=
   kD.yf (e:=106) (r:=kKg) (w:=w) (cs:=[]) (xs:=[]) (T:=λ_=>False) bJ6 bJ6 rfl (λ_ h=>h.elim) ⟨Nat.le_refl _,by simp⟩
 go_loopw [3,9] (λv i wr=>∃ k:Nat,k<=l.length/\i=.int .i64 k/\Hid (kD.ko 106 kKg wr v (l.take k) (jW w wr))/\Qb w wr) (λ_ i _=>l.length - (intOf i).toNat);case atStart=>exact ⟨0,Nat.zero_le _,rfl,yD O0,bR.alloc nL _⟩
 clear O0;obtain ⟨k,hk,rfl,F,D⟩:=hrel;refine aH F λoa on oc ho ak=>?_;obtain rfl:=ho;refine FB λag=>?_;by_cases hlt:k < l.length
 · obtain ⟨qb,qo,rfl,ah,aj,ao,qr,a2,a4,a5⟩:=kD.zx (HL.1.below D) hlt rfl;refine CZ λa3 dh=>?_;generalize l[k]=x at *;have ch:=yD dh;clear dh;obtain ⟨x0,x1,x2⟩:=x;obtain ⟨rfl,au,az,aw,bi⟩:=jV qr;obtain ⟨ai,a6,rfl,bb,ar,bd,rfl,b2⟩:=kD.sx az (kD.sl aw);refine GQ λN=>?_;have al:Ci.rd wr _ x1:=⟨aw,a3.2.1⟩;go_upto_region 5 with fail;refine PU λwC EC a9 M0 M1 M2 FX wS I=>?_;all_goals ((first|(refine kI rfl I ?_)|(refine ku rfl (λK E=>?_);go_simp;refine (zl (N.below (tQ EC I))).mono ?_;rintro e an ⟨ap,rfl,L,ba⟩;obtain ⟨Y,rfl,H⟩:=kT L.raw;obtain ⟨aa,ab,rfl,Z⟩:=kD.sl H;clear H;replace L:=yD L;have du:=ba.size;have cw:=I.size;replace I:=(tQ I ba);refine E _ _ I ?_;clear E K ba));refine jD ?_;(first|(refine kI rfl I ?_)|(refine ku rfl (λK E=>?_);go_simp;refine (kVq (al.below (tQ EC I))).mono ?_;rintro e aq ⟨ay,rfl,ac,ba⟩;obtain ⟨ax,av,rfl,_⟩:=kD.sl ac.kMm;replace ac:=yD ac;have bv:=ba.size;have b1:=I.size;replace L:=yD (L.below ba);replace I:=(tQ I ba);refine E _ _ I ?_;clear E K ba));refine jD ?_;refine kZ ?_;(first|(refine kI rfl I ?_)|(refine ku rfl (λK E=>?_);go_simp;refine E _ _ (I.alloc I.size _) ?_;clear E K));refine jD ?_;refine jq ?_)
   have gx:=I.size;refine OI λX af F V=>?_;go_wp2_with (at_builtin;refine kD.jN rfl _ _ 28 rfl (r:=kKg) (e:=106) Am jl rfl bJ4 bJ4 (B:=w.heap.size) F.out bJ7 bJ7 rfl (kD.own.wide (T:=jW wr aq) (kD.ji (S:=jW (wS.heap.size) (aq.heap.size)) (L.out) (kD.yR (ac.own0h al.2.1) (kD.jB bi)) pJ pJ pQ) pJ) rfl pQ vD pJ bJ5 wO ?_);exact iA
 exact uE
def kWl (x:yw):Bool:=(((zX x.1 && decide (0 < x.1.length)) && inR x.2.1 0 1000000) && inR x.2.2.1 0 16) && inR x.2.2.2 1 20
def kIv {cx:Ah Ae} {x:yw} (hx:zh.raw w cx x) :
    Calls prog 255 #[.agg cx.toArray] w (bQ w (.bool (kWl x))):=by
 have Hx:=yD hx;obtain ⟨ay,rfl,Y,O,ag,am,an⟩:=kFt hx;obtain ⟨az,ar,rfl,aq⟩:=kD.sl O;go_enter func255,ntmps255;go_upto_region 1 with fail;refine oM λX EB N=>?_;obtain ⟨Z,J,E,D⟩:=zF N;clear N;have FX:=yD (λ(W:Aa) (hW:Qb X W)=>kIm hW Z J E D);refine kX (λW=>Qb X W) [Tt,Tt,Ff,Tt,Tt,Tt,Tt,Tt,Tt,Tt,Tt,Tt,Tt,Ff,Tt,Tt,Tt,Tt,Ff,Tt,Tt,Tt,Tt,Ff,Tt,Tt] bR ?_;intro wS I;all_goals (refine kZ ?_;refine kZ ?_;(first | refine wkB (zM (kD.raw.below Y (tQ EB I))) (λwS1 I=>?_) | refine kZ ?_);refine jo λb a1=>?_;cases b <;> try simp only [jm] at a1)
 all_goals ((iterate 6 refine kZ ?_);refine jo λb ac=>?_;cases b <;> try simp only [jm] at ac)
 all_goals (refine kZ ?_;refine kZ ?_;(first | refine wkC (yQ) ?_ | refine kZ ?_);refine kZ ?_;refine jo λb F=>?_;cases b <;> try simp only [jm] at F)
 all_goals (refine kZ ?_;refine kZ ?_;(first | refine wkC (yQ) ?_ | refine kZ ?_);refine kZ ?_;refine jo λb R=>?_;cases b <;> try simp only [jm] at R)
 all_goals (refine kZ ?_;refine kZ ?_;(first | refine wkC (yQ) ?_ | refine kZ ?_);refine kZ ?_;refine jo λb U=>?_;cases b <;> try simp only [jm] at U)
 all_goals (refine kR ?_;have G:=(tQ EB I))
 all_goals (obtain ⟨vq,qv⟩:∃ qc,(kWl x)=qc:=⟨_,rfl⟩;have L:=yD qv;simp only [kWl,Q0,a1,ac,F,R,U] at qv;subst qv;go_wp2;go_ret;exact ⟨kJ L.symm,G⟩)
namespace kD
section
variable {α:Type} {r:kD α} {e:TypeId} {w:Aa} {b cap len i j p:Nat} {xs:Ah α} {y:α} {u:Ae} {S T:Nat->Prop}
def jIj (h:ko e r w (.slice (Qa b) len cap) xs S) (hi:i < xs.length) (J:j < r.n)
    (hy:∀ {cs:Ah Ae} {B:Nat->Prop},r.is true w cs xs[i] B->(∀ k,B k->S k)->r.is true w (cs.set j u) y (λk=>B k\/T k)) (hby:r.bdd Big y) (hST:∀ k,S k->T k->False) (hp:p=i * r.n + j) :
    ko e r (w.setCell ⟨b,p,none⟩ u) (.slice (Qa b) len cap) (xs.set i y) (λk=>S k\/T k)/\Touch (λk=>k=b) w (w.setCell ⟨b,p,none⟩ u):=by
 subst hp;refine ⟨?_,kAc [u] w b _⟩;obtain ⟨hb,h⟩:=h;rcases h with ⟨⟨a,h0⟩,rfl⟩|⟨b',cap',cur,cs,tl,h0,h1,h2,h3,h4,h5,h6,h7⟩;simp at hi;simp only [Ab,Ac,Al,Ai] at h0;obtain ⟨rfl,rfl,rfl⟩:=h0;obtain ⟨c1,c,c2,A,B,C,rfl,hl,r1,r2,R,hA,hB,hC,hd⟩:=kWf h7 hi;have hc:=r.len r2;have ba:∀ k,T k->k≠b:=λk hk q=>hST k (q ▸ h6) hk;have n2:=hy r2 (λk hk=>(hB k hk).1);have L:cur=((c1++(c++c2))++tl).toArray:=by rw [<- h4]
 subst L;have F:=heap_setCell_same w b (i * r.n + j) _ e u h3;refine ⟨?_,.inr ⟨b,cap,_,c1++(c.set j u++c2),tl,by rw [List.length_set],by rw [List.length_set];exact h1,h2,F,?_,?_,.inl h6,?_⟩⟩
 · intro z hz;rcases List.mem_or_eq_of_mem_set hz with q | q;exact hb z q;rw [q];exact hby
 · simp only [Array.toList_setIfInBounds,List.toList_toArray];rw [Ap,Ap,List.set_append_right _ _ bJ5,hl,show i * r.n + j - i * r.n=j by omega,List.set_append_left _ _ bJ5];simp
 simpa using h5;have E:∀ k,k≠b->(w.setCell ⟨b,i * r.n + j,none⟩ u).heap[k]?=w.heap[k]?:=λk hk=>heap_setCell_other w ⟨b,i * r.n + j,none⟩ k u hk;have mono:∀ {cs:Ah Ae} {ys:Ah α} {D:Nat->Prop},row r true w cs ys D->(∀ k,D k->k≠b)->row r true (w.setCell ⟨b,i * r.n + j,none⟩ u) cs ys D:=λhr hk=>yu hr (λk hd=>E k (hk k hd));refine jIf (A:=A) (B:=λk=>B k\/T k) (C:=C) hi (mono r1 (λk hk=>(hA k hk).2)) (r.mono n2 (λk hk=>E k (hk.elim (λq=>(hB k q).2) (ba k)))) (mono R (λk hk=>(hC k hk).2)) ?_ ?_ ?_ ?_;exact λk hk=>⟨.inl (hA k hk).1,(hA k hk).2⟩;exact λk hk=>hk.elim (λq=>⟨.inl (hB k q).1,(hB k q).2⟩) (λq=>⟨.inr q,ba k q⟩);exact λk hk=>⟨.inl (hC k hk).1,(hC k hk).2⟩;exact λ_ k=>⟨λa q=>q.elim ((hd rfl k).1 a) (λt=>hST k (hA k a).1 t),(hd rfl k).2.1,λq c=>q.elim (λb=>(hd rfl k).2.2 b c) (λt=>hST k (hC k c).1 t)⟩
end
end kD
end Go.Proofs.YthocbplmdjkifabGreat
namespace Go.Proofs.YthocbplmdjkifabGreat
open Go Go.RowKit _root_.Go.Proofs.Tryz
variable {o:Oper} {k:Nat}
section
variable {P:Program} {l:Ah Oper} {S:Aa->Prop} {Q:Exit->Act->Aa->Prop} {fuel:Nat} {listed:Ah Bool} {a:Act} {w:Aa}
@[irreducible] def tree (P:Program) (l:Ah Oper) (S:Aa->Prop) (Q:Exit->Act->Aa->Prop) (fuel:Nat) (listed:Ah Bool) (a:Act) (w:Aa):Prop:=wpAnyH P .any l.toArray Q S fuel listed.toArray a w
def jCr (k:Nat):listed.toArray.setIfInBounds k true=(listed.set k true).toArray:=by simp
def yZ {id:Nat} (S:Aa->Prop) (hm:P.follows .mixedOrders=true) (hS:S { w with drawn:=w.drawn + 1 })
    (h:∀ w',S w'->tree P l S Q l.length (List.replicate l.length false) a w'):(Code.region id l.toArray true).wp P Q a w:=by
 have h:=h _ hS;exact J4
def kBp {id:Nat} (S:Aa->Prop) (hm:P.follows .mixedOrders=true) (hS:S { w with drawn:=w.drawn + 1 })
    (h:∀ w',w'=w.drew->S w'->tree P l S Q l.length (List.replicate l.length false) a w'):(Code.region id l.toArray true).wp P Q a w:=by
 have h:=h _ rfl hS;exact J4
def yU {v:Ae} (h0:l[k]?=some o) (hc:(Region.noSelect l.toArray && (Region.free .any l.toArray listed.toArray k && (Ak .any l.toArray listed.toArray).contains k))=true)
    (hQ:∀ c a d v w,Q (.panic c) (Act.put a d v) w->Q (.panic c) a w) (hg:Ad o (Aq l.toArray a.tmps)=true) (hS:S w)
    (hv:∀ w,S w->(execOp a.eval o).run P w=.ok (.value v) w) (h:tree P l S Q fuel (listed.set k true) (a.put o.dst v) w):tree P l S Q (fuel + 1) listed a w:=by
 unfold tree at h ⊢;simp only [Bool.and_eq_true] at hc;rw [<- jCr] at h;exact wpAnyH_take bG1 hc.1 hc.2.1 hc.2.2 (λc a w=>hQ c a _ _ w) (.inl ⟨hg,hv⟩) hS h
def kP (k : Nat) {q : Prop} {v : Value} (c : q) (h0 : l[k]? = some o := by rfl) (hc : (Region.noSelect l.toArray && (Region.free .any l.toArray listed.toArray k && (Region.ready .any l.toArray listed.toArray).contains k)) = true := by kernel_rfl)
    (hQ:∀ c a d v w,Q (.panic c) (Act.put a d v) w->Q (.panic c) a w:=by exact λc a d v w h=>by cases d <;> exact h) (hg:Region.wanted o (yielded l.toArray a.tmps)=true:=by rfl) (hS:S w:=by exact I)
    (hv:∀ w,S w->(execOp a.eval o).run P w=.ok (.value v) w:=by intro W hW;(try have A:=FX.out W hW);clear hW;go_simp;try with_reducible rfl)
    (hp:Hid q->tree P l S Q fuel (listed.set k true) (a.put o.dst v) w:=by intro kq;(try simp only [Act.put,zA,zB,zC]);exact kq.out):tree P l S Q (fuel + 1) listed a w:=yU h0 hc hQ hg hS hv (hp (yD c))
def kQg (h0:l[k]?=some o) (hg:Ad o (Aq l.toArray a.tmps)=true)
    (h:∀ K:Act->Aa->Prop,(∀ a' w',S w'->tree P l S Q fuel (listed.set k true) a' w'->K a' w')->o.wp P a w K Q) :
    wpOp P l.toArray Q k (λa' w'=>S w'/\wpAnyH P .any l.toArray Q S fuel (listed.toArray.setIfInBounds k true) a' w') a w:=by
 unfold wpOp;rw [show l.toArray[k]?=some o by simpa using h0];simp only [hg,if_true];refine .inl (h _ (λa' w' h1 h2=>⟨h1,?_⟩));unfold tree at h2;rw [jCr];exact h2
def kK (h0:l[k]?=some o) (hr:(Ak .any l.toArray listed.toArray==[k])=true) (hg:Ad o (Aq l.toArray a.tmps)=true)
    (h:∀ K:Act->Aa->Prop,(∀ a' w',S w'->tree P l S Q fuel (listed.set k true) a' w'->K a' w')->o.wp P a w K Q):tree P l S Q (fuel + 1) listed a w:=by
 unfold tree;refine wpAnyH_all bG9 bJ6 ?_;intro j J;obtain rfl:j=k:=bH9;exact kQg h0 hg h
def jg {i j:Nat} {U oj:Oper} (hi:l[i]?=some U) (J:l[j]?=some oj) (hr:(Ak .any l.toArray listed.toArray==[i,j])=true) (F:Ad U (Aq l.toArray a.tmps)=true) (E:Ad oj (Aq l.toArray a.tmps)=true)
    (h1:∀ K:Act->Aa->Prop,(∀ a' w',S w'->tree P l S Q fuel (listed.set i true) a' w'->K a' w')->U.wp P a w K Q)
    (h2:∀ K:Act->Aa->Prop,(∀ a' w',S w'->tree P l S Q fuel (listed.set j true) a' w'->K a' w')->oj.wp P a w K Q):tree P l S Q (fuel + 1) listed a w:=by
 unfold tree;refine wpAnyH_all bG9 bJ6 ?_;intro k hk;rcases List.mem_cons.1 hk with rfl | hk;exact kQg hi F h1;obtain rfl:k=j:=bG3;exact kQg J E h2
def jb (hr:(Ak .any l.toArray listed.toArray==[])=true) (h:Q .normal a w):tree P l S Q fuel listed a w:=by
 unfold tree;exact wpAnyH_done bG9 h fuel
end
end Go.Proofs.YthocbplmdjkifabGreat

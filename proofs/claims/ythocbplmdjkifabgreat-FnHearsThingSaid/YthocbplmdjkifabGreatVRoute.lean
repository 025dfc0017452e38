/-
  Lists of routes that are valid.
-/
import Derived.Test.YthocbplmdjkifabGreatWoC
set_option linter.unusedVariables false
set_option linter.defProp false
set_option linter.unusedSimpArgs false
set_option linter.unnecessarySimpa false
set_option maxRecDepth 100000
set_option maxHeartbeats 4000000
open Bool renaming true->Tt,false->Ff
open Go renaming World->Aa,Value->Ab,Calls->Ad
open _root_ renaming List->Ac,ge_iff_le->Ae
open Go.RowKit renaming intOf->Ag
namespace Go.Proofs.YthocbplmdjkifabGreat
open Go.RowKit _root_.Go.Proofs.Tryz
variable {w:Aa} {l:Ac jH} {vl:Ab} {k:Nat} {cx cn:Ac Ab} {x:ja} {f c:Int} {n:kU}
def kZh {l:Ac jK} (hl:Cm.rd w [vl] l) :
    Ad prog 84 #[vl] w (kAo 43 jC l w):=by
 have HL:=yD hl;obtain ⟨la,lp,rfl,ll⟩:=kD.sl hl.1;refine oL λbm=>?_;clear hl;go_enter func84,ntmps84;go_wp2;go_loopw [3,9] (λv i wr=>∃ k:Nat,k<=l.length/\i=.int .i64 k/\Hid (kD.ko 43 jC wr v (l.take k) (jW w wr))/\Qb w wr) (λ_ i _=>l.length - (Ag i).toNat);case atStart=>exact ⟨0,Nat.zero_le _,rfl,yD kD.ko.void,bR.alloc nL _⟩
 obtain ⟨k,hk,rfl,F,D⟩:=hrel;refine aH F λoa on oc ho ak=>?_;obtain rfl:=ho;refine FB λag=>?_;have X:=D.size;by_cases hlt:k < l.length
 · obtain ⟨qb,qo,rfl,ah,aj,ao,cc,cf,qr,a2,a4,a5,be,bo⟩:=kD.get5 (HL.1.below D) hlt rfl;refine CZ λa3 dh=>?_;generalize l[k]=x at *;have ch:=yD dh;clear dh;obtain ⟨x0,x1,x2,x3,x4⟩:=x;obtain ⟨rfl,rfl,au,az,aw,bi,bk,bq,b5⟩:=kBa qr;obtain ⟨ai,a6,rfl,bb,ar,bd,rfl,b2,ax,b3,rfl,b8⟩:=kD.sx az (kD.sx aw (kD.sl bk));have px:jC.rd wr _ (x0,x1,x2,x3,x4):=⟨qr,a3⟩;go_upto_region 5 with fail;refine oM λwC EC N=>?_;have bl:=EC.size;obtain ⟨M0,M1,M2,M3,M4⟩:=jP N;clear N;replace F:=yD ((F.below EC).wide (T:=jW w wC) vD);have H:=(tQ D EC);exact TH
 exact FY
def kYu {l:Ac jK} (hl:Cm.rd w [vl] l) :
    Ad prog 108 #[vl] w (kAo 43 jC l w):=by
 have HL:=yD hl;obtain ⟨la,lp,rfl,ll⟩:=kD.sl hl.1;refine oL λbm=>?_;clear hl;go_enter func108,ntmps108;go_wp2;go_loopw [3,4] (λv i wr=>∃ k:Nat,k<=l.length/\i=.int .i64 k/\Hid (kD.ko 43 jC wr v (l.take k) (jW w wr))/\Qb w wr) (λ_ i _=>l.length - (Ag i).toNat);case atStart=>exact ⟨0,Nat.zero_le _,rfl,yD kD.ko.void,bR.alloc nL _⟩
 obtain ⟨k,hk,rfl,F,D⟩:=hrel;refine aH F λoa on oc ho ak=>?_;obtain rfl:=ho;refine FB λag=>?_;have X:=D.size;by_cases hlt:k < l.length
 · obtain ⟨qb,qo,rfl,ah,aj,ao,cc,cf,qr,a2,a4,a5,be,bo⟩:=kD.get5 (HL.1.below D) hlt rfl;refine CZ λa3 dh=>?_;generalize l[k]=x at *;have ch:=yD dh;clear dh;obtain ⟨x0,x1,x2,x3,x4⟩:=x;obtain ⟨rfl,rfl,au,az,aw,bi,bk,bq,b5⟩:=kBa qr;obtain ⟨ai,a6,rfl,bb,ar,bd,rfl,b2,ax,b3,rfl,b8⟩:=kD.sx az (kD.sx aw (kD.sl bk));have px:jC.rd wr _ (x0,x1,x2,x3,x4):=⟨qr,a3⟩;go_wp2_with fail;refine (kBv px).mono ?_;refine LV λwT ba a7 b7 ez bg c2 ew a8 cl eu OT ee=>?_;go_upto_region 6 with fail;exact UM
 exact FY
def kMp (hl:Ch.rd w [vl] l) :
    Ad prog 88 #[vl] w (kAo 139 jA l w):=by
 have HL:=yD hl;obtain ⟨la,lp,rfl,ll⟩:=kD.sl hl.1;refine oL λbm=>?_;clear hl;go_enter func88,ntmps88;go_wp2;refine EW λO0=>?_;go_loopw [3,9] (λv i wr=>∃ k:Nat,k<=l.length/\i=.int .i64 k/\Hid (kD.ko 139 jA wr v (l.take k) (jW w wr))/\Qb w wr) (λ_ i _=>l.length - (Ag i).toNat);case atStart=>exact ⟨0,Nat.zero_le _,rfl,yD O0,bR.alloc nL _⟩
 clear O0;obtain ⟨k,hk,rfl,F,D⟩:=hrel;refine aH F λoa on oc ho ak=>?_;obtain rfl:=ho;refine FB λag=>?_;by_cases hlt:k < l.length
 · obtain ⟨qb,qo,rfl,ah,aj,ao,qr,a2,a4,a5⟩:=kD.zx (HL.1.below D) hlt rfl;refine CZ λa3 dh=>?_;generalize l[k]=x at *;have ch:=yD dh;clear dh;obtain ⟨x0,x1,x2⟩:=x;obtain ⟨rfl,rfl,au,az,aw,bi⟩:=yS qr;obtain ⟨ai,a6,rfl,bb⟩:=kD.sl az;refine GQ λN=>?_;go_upto_region 5 with fail;refine uY λwC R EC a9 M0=>?_;have M1:Qd wC wr 1 (Qn x1):=bB0;have M2:Qd wC wr 2 (Qn x2):=bB0;refine CU R λFX=>?_;clear R;refine JS ?_;refine uK λwS I=>?_;all_goals ((iterate 7 refine kZ ?_);(first|(refine kI rfl I ?_)|(refine ku rfl (λK E=>?_);go_simp;refine (zl (N.below (tQ EC I))).mono ?_;rintro e an ⟨ap,rfl,L,ba⟩;obtain ⟨Y,rfl,H⟩:=kT L.raw;obtain ⟨aa,ab,rfl,Z⟩:=kD.sl H;clear H;replace L:=yD L;have du:=ba.size;have cw:=I.size;replace I:=(tQ I ba);refine E _ _ I ?_;clear E K ba));refine jD ?_;refine kZ ?_;(first|(refine kI rfl I ?_)|(refine ku rfl (λK E=>?_);go_simp;refine E _ _ (I.alloc I.size _) ?_;clear E K));refine jD ?_;refine jq ?_)
   refine OI λX af F V=>?_;go_wp2_with (at_builtin;refine kD.jN rfl _ _ 30 rfl (r:=jA) (e:=139) underlying30 kIk rfl bJ4 bJ4 (B:=w.heap.size) F.out bJ7 bJ7 rfl (kD.own.wide (T:=jW wr an) (kD.yR (L.out) (kD.yh (kD.jB aw) (kD.jB bi))) pJ) rfl pQ vD pJ bJ5 wO ?_);exact iA
 exact uE
def kDn {l:Ac kM} (hl:Cf.rd w [vl] l) :
    Ad prog 89 #[vl] w (kAo 142 kL l w):=by
 have HL:=yD hl;obtain ⟨la,lp,rfl,ll⟩:=kD.sl hl.1;refine oL λbm=>?_;clear hl;go_enter func89,ntmps89;go_wp2;refine EX λO0=>?_;go_loopw [3,9] (λv i wr=>∃ k:Nat,k<=l.length/\i=.int .i64 k/\Hid (kD.ko 142 kL wr v (l.take k) (jW w wr))/\Qb w wr) (λ_ i _=>l.length - (Ag i).toNat);case atStart=>exact ⟨0,Nat.zero_le _,rfl,yD O0,bR.alloc nL _⟩
 clear O0;obtain ⟨k,hk,rfl,F,D⟩:=hrel;refine aH F λoa on oc ho ak=>?_;obtain rfl:=ho;refine FB λag=>?_;by_cases hlt:k < l.length
 · obtain ⟨qb,qo,rfl,ah,aj,ao,qr,a2,a4,a5⟩:=kD.zx (HL.1.below D) hlt rfl;refine CZ λa3 dh=>?_;generalize l[k]=x at *;have ch:=yD dh;clear dh;obtain ⟨x0,x1,x2⟩:=x;obtain ⟨rfl,rfl,au,az,aw,bi⟩:=jy qr;obtain ⟨ai,a6,rfl,bb⟩:=kD.sl az;refine GQ λN=>?_;go_upto_region 5 with fail;refine uY λwC R EC a9 M0=>?_;have M1:Qd wC wr 1 (Qn x1):=bB0;have M2:Qd wC wr 2 (Qn x2):=bB0;refine CU R λFX=>?_;clear R;refine JS ?_;refine uK λwS I=>?_;all_goals ((iterate 7 refine kZ ?_);(first|(refine kI rfl I ?_)|(refine ku rfl (λK E=>?_);go_simp;refine (zl (N.below (tQ EC I))).mono ?_;rintro e an ⟨ap,rfl,L,ba⟩;obtain ⟨Y,rfl,H⟩:=kT L.raw;obtain ⟨aa,ab,rfl,Z⟩:=kD.sl H;clear H;replace L:=yD L;have du:=ba.size;have cw:=I.size;replace I:=(tQ I ba);refine E _ _ I ?_;clear E K ba));refine jD ?_;refine kZ ?_;(first|(refine kI rfl I ?_)|(refine ku rfl (λK E=>?_);go_simp;refine E _ _ (I.alloc I.size _) ?_;clear E K));refine jD ?_;refine jq ?_)
   refine OI λX af F V=>?_;go_wp2_with (at_builtin;refine kD.jN rfl _ _ 31 rfl (r:=kL) (e:=142) underlying31 zY rfl bJ4 bJ4 (B:=w.heap.size) F.out bJ7 bJ7 rfl (kD.own.wide (T:=jW wr an) (kD.yR (L.out) (kD.yh (kD.jB aw) (kD.jB bi))) pJ) rfl pQ vD pJ bJ5 wO ?_);exact iA
 exact uE
def kFn (hl:Ch.rd w [vl] l) :
    Ad prog 112 #[vl] w (kAo 139 jA l w):=by
 have HL:=yD hl;obtain ⟨la,lp,rfl,ll⟩:=kD.sl hl.1;refine oL λbm=>?_;clear hl;go_enter func112,ntmps112;go_wp2;refine EW λO0=>?_;go_loopw [3,4] (λv i wr=>∃ k:Nat,k<=l.length/\i=.int .i64 k/\Hid (kD.ko 139 jA wr v (l.take k) (jW w wr))/\Qb w wr) (λ_ i _=>l.length - (Ag i).toNat);case atStart=>exact ⟨0,Nat.zero_le _,rfl,yD O0,bR.alloc nL _⟩
 clear O0;obtain ⟨k,hk,rfl,F,D⟩:=hrel;refine aH F λoa on oc ho ak=>?_;obtain rfl:=ho;refine FB λag=>?_;by_cases hlt:k < l.length
 · obtain ⟨qb,qo,rfl,ah,aj,ao,qr,a2,a4,a5⟩:=kD.zx (HL.1.below D) hlt rfl;refine CZ λa3 dh=>?_;generalize l[k]=x at *;have ch:=yD dh;clear dh;obtain ⟨x0,x1,x2⟩:=x;obtain ⟨rfl,rfl,au,az,aw,bi⟩:=yS qr;obtain ⟨ai,a6,rfl,bb⟩:=kD.sl az;refine GQ λN=>?_;go_wp2_with fail;refine SS λwT ba a7 b7 OT wC EC Y ER=>?_;refine aJ ER a2 a4 a5 λa2 a4 a5=>?_;refine FT λFX wS I=>?_;all_goals ((first|(refine kI rfl I ?_)|(refine ku rfl (λK E=>?_);go_simp;refine E _ _ (I.alloc I.size _) ?_;clear E K));refine jD ?_;refine jq ?_)
   refine P6 λgx bl X ee af F V=>?_;go_wp2_with (at_builtin;refine kD.jN rfl _ _ 30 rfl (r:=jA) (e:=139) underlying30 kIk rfl bJ4 bJ4 (B:=w.heap.size) F.out bJ7 bJ7 rfl (kD.own.wide (T:=jW wr wT) (kD.yR (OT.below (tQ EC I)) (kD.yh (kD.jB aw) (kD.jB bi))) pJ) rfl pQ vD pJ bJ5 wO ?_);exact iA
 exact uE
def kHx {l:Ac kM} (hl:Cf.rd w [vl] l) :
    Ad prog 113 #[vl] w (kAo 142 kL l w):=by
 have HL:=yD hl;obtain ⟨la,lp,rfl,ll⟩:=kD.sl hl.1;refine oL λbm=>?_;clear hl;go_enter func113,ntmps113;go_wp2;refine EX λO0=>?_;go_loopw [3,4] (λv i wr=>∃ k:Nat,k<=l.length/\i=.int .i64 k/\Hid (kD.ko 142 kL wr v (l.take k) (jW w wr))/\Qb w wr) (λ_ i _=>l.length - (Ag i).toNat);case atStart=>exact ⟨0,Nat.zero_le _,rfl,yD O0,bR.alloc nL _⟩
 clear O0;obtain ⟨k,hk,rfl,F,D⟩:=hrel;refine aH F λoa on oc ho ak=>?_;obtain rfl:=ho;refine FB λag=>?_;by_cases hlt:k < l.length
 · obtain ⟨qb,qo,rfl,ah,aj,ao,qr,a2,a4,a5⟩:=kD.zx (HL.1.below D) hlt rfl;refine CZ λa3 dh=>?_;generalize l[k]=x at *;have ch:=yD dh;clear dh;obtain ⟨x0,x1,x2⟩:=x;obtain ⟨rfl,rfl,au,az,aw,bi⟩:=jy qr;obtain ⟨ai,a6,rfl,bb⟩:=kD.sl az;refine GQ λN=>?_;go_wp2_with fail;refine SS λwT ba a7 b7 OT wC EC Y ER=>?_;refine aJ ER a2 a4 a5 λa2 a4 a5=>?_;refine FT λFX wS I=>?_;all_goals ((first|(refine kI rfl I ?_)|(refine ku rfl (λK E=>?_);go_simp;refine E _ _ (I.alloc I.size _) ?_;clear E K));refine jD ?_;refine jq ?_)
   refine P6 λgx bl X ee af F V=>?_;go_wp2_with (at_builtin;refine kD.jN rfl _ _ 31 rfl (r:=kL) (e:=142) underlying31 zY rfl bJ4 bJ4 (B:=w.heap.size) F.out bJ7 bJ7 rfl (kD.own.wide (T:=jW wr wT) (kD.yR (OT.below (tQ EC I)) (kD.yh (kD.jB aw) (kD.jB bi))) pJ) rfl pQ vD pJ bJ5 wO ?_);exact iA
 exact uE
def jAf (x:ja) (w:Aa) (e:Ending) (w':Aa):Prop :=
  ∃ (v:Ab) (ds:Ac Ab) (mid:Nat),e=.returned (.agg (v :: ds).toArray)/\kD.ko 43 jC w' v x.1 (jW w mid)/\(kD.pair kS (kD.pair Ce (kD.pair Cj (kD.pair Ch (kD.pair Cf kD.int))))).own w' ds x.2 (jW mid w')/\w.heap.size<=mid/\mid<=w'.heap.size/\Qb w w'
def jAf.made {e:Ending} {w':Aa} (h:jAf x w e w') (hb:jc.bdd Big x):kAm jc x w e w':=by
 obtain ⟨v,ds,mid,rfl,h1,h2,h3,h4,h5⟩:=h;refine ⟨v :: ds,rfl,?_,h5⟩;exact kD.ji (r:=kD.slice 43 jC) (q:=(kD.pair kS (kD.pair Ce (kD.pair Cj (kD.pair Ch (kD.pair Cf kD.int)))))) (cs:=[v]) (ds:=ds) (x:=x.1) (y:=x.2) (S:=jW w w') (h1.own hb.1.1) h2 vD vE pQ
def kPh (hx:jc.rd w cx x):Ad prog 47 #[.agg cx.toArray] w (jAf x w):=by
 refine EI λq0 q1 q2 q3 q4 q5 q6 aa af ag ab au=>?_;obtain ⟨el,e1,f3,f1,fw,fu,rfl,ac,bc,bl,bj,bf,bp,bt,c6,dp⟩:=yF hx.1;obtain ⟨dg,dd,rfl,en,dj,di,rfl,e4,d4,dz,rfl,fx,eb,d9,rfl,fz,d3,dy,rfl,f5,dx,dr,rfl,fy⟩:=kD.sx ac (kD.sx bj (kD.sx bf (kD.sx bp (kD.sx bt (kD.sl c6)))));refine uG λao al ah av ak ai dm=>?_;clear q0 q1 q2 q3 q4 q5 q6 bl dp ac bc bj bf bp bt c6 hx;go_enter func47,ntmps47;go_upto_region 1 with fail;refine fK λX U EB=>?_;refine lK λY K1 K2 K3 K4 K5 K6 K7 H cc FX wS I=>?_;clear U;all_goals ((first|(refine kI rfl I ?_)|(refine ku rfl (λK E=>?_);go_simp;refine (kYu (ao.below (tQ EB I))).mono ?_;rintro e u0 ⟨v1,rfl,O1,G⟩;obtain ⟨f7,bg,gd,an,b0⟩:=O1.parts;obtain rfl:=an;have D:=yD O1;clear O1;have a7:=G.size;have du:=I.size;replace I:=(tQ I G);refine E _ _ I ?_;clear E K G));refine jD ?_;(first|(refine kI rfl I ?_)|(refine ku rfl (λK E=>?_);go_simp;refine (kRw (al.below (tQ EB I))).mono ?_;rintro e u1 ⟨cs,rfl,O2,G⟩;obtain ⟨cv,rfl,fe,fq⟩:=jM O2.raw;obtain ⟨gy,g6,rfl,_⟩:=kD.sl fq;have R:=yD O2;clear O2 fe fq;replace D:=yD (D.below G);have a4:=G.size;have bv:=I.size;replace I:=(tQ I G);refine E _ _ I ?_;clear E K G));refine jD ?_;(first|(refine kI rfl I ?_)|(refine ku rfl (λK E=>?_);go_simp;refine (kHy (ah.below (tQ EB I))).mono ?_;rintro e u2 ⟨v1,rfl,O1,G⟩;obtain ⟨ff,be,fm,an,a6⟩:=O1.parts;obtain rfl:=an;have ae:=yD (O1.own af.out);clear O1;replace D:=yD (D.below G);replace R:=yD (R.below G);have am:=G.size;have d2:=I.size;replace I:=(tQ I G);refine E _ _ I ?_;clear E K G));refine jD ?_;(first|(refine kI rfl I ?_)|(refine ku rfl (λK E=>?_);go_simp;refine (kRu (av.below (tQ EB I))).mono ?_;rintro e u3 ⟨v1,rfl,O1,G⟩;obtain ⟨e9,Z,fc,an,ba⟩:=O1.parts;obtain rfl:=an;have ap:=yD (O1.own ag.out);clear O1;replace D:=yD (D.below G);replace R:=yD (R.below G);replace ae:=yD (ae.below G);have bq:=G.size;have cf:=I.size;replace I:=(tQ I G);refine E _ _ I ?_;clear E K G));refine jD ?_;(first|(refine kI rfl I ?_)|(refine ku rfl (λK E=>?_);go_simp;refine (kFn (ak.below (tQ EB I))).mono ?_;rintro e u4 ⟨v1,rfl,O1,G⟩;obtain ⟨b4,O,V,an,aj⟩:=O1.parts;obtain rfl:=an;have aq:=yD (O1.own ab.out);clear O1;replace D:=yD (D.below G);replace R:=yD (R.below G);replace ae:=yD (ae.below G);replace ap:=yD (ap.below G);have cd:=G.size;have dw:=I.size;replace I:=(tQ I G);refine E _ _ I ?_;clear E K G));refine jD ?_;(first|(refine kI rfl I ?_)|(refine ku rfl (λK E=>?_);go_simp;refine (kHx (ai.below (tQ EB I))).mono ?_;rintro e N ⟨v1,rfl,O1,G⟩;obtain ⟨bk,F,L,an,c7⟩:=O1.parts;obtain rfl:=an;have ar:=yD (O1.own au.out);clear O1;replace D:=yD (D.below G);replace R:=yD (R.below G);replace ae:=yD (ae.below G);replace ap:=yD (ap.below G);replace aq:=yD (aq.below G);have bw:=G.size;have a1:=I.size;replace I:=(tQ I G);refine E _ _ I ?_;clear E K G));refine jD ?_;refine kZ ?_;refine jq ?_)
 refine o9 λX1 E1 M0 F0 M1 F1 M2 F2 M3 F3 M4 F4 M5 F5 M6 F6 M7 F7=>?_;refine bodyPost_ret (v:=.agg #[.slice f7 bg gd,Qn x.2.1.1,Qs gy x.2.1.2 g6,.slice ff be fm,.slice e9 Z fc,.slice b4 O V,.slice bk F L,Qn x.2.2.2.2.2.2]) (by simp [results,results47,go_sem,M0,F0,M1,F1,M2,F2,M3,F3,M4,F4,M5,F5,M6,F6,M7,F7]) rfl ⟨_,[_,_,_,_,_,_,_],u0.heap.size,rfl,?_,?_,by have:=E1.size;omega,by simp [World.setCell];omega,?_⟩
 · refine kD.ko.wide (S:=jW wS u0) (kD.ko.keep D.out ?_) ?_;exact dI;exact vE
 exact iK;repeat (first|(with_reducible exact E1) | refine Below.setCell ?_ vJ _)
def kGw (hx:jc.rd w cx x):Ad prog 47 #[.agg cx.toArray] w (kAm jc x w) :=
  (kPh hx).mono λe w' h=>h.made hx.2
def jDm (hx:jc.rd w cx x):Ad prog 33 #[.agg cx.toArray] w (jAf x w):=by
 refine EI λq0 q1 q2 q3 q4 q5 q6 aa af ag ab au=>?_;obtain ⟨el,e1,f3,f1,fw,fu,rfl,ac,bc,bl,bj,bf,bp,bt,c6,dp⟩:=yF hx.1;obtain ⟨dg,dd,rfl,en,dj,di,rfl,e4,d4,dz,rfl,fx,eb,d9,rfl,fz,d3,dy,rfl,f5,dx,dr,rfl,fy⟩:=kD.sx ac (kD.sx bj (kD.sx bf (kD.sx bp (kD.sx bt (kD.sl c6)))));refine uG λao al ah av ak ai dm=>?_;clear q0 q1 q2 q3 q4 q5 q6 bl dp ac bc bj bf bp bt c6 hx;go_enter func33,ntmps33;go_upto_region 1 with fail;refine fK λX U EB=>?_;refine lK λY K1 K2 K3 K4 K5 K6 K7 H cc FX wS I=>?_;clear U;all_goals ((first|(refine kI rfl I ?_)|(refine ku rfl (λK E=>?_);go_simp;refine (kZh (ao.below (tQ EB I))).mono ?_;rintro e u0 ⟨v1,rfl,O1,G⟩;obtain ⟨f7,bg,gd,an,b0⟩:=O1.parts;obtain rfl:=an;have D:=yD O1;clear O1;have a7:=G.size;have du:=I.size;replace I:=(tQ I G);refine E _ _ I ?_;clear E K G));refine jD ?_;(first|(refine kI rfl I ?_)|(refine ku rfl (λK E=>?_);go_simp;refine (kOk (al.below (tQ EB I))).mono ?_;rintro e u1 ⟨cs,rfl,O2,G⟩;obtain ⟨cv,rfl,fe,fq⟩:=jM O2.raw;obtain ⟨gy,g6,rfl,_⟩:=kD.sl fq;have R:=yD O2;clear O2 fe fq;replace D:=yD (D.below G);have a4:=G.size;have bv:=I.size;replace I:=(tQ I G);refine E _ _ I ?_;clear E K G));refine jD ?_;(first|(refine kI rfl I ?_)|(refine ku rfl (λK E=>?_);go_simp;refine (kKx (ah.below (tQ EB I))).mono ?_;rintro e u2 ⟨v1,rfl,O1,G⟩;obtain ⟨ff,be,fm,an,a6⟩:=O1.parts;obtain rfl:=an;have ae:=yD (O1.own af.out);clear O1;replace D:=yD (D.below G);replace R:=yD (R.below G);have am:=G.size;have d2:=I.size;replace I:=(tQ I G);refine E _ _ I ?_;clear E K G));refine jD ?_;(first|(refine kI rfl I ?_)|(refine ku rfl (λK E=>?_);go_simp;refine (kPs (av.below (tQ EB I))).mono ?_;rintro e u3 ⟨v1,rfl,O1,G⟩;obtain ⟨e9,Z,fc,an,ba⟩:=O1.parts;obtain rfl:=an;have ap:=yD (O1.own ag.out);clear O1;replace D:=yD (D.below G);replace R:=yD (R.below G);replace ae:=yD (ae.below G);have bq:=G.size;have cf:=I.size;replace I:=(tQ I G);refine E _ _ I ?_;clear E K G));refine jD ?_;(first|(refine kI rfl I ?_)|(refine ku rfl (λK E=>?_);go_simp;refine (kMp (ak.below (tQ EB I))).mono ?_;rintro e u4 ⟨v1,rfl,O1,G⟩;obtain ⟨b4,O,V,an,aj⟩:=O1.parts;obtain rfl:=an;have aq:=yD (O1.own ab.out);clear O1;replace D:=yD (D.below G);replace R:=yD (R.below G);replace ae:=yD (ae.below G);replace ap:=yD (ap.below G);have cd:=G.size;have dw:=I.size;replace I:=(tQ I G);refine E _ _ I ?_;clear E K G));refine jD ?_;(first|(refine kI rfl I ?_)|(refine ku rfl (λK E=>?_);go_simp;refine (kDn (ai.below (tQ EB I))).mono ?_;rintro e N ⟨v1,rfl,O1,G⟩;obtain ⟨bk,F,L,an,c7⟩:=O1.parts;obtain rfl:=an;have ar:=yD (O1.own au.out);clear O1;replace D:=yD (D.below G);replace R:=yD (R.below G);replace ae:=yD (ae.below G);replace ap:=yD (ap.below G);replace aq:=yD (aq.below G);have bw:=G.size;have a1:=I.size;replace I:=(tQ I G);refine E _ _ I ?_;clear E K G));refine jD ?_;refine kZ ?_;refine jq ?_)
 refine o9 λX1 E1 M0 F0 M1 F1 M2 F2 M3 F3 M4 F4 M5 F5 M6 F6 M7 F7=>?_;refine bodyPost_ret (v:=.agg #[.slice f7 bg gd,Qn x.2.1.1,Qs gy x.2.1.2 g6,.slice ff be fm,.slice e9 Z fc,.slice b4 O V,.slice bk F L,Qn x.2.2.2.2.2.2]) (by simp [results,results33,go_sem,M0,F0,M1,F1,M2,F2,M3,F3,M4,F4,M5,F5,M6,F6,M7,F7]) rfl ⟨_,[_,_,_,_,_,_,_],u0.heap.size,rfl,?_,?_,by have:=E1.size;omega,by simp [World.setCell];omega,?_⟩
 · refine kD.ko.wide (S:=jW wS u0) (kD.ko.keep D.out ?_) ?_;exact dI;exact vE
 exact iK;repeat (first|(with_reducible exact E1) | refine Below.setCell ?_ vJ _)
def kPu (hx:jc.rd w cx x):Ad prog 33 #[.agg cx.toArray] w (kAm jc x w) :=
  (jDm hx).mono λe w' h=>h.made hx.2
def jAl:kW:=(([],[],[],0,0),0)
def kSt (l:Ac kW) (k:Nat) (x:kW):Bool:=!(!kBr x.1 || decide (idxOf (isC x.1.1) (l.take k) ≥ 0))
def kCv (x:kr):Bool:=zf (λj=>kSt x.2 j (x.2.getD j jAl)) x.2.length && (inR x.1 0 8 && decide ((x.2.length:Int)<=x.1))
def jAo {l:Ac kW} (h:k < l.length) (q:kSt l k l[k]=false):kCv (c,l)=false:=by
 unfold kCv;rw [kEw h sW];rfl
def kXo {l:Ac kW} (h:k < l.length) (q:kSt l k l[k]=true) (a:zf (λj=>kSt l j (l.getD j jAl)) k=true):zf (λj=>kSt l j (l.getD j jAl)) (k + 1)=true :=
  kCi a sW
def kXp {l:Ac kW} (q:zf (λj=>kSt l j (l.getD j jAl)) k=true) (h:¬ k < l.length) (hk:k<=l.length):kCv (c,l)=(inR c 0 8 && decide ((l.length:Int)<=c)):=by
 obtain rfl:k=l.length:=bJ5;unfold kCv;rw [q];rfl
def kMg {cs:Ac Ab} {x:kr} (hx:kS.raw w cs x) :
    Ad prog 282 #[.agg cs.toArray] w (bQ w (.bool (kCv x))):=by
 obtain ⟨sv,rfl,eo,hl⟩:=jM hx;obtain ⟨aa,pl,rfl,la⟩:=kD.sl hl;obtain ⟨c,l⟩:=x;replace hl:Cn.raw w [Qs aa l pl] l:=hl;have ae:=kD.kBx hl;replace la:l.length<=9223372036854775807:=la;clear hx eo;go_enter func282,ntmps282;go_wp2;refine oM λX EB N=>?_;obtain ⟨Y,K1⟩:=yA N;clear N;replace hl:=hl.below EB;go_loopw [3] (λi wr=>∃ k:Nat,k<=l.length/\i=.int .i64 k/\Hid (zf (λj=>kSt l j (l.getD j jAl)) k=true)/\Qb X wr) (λi _=>l.length - (Ag i).toNat);case atStart=>exact ⟨0,Nat.zero_le _,rfl,yD rfl,bR⟩
 obtain ⟨k,hk,rfl,HN,D⟩:=hrel;refine aL D Y K1 λY K1=>?_;by_cases hlt:k < l.length
 · refine FK λag=>?_;have hb:=λq=>jAo (c:=c) hlt q;have H:=λq=>kXo hlt q HN.out;obtain ⟨qb,qo,rfl,ah,aj,ao,cc,cf,b9,qr,a2,a4,a5,be,bo,aq⟩:=kD.get6 (hl.below D) (i:=k) bJ5 rfl;generalize l[k]=x at *;refine aN hb H λHB HX=>?_;clear hb H;obtain ⟨rfl,rfl,rfl,au,az,aw,bi,bk,bq,b5,bj,bt⟩:=yM qr;obtain ⟨ai,a6,rfl,bb,ar,bd,rfl,b2,ax,b3,rfl,b8⟩:=kD.sx aw (kD.sx bi (kD.sl bq));refine A8 λbg dt cz=>?_;go_upto_region 4 with fail;have FX:=yD (λ(W:Aa) (hW:Qb wr W)=>cLs8 hW Y K1 a2 a4 a5 be bo aq);refine kN (λW=>Qb wr W) [Tt,Tt,Tt,Tt,Tt,Tt,Ff,Tt,Tt,Tt,Tt,Tt,Tt,Tt,Tt,Tt,Tt,Tt,Tt,Tt,Ff,Tt,Tt] bI9 bI9 sD (bR.drew) ?_;refine uC λwS I=>?_;all_goals ((first | refine wkB (kDx (kD.raw.below au I)) (λwS1 I=>?_) | refine kZ ?_);refine kZ ?_;refine jo λb an=>?_;cases b <;> try simp only [jm] at an)
   all_goals ((iterate 11 refine kZ ?_);(first | refine wkB (kHz (kD.raw.below ag.out I) (kD.raw.below az I)) (λwS1 I=>?_) | refine kZ ?_);refine kZ ?_;refine jo λb bm=>?_;cases b <;> try simp only [jm] at bm)
   all_goals (refine kR ?_;have G:=(tQ D I))
   all_goals first|(have L:=yD (HB.out (show _=false by simp only [kSt,Q0,Ae,an,bm]));clear HB HX HN ag;go_wp2;go_ret;exact ⟨kJ L.symm,(tQ EB G)⟩)|(have L:=yD (HX.out (show _=true by simp only [kSt,Q0,Ae,an,bm]));clear HB HX HN ag;refine Qg ?_;exact ⟨k + 1,by omega,by go_num,L,G⟩)
 have L:=yD (kXp (c:=c) HN.out hlt hk);have b4:¬ (k:Int) < l.length:=bJ5;go_upto_region 6 with fail;have FX:=yD (λ(W:Aa) (hW:Qb wr W)=>kNa hW Y K1);refine kX (λW=>Qb wr W) [Tt,Tt,Ff,Tt,Tt,Tt,Tt,Tt,Tt,Tt,Tt,Tt] bR ?_;intro wS I;all_goals (refine kZ ?_;refine kZ ?_;(first | refine wkC (yQ) ?_ | refine kZ ?_);refine jo λb a1=>?_;cases b <;> try simp only [jm] at a1)
 all_goals ((iterate 7 refine kZ ?_);refine jo λb am=>?_;cases b <;> try simp only [jm] at am)
 all_goals (refine kR ?_;have G:=(tQ EB (tQ D I)))
 all_goals first|(have HV:=yD (show kCv (c,l)=false by rw [L.out];simp only [Q0,a1,am]);go_wp2;go_ret;exact ⟨kJ HV.symm,G⟩)|(have HV:=yD (show kCv (c,l)=true by rw [L.out];simp only [Q0,a1,am]);go_wp2;go_ret;exact ⟨kJ HV.symm,G⟩)
def kBg (n:kU) (f:Int) (m:jH):Bool:=(m.2.1==f) && eqN m.1 n
def kRs (hl:Ch.raw w [vl] l) (hn:kQ.raw w cn n) :
    Ad prog 286 #[vl,.agg cn.toArray,.int .i64 f] w (bQ w (.int .i64 (idxOf (kBg n f) l))):=by
 obtain ⟨al,pl,rfl,ll⟩:=kD.sl hl;have Hn:=yD hn;obtain ⟨Y,rfl,H⟩:=kT hn;obtain ⟨N,E,rfl,Z⟩:=kD.sl H;go_enter func286,ntmps286;go_wp2;refine MJ λX U EB=>?_;refine EE λV=>?_;clear U;replace hl:=hl.below EB;go_loopw [7] (λi wr=>∃ k:Nat,k<=l.length/\i=.int .i64 k/\Hid (∀ j,(h:j < k)->(h2:j < l.length)->(kBg n f) l[j]=false)/\Qb X wr) (λi _=>l.length - (Ag i).toNat);case atStart=>exact ⟨0,Nat.zero_le _,rfl,yD (λ_ h=>by omega),bR⟩
 obtain ⟨k,hk,rfl,HN,D⟩:=hrel;replace V:=cL D V;by_cases hlt:k < l.length
 · obtain ⟨qb,qo,rfl,ah,aj,ao,qr,a2,a4,a5⟩:=kD.zx (hl.below D) (i:=k) bJ5 rfl;refine AU λR J=>?_;generalize l[k]=x at *;refine aN R J λHD HX=>?_;clear R J;obtain ⟨x0,x1,x2⟩:=x;obtain ⟨rfl,rfl,au,az,aw,bi⟩:=yS qr;obtain ⟨ai,a6,rfl,bb⟩:=kD.sl az;go_upto_region 4 with fail;refine xS V a2 a4 a5 λFX=>?_;refine IE λwS I=>?_;all_goals (refine jo λb af=>?_;cases b <;> try simp only [jm] at af)
   all_goals ((iterate 6 refine kZ ?_);(first | refine wkB (zb (kD.raw.below au I) (kD.raw.below Hn.out ((tQ EB (tQ D I))))) (λwS1 I=>?_) | refine kZ ?_);refine jo λb F=>?_;cases b <;> try simp only [jm] at F)
   all_goals (refine kR ?_;have G:=(tQ D I))
   all_goals first|(have L:=yD (HD.out (show _=true by simp only [kBg,Q0,af,F]));clear HD HX;go_wp2;go_ret;exact ⟨jS L.symm,(tQ EB G)⟩)|(have L:=yD (HX.out (show _=false by simp only [kBg,Q0,af,F]));clear HD HX;refine Qg ?_;exact ⟨k + 1,by omega,by go_num,L,G⟩)
 exact QV
def jDg {cm:Ac Ab} {m:jH} (hm:jA.raw w cm m) {H:Nat} (D:Qc w H 0 (Qn f)) {b7:Ab} {Bn:Nat} (nr:kQ.raw w [b7] n) (ae:Qc w Bn 0 b7) :
    Ad prog 213 (#[.agg cm.toArray]++#[.pointer (Qa H),.pointer (Qa Bn)]) w (bQ w (.bool (kBg n f m))):=by
 have Hm:=yD hm;obtain ⟨ak,rfl,aa,E,O,J⟩:=kDr hm;obtain ⟨af,ag,rfl,am⟩:=kD.sl E;have ab:=kEx nr;obtain ⟨dz,R,rfl,ai⟩:=kD.sl ab;show Ad prog 213 #[_,_,_] w _;go_enter func213,ntmps213;go_upto_region 1 with fail;refine oM λX EB N=>?_;obtain ⟨F,V,aj⟩:=kBc N;clear N;refine aL EB D ae λD ae=>?_;refine JP λFX=>?_;refine q8 λwS I=>?_;all_goals (refine jo λb Z=>?_;cases b <;> try simp only [jm] at Z)
 all_goals ((iterate 3 refine kZ ?_);(first | refine wkB (yI (kD.raw.below aa (tQ EB I)) (kD.raw.below nr (tQ EB I))) (λwS1 I=>?_) | refine kZ ?_);refine kZ ?_;refine jo λb ac=>?_;cases b <;> try simp only [jm] at ac)
 all_goals (refine kR ?_;have G:=(tQ EB I))
 all_goals (obtain ⟨vq,qv⟩:∃ qc,(kBg n f m)=qc:=⟨_,rfl⟩;have L:=yD qv;simp only [kBg,Q0,Z,ac] at qv;subst qv;go_wp2;go_ret;exact ⟨kJ L.symm,G⟩)
def kMy:jL prog 213:=yK func213 bI9 bI9
def jFa (hl:Ch.raw w [vl] l) (hn:kQ.raw w cn n) :
    Ad prog 151 #[vl,.agg cn.toArray,.int .i64 f] w (bQ w (.int .i64 (idxOf (kBg n f) l))):=by
 obtain ⟨al,pl,rfl,ll⟩:=kD.sl hl;have Hn:=yD hn;obtain ⟨Y,rfl,H⟩:=kT hn;obtain ⟨N,E,rfl,Z⟩:=kD.sl H;go_enter func151,ntmps151;go_upto_region 1 with fail;refine fK λX U EB=>?_;refine EE λV=>?_;have F:Qc X (w.heap.size + 1) 0 (Qn f):=bA9;clear U;go_wp2_with fail;refine (kLf (kBg n f) kMy (kD.raw.below hl EB) ?_).mono ?_
 · intro wr hb i h cs hr;exact jDg hr (cL hb F) (kD.raw.below Hn.out (tQ EB hb)) (cL hb V)
 exact PO
def kFw (l:Ac jH) (k:Nat) (x:jH):Bool:=!(!zX x.1 || (!inR x.2.1 1 6 || (!inR x.2.2 0 1000 || decide (idxOf (kBg x.1 x.2.1) (l.take k) ≥ 0))))
def kCt (l:Ac jH):Bool:=zf (λj=>kFw l j (l.getD j ([],0,0))) l.length && decide (l.length<=24)
def kXr (h:k < l.length) (q:kFw l k l[k]=false):kCt l=false:=by
 unfold kCt;rw [kEw h sW];rfl
def kTp (h:k < l.length) (q:kFw l k l[k]=true) (a:zf (λj=>kFw l j (l.getD j ([],0,0))) k=true):zf (λj=>kFw l j (l.getD j ([],0,0))) (k + 1)=true :=
  kCi a sW
def kTq (q:zf (λj=>kFw l j (l.getD j ([],0,0))) k=true) (h:¬ k < l.length) (hk:k<=l.length):kCt l=decide (l.length<=24):=by
 obtain rfl:k=l.length:=bJ5;unfold kCt;rw [q];rfl
def kGu (hl:Ch.raw w [vl] l) :
    Ad prog 284 #[vl] w (bQ w (.bool (kCt l))):=by
 obtain ⟨al,pl,rfl,ll⟩:=kD.sl hl;have ae:=kD.kBx hl;go_enter func284,ntmps284;go_wp2;go_loopw [3] (λi wr=>∃ k:Nat,k<=l.length/\i=.int .i64 k/\Hid (zf (λj=>kFw l j (l.getD j ([],0,0))) k=true)/\Qb w wr) (λi _=>l.length - (Ag i).toNat);case atStart=>exact ⟨0,Nat.zero_le _,rfl,yD rfl,bR⟩
 obtain ⟨k,hk,rfl,HN,D⟩:=hrel;by_cases hlt:k < l.length
 · obtain ⟨qb,qo,rfl,ah,aj,ao,qr,a2,a4,a5⟩:=kD.zx (hl.below D) (i:=k) bJ5 rfl;refine FK λag=>?_;have hb:=λq=>kXr hlt q;have hx:=λq=>kTp hlt q HN.out;generalize l[k]=x at *;refine aN hb hx λHB HX=>?_;clear hb hx;obtain ⟨x0,x1,x2⟩:=x;obtain ⟨rfl,rfl,au,az,aw,bi⟩:=yS qr;obtain ⟨ai,a6,rfl,bb⟩:=kD.sl az;refine A8 λbg dt cz=>?_;go_upto_region 4 with fail;refine AL λFX wS I=>?_;all_goals ((first | refine wkB (zM (kD.raw.below au I)) (λwS1 I=>?_) | refine kZ ?_);refine kZ ?_;refine jo λb af=>?_;cases b <;> try simp only [jm] at af)
   all_goals ((iterate 5 refine kZ ?_);(first | refine wkC (yQ) ?_ | refine kZ ?_);refine kZ ?_;refine kZ ?_;refine jo λb V=>?_;cases b <;> try simp only [jm] at V)
   all_goals ((iterate 5 refine kZ ?_);(first | refine wkC (yQ) ?_ | refine kZ ?_);refine kZ ?_;refine kZ ?_;refine jo λb U=>?_;cases b <;> try simp only [jm] at U)
   all_goals ((iterate 13 refine kZ ?_);(first | refine wkB (kRs (kD.raw.below ag.out I) (kD.raw.below au I)) (λwS1 I=>?_) | refine kZ ?_);refine kZ ?_;refine jo λb E=>?_;cases b <;> try simp only [jm] at E)
   all_goals (refine kR ?_;have G:=D.trans (Below.mono I D.size))
   all_goals first|(have L:=yD (HB.out (show _=false by simp only [kFw,Q0,Ae,af,V,U,E]));clear HB HX HN ag;go_wp2;go_ret;exact ⟨kJ L.symm,G⟩)|(have L:=yD (HX.out (show _=true by simp only [kFw,Q0,Ae,af,V,U,E]));clear HB HX HN ag;refine Qg ?_;exact ⟨k + 1,by omega,by go_num,L,G⟩)
 have L:=yD (kTq HN.out hlt hk);exact L6
def kUv (hl:Ch.raw w [vl] l) :
    Ad prog 79 #[vl] w (bQ w (.bool (kCt l))):=by
 obtain ⟨al,pl,rfl,ll⟩:=kD.sl hl;have ae:=kD.kBx hl;go_enter func79,ntmps79;go_wp2;go_loopw [7] (λi wr=>∃ k:Nat,k<=l.length/\i=.int .i64 k/\Hid (zf (λj=>kFw l j (l.getD j ([],0,0))) k=true)/\Qb w wr) (λi _=>l.length - (Ag i).toNat);case atStart=>exact ⟨0,Nat.zero_le _,rfl,yD rfl,bR⟩
 obtain ⟨k,hk,rfl,HN,D⟩:=hrel;by_cases hlt:k < l.length
 · obtain ⟨qb,qo,rfl,ah,aj,ao,qr,a2,a4,a5⟩:=kD.zx (hl.below D) (i:=k) bJ5 rfl;refine FK λag=>?_;have hb:=λq=>kXr hlt q;have hx:=λq=>kTp hlt q HN.out;generalize l[k]=x at *;refine aN hb hx λHB HX=>?_;clear hb hx;obtain ⟨x0,x1,x2⟩:=x;obtain ⟨rfl,rfl,au,az,aw,bi⟩:=yS qr;obtain ⟨ai,a6,rfl,bb⟩:=kD.sl az;refine A8 λbg dt cz=>?_;go_upto_region 4 with fail;refine oM λwC EC N=>?_;obtain ⟨M0,M1,M2⟩:=kBc N;refine CU N λFX=>?_;clear N;refine GU λwS I=>?_;all_goals (refine kZ ?_;refine kZ ?_;(first | refine wkB (kAg (kD.raw.below au (tQ EC I))) (λwS1 I=>?_) | refine kZ ?_);refine kZ ?_;refine jo λb Z=>?_;cases b <;> try simp only [jm] at Z)
   all_goals (refine kZ ?_;refine kZ ?_;(first | refine wkC (yP) ?_ | refine kZ ?_);refine kZ ?_;refine kZ ?_;refine jo λb ac=>?_;cases b <;> try simp only [jm] at ac)
   all_goals (refine kZ ?_;refine kZ ?_;(first | refine wkC (yP) ?_ | refine kZ ?_);refine kZ ?_;refine kZ ?_;refine jo λb V=>?_;cases b <;> try simp only [jm] at V)
   all_goals ((iterate 7 refine kZ ?_);(first | refine wkB (jFa (kD.raw.below ag.out (tQ EC I)) (kD.raw.below au (tQ EC I))) (λwS1 I=>?_) | refine kZ ?_);refine kZ ?_;refine jo λb H=>?_;cases b <;> try simp only [jm] at H)
   all_goals (refine kR ?_;have G:=D.trans (Below.mono (tQ EC I) D.size))
   all_goals first|(have L:=yD (HB.out (show _=false by simp only [kFw,Q0,Ae,Z,ac,V,H]));clear HB HX HN ag;go_wp2;go_ret;exact ⟨kJ L.symm,G⟩)|(have L:=yD (HX.out (show _=true by simp only [kFw,Q0,Ae,Z,ac,V,H]));clear HB HX HN ag;refine Qg ?_;exact ⟨k + 1,by omega,by go_num,L,G⟩)
 have L:=yD (kTq HN.out hlt hk);exact L6
end Go.Proofs.YthocbplmdjkifabGreat

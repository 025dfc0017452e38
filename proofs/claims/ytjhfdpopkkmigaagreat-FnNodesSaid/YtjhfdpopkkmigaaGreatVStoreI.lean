/-
  Content stores that are valid: the program.
-/
import Derived.Test.YtjhfdpopkkmigaaGreatWoC
set_option linter.unusedVariables false
set_option linter.defProp false
set_option linter.unusedSimpArgs false
set_option linter.unnecessarySimpa false
set_option maxRecDepth 100000
set_option maxHeartbeats 4000000
open Bool renaming true->Tt,false->Ff
open Bool renaming not_false->Aa,and_false->Ab,false_and->Ac,not_true->Ad,and_true->Ae,true_and->Ag,or_false->Ah,false_or->Ai,or_true->Aj,true_or->Ak,not_not->Al
open List.cons renaming injEq->Am
open _root_ renaming ge_iff_le->Ap,List->Ar
open Go renaming World->Aq,Value->Au,Calls->Ay
open Go.RowKit.Below renaming mono->Av,size->Az
open Go.RowKit renaming intOf->Aw
namespace Go.Proofs.YtjhfdpopkkmigaaGreat
open Go.RowKit _root_.Go.Proofs.Tryz
def kUb:kZ:=(([],[],[],0,0),0)
def kNl (l:Ar kZ) (k:Nat) (x:kZ):Bool:=!(!kBi x.1 || decide (idxOf (isC x.1.1) (l.take k) ≥ 0))
def kCm (x:kg):Bool:=ym (λj=>kNl x.2 j (x.2.getD j kUb)) x.2.length && (inR x.1 0 8 && decide ((x.2.length:Int)<=x.1))
def kUd {c:Int} {l:Ar kZ} {k:Nat} (h:k < l.length) (q:kNl l k l[k]=false):kCm (c,l)=false:=by
 unfold kCm;rw [kCu h qK];rfl
def kRb {l:Ar kZ} {k:Nat} (h:k < l.length) (q:kNl l k l[k]=true) (a:ym (λj=>kNl l j (l.getD j kUb)) k=true):ym (λj=>kNl l j (l.getD j kUb)) (k + 1)=true :=
  kAs a qK
def kRc {c:Int} {l:Ar kZ} {k:Nat} (q:ym (λj=>kNl l j (l.getD j kUb)) k=true) (h:¬ k < l.length) (hk:k<=l.length):kCm (c,l)=(inR c 0 8 && decide ((l.length:Int)<=c)):=by
 obtain rfl:k=l.length:=bD1;unfold kCm;rw [q];rfl
def kId {w:Aq} {cs:Ar Au} {x:kg} (hx:kP.raw w cs x) :
    Ay prog 83 #[.agg cs.toArray] w (bQ w (.bool (kCm x))):=by
 obtain ⟨sv,rfl,a3,hl⟩:=jI hx
 obtain ⟨aa,pl,rfl,la⟩:=kD.sl hl
 obtain ⟨c,l⟩:=x
 replace hl:(kD.slice 122 jC).raw w [Qs aa l pl] l:=hl
 have Z:=kD.kBe hl
 replace la:l.length<=9223372036854775807:=la
 have al:=yD a3
 clear hx a3
 go_enter func83,ntmps83
 go_wp2
 generalize J:World.alloc w _=N
 have R:Qb w N:=by rw [<- J];exact bG
 have K0:Qd N w 0 (.int .i64 c):=tT
 have K1:Qd N w 1 (.slice aa l.length pl):=tT
 clear J
 replace hl:=hl.below R
 go_loopw [3] (λi wr=>∃ k:Nat,k<=l.length/\i=.int .i64 k/\Hid (ym (λj=>kNl l j (l.getD j kUb)) k=true)/\Qb N wr) (λi _=>l.length - (Aw i).toNat)
 case atStart=>exact ⟨0,Nat.zero_le _,rfl,yD rfl,bR⟩
 obtain ⟨k,hk,rfl,HN,o⟩:=hrel
 replace K0:=cL o K0
 replace K1:=cL o K1
 by_cases hlt:k < l.length
 · have az:=yD (kD.kBv (hl.below o) hk);have hb:=λq=>kUd (c:=c) hlt q;have am:=λq=>kRb hlt q HN.out;obtain ⟨qb,qo,rfl,ae,af,ah,cv,cw,br,qr,ap,ar,ay,bo,b2,a4⟩:=kD.kPk (hl.below o) (i:=k) bD1 rfl;generalize l[k]=x at *;have HB:=yD hb;have HX:=yD am;clear hb am;obtain ⟨bd,b5,cq,ac,ag,ak,ao,ax,b3,bq,cm,bp,bi⟩:=jV qr;simp only [Am,and_true] at ac;obtain ⟨rfl,rfl,rfl,rfl,rfl,rfl⟩:=ac;obtain ⟨ad,aw,rfl,bf⟩:=kD.sl ao;obtain ⟨ai,bj,rfl,cg⟩:=kD.sl ax;obtain ⟨aj,cl,rfl,c2⟩:=kD.sl bq;obtain ⟨bv,bk,c5,a2⟩:=xX;go_upto_region 4 with fail;have FX:=yD (λ(W:Aq) (hW:Qb wr W)=>cLs8 hW K0 K1 ap ar ay bo b2 a4);refine kM (λW=>Qb wr W) [Tt,Tt,Tt,Tt,Tt,Tt,Ff,Tt,Tt,Tt,Tt,Tt,Tt,Tt,Tt,Tt,Tt,Tt,Tt,Tt,Ff,Tt,Tt] bC5 bC5 pY (bR.drew) ?_;intro wS E;iterate 6
    all_goals refine kX ?_
   all_goals first | refine wkB (kDc (kD.raw.below ag E)) (λwS1 E=>?_) | refine kX ?_
   all_goals refine kX ?_
   all_goals (refine jd λb av=>?_;cases b <;> try simp only [jc] at av)
   iterate 11
    all_goals refine kX ?_
   all_goals first | refine wkB (kEv (kD.raw.below az.out E) (kD.raw.below ak E)) (λwS1 E=>?_) | refine kX ?_
   all_goals refine kX ?_
   all_goals (refine jd λb L=>?_;cases b <;> try simp only [jc] at L)
   all_goals refine kR ?_
   all_goals have F:=(tQ o E)
   all_goals first
     | (have U:=yD (HB.out (show _=false by simp only [kNl,Ad,Aa,Ae,Ag,Ab,Ac,Aj,Ak,Ah,Ai,Al,Ap,av,L]));clear HB HX HN az;go_wp2;go_ret;exact ⟨kK U.out.symm,(tQ R F)⟩)
     | (have U:=yD (HX.out (show _=true by simp only [kNl,Ad,Aa,Ae,Ag,Ab,Ac,Aj,Ak,Ah,Ai,Al,Ap,av,L]));clear HB HX HN az;go_wp2;go_roundw;(case rel=>exact ⟨k + 1,by omega,by go_num,U,F⟩);(case measure=>simp [Aw];omega))
 have U:=yD (kRc (c:=c) HN.out hlt hk)
 have b6:¬ (k:Int) < l.length:=bD1
 go_upto_region 6 with fail
 have FX:=yD (λ(W:Aq) (hW:Qb wr W)=>kHv hW K0 K1)
 refine ky (λW=>Qb wr W) [Tt,Tt,Ff,Tt,Tt,Tt,Tt,Tt,Tt,Tt,Tt,Tt] bR ?_
 intro wS E
 all_goals refine kX ?_
 all_goals refine kX ?_
 all_goals first | refine wkC (jw) ?_ | refine kX ?_
 all_goals (refine jd λb a1=>?_;cases b <;> try simp only [jc] at a1)
 iterate 7
  all_goals refine kX ?_
 all_goals (refine jd λb au=>?_;cases b <;> try simp only [jc] at au)
 all_goals refine kR ?_
 all_goals have F:=(tQ R (tQ o E))
 all_goals first
   | (have Y:=yD (show kCm (c,l)=false by rw [U.out];simp only [Ad,Aa,Ae,Ag,Ab,Ac,Aj,Ak,Ah,Ai,Al,a1,au]);go_wp2;go_ret;exact ⟨kK Y.out.symm,F⟩)
   | (have Y:=yD (show kCm (c,l)=true by rw [U.out];simp only [Ad,Aa,Ae,Ag,Ab,Ac,Aj,Ak,Ah,Ai,Al,a1,au]);go_wp2;go_ret;exact ⟨kK Y.out.symm,F⟩)
def zo (n:kr) (f:Int) (m:kz):Bool:=(m.2.1==f) && eqN m.1 n
def kMo {w:Aq} {vl:Au} {l:(Ar kz)} (hl:(kD.slice 131 kS).raw w [vl] l) {cn:Ar Au} {n:kr} (hn:kW.raw w cn n) {f:Int} :
    Ay prog 154 #[vl,.agg cn.toArray,.int .i64 f] w (bQ w (.int .i64 (idxOf (zo n f) l))):=by
 obtain ⟨al,pl,rfl,ll⟩:=kD.sl hl
 have Y:=yD hn
 obtain ⟨L,rfl,H⟩:=ko hn
 obtain ⟨I,G,rfl,V⟩:=kD.sl H
 go_enter func154,ntmps154
 go_wp2
 generalize J:World.alloc w _=N
 obtain ⟨R,D⟩:=xZ
 clear J
 replace hl:=hl.below R
 go_loopw [7] (λi wr=>∃ k:Nat,k<=l.length/\i=.int .i64 k/\Hid (∀ j,(h:j < k)->(h2:j < l.length)->(zo n f) l[j]=false)/\Qb N wr) (λi _=>l.length - (Aw i).toNat)
 case atStart=>exact ⟨0,Nat.zero_le _,rfl,yD (λ_ h=>by omega),bR⟩
 obtain ⟨k,hk,rfl,HN,o⟩:=hrel
 replace D:=cL o D
 by_cases hlt:k < l.length
 · obtain ⟨qb,qo,rfl,ae,af,ah,qr,ap,ar,ay⟩:=kD.zt (hl.below o) (i:=k) bD1 rfl;obtain ⟨au,Z⟩:=DJ;generalize l[k]=x at *;have HD:=yD au;have HX:=yD Z;clear au Z;obtain ⟨x0,x1,x2⟩:=x;obtain ⟨bd,ac,ag,ak,ao,ax⟩:=jJ qr;simp only [Am,and_true] at ac;obtain ⟨rfl,rfl,rfl⟩:=ac;obtain ⟨ad,aw,rfl,bf⟩:=kD.sl ak;go_upto_region 4 with fail;have FX:=yD (λ(W:Aq) (hW:Qb wr W)=>kGr hW D ap ar ay);refine kM (λW=>Qb wr W) [Tt,Tt,Tt,Tt,Tt,Tt,Tt,Tt,Tt,Tt,Tt,Tt,Tt,Tt,Ff,Tt] bC5 bC5 pY (bR.drew) ?_;intro wS E;iterate 7
    all_goals refine kX ?_
   all_goals (refine jd λb X=>?_;cases b <;> try simp only [jc] at X)
   iterate 6
    all_goals refine kX ?_
   all_goals first | refine wkB (zD (kD.raw.below ag E) (kD.raw.below Y.out ((tQ R (tQ o E))))) (λwS1 E=>?_) | refine kX ?_
   all_goals (refine jd λb a3=>?_;cases b <;> try simp only [jc] at a3)
   all_goals refine kR ?_
   all_goals have F:=(tQ o E)
   all_goals first
     | (have U:=yD (HD.out (show _=true by simp only [zo,Ad,Aa,Ae,Ag,Ab,Ac,Aj,Ak,Ah,Ai,Al,X,a3]));clear HD HX;go_wp2;go_ret;exact ⟨jX U.out.symm,(tQ R F)⟩)
     | (have U:=yD (HX.out (show _=false by simp only [zo,Ad,Aa,Ae,Ag,Ab,Ac,Aj,Ak,Ah,Ai,Al,X,a3]));clear HD HX;go_wp2;go_roundw;(case rel=>exact ⟨k + 1,by omega,by go_num,U,F⟩);(case measure=>simp [Aw];omega))
 exact iN
def kWb {w:Aq} {cm:Ar Au} {m:kz} (hm:kS.raw w cm m) {f:Int} {Y:Nat} (o:Qc w Y 0 (.int .i64 f)) {n:kr} {cc:Au} {X:Nat} (nr:kW.raw w [cc] n) (aj:Qc w X 0 cc) :
    Ay prog 187 (#[.agg cm.toArray]++#[.pointer (some ⟨Y,0,none⟩),.pointer (some ⟨X,0,none⟩)]) w (bQ w (.bool (zo n f m))):=by
 have Hm:=yD hm
 obtain ⟨ac,rfl,V,I,ad,Z⟩:=jJ hm
 obtain ⟨H,L,rfl,af⟩:=kD.sl I
 obtain ⟨G,a1,a9⟩:=ko nr
 simp only [Am,and_true] at a1
 obtain rfl:=a1
 obtain ⟨el,aa,rfl,ab⟩:=kD.sl a9
 show Ay prog 187 #[_,_,_] w _
 go_enter func187,ntmps187
 go_upto_region 1 with fail
 generalize J:World.alloc w _=N
 obtain ⟨R,D,ae,ag⟩:=J7
 clear J
 replace o:=cL R o
 replace aj:=cL R aj
 have FX:=yD (λ(W:Aq) (hW:Qb N W)=>cLs5 hW D ae ag o aj)
 refine ky (λW=>Qb N W) [Tt,Tt,Tt,Tt,Tt,Tt,Tt,Tt,Ff,Tt,Tt] bR ?_
 intro wS E
 iterate 4
  all_goals refine kX ?_
 all_goals (refine jd λb O=>?_;cases b <;> try simp only [jc] at O)
 iterate 3
  all_goals refine kX ?_
 all_goals first | refine wkB (yA (kD.raw.below V (tQ R E)) (kD.raw.below nr (tQ R E))) (λwS1 E=>?_) | refine kX ?_
 all_goals refine kX ?_
 all_goals (refine jd λb aq=>?_;cases b <;> try simp only [jc] at aq)
 all_goals refine kR ?_
 all_goals have F:=(tQ R E)
 all_goals first
   | (have U:=yD (show (zo n f m)=false by simp only [zo,Ad,Aa,Ae,Ag,Ab,Ac,Aj,Ak,Ah,Ai,Al,O,aq]);go_wp2;go_ret;exact ⟨kK U.out.symm,F⟩)
   | (have U:=yD (show (zo n f m)=true by simp only [zo,Ad,Aa,Ae,Ag,Ab,Ac,Aj,Ak,Ah,Ai,Al,O,aq]);go_wp2;go_ret;exact ⟨kK U.out.symm,F⟩)
def kIo:jH prog 187:=yR func187 bC5 bC5
def kXm {w:Aq} {vl:Au} {l:(Ar kz)} (hl:(kD.slice 131 kS).raw w [vl] l) {cn:Ar Au} {n:kr} (hn:kW.raw w cn n) {f:Int} :
    Ay prog 148 #[vl,.agg cn.toArray,.int .i64 f] w (bQ w (.int .i64 (idxOf (zo n f) l))):=by
 obtain ⟨al,pl,rfl,ll⟩:=kD.sl hl
 have Y:=yD hn
 obtain ⟨L,rfl,H⟩:=ko hn
 obtain ⟨I,G,rfl,V⟩:=kD.sl H
 go_enter func148,ntmps148
 go_upto_region 1 with fail
 generalize J:World.alloc (World.alloc w _) _=N
 obtain ⟨R,D⟩:=xZ
 have o:Qc N (w.heap.size + 1) 0 (.int .i64 f):=tT
 clear J
 go_wp2_with fail
 refine (kHf (zo n f) kIo (kD.raw.below hl R) ?_).mono ?_
 · intro wr hb i h cs hr;exact kWb hr (cL hb o) (kD.raw.below Y.out (tQ R hb)) (cL hb D)
 exact iO
def kDf (l:Ar kz) (k:Nat) (x:kz):Bool:=!(!zf x.1 || (!inR x.2.1 1 6 || (!inR x.2.2 0 1000 || decide (idxOf (zo x.1 x.2.1) (l.take k) ≥ 0))))
def kBc (l:Ar kz):Bool:=ym (λj=>kDf l j (l.getD j ([],0,0))) l.length && decide (l.length<=24)
def kRe {l:Ar kz} {k:Nat} (h:k < l.length) (q:kDf l k l[k]=false):kBc l=false:=by
 unfold kBc;rw [kCu h qK];rfl
def kOe {l:Ar kz} {k:Nat} (h:k < l.length) (q:kDf l k l[k]=true) (a:ym (λj=>kDf l j (l.getD j ([],0,0))) k=true):ym (λj=>kDf l j (l.getD j ([],0,0))) (k + 1)=true :=
  kAs a qK
def kOf {l:Ar kz} {k:Nat} (q:ym (λj=>kDf l j (l.getD j ([],0,0))) k=true) (h:¬ k < l.length) (hk:k<=l.length):kBc l=decide (l.length<=24):=by
 obtain rfl:k=l.length:=bD1;unfold kBc;rw [q];rfl
def kDx {w:Aq} {vl:Au} {l:Ar kz} (hl:(kD.slice 131 kS).raw w [vl] l) :
    Ay prog 85 #[vl] w (bQ w (.bool (kBc l))):=by
 obtain ⟨al,pl,rfl,ll⟩:=kD.sl hl
 have Z:=kD.kBe hl
 go_enter func85,ntmps85
 go_wp2
 go_loopw [3] (λi wr=>∃ k:Nat,k<=l.length/\i=.int .i64 k/\Hid (ym (λj=>kDf l j (l.getD j ([],0,0))) k=true)/\Qb w wr) (λi _=>l.length - (Aw i).toNat)
 case atStart=>exact ⟨0,Nat.zero_le _,rfl,yD rfl,bR⟩
 obtain ⟨k,hk,rfl,HN,o⟩:=hrel
 by_cases hlt:k < l.length
 · obtain ⟨qb,qo,rfl,ae,af,ah,qr,ap,ar,ay⟩:=kD.zt (hl.below o) (i:=k) bD1 rfl;have az:=yD (kD.kBv (hl.below o) hk);have hb:=λq=>kRe hlt q;have hx:=λq=>kOe hlt q HN.out;generalize l[k]=x at *;have HB:=yD hb;have HX:=yD hx;clear hb hx;obtain ⟨x0,x1,x2⟩:=x;obtain ⟨bd,ac,ag,ak,ao,ax⟩:=jJ qr;simp only [Am,and_true] at ac;obtain ⟨rfl,rfl,rfl⟩:=ac;obtain ⟨ad,aw,rfl,bf⟩:=kD.sl ak;obtain ⟨bv,bk,c5,a2⟩:=xX;go_upto_region 4 with fail;have FX:=yD (λ(W:Aq) (hW:Qb wr W)=>kKb hW ap ar ay);refine kM (λW=>Qb wr W) [Tt,Tt,Tt,Tt,Tt,Ff,Tt,Tt,Tt,Tt,Tt,Tt,Tt,Ff,Tt,Tt,Tt,Tt,Tt,Tt,Tt,Tt,Ff,Tt,Tt,Tt,Tt,Tt,Tt,Tt,Tt,Tt,Tt,Tt,Tt,Tt,Tt,Tt,Tt,Ff,Tt,Tt] bC5 bC5 pY (bR.drew) ?_;intro wS E;iterate 5
    all_goals refine kX ?_
   all_goals first | refine wkB (yZ (kD.raw.below ag E)) (λwS1 E=>?_) | refine kX ?_
   all_goals refine kX ?_
   all_goals (refine jd λb X=>?_;cases b <;> try simp only [jc] at X)
   iterate 5
    all_goals refine kX ?_
   all_goals first | refine wkC (jw) ?_ | refine kX ?_
   all_goals refine kX ?_
   all_goals refine kX ?_
   all_goals (refine jd λb V=>?_;cases b <;> try simp only [jc] at V)
   iterate 5
    all_goals refine kX ?_
   all_goals first | refine wkC (jw) ?_ | refine kX ?_
   all_goals refine kX ?_
   all_goals refine kX ?_
   all_goals (refine jd λb H=>?_;cases b <;> try simp only [jc] at H)
   iterate 13
    all_goals refine kX ?_
   all_goals first | refine wkB (kMo (kD.raw.below az.out E) (kD.raw.below ag E)) (λwS1 E=>?_) | refine kX ?_
   all_goals refine kX ?_
   all_goals (refine jd λb D=>?_;cases b <;> try simp only [jc] at D)
   all_goals refine kR ?_
   all_goals have F:=o.trans (Av E o.size)
   all_goals first
     | (have U:=yD (HB.out (show _=false by simp only [kDf,Ad,Aa,Ae,Ag,Ab,Ac,Aj,Ak,Ah,Ai,Al,Ap,X,V,H,D]));clear HB HX HN az;go_wp2;go_ret;exact ⟨kK U.out.symm,F⟩)
     | (have U:=yD (HX.out (show _=true by simp only [kDf,Ad,Aa,Ae,Ag,Ab,Ac,Aj,Ak,Ah,Ai,Al,Ap,X,V,H,D]));clear HB HX HN az;go_wp2;go_roundw;(case rel=>exact ⟨k + 1,by omega,by go_num,U,F⟩);(case measure=>simp [Aw];omega))
 have U:=yD (kOf HN.out hlt hk)
 exact uJ
def kPg {w:Aq} {vl:Au} {l:Ar kz} (hl:(kD.slice 131 kS).raw w [vl] l) :
    Ay prog 80 #[vl] w (bQ w (.bool (kBc l))):=by
 obtain ⟨al,pl,rfl,ll⟩:=kD.sl hl
 have Z:=kD.kBe hl
 go_enter func80,ntmps80
 go_wp2
 go_loopw [7] (λi wr=>∃ k:Nat,k<=l.length/\i=.int .i64 k/\Hid (ym (λj=>kDf l j (l.getD j ([],0,0))) k=true)/\Qb w wr) (λi _=>l.length - (Aw i).toNat)
 case atStart=>exact ⟨0,Nat.zero_le _,rfl,yD rfl,bR⟩
 obtain ⟨k,hk,rfl,HN,o⟩:=hrel
 by_cases hlt:k < l.length
 · obtain ⟨qb,qo,rfl,ae,af,ah,qr,ap,ar,ay⟩:=kD.zt (hl.below o) (i:=k) bD1 rfl;have az:=yD (kD.kBv (hl.below o) hk);have hb:=λq=>kRe hlt q;have hx:=λq=>kOe hlt q HN.out;generalize l[k]=x at *;have HB:=yD hb;have HX:=yD hx;clear hb hx;obtain ⟨x0,x1,x2⟩:=x;obtain ⟨bd,ac,ag,ak,ao,ax⟩:=jJ qr;simp only [Am,and_true] at ac;obtain ⟨rfl,rfl,rfl⟩:=ac;obtain ⟨ad,aw,rfl,bf⟩:=kD.sl ak;obtain ⟨bv,bk,c5,a2⟩:=xX;go_upto_region 4 with fail;generalize D:World.alloc wr _=wC;have EC:Qb wr wC:=rU;obtain ⟨M0,M1,M2⟩:=CS;clear D;have FX:=yD (λ(W:Aq) (hW:Qb wC W)=>kKb hW M0 M1 M2);refine kM (λW=>Qb wC W) [Tt,Tt,Ff,Tt,Tt,Tt,Tt,Ff,Tt,Tt,Tt,Tt,Tt,Ff,Tt,Tt,Tt,Tt,Tt,Tt,Tt,Tt,Tt,Tt,Ff,Tt,Tt] bC5 bC5 pY (bR.drew) ?_;intro wS E;all_goals refine kX ?_
   all_goals refine kX ?_
   all_goals first | refine wkB (kBz (kD.raw.below ag (tQ EC E))) (λwS1 E=>?_) | refine kX ?_
   all_goals refine kX ?_
   all_goals (refine jd λb O=>?_;cases b <;> try simp only [jc] at O)
   all_goals refine kX ?_
   all_goals refine kX ?_
   all_goals first | refine wkC (yF) ?_ | refine kX ?_
   all_goals refine kX ?_
   all_goals refine kX ?_
   all_goals (refine jd λb aq=>?_;cases b <;> try simp only [jc] at aq)
   all_goals refine kX ?_
   all_goals refine kX ?_
   all_goals first | refine wkC (yF) ?_ | refine kX ?_
   all_goals refine kX ?_
   all_goals refine kX ?_
   all_goals (refine jd λb V=>?_;cases b <;> try simp only [jc] at V)
   iterate 7
    all_goals refine kX ?_
   all_goals first | refine wkB (kXm (kD.raw.below az.out (tQ EC E)) (kD.raw.below ag (tQ EC E))) (λwS1 E=>?_) | refine kX ?_
   all_goals refine kX ?_
   all_goals (refine jd λb G=>?_;cases b <;> try simp only [jc] at G)
   all_goals refine kR ?_
   all_goals have F:=o.trans (Av (tQ EC E) o.size)
   all_goals first
     | (have U:=yD (HB.out (show _=false by simp only [kDf,Ad,Aa,Ae,Ag,Ab,Ac,Aj,Ak,Ah,Ai,Al,Ap,O,aq,V,G]));clear HB HX HN az;go_wp2;go_ret;exact ⟨kK U.out.symm,F⟩)
     | (have U:=yD (HX.out (show _=true by simp only [kDf,Ad,Aa,Ae,Ag,Ab,Ac,Aj,Ak,Ah,Ai,Al,Ap,O,aq,V,G]));clear HB HX HN az;go_wp2;go_roundw;(case rel=>exact ⟨k + 1,by omega,by go_num,U,F⟩);(case measure=>simp [Aw];omega))
 have U:=yD (kOf HN.out hlt hk)
 exact uJ
def yX (n:kr) (f:Int) (m:kT):Bool:=(m.2.1==f) && eqN m.1 n
def kEt {w:Aq} {vl:Au} {l:(Ar kT)} (hl:(kD.slice 149 kL).raw w [vl] l) {cn:Ar Au} {n:kr} (hn:kW.raw w cn n) {f:Int} :
    Ay prog 155 #[vl,.agg cn.toArray,.int .i64 f] w (bQ w (.int .i64 (idxOf (yX n f) l))):=by
 obtain ⟨al,pl,rfl,ll⟩:=kD.sl hl
 have Y:=yD hn
 obtain ⟨L,rfl,H⟩:=ko hn
 obtain ⟨I,G,rfl,V⟩:=kD.sl H
 go_enter func155,ntmps155
 go_wp2
 generalize J:World.alloc w _=N
 obtain ⟨R,D⟩:=xZ
 clear J
 replace hl:=hl.below R
 go_loopw [7] (λi wr=>∃ k:Nat,k<=l.length/\i=.int .i64 k/\Hid (∀ j,(h:j < k)->(h2:j < l.length)->(yX n f) l[j]=false)/\Qb N wr) (λi _=>l.length - (Aw i).toNat)
 case atStart=>exact ⟨0,Nat.zero_le _,rfl,yD (λ_ h=>by omega),bR⟩
 obtain ⟨k,hk,rfl,HN,o⟩:=hrel
 replace D:=cL o D
 by_cases hlt:k < l.length
 · obtain ⟨qb,qo,rfl,ae,af,ah,qr,ap,ar,ay⟩:=kD.zt (hl.below o) (i:=k) bD1 rfl;obtain ⟨au,Z⟩:=DJ;generalize l[k]=x at *;have HD:=yD au;have HX:=yD Z;clear au Z;obtain ⟨x0,x1,x2⟩:=x;obtain ⟨bd,ac,ag,ak,ao,ax⟩:=jh qr;simp only [Am,and_true] at ac;obtain ⟨rfl,rfl,rfl⟩:=ac;obtain ⟨ad,aw,rfl,bf⟩:=kD.sl ak;go_upto_region 4 with fail;have FX:=yD (λ(W:Aq) (hW:Qb wr W)=>kGr hW D ap ar ay);refine kM (λW=>Qb wr W) [Tt,Tt,Tt,Tt,Tt,Tt,Tt,Tt,Tt,Tt,Tt,Tt,Tt,Tt,Ff,Tt] bC5 bC5 pY (bR.drew) ?_;intro wS E;iterate 7
    all_goals refine kX ?_
   all_goals (refine jd λb X=>?_;cases b <;> try simp only [jc] at X)
   iterate 6
    all_goals refine kX ?_
   all_goals first | refine wkB (zD (kD.raw.below ag E) (kD.raw.below Y.out ((tQ R (tQ o E))))) (λwS1 E=>?_) | refine kX ?_
   all_goals (refine jd λb a3=>?_;cases b <;> try simp only [jc] at a3)
   all_goals refine kR ?_
   all_goals have F:=(tQ o E)
   all_goals first
     | (have U:=yD (HD.out (show _=true by simp only [yX,Ad,Aa,Ae,Ag,Ab,Ac,Aj,Ak,Ah,Ai,Al,X,a3]));clear HD HX;go_wp2;go_ret;exact ⟨jX U.out.symm,(tQ R F)⟩)
     | (have U:=yD (HX.out (show _=false by simp only [yX,Ad,Aa,Ae,Ag,Ab,Ac,Aj,Ak,Ah,Ai,Al,X,a3]));clear HD HX;go_wp2;go_roundw;(case rel=>exact ⟨k + 1,by omega,by go_num,U,F⟩);(case measure=>simp [Aw];omega))
 exact iN
def kPe {w:Aq} {cm:Ar Au} {m:kT} (hm:kL.raw w cm m) {f:Int} {Y:Nat} (o:Qc w Y 0 (.int .i64 f)) {n:kr} {cc:Au} {X:Nat} (nr:kW.raw w [cc] n) (aj:Qc w X 0 cc) :
    Ay prog 189 (#[.agg cm.toArray]++#[.pointer (some ⟨Y,0,none⟩),.pointer (some ⟨X,0,none⟩)]) w (bQ w (.bool (yX n f m))):=by
 have Hm:=yD hm
 obtain ⟨ac,rfl,V,I,ad,Z⟩:=jh hm
 obtain ⟨H,L,rfl,af⟩:=kD.sl I
 obtain ⟨G,a1,a9⟩:=ko nr
 simp only [Am,and_true] at a1
 obtain rfl:=a1
 obtain ⟨el,aa,rfl,ab⟩:=kD.sl a9
 show Ay prog 189 #[_,_,_] w _
 go_enter func189,ntmps189
 go_upto_region 1 with fail
 generalize J:World.alloc w _=N
 obtain ⟨R,D,ae,ag⟩:=J7
 clear J
 replace o:=cL R o
 replace aj:=cL R aj
 have FX:=yD (λ(W:Aq) (hW:Qb N W)=>cLs5 hW D ae ag o aj)
 refine ky (λW=>Qb N W) [Tt,Tt,Tt,Tt,Tt,Tt,Tt,Tt,Ff,Tt,Tt] bR ?_
 intro wS E
 iterate 4
  all_goals refine kX ?_
 all_goals (refine jd λb O=>?_;cases b <;> try simp only [jc] at O)
 iterate 3
  all_goals refine kX ?_
 all_goals first | refine wkB (yA (kD.raw.below V (tQ R E)) (kD.raw.below nr (tQ R E))) (λwS1 E=>?_) | refine kX ?_
 all_goals refine kX ?_
 all_goals (refine jd λb aq=>?_;cases b <;> try simp only [jc] at aq)
 all_goals refine kR ?_
 all_goals have F:=(tQ R E)
 all_goals first
   | (have U:=yD (show (yX n f m)=false by simp only [yX,Ad,Aa,Ae,Ag,Ab,Ac,Aj,Ak,Ah,Ai,Al,O,aq]);go_wp2;go_ret;exact ⟨kK U.out.symm,F⟩)
   | (have U:=yD (show (yX n f m)=true by simp only [yX,Ad,Aa,Ae,Ag,Ab,Ac,Aj,Ak,Ah,Ai,Al,O,aq]);go_wp2;go_ret;exact ⟨kK U.out.symm,F⟩)
def kGo:jH prog 189:=yR func189 bC5 bC5
def kIi {w:Aq} {vl:Au} {l:(Ar kT)} (hl:(kD.slice 149 kL).raw w [vl] l) {cn:Ar Au} {n:kr} (hn:kW.raw w cn n) {f:Int} :
    Ay prog 149 #[vl,.agg cn.toArray,.int .i64 f] w (bQ w (.int .i64 (idxOf (yX n f) l))):=by
 obtain ⟨al,pl,rfl,ll⟩:=kD.sl hl
 have Y:=yD hn
 obtain ⟨L,rfl,H⟩:=ko hn
 obtain ⟨I,G,rfl,V⟩:=kD.sl H
 go_enter func149,ntmps149
 go_upto_region 1 with fail
 generalize J:World.alloc (World.alloc w _) _=N
 obtain ⟨R,D⟩:=xZ
 have o:Qc N (w.heap.size + 1) 0 (.int .i64 f):=tT
 clear J
 go_wp2_with fail
 refine (kIs (yX n f) kGo (kD.raw.below hl R) ?_).mono ?_
 · intro wr hb i h cs hr;exact kPe hr (cL hb o) (kD.raw.below Y.out (tQ R hb)) (cL hb D)
 exact iO
def kFl (l:Ar kT) (k:Nat) (x:kT):Bool:=!(!zf x.1 || (!inR x.2.1 1 6 || (!inR x.2.2 1 50 || decide (idxOf (yX x.1 x.2.1) (l.take k) ≥ 0))))
def kKi (l:Ar kT):Bool:=ym (λj=>kFl l j (l.getD j ([],0,0))) l.length && decide (l.length<=24)
def kUk {l:Ar kT} {k:Nat} (h:k < l.length) (q:kFl l k l[k]=false):kKi l=false:=by
 unfold kKi;rw [kCu h qK];rfl
def kRh {l:Ar kT} {k:Nat} (h:k < l.length) (q:kFl l k l[k]=true) (a:ym (λj=>kFl l j (l.getD j ([],0,0))) k=true):ym (λj=>kFl l j (l.getD j ([],0,0))) (k + 1)=true :=
  kAs a qK
def kRi {l:Ar kT} {k:Nat} (q:ym (λj=>kFl l j (l.getD j ([],0,0))) k=true) (h:¬ k < l.length) (hk:k<=l.length):kKi l=decide (l.length<=24):=by
 obtain rfl:k=l.length:=bD1;unfold kKi;rw [q];rfl
def kIc {w:Aq} {vl:Au} {l:Ar kT} (hl:(kD.slice 149 kL).raw w [vl] l) :
    Ay prog 86 #[vl] w (bQ w (.bool (kKi l))):=by
 obtain ⟨al,pl,rfl,ll⟩:=kD.sl hl
 have Z:=kD.kBe hl
 go_enter func86,ntmps86
 go_wp2
 go_loopw [3] (λi wr=>∃ k:Nat,k<=l.length/\i=.int .i64 k/\Hid (ym (λj=>kFl l j (l.getD j ([],0,0))) k=true)/\Qb w wr) (λi _=>l.length - (Aw i).toNat)
 case atStart=>exact ⟨0,Nat.zero_le _,rfl,yD rfl,bR⟩
 obtain ⟨k,hk,rfl,HN,o⟩:=hrel
 by_cases hlt:k < l.length
 · obtain ⟨qb,qo,rfl,ae,af,ah,qr,ap,ar,ay⟩:=kD.zt (hl.below o) (i:=k) bD1 rfl;have az:=yD (kD.kBv (hl.below o) hk);have hb:=λq=>kUk hlt q;have hx:=λq=>kRh hlt q HN.out;generalize l[k]=x at *;have HB:=yD hb;have HX:=yD hx;clear hb hx;obtain ⟨x0,x1,x2⟩:=x;obtain ⟨bd,ac,ag,ak,ao,ax⟩:=jh qr;simp only [Am,and_true] at ac;obtain ⟨rfl,rfl,rfl⟩:=ac;obtain ⟨ad,aw,rfl,bf⟩:=kD.sl ak;obtain ⟨bv,bk,c5,a2⟩:=xX;go_upto_region 4 with fail;have FX:=yD (λ(W:Aq) (hW:Qb wr W)=>kKb hW ap ar ay);refine kM (λW=>Qb wr W) [Tt,Tt,Tt,Tt,Tt,Ff,Tt,Tt,Tt,Tt,Tt,Tt,Tt,Ff,Tt,Tt,Tt,Tt,Tt,Tt,Tt,Tt,Ff,Tt,Tt,Tt,Tt,Tt,Tt,Tt,Tt,Tt,Tt,Tt,Tt,Tt,Tt,Tt,Tt,Ff,Tt,Tt] bC5 bC5 pY (bR.drew) ?_;intro wS E;iterate 5
    all_goals refine kX ?_
   all_goals first | refine wkB (yZ (kD.raw.below ag E)) (λwS1 E=>?_) | refine kX ?_
   all_goals refine kX ?_
   all_goals (refine jd λb X=>?_;cases b <;> try simp only [jc] at X)
   iterate 5
    all_goals refine kX ?_
   all_goals first | refine wkC (jw) ?_ | refine kX ?_
   all_goals refine kX ?_
   all_goals refine kX ?_
   all_goals (refine jd λb V=>?_;cases b <;> try simp only [jc] at V)
   iterate 5
    all_goals refine kX ?_
   all_goals first | refine wkC (jw) ?_ | refine kX ?_
   all_goals refine kX ?_
   all_goals refine kX ?_
   all_goals (refine jd λb H=>?_;cases b <;> try simp only [jc] at H)
   iterate 13
    all_goals refine kX ?_
   all_goals first | refine wkB (kEt (kD.raw.below az.out E) (kD.raw.below ag E)) (λwS1 E=>?_) | refine kX ?_
   all_goals refine kX ?_
   all_goals (refine jd λb D=>?_;cases b <;> try simp only [jc] at D)
   all_goals refine kR ?_
   all_goals have F:=o.trans (Av E o.size)
   all_goals first
     | (have U:=yD (HB.out (show _=false by simp only [kFl,Ad,Aa,Ae,Ag,Ab,Ac,Aj,Ak,Ah,Ai,Al,Ap,X,V,H,D]));clear HB HX HN az;go_wp2;go_ret;exact ⟨kK U.out.symm,F⟩)
     | (have U:=yD (HX.out (show _=true by simp only [kFl,Ad,Aa,Ae,Ag,Ab,Ac,Aj,Ak,Ah,Ai,Al,Ap,X,V,H,D]));clear HB HX HN az;go_wp2;go_roundw;(case rel=>exact ⟨k + 1,by omega,by go_num,U,F⟩);(case measure=>simp [Aw];omega))
 have U:=yD (kRi HN.out hlt hk)
 exact uJ
def kIj {w:Aq} {vl:Au} {l:Ar kT} (hl:(kD.slice 149 kL).raw w [vl] l) :
    Ay prog 81 #[vl] w (bQ w (.bool (kKi l))):=by
 obtain ⟨al,pl,rfl,ll⟩:=kD.sl hl
 have Z:=kD.kBe hl
 go_enter func81,ntmps81
 go_wp2
 go_loopw [7] (λi wr=>∃ k:Nat,k<=l.length/\i=.int .i64 k/\Hid (ym (λj=>kFl l j (l.getD j ([],0,0))) k=true)/\Qb w wr) (λi _=>l.length - (Aw i).toNat)
 case atStart=>exact ⟨0,Nat.zero_le _,rfl,yD rfl,bR⟩
 obtain ⟨k,hk,rfl,HN,o⟩:=hrel
 by_cases hlt:k < l.length
 · obtain ⟨qb,qo,rfl,ae,af,ah,qr,ap,ar,ay⟩:=kD.zt (hl.below o) (i:=k) bD1 rfl;have az:=yD (kD.kBv (hl.below o) hk);have hb:=λq=>kUk hlt q;have hx:=λq=>kRh hlt q HN.out;generalize l[k]=x at *;have HB:=yD hb;have HX:=yD hx;clear hb hx;obtain ⟨x0,x1,x2⟩:=x;obtain ⟨bd,ac,ag,ak,ao,ax⟩:=jh qr;simp only [Am,and_true] at ac;obtain ⟨rfl,rfl,rfl⟩:=ac;obtain ⟨ad,aw,rfl,bf⟩:=kD.sl ak;obtain ⟨bv,bk,c5,a2⟩:=xX;go_upto_region 4 with fail;generalize D:World.alloc wr _=wC;have EC:Qb wr wC:=rU;obtain ⟨M0,M1,M2⟩:=CS;clear D;have FX:=yD (λ(W:Aq) (hW:Qb wC W)=>kKb hW M0 M1 M2);refine kM (λW=>Qb wC W) [Tt,Tt,Ff,Tt,Tt,Tt,Tt,Ff,Tt,Tt,Tt,Tt,Tt,Ff,Tt,Tt,Tt,Tt,Tt,Tt,Tt,Tt,Tt,Tt,Ff,Tt,Tt] bC5 bC5 pY (bR.drew) ?_;intro wS E;all_goals refine kX ?_
   all_goals refine kX ?_
   all_goals first | refine wkB (kBz (kD.raw.below ag (tQ EC E))) (λwS1 E=>?_) | refine kX ?_
   all_goals refine kX ?_
   all_goals (refine jd λb O=>?_;cases b <;> try simp only [jc] at O)
   all_goals refine kX ?_
   all_goals refine kX ?_
   all_goals first | refine wkC (yF) ?_ | refine kX ?_
   all_goals refine kX ?_
   all_goals refine kX ?_
   all_goals (refine jd λb aq=>?_;cases b <;> try simp only [jc] at aq)
   all_goals refine kX ?_
   all_goals refine kX ?_
   all_goals first | refine wkC (yF) ?_ | refine kX ?_
   all_goals refine kX ?_
   all_goals refine kX ?_
   all_goals (refine jd λb V=>?_;cases b <;> try simp only [jc] at V)
   iterate 7
    all_goals refine kX ?_
   all_goals first | refine wkB (kIi (kD.raw.below az.out (tQ EC E)) (kD.raw.below ag (tQ EC E))) (λwS1 E=>?_) | refine kX ?_
   all_goals refine kX ?_
   all_goals (refine jd λb G=>?_;cases b <;> try simp only [jc] at G)
   all_goals refine kR ?_
   all_goals have F:=o.trans (Av (tQ EC E) o.size)
   all_goals first
     | (have U:=yD (HB.out (show _=false by simp only [kFl,Ad,Aa,Ae,Ag,Ab,Ac,Aj,Ak,Ah,Ai,Al,Ap,O,aq,V,G]));clear HB HX HN az;go_wp2;go_ret;exact ⟨kK U.out.symm,F⟩)
     | (have U:=yD (HX.out (show _=true by simp only [kFl,Ad,Aa,Ae,Ag,Ab,Ac,Aj,Ak,Ah,Ai,Al,Ap,O,aq,V,G]));clear HB HX HN az;go_wp2;go_roundw;(case rel=>exact ⟨k + 1,by omega,by go_num,U,F⟩);(case measure=>simp [Aw];omega))
 have U:=yD (kRi HN.out hlt hk)
 exact uJ
def kHc (l:Ar jL) (k:Nat) (x:jL):Bool:=!(!kBi x || decide (idxOf (isD x.1) (l.take k) ≥ 0))
def kRo (x:jq):Bool:=(((((decide ((x.1.length:Int)<=8) && kCm x.2.1) && kGe x.2.2.1) && kBc x.2.2.2.2.1) && kKi x.2.2.2.2.2.1) && decide ((x.2.2.2.1.length:Int)<=24)) && decide (0<=x.2.2.2.2.2.2)
def ze (x:jq):Bool:=ym (λj=>kHc x.1 j (x.1.getD j kKg)) x.1.length && kRo x
def kVr {x:jq} {k:Nat} (h:k < x.1.length) (q:kHc x.1 k x.1[k]=false):ze x=false:=by
 unfold ze;rw [kCu h qK];rfl
def kRt {l:Ar jL} {k:Nat} (h:k < l.length) (q:kHc l k l[k]=true) (a:ym (λj=>kHc l j (l.getD j kKg)) k=true):ym (λj=>kHc l j (l.getD j kKg)) (k + 1)=true :=
  kAs a qK
def kRu {x:jq} {k:Nat} (q:ym (λj=>kHc x.1 j (x.1.getD j kKg)) k=true) (h:¬ k < x.1.length) (hk:k<=x.1.length):ze x=kRo x:=by
 obtain rfl:k=x.1.length:=bD1;unfold ze;rw [q];rfl
def kJo {w:Aq} {cx:Ar Au} {x:jq} (hx:je.raw w cx x) :
    Ay prog 26 #[.agg cx.toArray] w (bQ w (.bool (ze x))):=by
 obtain ⟨ch,cz,dg,df,db,c9,rfl,G,aq,ba,a3,au,a4,a6,bg,br⟩:=yB hx
 obtain ⟨bp,bi,rfl,co⟩:=kD.sl G
 obtain ⟨bw,bt,rfl,dd⟩:=kD.sl a3
 obtain ⟨ck,cc,rfl,dh⟩:=kD.sl au
 obtain ⟨b9,b8,rfl,dj⟩:=kD.sl a4
 obtain ⟨bx,bu,rfl,dk⟩:=kD.sl a6
 obtain ⟨b0,bz,rfl,di⟩:=kD.sl bg
 have hl:=G
 have Z:=kD.kBe hl
 have H1:=yD aq
 have H4:=yD au
 have H6:=yD a6
 have H7:=yD bg
 clear hx G aq ba a3 au a4 a6 bg br
 go_enter func26,ntmps26
 go_wp2
 generalize J:World.alloc w _=N
 obtain ⟨R,K0,K1,K2,K3,K4,K5,K6,K7⟩:=xA
 clear J
 replace hl:=hl.below R
 go_loopw [3] (λi wr=>∃ k:Nat,k<=x.1.length/\i=.int .i64 k/\Hid (ym (λj=>kHc x.1 j (x.1.getD j kKg)) k=true)/\Qb N wr) (λi _=>x.1.length - (Aw i).toNat)
 case atStart=>exact ⟨0,Nat.zero_le _,rfl,yD rfl,bR⟩
 obtain ⟨k,hk,rfl,HN,o⟩:=hrel
 replace K0:=cL o K0
 replace K1:=cL o K1
 replace K2:=cL o K2
 replace K3:=cL o K3
 replace K4:=cL o K4
 replace K5:=cL o K5
 replace K6:=cL o K6
 replace K7:=cL o K7
 by_cases hlt:k < x.1.length
 · have az:=yD (kD.kBv (hl.below o) hk);have hb:=λq=>kVr (x:=x) hlt q;have am:=λq=>kRt hlt q HN.out;obtain ⟨qb,qo,rfl,ae,af,ah,cv,cw,qr,ap,ar,ay,bo,b2⟩:=kD.get5 (hl.below o) (i:=k) bD1 rfl;generalize x.1[k]=z at *;have HB:=yD hb;have HX:=yD am;clear hb am;obtain ⟨bd,b5,cq,ac,ag,ak,ao,ax,b3,bq,cm⟩:=jM qr;simp only [Am,and_true] at ac;obtain ⟨rfl,rfl,rfl,rfl,rfl⟩:=ac;obtain ⟨ad,aw,rfl,bf⟩:=kD.sl ak;obtain ⟨ai,bj,rfl,cg⟩:=kD.sl ao;obtain ⟨aj,cl,rfl,c2⟩:=kD.sl b3;have bv:=Int.ofNat_lt.2 hlt;have bk:=Int.natCast_nonneg k;have c5:(k:Int)<=(bi:Int):=bD1;have a2:k<=bi:=bD1;go_upto_region 4 with fail;have FX:=yD (λ(W:Aq) (hW:Qb wr W)=>kGx hW K0 ap ar ay bo b2);refine kM (λW=>Qb wr W) [Tt,Tt,Tt,Tt,Tt,Ff,Tt,Tt,Tt,Tt,Tt,Tt,Tt,Tt,Tt,Tt,Tt,Tt,Ff,Tt,Tt] bC5 bC5 pY (bR.drew) ?_;intro wS E;iterate 5
    all_goals refine kX ?_
   all_goals first | refine wkB (kDc (kD.raw.below qr E)) (λwS1 E=>?_) | refine kX ?_
   all_goals refine kX ?_
   all_goals (refine jd λb X=>?_;cases b <;> try simp only [jc] at X)
   iterate 10
    all_goals refine kX ?_
   all_goals first | refine wkB (kMm (kD.raw.below az.out E) (kD.raw.below ag E)) (λwS1 E=>?_) | refine kX ?_
   all_goals refine kX ?_
   all_goals (refine jd λb de=>?_;cases b <;> try simp only [jc] at de)
   all_goals refine kR ?_
   all_goals have F:=(tQ o E)
   all_goals first
     | (have U:=yD (HB.out (show _=false by simp only [kHc,Ad,Aa,Ae,Ag,Ab,Ac,Aj,Ak,Ah,Ai,Al,Ap,X,de]));clear HB HX HN az;go_wp2;go_ret;exact ⟨kK U.out.symm,(tQ R F)⟩)
     | (have U:=yD (HX.out (show _=true by simp only [kHc,Ad,Aa,Ae,Ag,Ab,Ac,Aj,Ak,Ah,Ai,Al,Ap,X,de]));clear HB HX HN az;go_wp2;go_roundw;(case rel=>exact ⟨k + 1,by omega,by go_num,U,F⟩);(case measure=>simp [Aw];omega))
 have U:=yD (kRu (x:=x) HN.out hlt hk)
 have b6:¬ (k:Int) < x.1.length:=bD1
 go_upto_region 6 with fail
 have FX:=yD (λ(W:Aq) (hW:Qb wr W)=>cLs8 hW K0 K1 K2 K3 K4 K5 K6 K7)
 refine ky (λW=>Qb wr W) [Tt,Tt,Tt,Tt,Tt,Tt,Tt,Ff,Tt,Tt,Tt,Tt,Ff,Tt,Tt,Tt,Tt,Ff,Tt,Tt,Tt,Tt,Ff,Tt,Tt,Tt,Tt,Tt,Tt,Tt,Tt,Tt,Tt,Tt,Tt,Tt] bR ?_
 intro wS E
 iterate 4
  all_goals refine kX ?_
 all_goals (refine jd λb O=>?_;cases b <;> try simp only [jc] at O)
 all_goals refine kX ?_
 all_goals refine kX ?_
 all_goals first | refine wkB (kId (kD.raw.below H1.out ((tQ R o).trans (E.mono (Az (tQ R o)))))) (λwS1 E=>?_) | refine kX ?_
 all_goals refine kX ?_
 all_goals (refine jd λb c4=>?_;cases b <;> try simp only [jc] at c4)
 all_goals refine kX ?_
 all_goals refine kX ?_
 all_goals first | refine wkB (kNd (kD.raw.below H4.out ((tQ R o).trans (E.mono (Az (tQ R o)))))) (λwS1 E=>?_) | refine kX ?_
 all_goals refine kX ?_
 all_goals (refine jd λb H=>?_;cases b <;> try simp only [jc] at H)
 all_goals refine kX ?_
 all_goals refine kX ?_
 all_goals first | refine wkB (kDx (kD.raw.below H6.out ((tQ R o).trans (E.mono (Az (tQ R o)))))) (λwS1 E=>?_) | refine kX ?_
 all_goals refine kX ?_
 all_goals (refine jd λb aa=>?_;cases b <;> try simp only [jc] at aa)
 all_goals refine kX ?_
 all_goals refine kX ?_
 all_goals first | refine wkB (kIc (kD.raw.below H7.out ((tQ R o).trans (E.mono (Az (tQ R o)))))) (λwS1 E=>?_) | refine kX ?_
 all_goals refine kX ?_
 all_goals (refine jd λb I=>?_;cases b <;> try simp only [jc] at I)
 iterate 5
  all_goals refine kX ?_
 all_goals (refine jd λb V=>?_;cases b <;> try simp only [jc] at V)
 iterate 4
  all_goals refine kX ?_
 all_goals (refine jd λb L=>?_;cases b <;> try simp only [jc] at L)
 all_goals refine kR ?_
 all_goals have F:=(tQ R (tQ o E))
 all_goals first
   | (have Y:=yD (show ze x=false by rw [U.out];simp only [kRo,Ad,Aa,Ae,Ag,Ab,Ac,Aj,Ak,Ah,Ai,Al,O,c4,H,aa,I,V,L]);go_wp2;go_ret;exact ⟨kK Y.out.symm,F⟩)
   | (have Y:=yD (show ze x=true by rw [U.out];simp only [kRo,Ad,Aa,Ae,Ag,Ab,Ac,Aj,Ak,Ah,Ai,Al,O,c4,H,aa,I,V,L]);go_wp2;go_ret;exact ⟨kK Y.out.symm,F⟩)
def vStore_rng {c:Int} {l:List kZ} (h:inR c 0 8=false):kCm (c,l)=false:=by unfold kCm;simp only;rw [h,Bool.false_and,Bool.and_false]
def vStore_len {c:Int} {l:List kZ} (h:¬ (l.length:Int)<=c):kCm (c,l)=false:=by unfold kCm;simp only;rw [decide_eq_false h,Bool.and_false,Bool.and_false]
def vStore_yes {c:Int} {l:Ar kZ} {k:Nat} (q:ym (λj=>kNl l j (l.getD j kUb)) k=true) (h:¬ k < l.length) (hk:k<=l.length) (h1:inR c 0 8=true) (h2:(l.length:Int)<=c):kCm (c,l)=true:=by
 rw [kRc q h hk,h1,decide_eq_true h2];rfl
def kIk {w:Aq} {cs:Ar Au} {x:kg} (hx:kP.raw w cs x) :
    Ay prog 78 #[.agg cs.toArray] w (bQ w (.bool (kCm x))):=by
 obtain ⟨sv,rfl,a3,hl⟩:=jI hx
 obtain ⟨aa,pl,rfl,la⟩:=kD.sl hl
 obtain ⟨c,l⟩:=x
 replace hl:(kD.slice 122 jC).raw w [Qs aa l pl] l:=hl
 have Z:=kD.kBe hl
 replace la:l.length<=9223372036854775807:=la
 clear hx a3
 go_enter func78,ntmps78
 go_upto_region 1 with fail
 generalize J:World.alloc w _=N
 have R:Qb w N:=by rw [<- J];exact bG
 have K0:Qd N w 0 (.int .i64 c):=tT
 have K1:Qd N w 1 (.slice aa l.length pl):=tT
 clear J
 replace hl:=hl.below R
 have HR:=yD (vStore_rng (c:=c) (l:=l));have HL:=yD (vStore_len (c:=c) (l:=l));have HG:=yD (λ(k:Nat)=>vStore_yes (c:=c) (l:=l) (k:=k))
 by_cases hr:inR c 0 8=true
 case neg =>
  have a8:inR c 0 8=false:=bB0;have U:=yD (HR.out a8);clear HR HL HG hr;go_wp2_with fail;refine yF.mono ?_;rintro e w1 ⟨rfl,Y⟩;obtain rfl:=Y.symm;rw [a8];go_wp2;go_ret;exact ⟨kK U.out.symm,R.trans (Av bG R.size)⟩
 by_cases hc:(l.length:Int)<=c
 case neg =>
  have U:=yD (HL.out hc);have hd:decide ((l.length:Int) > c)=true:=bC6;have al:decide (c < (l.length:Int))=true:=bC6;have an:c < (l.length:Int):=bD1;clear HR HL HG hc;go_wp2_with fail;refine yF.mono ?_;rintro e w1 ⟨rfl,Y⟩;obtain rfl:=Y.symm;rw [hr];go_wp2;go_ret;exact ⟨kK U.out.symm,R.trans (Av bG R.size)⟩
 have a5:=yD (λk q h hk=>HG.out k q h hk hr hc)
 have hd:decide ((l.length:Int) > c)=false:=bC6
 have al:decide (c < (l.length:Int))=false:=bC6
 have an:¬ c < (l.length:Int):=bD1
 go_wp2_with fail
 refine yF.mono ?_
 rintro e w1 ⟨rfl,Y⟩
 obtain rfl:=Y.symm
 rw [hr]
 clear HR HL HG hc hr
 go_wp2
 clear hd al an
 go_loopw [20] (λi wr=>∃ k:Nat,k<=l.length/\i=.int .i64 k/\Hid (ym (λj=>kNl l j (l.getD j kUb)) k=true)/\Qb N wr) (λi _=>l.length - (Aw i).toNat)
 case atStart=>exact ⟨0,Nat.zero_le _,rfl,yD rfl,bG⟩
 obtain ⟨k,hk,rfl,HN,o⟩:=hrel
 replace K0:=cL o K0
 replace K1:=cL o K1
 by_cases hlt:k < l.length
 · have az:=yD (kD.kBv (hl.below o) hk);have hb:=λq=>kUd (c:=c) hlt q;have am:=λq=>kRb hlt q HN.out;obtain ⟨qb,qo,rfl,ae,af,ah,cv,cw,br,qr,ap,ar,ay,bo,b2,a4⟩:=kD.kPk (hl.below o) (i:=k) bD1 rfl;generalize l[k]=x at *;have HB:=yD hb;have HX:=yD am;clear hb am;obtain ⟨bd,b5,cq,ac,ag,ak,ao,ax,b3,bq,cm,bp,bi⟩:=jV qr;simp only [Am,and_true] at ac;obtain ⟨rfl,rfl,rfl,rfl,rfl,rfl⟩:=ac;obtain ⟨ad,aw,rfl,bf⟩:=kD.sl ao;obtain ⟨ai,bj,rfl,cg⟩:=kD.sl ax;obtain ⟨aj,cl,rfl,c2⟩:=kD.sl bq;obtain ⟨bv,bk,c5,a2⟩:=xX;go_upto_region 6 with fail;generalize D:World.alloc wr _=wC;obtain ⟨EC,M0,M1,M2,M3,M4,M5⟩:=A8;replace K1:=cL EC K1;clear D;have FX:=yD (λ(W:Aq) (hW:Qb wC W)=>cLs7 hW K1 M0 M1 M2 M3 M4 M5);refine ky (λW=>Qb wC W) [Tt,Tt,Ff,Tt,Tt,Tt,Tt,Tt,Tt,Ff,Ff,Tt] bR ?_;intro wS E;all_goals refine kX ?_
   all_goals refine kX ?_
   all_goals first | refine wkB (kJw (kD.raw.below ag (tQ EC E))) (λwS1 E=>?_) | refine kX ?_
   all_goals refine kX ?_
   all_goals (refine jd λb O=>?_;cases b <;> try simp only [jc] at O)
   iterate 4
    all_goals refine kX ?_
   all_goals first|(refine kG rfl E ?_)|(refine kY rfl (λK H=>?_);go_simp;refine H _ _ E ?_;clear H K)
   all_goals refine jD ?_
   all_goals first|(refine kG rfl E ?_)|(refine kY rfl (λK H=>?_);go_simp;refine (kGy (isC x.1.1) kDr (kD.raw.below az.out (tQ EC E)) ?_).mono ?_;(· intro ca ab i hi G V;exact kHp V (kD.raw.below qr ((tQ EC E).trans (ab.mono (Az (tQ EC E))))) (cL ab (cL E M0)) (cL ab (cL E M1)) (cL ab (cL E M2)) (cL ab (cL E M3)) (cL ab (cL E M4)) (cL ab (cL E M5)));rintro e wS1 ⟨rfl,X⟩;replace E:=(tQ E X);refine H _ _ E ?_;clear H K X)
   all_goals refine jD ?_
   all_goals (refine jd λb au=>?_;cases b <;> try simp only [jc] at au)
   all_goals refine kR ?_
   all_goals have F:=o.trans (Av (tQ EC E) o.size)
   all_goals have I:decide (idxOf (isC x.1.1) (l.take k) ≥ 0)=decide (0<=idxOf (isC x.1.1) (l.take k)):=rfl
   all_goals first
     | (have U:=yD (HB.out (show _=false by simp only [kNl,Ad,Aa,Ae,Ag,Ab,Ac,Aj,Ak,Ah,Ai,Al,Ap,O,au]));clear HB HX HN az;go_wp2;go_ret;exact ⟨kK U.out.symm,(tQ R F)⟩)
     | (have U:=yD (HX.out (show _=true by simp only [kNl,Ad,Aa,Ae,Ag,Ab,Ac,Aj,Ak,Ah,Ai,Al,Ap,O,au]));clear HB HX HN az;go_wp2;go_roundw;(case rel=>exact ⟨k + 1,by omega,by go_num,U,F⟩);(case measure=>simp [Aw];omega))
 have U:=yD (a5.out k HN.out hlt hk)
 have b6:¬ (k:Int) < l.length:=bD1
 go_wp2
 go_ret
 exact ⟨kK U.out.symm,(tQ R o)⟩
end Go.Proofs.YtjhfdpopkkmigaaGreat

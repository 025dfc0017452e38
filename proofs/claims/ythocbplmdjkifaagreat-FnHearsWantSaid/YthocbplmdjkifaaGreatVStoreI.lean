/-
  Content stores that are valid: the program.
-/
import Derived.Test.YthocbplmdjkifaaGreatCacheD
set_option linter.unusedVariables false
set_option linter.defProp false
set_option linter.unusedSimpArgs false
set_option linter.unnecessarySimpa false
set_option maxRecDepth 100000
set_option maxHeartbeats 4000000
open Bool renaming true->Tt,false->Ff
open Bool renaming not_false->Aa,and_false->Ab,false_and->Ac,not_true->Ad,and_true->Ae,true_and->Ag,or_false->Ah,false_or->Ai,or_true->Aj,true_or->Ak,not_not->Al
open _root_ renaming ge_iff_le->Am,List->Aq
open Go renaming World->Ap,Value->Ar,Calls->Av
open Go.RowKit.Below renaming mono->Au,size->Aw
open Go.RowKit renaming intOf->Ay
namespace Go.Proofs.YthocbplmdjkifaaGreat
open Go.RowKit _root_.Go.Proofs.Tryz
def kYq:kr:=(([],[],[],0,0),0)
def kRu (l:Aq kr) (k:Nat) (x:kr):Bool:=!(!kBk x.1 || decide (idxOf (isC x.1.1) (l.take k) ≥ 0))
def kCi (x:kg):Bool:=zN (λj=>kRu x.2 j (x.2.getD j kYq)) x.2.length && (inR x.1 0 8 && decide ((x.2.length:Int)<=x.1))
def kYs {c:Int} {l:Aq kr} {k:Nat} (h:k < l.length) (q:kRu l k l[k]=false):kCi (c,l)=false:=by
 unfold kCi;rw [kDl h rP];rfl
def kVz {l:Aq kr} {k:Nat} (h:k < l.length) (q:kRu l k l[k]=true) (a:zN (λj=>kRu l j (l.getD j kYq)) k=true):zN (λj=>kRu l j (l.getD j kYq)) (k + 1)=true :=
  kBp a rP
def kWa {c:Int} {l:Aq kr} {k:Nat} (q:zN (λj=>kRu l j (l.getD j kYq)) k=true) (h:¬ k < l.length) (hk:k<=l.length):kCi (c,l)=(inR c 0 8 && decide ((l.length:Int)<=c)):=by
 obtain rfl:k=l.length:=bF2;unfold kCi;rw [q];rfl
def kKv {w:Ap} {cs:Aq Ar} {x:kg} (hx:kP.raw w cs x) :
    Av prog 258 #[.agg cs.toArray] w (bQ w (.bool (kCi x))):=by
 obtain ⟨sv,rfl,ff,hl⟩:=jN hx
 obtain ⟨aa,pl,rfl,la⟩:=kD.sl hl
 obtain ⟨c,l⟩:=x
 replace hl:(kD.slice 144 jB).raw w [Qs aa l pl] l:=hl
 have br:=kD.kBj hl
 replace la:l.length<=9223372036854775807:=la
 clear hx ff
 go_enter func258,ntmps258
 go_wp2
 refine ja ?_
 intro U Z F _
 obtain ⟨K0,K1⟩:=yN F
 clear F
 replace hl:=hl.below Z
 go_loopw [3] (λi wr=>∃ k:Nat,k<=l.length/\i=.int .i64 k/\Hid (zN (λj=>kRu l j (l.getD j kYq)) k=true)/\Qb U wr) (λi _=>l.length - (Ay i).toNat)
 case atStart=>exact ⟨0,Nat.zero_le _,rfl,yD rfl,bR⟩
 obtain ⟨k,hk,rfl,Y,o⟩:=hrel
 replace K0:=cL o K0
 replace K1:=cL o K1
 by_cases hlt:k < l.length
 · have ay:=yD (kD.kBz (hl.below o) hk);have hb:=λq=>kYs (c:=c) hlt q;have N:=λq=>kVz hlt q Y.out;obtain ⟨qb,qo,rfl,ac,ae,af,bt,bu,b3,qr,ap,aq,au,a7,ba,bi⟩:=kD.kOr (hl.below o) (i:=k) bF2 rfl;generalize l[k]=x at *;have HB:=yD hb;have HX:=yD N;clear hb N;obtain ⟨rfl,rfl,rfl,ah,aj,ak,aw,bj,bd,bp,bz,b2⟩:=jy qr;obtain ⟨ad,a4,rfl,a6,am,bk,rfl,bq,ao,bx,rfl,bw⟩:=kD.sx ak (kD.sx aw (kD.sl bd));obtain ⟨be,b9,ch⟩:=xJ;go_upto_region 4 with fail;have FX:=yD (λ(W:Ap) (hW:Qb wr W)=>cLs8 hW K0 K1 ap aq au a7 ba bi);refine kK (λW=>Qb wr W) [Tt,Tt,Tt,Tt,Tt,Tt,Ff,Tt,Tt,Tt,Tt,Tt,Tt,Tt,Tt,Tt,Tt,Tt,Tt,Tt,Ff,Tt,Tt] bE5 bE5 qW (bR.drew) ?_;intro wS E;all_goals ((iterate 6 refine kS ?_);(first | refine zi (kEd (kD.raw.below ah E)) (λwS1 E=>?_) | refine kS ?_);refine kS ?_;refine jT λb b6=>?_;cases b <;> try simp only [jS] at b6)
   all_goals ((iterate 11 refine kS ?_);(first | refine zi (kGl (kD.raw.below ay.out E) (kD.raw.below aj E)) (λwS1 E=>?_) | refine kS ?_);refine kS ?_;refine jT λb d5=>?_;cases b <;> try simp only [jS] at d5)
   all_goals (refine kM ?_;have D:=(tQ o E))
   all_goals first
     | (have L:=yD (HB.out (show _=false by simp only [kRu,Ad,Aa,Ae,Ag,Ab,Ac,Aj,Ak,Ah,Ai,Al,Am,b6,d5]));clear HB HX Y ay;go_wp2;go_ret;exact ⟨kJ L.out.symm,(tQ Z D)⟩)
     | (have L:=yD (HX.out (show _=true by simp only [kRu,Ad,Aa,Ae,Ag,Ab,Ac,Aj,Ak,Ah,Ai,Al,Am,b6,d5]));clear HB HX Y ay;refine Qg ?_;exact ⟨k + 1,by omega,by go_num,L,D⟩)
 have L:=yD (kWa (c:=c) Y.out hlt hk)
 have dq:¬ (k:Int) < l.length:=bF2
 go_upto_region 6 with fail
 have FX:=yD (λ(W:Ap) (hW:Qb wr W)=>kQm hW K0 K1)
 refine kL (λW=>Qb wr W) [Tt,Tt,Ff,Tt,Tt,Tt,Tt,Tt,Tt,Tt,Tt,Tt] bR ?_
 intro wS E
 all_goals (refine kS ?_;refine kS ?_;(first | refine wkC (yL) ?_ | refine kS ?_);refine jT λb bh=>?_;cases b <;> try simp only [jS] at bh)
 all_goals ((iterate 7 refine kS ?_);refine jT λb an=>?_;cases b <;> try simp only [jS] at an)
 all_goals (refine kM ?_;have D:=(tQ Z (tQ o E)))
 all_goals first
   | (have X:=yD (show kCi (c,l)=false by rw [L.out];simp only [Ad,Aa,Ae,Ag,Ab,Ac,Aj,Ak,Ah,Ai,Al,bh,an]);go_wp2;go_ret;exact ⟨kJ X.out.symm,D⟩)
   | (have X:=yD (show kCi (c,l)=true by rw [L.out];simp only [Ad,Aa,Ae,Ag,Ab,Ac,Aj,Ak,Ah,Ai,Al,bh,an]);go_wp2;go_ret;exact ⟨kJ X.out.symm,D⟩)
def kAm (n:ko) (f:Int) (m:jI):Bool:=(m.2.1==f) && eqN m.1 n
def kQy {w:Ap} {vl:Ar} {l:(Aq jI)} (hl:(kD.slice 176 jA).raw w [vl] l) {cn:Aq Ar} {n:ko} (hn:kR.raw w cn n) {f:Int} :
    Av prog 263 #[vl,.agg cn.toArray,.int .i64 f] w (bQ w (.int .i64 (idxOf (kAm n f) l))):=by
 obtain ⟨al,pl,rfl,ll⟩:=kD.sl hl
 have Hn:=yD hn
 obtain ⟨X,rfl,J⟩:=kw hn
 obtain ⟨V,F,rfl,aa⟩:=kD.sl J
 go_enter func263,ntmps263
 go_wp2
 generalize R:World.alloc w _=U
 obtain ⟨Z,I⟩:=xN
 clear R
 replace hl:=hl.below Z
 go_loopw [7] (λi wr=>∃ k:Nat,k<=l.length/\i=.int .i64 k/\Hid (∀ j,(h:j < k)->(h2:j < l.length)->(kAm n f) l[j]=false)/\Qb U wr) (λi _=>l.length - (Ay i).toNat)
 case atStart=>exact ⟨0,Nat.zero_le _,rfl,yD (λ_ h=>by omega),bR⟩
 obtain ⟨k,hk,rfl,Y,o⟩:=hrel
 replace I:=cL o I
 by_cases hlt:k < l.length
 · obtain ⟨qb,qo,rfl,ac,ae,af,qr,ap,aq,au⟩:=kD.zL (hl.below o) (i:=k) bF2 rfl;obtain ⟨O,H⟩:=BG;generalize l[k]=x at *;have HD:=yD O;have HX:=yD H;clear O H;obtain ⟨x0,x1,x2⟩:=x;obtain ⟨rfl,rfl,ah,aj,ak,aw⟩:=yI qr;obtain ⟨ad,a4,rfl,a6⟩:=kD.sl aj;go_upto_region 4 with fail;have FX:=yD (λ(W:Ap) (hW:Qb wr W)=>kDk hW I ap aq au);refine kK (λW=>Qb wr W) [Tt,Tt,Tt,Tt,Tt,Tt,Tt,Tt,Tt,Tt,Tt,Tt,Tt,Tt,Ff,Tt] bE5 bE5 qW (bR.drew) ?_;intro wS E;all_goals ((iterate 7 refine kS ?_);refine jT λb ax=>?_;cases b <;> try simp only [jS] at ax)
   all_goals ((iterate 6 refine kS ?_);(first | refine zi (jU (kD.raw.below ah E) (kD.raw.below Hn.out ((tQ Z (tQ o E))))) (λwS1 E=>?_) | refine kS ?_);refine jT λb co=>?_;cases b <;> try simp only [jS] at co)
   all_goals (refine kM ?_;have D:=(tQ o E))
   all_goals first
     | (have L:=yD (HD.out (show _=true by simp only [kAm,Ad,Aa,Ae,Ag,Ab,Ac,Aj,Ak,Ah,Ai,Al,ax,co]));clear HD HX;go_wp2;go_ret;exact ⟨jZ L.out.symm,(tQ Z D)⟩)
     | (have L:=yD (HX.out (show _=false by simp only [kAm,Ad,Aa,Ae,Ag,Ab,Ac,Aj,Ak,Ah,Ai,Al,ax,co]));clear HD HX;refine Qg ?_;exact ⟨k + 1,by omega,by go_num,L,D⟩)
 exact l8
def jAz {w:Ap} {cm:Aq Ar} {m:jI} (hm:jA.raw w cm m) {f:Int} {N:Nat} (H:Qc w N 0 (Qn f)) {n:ko} {bn:Ar} {O:Nat} (nr:kR.raw w [bn] n) (J:Qc w O 0 bn) :
    Av prog 228 (#[.agg cm.toArray]++#[.pointer (some ⟨N,0,none⟩),.pointer (some ⟨O,0,none⟩)]) w (bQ w (.bool (kAm n f m))):=by
 have Hm:=yD hm
 obtain ⟨ab,rfl,R,o,ad,X⟩:=kCl hm
 obtain ⟨Y,ag,rfl,ae⟩:=kD.sl o
 have az:=kJa nr
 obtain ⟨ce,V,rfl,aa⟩:=kD.sl az
 show Av prog 228 #[_,_,_] w _
 go_enter func228,ntmps228
 go_upto_region 1 with fail
 refine ja ?_
 intro U Z F _
 obtain ⟨I,ac,af⟩:=kBd F
 clear F
 replace H:=cL Z H
 replace J:=cL Z J
 have FX:=yD (λ(W:Ap) (hW:Qb U W)=>kTx hW I ac af H J)
 refine kL (λW=>Qb U W) [Tt,Tt,Tt,Tt,Tt,Tt,Tt,Tt,Ff,Tt,Tt] bR ?_
 intro wS E
 all_goals ((iterate 4 refine kS ?_);refine jT λb a1=>?_;cases b <;> try simp only [jS] at a1)
 all_goals ((iterate 3 refine kS ?_);(first | refine zi (jw (kD.raw.below R (tQ Z E)) (kD.raw.below nr (tQ Z E))) (λwS1 E=>?_) | refine kS ?_);refine kS ?_;refine jT λb ar=>?_;cases b <;> try simp only [jS] at ar)
 all_goals (refine kM ?_;have D:=(tQ Z E))
 all_goals first
   | (have L:=yD (show (kAm n f m)=false by simp only [kAm,Ad,Aa,Ae,Ag,Ab,Ac,Aj,Ak,Ah,Ai,Al,a1,ar]);go_wp2;go_ret;exact ⟨kJ L.out.symm,D⟩)
   | (have L:=yD (show (kAm n f m)=true by simp only [kAm,Ad,Aa,Ae,Ag,Ab,Ac,Aj,Ak,Ah,Ai,Al,a1,ar]);go_wp2;go_ret;exact ⟨kJ L.out.symm,D⟩)
def kLo:jL prog 228:=yM func228 bE5 bE5
def jCq {w:Ap} {vl:Ar} {l:(Aq jI)} (hl:(kD.slice 176 jA).raw w [vl] l) {cn:Aq Ar} {n:ko} (hn:kR.raw w cn n) {f:Int} :
    Av prog 168 #[vl,.agg cn.toArray,.int .i64 f] w (bQ w (.int .i64 (idxOf (kAm n f) l))):=by
 obtain ⟨al,pl,rfl,ll⟩:=kD.sl hl
 have Hn:=yD hn
 obtain ⟨X,rfl,J⟩:=kw hn
 obtain ⟨V,F,rfl,aa⟩:=kD.sl J
 go_enter func168,ntmps168
 go_upto_region 1 with fail
 generalize R:World.alloc (World.alloc w _) _=U
 obtain ⟨Z,I⟩:=xN
 have o:Qc U (w.heap.size + 1) 0 (Qn f):=vS
 clear R
 go_wp2_with fail
 refine (kJu (kAm n f) kLo (kD.raw.below hl Z) ?_).mono ?_
 · intro wr hb i h cs hr;exact jAz hr (cL hb o) (kD.raw.below Hn.out (tQ Z hb)) (cL hb I)
 exact l9
def kEg (l:Aq jI) (k:Nat) (x:jI):Bool:=!(!zx x.1 || (!inR x.2.1 1 6 || (!inR x.2.2 0 1000 || decide (idxOf (kAm x.1 x.2.1) (l.take k) ≥ 0))))
def kBw (l:Aq jI):Bool:=zN (λj=>kEg l j (l.getD j ([],0,0))) l.length && decide (l.length<=24)
def kWd {l:Aq jI} {k:Nat} (h:k < l.length) (q:kEg l k l[k]=false):kBw l=false:=by
 unfold kBw;rw [kDl h rP];rfl
def kSq {l:Aq jI} {k:Nat} (h:k < l.length) (q:kEg l k l[k]=true) (a:zN (λj=>kEg l j (l.getD j ([],0,0))) k=true):zN (λj=>kEg l j (l.getD j ([],0,0))) (k + 1)=true :=
  kBp a rP
def kSr {l:Aq jI} {k:Nat} (q:zN (λj=>kEg l j (l.getD j ([],0,0))) k=true) (h:¬ k < l.length) (hk:k<=l.length):kBw l=decide (l.length<=24):=by
 obtain rfl:k=l.length:=bF2;unfold kBw;rw [q];rfl
def kFa {w:Ap} {vl:Ar} {l:Aq jI} (hl:(kD.slice 176 jA).raw w [vl] l) :
    Av prog 260 #[vl] w (bQ w (.bool (kBw l))):=by
 obtain ⟨al,pl,rfl,ll⟩:=kD.sl hl
 have br:=kD.kBj hl
 go_enter func260,ntmps260
 go_wp2
 go_loopw [3] (λi wr=>∃ k:Nat,k<=l.length/\i=.int .i64 k/\Hid (zN (λj=>kEg l j (l.getD j ([],0,0))) k=true)/\Qb w wr) (λi _=>l.length - (Ay i).toNat)
 case atStart=>exact ⟨0,Nat.zero_le _,rfl,yD rfl,bR⟩
 obtain ⟨k,hk,rfl,Y,o⟩:=hrel
 by_cases hlt:k < l.length
 · obtain ⟨qb,qo,rfl,ac,ae,af,qr,ap,aq,au⟩:=kD.zL (hl.below o) (i:=k) bF2 rfl;have ay:=yD (kD.kBz (hl.below o) hk);have hb:=λq=>kWd hlt q;have hx:=λq=>kSq hlt q Y.out;generalize l[k]=x at *;have HB:=yD hb;have HX:=yD hx;clear hb hx;obtain ⟨x0,x1,x2⟩:=x;obtain ⟨rfl,rfl,ah,aj,ak,aw⟩:=yI qr;obtain ⟨ad,a4,rfl,a6⟩:=kD.sl aj;obtain ⟨be,b9,ch⟩:=xJ;go_upto_region 4 with fail;have FX:=yD (λ(W:Ap) (hW:Qb wr W)=>kMt hW ap aq au);refine kK (λW=>Qb wr W) [Tt,Tt,Tt,Tt,Tt,Ff,Tt,Tt,Tt,Tt,Tt,Tt,Tt,Ff,Tt,Tt,Tt,Tt,Tt,Tt,Tt,Tt,Ff,Tt,Tt,Tt,Tt,Tt,Tt,Tt,Tt,Tt,Tt,Tt,Tt,Tt,Tt,Tt,Tt,Ff,Tt,Tt] bE5 bE5 qW (bR.drew) ?_;intro wS E;all_goals ((iterate 5 refine kS ?_);(first | refine zi (zF (kD.raw.below ah E)) (λwS1 E=>?_) | refine kS ?_);refine kS ?_;refine jT λb ax=>?_;cases b <;> try simp only [jS] at ax)
   all_goals ((iterate 5 refine kS ?_);(first | refine wkC (yL) ?_ | refine kS ?_);refine kS ?_;refine kS ?_;refine jT λb ao=>?_;cases b <;> try simp only [jS] at ao)
   all_goals ((iterate 5 refine kS ?_);(first | refine wkC (yL) ?_ | refine kS ?_);refine kS ?_;refine kS ?_;refine jT λb R=>?_;cases b <;> try simp only [jS] at R)
   all_goals ((iterate 13 refine kS ?_);(first | refine zi (kQy (kD.raw.below ay.out E) (kD.raw.below ah E)) (λwS1 E=>?_) | refine kS ?_);refine kS ?_;refine jT λb F=>?_;cases b <;> try simp only [jS] at F)
   all_goals (refine kM ?_;have D:=o.trans (Au E o.size))
   all_goals first
     | (have L:=yD (HB.out (show _=false by simp only [kEg,Ad,Aa,Ae,Ag,Ab,Ac,Aj,Ak,Ah,Ai,Al,Am,ax,ao,R,F]));clear HB HX Y ay;go_wp2;go_ret;exact ⟨kJ L.out.symm,D⟩)
     | (have L:=yD (HX.out (show _=true by simp only [kEg,Ad,Aa,Ae,Ag,Ab,Ac,Aj,Ak,Ah,Ai,Al,Am,ax,ao,R,F]));clear HB HX Y ay;refine Qg ?_;exact ⟨k + 1,by omega,by go_num,L,D⟩)
 have L:=yD (kSr Y.out hlt hk)
 exact tX
def kTn {w:Ap} {vl:Ar} {l:Aq jI} (hl:(kD.slice 176 jA).raw w [vl] l) :
    Av prog 84 #[vl] w (bQ w (.bool (kBw l))):=by
 obtain ⟨al,pl,rfl,ll⟩:=kD.sl hl
 have br:=kD.kBj hl
 go_enter func84,ntmps84
 go_wp2
 go_loopw [7] (λi wr=>∃ k:Nat,k<=l.length/\i=.int .i64 k/\Hid (zN (λj=>kEg l j (l.getD j ([],0,0))) k=true)/\Qb w wr) (λi _=>l.length - (Ay i).toNat)
 case atStart=>exact ⟨0,Nat.zero_le _,rfl,yD rfl,bR⟩
 obtain ⟨k,hk,rfl,Y,o⟩:=hrel
 by_cases hlt:k < l.length
 · obtain ⟨qb,qo,rfl,ac,ae,af,qr,ap,aq,au⟩:=kD.zL (hl.below o) (i:=k) bF2 rfl;have ay:=yD (kD.kBz (hl.below o) hk);have hb:=λq=>kWd hlt q;have hx:=λq=>kSq hlt q Y.out;generalize l[k]=x at *;have HB:=yD hb;have HX:=yD hx;clear hb hx;obtain ⟨x0,x1,x2⟩:=x;obtain ⟨rfl,rfl,ah,aj,ak,aw⟩:=yI qr;obtain ⟨ad,a4,rfl,a6⟩:=kD.sl aj;obtain ⟨be,b9,ch⟩:=xJ;go_upto_region 4 with fail;refine ja ?_;intro wC EC F _;obtain ⟨M0,M1,M2⟩:=kBd F;clear F;have FX:=yD (λ(W:Ap) (hW:Qb wC W)=>kMt hW M0 M1 M2);refine kK (λW=>Qb wC W) [Tt,Tt,Ff,Tt,Tt,Tt,Tt,Ff,Tt,Tt,Tt,Tt,Tt,Ff,Tt,Tt,Tt,Tt,Tt,Tt,Tt,Tt,Tt,Tt,Ff,Tt,Tt] bE5 bE5 qW (bR.drew) ?_;intro wS E;all_goals (refine kS ?_;refine kS ?_;(first | refine zi (kBo (kD.raw.below ah (tQ EC E))) (λwS1 E=>?_) | refine kS ?_);refine kS ?_;refine jT λb a1=>?_;cases b <;> try simp only [jS] at a1)
   all_goals (refine kS ?_;refine kS ?_;(first | refine wkC (yC) ?_ | refine kS ?_);refine kS ?_;refine kS ?_;refine jT λb ar=>?_;cases b <;> try simp only [jS] at ar)
   all_goals (refine kS ?_;refine kS ?_;(first | refine wkC (yC) ?_ | refine kS ?_);refine kS ?_;refine kS ?_;refine jT λb ao=>?_;cases b <;> try simp only [jS] at ao)
   all_goals ((iterate 7 refine kS ?_);(first | refine zi (jCq (kD.raw.below ay.out (tQ EC E)) (kD.raw.below ah (tQ EC E))) (λwS1 E=>?_) | refine kS ?_);refine kS ?_;refine jT λb J=>?_;cases b <;> try simp only [jS] at J)
   all_goals (refine kM ?_;have D:=o.trans (Au (tQ EC E) o.size))
   all_goals first
     | (have L:=yD (HB.out (show _=false by simp only [kEg,Ad,Aa,Ae,Ag,Ab,Ac,Aj,Ak,Ah,Ai,Al,Am,a1,ar,ao,J]));clear HB HX Y ay;go_wp2;go_ret;exact ⟨kJ L.out.symm,D⟩)
     | (have L:=yD (HX.out (show _=true by simp only [kEg,Ad,Aa,Ae,Ag,Ab,Ac,Aj,Ak,Ah,Ai,Al,Am,a1,ar,ao,J]));clear HB HX Y ay;refine Qg ?_;exact ⟨k + 1,by omega,by go_num,L,D⟩)
 have L:=yD (kSr Y.out hlt hk)
 exact tX
def zD (n:ko) (f:Int) (m:kW):Bool:=(m.2.1==f) && eqN m.1 n
def kGj {w:Ap} {vl:Ar} {l:(Aq kW)} (hl:(kD.slice 179 kN).raw w [vl] l) {cn:Aq Ar} {n:ko} (hn:kR.raw w cn n) {f:Int} :
    Av prog 253 #[vl,.agg cn.toArray,.int .i64 f] w (bQ w (.int .i64 (idxOf (zD n f) l))):=by
 obtain ⟨al,pl,rfl,ll⟩:=kD.sl hl
 have Hn:=yD hn
 obtain ⟨X,rfl,J⟩:=kw hn
 obtain ⟨V,F,rfl,aa⟩:=kD.sl J
 go_enter func253,ntmps253
 go_wp2
 generalize R:World.alloc w _=U
 obtain ⟨Z,I⟩:=xN
 clear R
 replace hl:=hl.below Z
 go_loopw [7] (λi wr=>∃ k:Nat,k<=l.length/\i=.int .i64 k/\Hid (∀ j,(h:j < k)->(h2:j < l.length)->(zD n f) l[j]=false)/\Qb U wr) (λi _=>l.length - (Ay i).toNat)
 case atStart=>exact ⟨0,Nat.zero_le _,rfl,yD (λ_ h=>by omega),bR⟩
 obtain ⟨k,hk,rfl,Y,o⟩:=hrel
 replace I:=cL o I
 by_cases hlt:k < l.length
 · obtain ⟨qb,qo,rfl,ac,ae,af,qr,ap,aq,au⟩:=kD.zL (hl.below o) (i:=k) bF2 rfl;obtain ⟨O,H⟩:=BG;generalize l[k]=x at *;have HD:=yD O;have HX:=yD H;clear O H;obtain ⟨x0,x1,x2⟩:=x;obtain ⟨rfl,rfl,ah,aj,ak,aw⟩:=yG qr;obtain ⟨ad,a4,rfl,a6⟩:=kD.sl aj;go_upto_region 4 with fail;have FX:=yD (λ(W:Ap) (hW:Qb wr W)=>kDk hW I ap aq au);refine kK (λW=>Qb wr W) [Tt,Tt,Tt,Tt,Tt,Tt,Tt,Tt,Tt,Tt,Tt,Tt,Tt,Tt,Ff,Tt] bE5 bE5 qW (bR.drew) ?_;intro wS E;all_goals ((iterate 7 refine kS ?_);refine jT λb ax=>?_;cases b <;> try simp only [jS] at ax)
   all_goals ((iterate 6 refine kS ?_);(first | refine zi (jU (kD.raw.below ah E) (kD.raw.below Hn.out ((tQ Z (tQ o E))))) (λwS1 E=>?_) | refine kS ?_);refine jT λb co=>?_;cases b <;> try simp only [jS] at co)
   all_goals (refine kM ?_;have D:=(tQ o E))
   all_goals first
     | (have L:=yD (HD.out (show _=true by simp only [zD,Ad,Aa,Ae,Ag,Ab,Ac,Aj,Ak,Ah,Ai,Al,ax,co]));clear HD HX;go_wp2;go_ret;exact ⟨jZ L.out.symm,(tQ Z D)⟩)
     | (have L:=yD (HX.out (show _=false by simp only [zD,Ad,Aa,Ae,Ag,Ab,Ac,Aj,Ak,Ah,Ai,Al,ax,co]));clear HD HX;refine Qg ?_;exact ⟨k + 1,by omega,by go_num,L,D⟩)
 exact l8
def kTl {w:Ap} {cm:Aq Ar} {m:kW} (hm:kN.raw w cm m) {f:Int} {N:Nat} (H:Qc w N 0 (Qn f)) {n:ko} {bn:Ar} {O:Nat} (nr:kR.raw w [bn] n) (J:Qc w O 0 bn) :
    Av prog 230 (#[.agg cm.toArray]++#[.pointer (some ⟨N,0,none⟩),.pointer (some ⟨O,0,none⟩)]) w (bQ w (.bool (zD n f m))):=by
 have Hm:=yD hm
 obtain ⟨ab,rfl,R,o,ad,X⟩:=kDp hm
 obtain ⟨Y,ag,rfl,ae⟩:=kD.sl o
 have az:=kJa nr
 obtain ⟨ce,V,rfl,aa⟩:=kD.sl az
 show Av prog 230 #[_,_,_] w _
 go_enter func230,ntmps230
 go_upto_region 1 with fail
 refine ja ?_
 intro U Z F _
 obtain ⟨I,ac,af⟩:=kBd F
 clear F
 replace H:=cL Z H
 replace J:=cL Z J
 have FX:=yD (λ(W:Ap) (hW:Qb U W)=>kTx hW I ac af H J)
 refine kL (λW=>Qb U W) [Tt,Tt,Tt,Tt,Tt,Tt,Tt,Tt,Ff,Tt,Tt] bR ?_
 intro wS E
 all_goals ((iterate 4 refine kS ?_);refine jT λb a1=>?_;cases b <;> try simp only [jS] at a1)
 all_goals ((iterate 3 refine kS ?_);(first | refine zi (jw (kD.raw.below R (tQ Z E)) (kD.raw.below nr (tQ Z E))) (λwS1 E=>?_) | refine kS ?_);refine kS ?_;refine jT λb ar=>?_;cases b <;> try simp only [jS] at ar)
 all_goals (refine kM ?_;have D:=(tQ Z E))
 all_goals first
   | (have L:=yD (show (zD n f m)=false by simp only [zD,Ad,Aa,Ae,Ag,Ab,Ac,Aj,Ak,Ah,Ai,Al,a1,ar]);go_wp2;go_ret;exact ⟨kJ L.out.symm,D⟩)
   | (have L:=yD (show (zD n f m)=true by simp only [zD,Ad,Aa,Ae,Ag,Ab,Ac,Aj,Ak,Ah,Ai,Al,a1,ar]);go_wp2;go_ret;exact ⟨kJ L.out.symm,D⟩)
def kIv:jL prog 230:=yM func230 bE5 bE5
def kLe {w:Ap} {vl:Ar} {l:(Aq kW)} (hl:(kD.slice 179 kN).raw w [vl] l) {cn:Aq Ar} {n:ko} (hn:kR.raw w cn n) {f:Int} :
    Av prog 169 #[vl,.agg cn.toArray,.int .i64 f] w (bQ w (.int .i64 (idxOf (zD n f) l))):=by
 obtain ⟨al,pl,rfl,ll⟩:=kD.sl hl
 have Hn:=yD hn
 obtain ⟨X,rfl,J⟩:=kw hn
 obtain ⟨V,F,rfl,aa⟩:=kD.sl J
 go_enter func169,ntmps169
 go_upto_region 1 with fail
 generalize R:World.alloc (World.alloc w _) _=U
 obtain ⟨Z,I⟩:=xN
 have o:Qc U (w.heap.size + 1) 0 (Qn f):=vS
 clear R
 go_wp2_with fail
 refine (kLu (zD n f) kIv (kD.raw.below hl Z) ?_).mono ?_
 · intro wr hb i h cs hr;exact kTl hr (cL hb o) (kD.raw.below Hn.out (tQ Z hb)) (cL hb I)
 exact l9
def kHe (l:Aq kW) (k:Nat) (x:kW):Bool:=!(!zx x.1 || (!inR x.2.1 1 6 || (!inR x.2.2 1 50 || decide (idxOf (zD x.1 x.2.1) (l.take k) ≥ 0))))
def kNw (l:Aq kW):Bool:=zN (λj=>kHe l j (l.getD j ([],0,0))) l.length && decide (l.length<=24)
def kZa {l:Aq kW} {k:Nat} (h:k < l.length) (q:kHe l k l[k]=false):kNw l=false:=by
 unfold kNw;rw [kDl h rP];rfl
def kWg {l:Aq kW} {k:Nat} (h:k < l.length) (q:kHe l k l[k]=true) (a:zN (λj=>kHe l j (l.getD j ([],0,0))) k=true):zN (λj=>kHe l j (l.getD j ([],0,0))) (k + 1)=true :=
  kBp a rP
def kWh {l:Aq kW} {k:Nat} (q:zN (λj=>kHe l j (l.getD j ([],0,0))) k=true) (h:¬ k < l.length) (hk:k<=l.length):kNw l=decide (l.length<=24):=by
 obtain rfl:k=l.length:=bF2;unfold kNw;rw [q];rfl
def kKu {w:Ap} {vl:Ar} {l:Aq kW} (hl:(kD.slice 179 kN).raw w [vl] l) :
    Av prog 261 #[vl] w (bQ w (.bool (kNw l))):=by
 obtain ⟨al,pl,rfl,ll⟩:=kD.sl hl
 have br:=kD.kBj hl
 go_enter func261,ntmps261
 go_wp2
 go_loopw [3] (λi wr=>∃ k:Nat,k<=l.length/\i=.int .i64 k/\Hid (zN (λj=>kHe l j (l.getD j ([],0,0))) k=true)/\Qb w wr) (λi _=>l.length - (Ay i).toNat)
 case atStart=>exact ⟨0,Nat.zero_le _,rfl,yD rfl,bR⟩
 obtain ⟨k,hk,rfl,Y,o⟩:=hrel
 by_cases hlt:k < l.length
 · obtain ⟨qb,qo,rfl,ac,ae,af,qr,ap,aq,au⟩:=kD.zL (hl.below o) (i:=k) bF2 rfl;have ay:=yD (kD.kBz (hl.below o) hk);have hb:=λq=>kZa hlt q;have hx:=λq=>kWg hlt q Y.out;generalize l[k]=x at *;have HB:=yD hb;have HX:=yD hx;clear hb hx;obtain ⟨x0,x1,x2⟩:=x;obtain ⟨rfl,rfl,ah,aj,ak,aw⟩:=yG qr;obtain ⟨ad,a4,rfl,a6⟩:=kD.sl aj;obtain ⟨be,b9,ch⟩:=xJ;go_upto_region 4 with fail;have FX:=yD (λ(W:Ap) (hW:Qb wr W)=>kMt hW ap aq au);refine kK (λW=>Qb wr W) [Tt,Tt,Tt,Tt,Tt,Ff,Tt,Tt,Tt,Tt,Tt,Tt,Tt,Ff,Tt,Tt,Tt,Tt,Tt,Tt,Tt,Tt,Ff,Tt,Tt,Tt,Tt,Tt,Tt,Tt,Tt,Tt,Tt,Tt,Tt,Tt,Tt,Tt,Tt,Ff,Tt,Tt] bE5 bE5 qW (bR.drew) ?_;intro wS E;all_goals ((iterate 5 refine kS ?_);(first | refine zi (zF (kD.raw.below ah E)) (λwS1 E=>?_) | refine kS ?_);refine kS ?_;refine jT λb ax=>?_;cases b <;> try simp only [jS] at ax)
   all_goals ((iterate 5 refine kS ?_);(first | refine wkC (yL) ?_ | refine kS ?_);refine kS ?_;refine kS ?_;refine jT λb ao=>?_;cases b <;> try simp only [jS] at ao)
   all_goals ((iterate 5 refine kS ?_);(first | refine wkC (yL) ?_ | refine kS ?_);refine kS ?_;refine kS ?_;refine jT λb R=>?_;cases b <;> try simp only [jS] at R)
   all_goals ((iterate 13 refine kS ?_);(first | refine zi (kGj (kD.raw.below ay.out E) (kD.raw.below ah E)) (λwS1 E=>?_) | refine kS ?_);refine kS ?_;refine jT λb F=>?_;cases b <;> try simp only [jS] at F)
   all_goals (refine kM ?_;have D:=o.trans (Au E o.size))
   all_goals first
     | (have L:=yD (HB.out (show _=false by simp only [kHe,Ad,Aa,Ae,Ag,Ab,Ac,Aj,Ak,Ah,Ai,Al,Am,ax,ao,R,F]));clear HB HX Y ay;go_wp2;go_ret;exact ⟨kJ L.out.symm,D⟩)
     | (have L:=yD (HX.out (show _=true by simp only [kHe,Ad,Aa,Ae,Ag,Ab,Ac,Aj,Ak,Ah,Ai,Al,Am,ax,ao,R,F]));clear HB HX Y ay;refine Qg ?_;exact ⟨k + 1,by omega,by go_num,L,D⟩)
 have L:=yD (kWh Y.out hlt hk)
 exact tX
def kLg {w:Ap} {vl:Ar} {l:Aq kW} (hl:(kD.slice 179 kN).raw w [vl] l) :
    Av prog 85 #[vl] w (bQ w (.bool (kNw l))):=by
 obtain ⟨al,pl,rfl,ll⟩:=kD.sl hl
 have br:=kD.kBj hl
 go_enter func85,ntmps85
 go_wp2
 go_loopw [7] (λi wr=>∃ k:Nat,k<=l.length/\i=.int .i64 k/\Hid (zN (λj=>kHe l j (l.getD j ([],0,0))) k=true)/\Qb w wr) (λi _=>l.length - (Ay i).toNat)
 case atStart=>exact ⟨0,Nat.zero_le _,rfl,yD rfl,bR⟩
 obtain ⟨k,hk,rfl,Y,o⟩:=hrel
 by_cases hlt:k < l.length
 · obtain ⟨qb,qo,rfl,ac,ae,af,qr,ap,aq,au⟩:=kD.zL (hl.below o) (i:=k) bF2 rfl;have ay:=yD (kD.kBz (hl.below o) hk);have hb:=λq=>kZa hlt q;have hx:=λq=>kWg hlt q Y.out;generalize l[k]=x at *;have HB:=yD hb;have HX:=yD hx;clear hb hx;obtain ⟨x0,x1,x2⟩:=x;obtain ⟨rfl,rfl,ah,aj,ak,aw⟩:=yG qr;obtain ⟨ad,a4,rfl,a6⟩:=kD.sl aj;obtain ⟨be,b9,ch⟩:=xJ;go_upto_region 4 with fail;refine ja ?_;intro wC EC F _;obtain ⟨M0,M1,M2⟩:=kBd F;clear F;have FX:=yD (λ(W:Ap) (hW:Qb wC W)=>kMt hW M0 M1 M2);refine kK (λW=>Qb wC W) [Tt,Tt,Ff,Tt,Tt,Tt,Tt,Ff,Tt,Tt,Tt,Tt,Tt,Ff,Tt,Tt,Tt,Tt,Tt,Tt,Tt,Tt,Tt,Tt,Ff,Tt,Tt] bE5 bE5 qW (bR.drew) ?_;intro wS E;all_goals (refine kS ?_;refine kS ?_;(first | refine zi (kBo (kD.raw.below ah (tQ EC E))) (λwS1 E=>?_) | refine kS ?_);refine kS ?_;refine jT λb a1=>?_;cases b <;> try simp only [jS] at a1)
   all_goals (refine kS ?_;refine kS ?_;(first | refine wkC (yC) ?_ | refine kS ?_);refine kS ?_;refine kS ?_;refine jT λb ar=>?_;cases b <;> try simp only [jS] at ar)
   all_goals (refine kS ?_;refine kS ?_;(first | refine wkC (yC) ?_ | refine kS ?_);refine kS ?_;refine kS ?_;refine jT λb ao=>?_;cases b <;> try simp only [jS] at ao)
   all_goals ((iterate 7 refine kS ?_);(first | refine zi (kLe (kD.raw.below ay.out (tQ EC E)) (kD.raw.below ah (tQ EC E))) (λwS1 E=>?_) | refine kS ?_);refine kS ?_;refine jT λb J=>?_;cases b <;> try simp only [jS] at J)
   all_goals (refine kM ?_;have D:=o.trans (Au (tQ EC E) o.size))
   all_goals first
     | (have L:=yD (HB.out (show _=false by simp only [kHe,Ad,Aa,Ae,Ag,Ab,Ac,Aj,Ak,Ah,Ai,Al,Am,a1,ar,ao,J]));clear HB HX Y ay;go_wp2;go_ret;exact ⟨kJ L.out.symm,D⟩)
     | (have L:=yD (HX.out (show _=true by simp only [kHe,Ad,Aa,Ae,Ag,Ab,Ac,Aj,Ak,Ah,Ai,Al,Am,a1,ar,ao,J]));clear HB HX Y ay;refine Qg ?_;exact ⟨k + 1,by omega,by go_num,L,D⟩)
 have L:=yD (kWh Y.out hlt hk)
 exact tX
def kJm (l:Aq jQ) (k:Nat) (x:jQ):Bool:=!(!kBk x || decide (idxOf (isD x.1) (l.take k) ≥ 0))
def kWp (x:jX):Bool:=(((((decide ((x.1.length:Int)<=8) && kCi x.2.1) && kDf x.2.2.1) && kBw x.2.2.2.2.1) && kNw x.2.2.2.2.2.1) && decide ((x.2.2.2.1.length:Int)<=24)) && decide (0<=x.2.2.2.2.2.2)
def kAy (x:jX):Bool:=zN (λj=>kJm x.1 j (x.1.getD j kNa)) x.1.length && kWp x
def jAm {x:jX} {k:Nat} (h:k < x.1.length) (q:kJm x.1 k x.1[k]=false):kAy x=false:=by
 unfold kAy;rw [kDl h rP];rfl
def kWr {l:Aq jQ} {k:Nat} (h:k < l.length) (q:kJm l k l[k]=true) (a:zN (λj=>kJm l j (l.getD j kNa)) k=true):zN (λj=>kJm l j (l.getD j kNa)) (k + 1)=true :=
  kBp a rP
def kWs {x:jX} {k:Nat} (q:zN (λj=>kJm x.1 j (x.1.getD j kNa)) k=true) (h:¬ k < x.1.length) (hk:k<=x.1.length):kAy x=kWp x:=by
 obtain rfl:k=x.1.length:=bF2;unfold kAy;rw [q];rfl
def kXe {w:Ap} {cx:Aq Ar} {x:jX} (hx:jo.raw w cx x) :
    Av prog 234 #[.agg cx.toArray] w (bQ w (.bool (kAy x))):=by
 obtain ⟨f6,f4,gp,gm,gj,gb,rfl,V,a9,bl,bi,bg,bo,b1,cf,du⟩:=yO hx
 obtain ⟨em,d7,rfl,gi,dx,dw,rfl,gf,e9,e6,rfl,gx,e7,e4,rfl,gz,e0,ey,rfl,g3,en,ej,rfl,gv⟩:=kD.sx V (kD.sx bi (kD.sx bg (kD.sx bo (kD.sx b1 (kD.sl cf)))))
 have hl:=V
 have br:=kD.kBj hl
 have H1:=yD a9
 have H4:=yD bg
 have H6:=yD b1
 have H7:=yD cf
 clear hx V a9 bl bi bg bo b1 cf du
 go_enter func234,ntmps234
 go_wp2
 refine ja ?_
 intro U Z F _
 obtain ⟨K0,K1,K2,K3,K4,K5,K6,K7⟩:=yu F
 clear F
 replace hl:=hl.below Z
 go_loopw [3] (λi wr=>∃ k:Nat,k<=x.1.length/\i=.int .i64 k/\Hid (zN (λj=>kJm x.1 j (x.1.getD j kNa)) k=true)/\Qb U wr) (λi _=>x.1.length - (Ay i).toNat)
 case atStart=>exact ⟨0,Nat.zero_le _,rfl,yD rfl,bR⟩
 obtain ⟨k,hk,rfl,Y,o⟩:=hrel
 replace K0:=cL o K0
 replace K1:=cL o K1
 replace K2:=cL o K2
 replace K3:=cL o K3
 replace K4:=cL o K4
 replace K5:=cL o K5
 replace K6:=cL o K6
 replace K7:=cL o K7
 by_cases hlt:k < x.1.length
 · have ay:=yD (kD.kBz (hl.below o) hk);have hb:=λq=>jAm (x:=x) hlt q;have N:=λq=>kWr hlt q Y.out;obtain ⟨qb,qo,rfl,ac,ae,af,bt,bu,qr,ap,aq,au,a7,ba⟩:=kD.kTr (hl.below o) (i:=k) bF2 rfl;generalize x.1[k]=z at *;have HB:=yD hb;have HX:=yD N;clear hb N;obtain ⟨rfl,rfl,ah,aj,ak,aw,bj,bd,bp⟩:=kAi qr;obtain ⟨ad,a4,rfl,a6,am,bk,rfl,bq,ao,bx,rfl,bw⟩:=kD.sx aj (kD.sx ak (kD.sl bj));have be:=Int.ofNat_lt.2 hlt;have b9:=Int.natCast_nonneg k;have ch:(k:Int)<=(d7:Int):=bF2;go_upto_region 4 with fail;have FX:=yD (λ(W:Ap) (hW:Qb wr W)=>kJf hW K0 ap aq au a7 ba);refine kK (λW=>Qb wr W) [Tt,Tt,Tt,Tt,Tt,Ff,Tt,Tt,Tt,Tt,Tt,Tt,Tt,Tt,Tt,Tt,Tt,Tt,Ff,Tt,Tt] bE5 bE5 qW (bR.drew) ?_;intro wS E;all_goals ((iterate 5 refine kS ?_);(first | refine zi (kEd (kD.raw.below qr E)) (λwS1 E=>?_) | refine kS ?_);refine kS ?_;refine jT λb ax=>?_;cases b <;> try simp only [jS] at ax)
   all_goals ((iterate 10 refine kS ?_);(first | refine zi (kQw (kD.raw.below ay.out E) (kD.raw.below ah E)) (λwS1 E=>?_) | refine kS ?_);refine kS ?_;refine jT λb I=>?_;cases b <;> try simp only [jS] at I)
   all_goals (refine kM ?_;have D:=(tQ o E))
   all_goals first
     | (have L:=yD (HB.out (show _=false by simp only [kJm,Ad,Aa,Ae,Ag,Ab,Ac,Aj,Ak,Ah,Ai,Al,Am,ax,I]));clear HB HX Y ay;go_wp2;go_ret;exact ⟨kJ L.out.symm,(tQ Z D)⟩)
     | (have L:=yD (HX.out (show _=true by simp only [kJm,Ad,Aa,Ae,Ag,Ab,Ac,Aj,Ak,Ah,Ai,Al,Am,ax,I]));clear HB HX Y ay;refine Qg ?_;exact ⟨k + 1,by omega,by go_num,L,D⟩)
 have L:=yD (kWs (x:=x) Y.out hlt hk)
 have dq:¬ (k:Int) < x.1.length:=bF2
 go_upto_region 6 with fail
 have FX:=yD (λ(W:Ap) (hW:Qb wr W)=>cLs8 hW K0 K1 K2 K3 K4 K5 K6 K7)
 refine kL (λW=>Qb wr W) [Tt,Tt,Tt,Tt,Tt,Tt,Tt,Ff,Tt,Tt,Tt,Tt,Ff,Tt,Tt,Tt,Tt,Ff,Tt,Tt,Tt,Tt,Ff,Tt,Tt,Tt,Tt,Tt,Tt,Tt,Tt,Tt,Tt,Tt,Tt,Tt] bR ?_
 intro wS E
 all_goals ((iterate 4 refine kS ?_);refine jT λb a1=>?_;cases b <;> try simp only [jS] at a1)
 all_goals (refine kS ?_;refine kS ?_;(first | refine zi (kKv (kD.raw.below H1.out ((tQ Z o).trans (E.mono (Aw (tQ Z o)))))) (λwS1 E=>?_) | refine kS ?_);refine kS ?_;refine jT λb a5=>?_;cases b <;> try simp only [jS] at a5)
 all_goals (refine kS ?_;refine kS ?_;(first | refine zi (kRm (kD.raw.below H4.out ((tQ Z o).trans (E.mono (Aw (tQ Z o)))))) (λwS1 E=>?_) | refine kS ?_);refine kS ?_;refine jT λb dp=>?_;cases b <;> try simp only [jS] at dp)
 all_goals (refine kS ?_;refine kS ?_;(first | refine zi (kFa (kD.raw.below H6.out ((tQ Z o).trans (E.mono (Aw (tQ Z o)))))) (λwS1 E=>?_) | refine kS ?_);refine kS ?_;refine jT λb O=>?_;cases b <;> try simp only [jS] at O)
 all_goals (refine kS ?_;refine kS ?_;(first | refine zi (kKu (kD.raw.below H7.out ((tQ Z o).trans (E.mono (Aw (tQ Z o)))))) (λwS1 E=>?_) | refine kS ?_);refine kS ?_;refine jT λb J=>?_;cases b <;> try simp only [jS] at J)
 all_goals ((iterate 5 refine kS ?_);refine jT λb R=>?_;cases b <;> try simp only [jS] at R)
 all_goals ((iterate 4 refine kS ?_);refine jT λb H=>?_;cases b <;> try simp only [jS] at H)
 all_goals (refine kM ?_;have D:=(tQ Z (tQ o E)))
 all_goals first
   | (have X:=yD (show kAy x=false by rw [L.out];simp only [kWp,Ad,Aa,Ae,Ag,Ab,Ac,Aj,Ak,Ah,Ai,Al,a1,a5,dp,O,J,R,H]);go_wp2;go_ret;exact ⟨kJ X.out.symm,D⟩)
   | (have X:=yD (show kAy x=true by rw [L.out];simp only [kWp,Ad,Aa,Ae,Ag,Ab,Ac,Aj,Ak,Ah,Ai,Al,a1,a5,dp,O,J,R,H]);go_wp2;go_ret;exact ⟨kJ X.out.symm,D⟩)
def vStore_rng {c:Int} {l:List kr} (h:inR c 0 8=false):kCi (c,l)=false:=by unfold kCi;simp only;rw [h,Bool.false_and,Bool.and_false]
def vStore_len {c:Int} {l:List kr} (h:¬ (l.length:Int)<=c):kCi (c,l)=false:=by unfold kCi;simp only;rw [decide_eq_false h,Bool.and_false,Bool.and_false]
def vStore_yes {c:Int} {l:Aq kr} {k:Nat} (q:zN (λj=>kRu l j (l.getD j kYq)) k=true) (h:¬ k < l.length) (hk:k<=l.length) (h1:inR c 0 8=true) (h2:(l.length:Int)<=c):kCi (c,l)=true:=by
 rw [kWa q h hk,h1,decide_eq_true h2];rfl
def kLh {w:Ap} {cs:Aq Ar} {x:kg} (hx:kP.raw w cs x) :
    Av prog 82 #[.agg cs.toArray] w (bQ w (.bool (kCi x))):=by
 obtain ⟨sv,rfl,ff,hl⟩:=jN hx
 obtain ⟨aa,pl,rfl,la⟩:=kD.sl hl
 obtain ⟨c,l⟩:=x
 replace hl:(kD.slice 144 jB).raw w [Qs aa l pl] l:=hl
 have br:=kD.kBj hl
 replace la:l.length<=9223372036854775807:=la
 clear hx ff
 go_enter func82,ntmps82
 go_upto_region 1 with fail
 refine ja ?_
 intro U Z F _
 obtain ⟨K0,K1⟩:=yN F
 clear F
 replace hl:=hl.below Z
 have HR:=yD (vStore_rng (c:=c) (l:=l))
 have HL:=yD (vStore_len (c:=c) (l:=l))
 have HG:=yD (λ(k:Nat)=>vStore_yes (c:=c) (l:=l) (k:=k))
 by_cases hr:inR c 0 8=true
 case neg =>
  have bv:inR c 0 8=false:=bC8;have L:=yD (HR.out bv);clear HR HL HG hr;go_wp2_with fail;refine yC.mono ?_;rintro e w1 ⟨rfl,al⟩;obtain rfl:=al.symm;rw [bv];go_wp2;go_ret;exact ⟨kJ L.out.symm,Z.trans (Au bI Z.size)⟩
 by_cases hc:(l.length:Int)<=c
 case neg =>
  have L:=yD (HL.out hc);have hd:decide ((l.length:Int) > c)=true:=bE6;have X:decide (c < (l.length:Int))=true:=bE6;have av:c < (l.length:Int):=bF2;clear HR HL HG hc;go_wp2_with fail;refine yC.mono ?_;rintro e w1 ⟨rfl,al⟩;obtain rfl:=al.symm;rw [hr];go_wp2;go_ret;exact ⟨kJ L.out.symm,Z.trans (Au bI Z.size)⟩
 have ai:=yD (λk q h hk=>HG.out k q h hk hr hc)
 have hd:decide ((l.length:Int) > c)=false:=bE6
 have X:decide (c < (l.length:Int))=false:=bE6
 go_wp2_with fail
 refine yC.mono ?_
 rintro e w1 ⟨rfl,al⟩
 obtain rfl:=al.symm
 rw [hr]
 clear HR HL HG hc hr
 go_wp2
 clear hd X
 go_loopw [20] (λi wr=>∃ k:Nat,k<=l.length/\i=.int .i64 k/\Hid (zN (λj=>kRu l j (l.getD j kYq)) k=true)/\Qb U wr) (λi _=>l.length - (Ay i).toNat)
 case atStart=>exact ⟨0,Nat.zero_le _,rfl,yD rfl,bI⟩
 obtain ⟨k,hk,rfl,Y,o⟩:=hrel
 replace K1:=cL o K1
 by_cases hlt:k < l.length
 · have ay:=yD (kD.kBz (hl.below o) hk);have hb:=λq=>kYs (c:=c) hlt q;have N:=λq=>kVz hlt q Y.out;obtain ⟨qb,qo,rfl,ac,ae,af,bt,bu,b3,qr,ap,aq,au,a7,ba,bi⟩:=kD.kOr (hl.below o) (i:=k) bF2 rfl;generalize l[k]=x at *;have HB:=yD hb;have HX:=yD N;clear hb N;obtain ⟨rfl,rfl,rfl,ah,aj,ak,aw,bj,bd,bp,bz,b2⟩:=jy qr;obtain ⟨ad,a4,rfl,a6,am,bk,rfl,bq,ao,bx,rfl,bw⟩:=kD.sx ak (kD.sx aw (kD.sl bd));obtain ⟨be,b9,ch⟩:=xJ;go_upto_region 6 with fail;refine ja ?_;intro wC EC F _;replace K1:=cL EC K1;obtain ⟨M0,M1,M2,M3,M4,M5⟩:=kZv F;clear F;have FX:=yD (λ(W:Ap) (hW:Qb wC W)=>cLs7 hW K1 M0 M1 M2 M3 M4 M5);refine kL (λW=>Qb wC W) [Tt,Tt,Ff,Tt,Tt,Tt,Tt,Tt,Tt,Ff,Ff,Tt] bR ?_;intro wS E;all_goals (refine kS ?_;refine kS ?_;(first | refine zi (kNl (kD.raw.below ah (tQ EC E))) (λwS1 E=>?_) | refine kS ?_);refine kS ?_;refine jT λb a1=>?_;cases b <;> try simp only [jS] at a1)
   all_goals ((iterate 4 refine kS ?_);(first|(refine kI rfl E ?_)|(refine ku rfl (λK H=>?_);go_simp;refine H _ _ E ?_;clear H K));refine jH ?_;(first|(refine kI rfl E ?_)|(refine ku rfl (λK H=>?_);go_simp;refine (kJg (isC x.1.1) kEw (kD.raw.below ay.out (tQ EC E)) ?_).mono ?_;(· intro bn ag i hi en ab;exact kKi ab (kD.raw.below qr ((tQ EC E).trans (ag.mono (Aw (tQ EC E))))) (cL ag (cL E M0)) (cL ag (cL E M1)) (cL ag (cL E M2)) (cL ag (cL E M3)) (cL ag (cL E M4)) (cL ag (cL E M5)));rintro e wS1 ⟨rfl,V⟩;replace E:=(tQ E V);refine H _ _ E ?_;clear H K V));refine jH ?_;refine jT λb an=>?_;cases b <;> try simp only [jS] at an)
   all_goals (refine kM ?_;have D:=o.trans (Au (tQ EC E) o.size);have I:decide (idxOf (isC x.1.1) (l.take k) ≥ 0)=decide (0<=idxOf (isC x.1.1) (l.take k)):=rfl)
   all_goals first
     | (have L:=yD (HB.out (show _=false by simp only [kRu,Ad,Aa,Ae,Ag,Ab,Ac,Aj,Ak,Ah,Ai,Al,Am,a1,an]));clear HB HX Y ay;go_wp2;go_ret;exact ⟨kJ L.out.symm,(tQ Z D)⟩)
     | (have L:=yD (HX.out (show _=true by simp only [kRu,Ad,Aa,Ae,Ag,Ab,Ac,Aj,Ak,Ah,Ai,Al,Am,a1,an]));clear HB HX Y ay;refine Qg ?_;exact ⟨k + 1,by omega,by go_num,L,D⟩)
 have L:=yD (ai.out k Y.out hlt hk)
 have dq:¬ (k:Int) < l.length:=bF2
 go_wp2
 go_ret
 exact ⟨kJ L.out.symm,(tQ Z o)⟩
end Go.Proofs.YthocbplmdjkifaaGreat

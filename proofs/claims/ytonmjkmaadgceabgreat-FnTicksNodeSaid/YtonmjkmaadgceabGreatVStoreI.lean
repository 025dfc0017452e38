/-
  Content stores that are valid: the program.
-/
import Derived.Test.YtonmjkmaadgceabGreatFRoute
set_option linter.unusedVariables false
set_option linter.defProp false
set_option linter.unusedSimpArgs false
set_option linter.unnecessarySimpa false
set_option maxRecDepth 100000
set_option maxHeartbeats 4000000
open Bool renaming true->Tt,false->Ff
open Bool renaming not_false->Aa,and_false->Ab,false_and->Ac,not_true->Ad,and_true->Ae,true_and->Ag,or_false->Ah,false_or->Ai,or_true->Aj,true_or->Ak,not_not->Al
open List.cons renaming injEq->Am
open _root_ renaming ge_iff_le->Ap,List->Au
open Go.RowKit.Below renaming mono->Aq,size->Aw
open Go renaming World->Ar,Value->Ay,Calls->Az
open Go.RowKit renaming intOf->Av
namespace Go.Proofs.YtonmjkmaadgceabGreat
open Go.RowKit _root_.Go.Proofs.Tryz
def kDi (l:Au ky) (k:Nat) (x:ky):Bool:=!(!zM x.1 || (!inR x.2.1 1 6 || (!inR x.2.2 0 1000 || decide (idxOf (zn x.1 x.2.1) (l.take k) ≥ 0))))
def kBe (l:Au ky):Bool:=yh (λj=>kDi l j (l.getD j ([],0,0))) l.length && decide (l.length<=24)
def kQw {l:Au ky} {k:Nat} (h:k < l.length) (q:kDi l k l[k]=false):kBe l=false:=by
 unfold kBe;rw [kCx h qB];rfl
def kNx {l:Au ky} {k:Nat} (h:k < l.length) (q:kDi l k l[k]=true) (a:yh (λj=>kDi l j (l.getD j ([],0,0))) k=true):yh (λj=>kDi l j (l.getD j ([],0,0))) (k + 1)=true :=
  kAu a qB
def kNy {l:Au ky} {k:Nat} (q:yh (λj=>kDi l j (l.getD j ([],0,0))) k=true) (h:¬ k < l.length) (hk:k<=l.length):kBe l=decide (l.length<=24):=by
 obtain rfl:k=l.length:=bC9;unfold kBe;rw [q];rfl
def kDz {w:Ar} {vl:Ay} {l:Au ky} (hl:(kD.slice 77 kY).raw w [vl] l) :
    Az prog 192 #[vl] w (bQ w (.bool (kBe l))):=by
 obtain ⟨al,pl,rfl,ll⟩:=kD.sl hl
 have R:=kD.kAd hl
 go_enter func192,ntmps192
 go_wp2
 go_loopw [3] (λi wr=>∃ k:Nat,k<=l.length/\i=.int .i64 k/\Hid (yh (λj=>kDi l j (l.getD j ([],0,0))) k=true)/\Qb w wr) (λi _=>l.length - (Av i).toNat)
 case atStart=>exact ⟨0,Nat.zero_le _,rfl,yD rfl,bR⟩
 obtain ⟨k,hk,rfl,HN,o⟩:=hrel
 by_cases hlt:k < l.length
 · obtain ⟨qb,qo,rfl,ae,af,ah,qr,ar,ax,a2⟩:=kD.zg (hl.below o) (i:=k) bC9 rfl;have ag:=yD (kD.kCb (hl.below o) hk);have hb:=λq=>kQw hlt q;have hx:=λq=>kNx hlt q HN.out;generalize l[k]=x at *;have HB:=yD hb;have HX:=yD hx;clear hb hx;obtain ⟨x0,x1,x2⟩:=x;obtain ⟨bg,Z,aj,ap,ao,au⟩:=jM qr;simp only [Am,and_true] at Z;obtain ⟨rfl,rfl,rfl⟩:=Z;obtain ⟨ac,ay,rfl,bd⟩:=kD.sl ap;obtain ⟨bt,bp,c1,a8⟩:=xS;go_upto_region 4 with fail;have FX:=yD (λ(W:Ar) (hW:Qb wr W)=>kJd hW ar ax a2);refine kM (λW=>Qb wr W) [Tt,Tt,Tt,Tt,Tt,Ff,Tt,Tt,Tt,Tt,Tt,Tt,Tt,Ff,Tt,Tt,Tt,Tt,Tt,Tt,Tt,Tt,Ff,Tt,Tt,Tt,Tt,Tt,Tt,Tt,Tt,Tt,Tt,Tt,Tt,Tt,Tt,Tt,Tt,Ff,Tt,Tt] bC3 bC3 pK (bR.drew) ?_;intro wS E;iterate 5
    all_goals refine ku ?_
   all_goals first | refine wkB (yY (kD.raw.below aj E)) (λwS1 E=>?_) | refine ku ?_
   all_goals refine ku ?_
   all_goals (refine jy λb aw=>?_;cases b <;> try simp only [jw] at aw)
   iterate 5
    all_goals refine ku ?_
   all_goals first | refine wkC (jo) ?_ | refine ku ?_
   all_goals refine ku ?_
   all_goals refine ku ?_
   all_goals (refine jy λb G=>?_;cases b <;> try simp only [jw] at G)
   iterate 5
    all_goals refine ku ?_
   all_goals first | refine wkC (jo) ?_ | refine ku ?_
   all_goals refine ku ?_
   all_goals refine ku ?_
   all_goals (refine jy λb H=>?_;cases b <;> try simp only [jw] at H)
   iterate 13
    all_goals refine ku ?_
   all_goals first | refine wkB (kMm (kD.raw.below ag.out E) (kD.raw.below aj E)) (λwS1 E=>?_) | refine ku ?_
   all_goals refine ku ?_
   all_goals (refine jy λb D=>?_;cases b <;> try simp only [jw] at D)
   all_goals refine kS ?_
   all_goals have F:=o.trans (Aq E o.size)
   all_goals first
     | (have L:=yD (HB.out (show _=false by simp only [kDi,Ad,Aa,Ae,Ag,Ab,Ac,Aj,Ak,Ah,Ai,Al,Ap,aw,G,H,D]));clear HB HX HN ag;go_wp2;go_ret;exact ⟨kX L.out.symm,F⟩)
     | (have L:=yD (HX.out (show _=true by simp only [kDi,Ad,Aa,Ae,Ag,Ab,Ac,Aj,Ak,Ah,Ai,Al,Ap,aw,G,H,D]));clear HB HX HN ag;go_wp2;go_roundw;(case rel=>exact ⟨k + 1,by omega,by go_num,L,F⟩);(case measure=>simp [Av];omega))
 have L:=yD (kNy HN.out hlt hk)
 exact uN
def kPb {w:Ar} {vl:Ay} {l:Au ky} (hl:(kD.slice 77 kY).raw w [vl] l) :
    Az prog 39 #[vl] w (bQ w (.bool (kBe l))):=by
 obtain ⟨al,pl,rfl,ll⟩:=kD.sl hl
 have R:=kD.kAd hl
 go_enter func39,ntmps39
 go_wp2
 go_loopw [7] (λi wr=>∃ k:Nat,k<=l.length/\i=.int .i64 k/\Hid (yh (λj=>kDi l j (l.getD j ([],0,0))) k=true)/\Qb w wr) (λi _=>l.length - (Av i).toNat)
 case atStart=>exact ⟨0,Nat.zero_le _,rfl,yD rfl,bR⟩
 obtain ⟨k,hk,rfl,HN,o⟩:=hrel
 by_cases hlt:k < l.length
 · obtain ⟨qb,qo,rfl,ae,af,ah,qr,ar,ax,a2⟩:=kD.zg (hl.below o) (i:=k) bC9 rfl;have ag:=yD (kD.kCb (hl.below o) hk);have hb:=λq=>kQw hlt q;have hx:=λq=>kNx hlt q HN.out;generalize l[k]=x at *;have HB:=yD hb;have HX:=yD hx;clear hb hx;obtain ⟨x0,x1,x2⟩:=x;obtain ⟨bg,Z,aj,ap,ao,au⟩:=jM qr;simp only [Am,and_true] at Z;obtain ⟨rfl,rfl,rfl⟩:=Z;obtain ⟨ac,ay,rfl,bd⟩:=kD.sl ap;obtain ⟨bt,bp,c1,a8⟩:=xS;go_upto_region 4 with fail;generalize X:World.alloc wr _=wC;have EC:Qb wr wC:=rO;have M0:Qd wC wr 0 (.slice ac (x0).length ay):=tL;obtain ⟨M1,M2⟩:=F8;clear X;have FX:=yD (λ(W:Ar) (hW:Qb wC W)=>kJd hW M0 M1 M2);refine kM (λW=>Qb wC W) [Tt,Tt,Ff,Tt,Tt,Tt,Tt,Ff,Tt,Tt,Tt,Tt,Tt,Ff,Tt,Tt,Tt,Tt,Tt,Tt,Tt,Tt,Tt,Tt,Ff,Tt,Tt] bC3 bC3 pK (bR.drew) ?_;intro wS E;all_goals refine ku ?_
   all_goals refine ku ?_
   all_goals first | refine wkB (kAs (kD.raw.below aj (tQ EC E))) (λwS1 E=>?_) | refine ku ?_
   all_goals refine ku ?_
   all_goals (refine jy λb O=>?_;cases b <;> try simp only [jw] at O)
   all_goals refine ku ?_
   all_goals refine ku ?_
   all_goals first | refine wkC (yJ) ?_ | refine ku ?_
   all_goals refine ku ?_
   all_goals refine ku ?_
   all_goals (refine jy λb Y=>?_;cases b <;> try simp only [jw] at Y)
   all_goals refine ku ?_
   all_goals refine ku ?_
   all_goals first | refine wkC (yJ) ?_ | refine ku ?_
   all_goals refine ku ?_
   all_goals refine ku ?_
   all_goals (refine jy λb G=>?_;cases b <;> try simp only [jw] at G)
   iterate 7
    all_goals refine ku ?_
   all_goals first | refine wkB (kWx (kD.raw.below ag.out (tQ EC E)) (kD.raw.below aj (tQ EC E))) (λwS1 E=>?_) | refine ku ?_
   all_goals refine ku ?_
   all_goals (refine jy λb H=>?_;cases b <;> try simp only [jw] at H)
   all_goals refine kS ?_
   all_goals have F:=o.trans (Aq (tQ EC E) o.size)
   all_goals first
     | (have L:=yD (HB.out (show _=false by simp only [kDi,Ad,Aa,Ae,Ag,Ab,Ac,Aj,Ak,Ah,Ai,Al,Ap,O,Y,G,H]));clear HB HX HN ag;go_wp2;go_ret;exact ⟨kX L.out.symm,F⟩)
     | (have L:=yD (HX.out (show _=true by simp only [kDi,Ad,Aa,Ae,Ag,Ab,Ac,Aj,Ak,Ah,Ai,Al,Ap,O,Y,G,H]));clear HB HX HN ag;go_wp2;go_roundw;(case rel=>exact ⟨k + 1,by omega,by go_num,L,F⟩);(case measure=>simp [Av];omega))
 have L:=yD (kNy HN.out hlt hk)
 exact uN
def yA (n:ko) (f:Int) (m:kJ):Bool:=(m.2.1==f) && eqN m.1 n
def kEu {w:Ar} {vl:Ay} {l:(Au kJ)} (hl:(kD.slice 108 kL).raw w [vl] l) {cn:Au Ay} {n:ko} (hn:kU.raw w cn n) {f:Int} :
    Az prog 80 #[vl,.agg cn.toArray,.int .i64 f] w (bQ w (.int .i64 (idxOf (yA n f) l))):=by
 obtain ⟨al,pl,rfl,ll⟩:=kD.sl hl
 have Hn:=yD hn
 obtain ⟨X,rfl,R⟩:=kZ hn
 obtain ⟨U,J,rfl,aa⟩:=kD.sl R
 go_enter func80,ntmps80
 go_wp2
 generalize D:World.alloc w _=N
 obtain ⟨EB,V⟩:=EG
 clear D
 replace hl:=hl.below EB
 go_loopw [7] (λi wr=>∃ k:Nat,k<=l.length/\i=.int .i64 k/\Hid (∀ j,(h:j < k)->(h2:j < l.length)->(yA n f) l[j]=false)/\Qb N wr) (λi _=>l.length - (Av i).toNat)
 case atStart=>exact ⟨0,Nat.zero_le _,rfl,yD (λ_ h=>by omega),bR⟩
 obtain ⟨k,hk,rfl,HN,o⟩:=hrel
 replace V:=cL o V
 by_cases hlt:k < l.length
 · obtain ⟨qb,qo,rfl,ae,af,ah,qr,ar,ax,a2⟩:=kD.zg (hl.below o) (i:=k) bC9 rfl;obtain ⟨I,H⟩:=CK;generalize l[k]=x at *;have HD:=yD I;have HX:=yD H;clear I H;obtain ⟨x0,x1,x2⟩:=x;obtain ⟨bg,Z,aj,ap,ao,au⟩:=yF qr;simp only [Am,and_true] at Z;obtain ⟨rfl,rfl,rfl⟩:=Z;obtain ⟨ac,ay,rfl,bd⟩:=kD.sl ap;go_upto_region 4 with fail;have FX:=yD (λ(W:Ar) (hW:Qb wr W)=>kGr hW V ar ax a2);refine kM (λW=>Qb wr W) [Tt,Tt,Tt,Tt,Tt,Tt,Tt,Tt,Tt,Tt,Tt,Tt,Tt,Tt,Ff,Tt] bC3 bC3 pK (bR.drew) ?_;intro wS E;iterate 7
    all_goals refine ku ?_
   all_goals (refine jy λb aw=>?_;cases b <;> try simp only [jw] at aw)
   iterate 6
    all_goals refine ku ?_
   all_goals first | refine wkB (zN (kD.raw.below aj E) (kD.raw.below Hn.out ((tQ EB (tQ o E))))) (λwS1 E=>?_) | refine ku ?_
   all_goals (refine jy λb G=>?_;cases b <;> try simp only [jw] at G)
   all_goals refine kS ?_
   all_goals have F:=(tQ o E)
   all_goals first
     | (have L:=yD (HD.out (show _=true by simp only [yA,Ad,Aa,Ae,Ag,Ab,Ac,Aj,Ak,Ah,Ai,Al,aw,G]));clear HD HX;go_wp2;go_ret;exact ⟨jT L.out.symm,(tQ EB F)⟩)
     | (have L:=yD (HX.out (show _=false by simp only [yA,Ad,Aa,Ae,Ag,Ab,Ac,Aj,Ak,Ah,Ai,Al,aw,G]));clear HD HX;go_wp2;go_roundw;(case rel=>exact ⟨k + 1,by omega,by go_num,L,F⟩);(case measure=>simp [Av];omega))
 exact iI
def kOy {w:Ar} {cm:Au Ay} {m:kJ} (hm:kL.raw w cm m) {f:Int} {X:Nat} (o:Qc w X 0 (.int .i64 f)) {n:ko} {ck:Ay} {Bn:Nat} (nr:kU.raw w [ck] n) (U:Qc w Bn 0 ck) :
    Az prog 121 (#[.agg cm.toArray]++#[.pointer (some ⟨X,0,none⟩),.pointer (some ⟨Bn,0,none⟩)]) w (bQ w (.bool (yA n f m))):=by
 have Hm:=yD hm
 obtain ⟨aa,rfl,V,J,ab,Z⟩:=yF hm
 obtain ⟨I,R,rfl,ac⟩:=kD.sl J
 obtain ⟨H,ak,a8⟩:=kZ nr
 simp only [Am,and_true] at ak
 obtain rfl:=ak
 obtain ⟨ee,am,rfl,ao⟩:=kD.sl a8
 show Az prog 121 #[_,_,_] w _
 go_enter func121,ntmps121
 go_upto_region 1 with fail
 generalize D:World.alloc w _=N
 obtain ⟨EB,G,ad,af⟩:=I6
 clear D
 replace o:=cL EB o
 replace U:=cL EB U
 have FX:=yD (λ(W:Ar) (hW:Qb N W)=>cLs5 hW G ad af o U)
 refine jE (λW=>Qb N W) [Tt,Tt,Tt,Tt,Tt,Tt,Tt,Tt,Ff,Tt,Tt] bR ?_
 intro wS E
 iterate 4
  all_goals refine ku ?_
 all_goals (refine jy λb O=>?_;cases b <;> try simp only [jw] at O)
 iterate 3
  all_goals refine ku ?_
 all_goals first | refine wkB (kAo (kD.raw.below V (tQ EB E)) (kD.raw.below nr (tQ EB E))) (λwS1 E=>?_) | refine ku ?_
 all_goals refine ku ?_
 all_goals (refine jy λb Y=>?_;cases b <;> try simp only [jw] at Y)
 all_goals refine kS ?_
 all_goals have F:=(tQ EB E)
 all_goals first
   | (have L:=yD (show (yA n f m)=false by simp only [yA,Ad,Aa,Ae,Ag,Ab,Ac,Aj,Ak,Ah,Ai,Al,O,Y]);go_wp2;go_ret;exact ⟨kX L.out.symm,F⟩)
   | (have L:=yD (show (yA n f m)=true by simp only [yA,Ad,Aa,Ae,Ag,Ab,Ac,Aj,Ak,Ah,Ai,Al,O,Y]);go_wp2;go_ret;exact ⟨kX L.out.symm,F⟩)
def kGl:jI prog 121:=zQ func121 bC3 bC3
def kEs {w:Ar} {vl:Ay} {l:(Au kJ)} (hl:(kD.slice 108 kL).raw w [vl] l) {cn:Au Ay} {n:ko} (hn:kU.raw w cn n) {f:Int} :
    Az prog 63 #[vl,.agg cn.toArray,.int .i64 f] w (bQ w (.int .i64 (idxOf (yA n f) l))):=by
 obtain ⟨al,pl,rfl,ll⟩:=kD.sl hl
 have Hn:=yD hn
 obtain ⟨X,rfl,R⟩:=kZ hn
 obtain ⟨U,J,rfl,aa⟩:=kD.sl R
 go_enter func63,ntmps63
 go_upto_region 1 with fail
 generalize D:World.alloc (World.alloc w _) _=N
 obtain ⟨EB,V⟩:=EG
 have o:Qc N (w.heap.size + 1) 0 (.int .i64 f):=tK
 clear D
 go_wp2_with fail
 refine (kIn (yA n f) kGl (kD.raw.below hl EB) ?_).mono ?_
 · intro wr hb i h cs hr;exact kOy hr (cL hb o) (kD.raw.below Hn.out (tQ EB hb)) (cL hb V)
 exact iJ
def kDn (l:Au kJ) (k:Nat) (x:kJ):Bool:=!(!zM x.1 || (!inR x.2.1 1 6 || (!inR x.2.2 1 50 || decide (idxOf (yA x.1 x.2.1) (l.take k) ≥ 0))))
def kBu (l:Au kJ):Bool:=yh (λj=>kDn l j (l.getD j ([],0,0))) l.length && decide (l.length<=24)
def kTu {l:Au kJ} {k:Nat} (h:k < l.length) (q:kDn l k l[k]=false):kBu l=false:=by
 unfold kBu;rw [kCx h qB];rfl
def kQz {l:Au kJ} {k:Nat} (h:k < l.length) (q:kDn l k l[k]=true) (a:yh (λj=>kDn l j (l.getD j ([],0,0))) k=true):yh (λj=>kDn l j (l.getD j ([],0,0))) (k + 1)=true :=
  kAu a qB
def kRa {l:Au kJ} {k:Nat} (q:yh (λj=>kDn l j (l.getD j ([],0,0))) k=true) (h:¬ k < l.length) (hk:k<=l.length):kBu l=decide (l.length<=24):=by
 obtain rfl:k=l.length:=bC9;unfold kBu;rw [q];rfl
def kHv {w:Ar} {vl:Ay} {l:Au kJ} (hl:(kD.slice 108 kL).raw w [vl] l) :
    Az prog 193 #[vl] w (bQ w (.bool (kBu l))):=by
 obtain ⟨al,pl,rfl,ll⟩:=kD.sl hl
 have R:=kD.kAd hl
 go_enter func193,ntmps193
 go_wp2
 go_loopw [3] (λi wr=>∃ k:Nat,k<=l.length/\i=.int .i64 k/\Hid (yh (λj=>kDn l j (l.getD j ([],0,0))) k=true)/\Qb w wr) (λi _=>l.length - (Av i).toNat)
 case atStart=>exact ⟨0,Nat.zero_le _,rfl,yD rfl,bR⟩
 obtain ⟨k,hk,rfl,HN,o⟩:=hrel
 by_cases hlt:k < l.length
 · obtain ⟨qb,qo,rfl,ae,af,ah,qr,ar,ax,a2⟩:=kD.zg (hl.below o) (i:=k) bC9 rfl;have ag:=yD (kD.kCb (hl.below o) hk);have hb:=λq=>kTu hlt q;have hx:=λq=>kQz hlt q HN.out;generalize l[k]=x at *;have HB:=yD hb;have HX:=yD hx;clear hb hx;obtain ⟨x0,x1,x2⟩:=x;obtain ⟨bg,Z,aj,ap,ao,au⟩:=yF qr;simp only [Am,and_true] at Z;obtain ⟨rfl,rfl,rfl⟩:=Z;obtain ⟨ac,ay,rfl,bd⟩:=kD.sl ap;obtain ⟨bt,bp,c1,a8⟩:=xS;go_upto_region 4 with fail;have FX:=yD (λ(W:Ar) (hW:Qb wr W)=>kJd hW ar ax a2);refine kM (λW=>Qb wr W) [Tt,Tt,Tt,Tt,Tt,Ff,Tt,Tt,Tt,Tt,Tt,Tt,Tt,Ff,Tt,Tt,Tt,Tt,Tt,Tt,Tt,Tt,Ff,Tt,Tt,Tt,Tt,Tt,Tt,Tt,Tt,Tt,Tt,Tt,Tt,Tt,Tt,Tt,Tt,Ff,Tt,Tt] bC3 bC3 pK (bR.drew) ?_;intro wS E;iterate 5
    all_goals refine ku ?_
   all_goals first | refine wkB (yY (kD.raw.below aj E)) (λwS1 E=>?_) | refine ku ?_
   all_goals refine ku ?_
   all_goals (refine jy λb aw=>?_;cases b <;> try simp only [jw] at aw)
   iterate 5
    all_goals refine ku ?_
   all_goals first | refine wkC (jo) ?_ | refine ku ?_
   all_goals refine ku ?_
   all_goals refine ku ?_
   all_goals (refine jy λb G=>?_;cases b <;> try simp only [jw] at G)
   iterate 5
    all_goals refine ku ?_
   all_goals first | refine wkC (jo) ?_ | refine ku ?_
   all_goals refine ku ?_
   all_goals refine ku ?_
   all_goals (refine jy λb H=>?_;cases b <;> try simp only [jw] at H)
   iterate 13
    all_goals refine ku ?_
   all_goals first | refine wkB (kEu (kD.raw.below ag.out E) (kD.raw.below aj E)) (λwS1 E=>?_) | refine ku ?_
   all_goals refine ku ?_
   all_goals (refine jy λb D=>?_;cases b <;> try simp only [jw] at D)
   all_goals refine kS ?_
   all_goals have F:=o.trans (Aq E o.size)
   all_goals first
     | (have L:=yD (HB.out (show _=false by simp only [kDn,Ad,Aa,Ae,Ag,Ab,Ac,Aj,Ak,Ah,Ai,Al,Ap,aw,G,H,D]));clear HB HX HN ag;go_wp2;go_ret;exact ⟨kX L.out.symm,F⟩)
     | (have L:=yD (HX.out (show _=true by simp only [kDn,Ad,Aa,Ae,Ag,Ab,Ac,Aj,Ak,Ah,Ai,Al,Ap,aw,G,H,D]));clear HB HX HN ag;go_wp2;go_roundw;(case rel=>exact ⟨k + 1,by omega,by go_num,L,F⟩);(case measure=>simp [Av];omega))
 have L:=yD (kRa HN.out hlt hk)
 exact uN
def kIc {w:Ar} {vl:Ay} {l:Au kJ} (hl:(kD.slice 108 kL).raw w [vl] l) :
    Az prog 40 #[vl] w (bQ w (.bool (kBu l))):=by
 obtain ⟨al,pl,rfl,ll⟩:=kD.sl hl
 have R:=kD.kAd hl
 go_enter func40,ntmps40
 go_wp2
 go_loopw [7] (λi wr=>∃ k:Nat,k<=l.length/\i=.int .i64 k/\Hid (yh (λj=>kDn l j (l.getD j ([],0,0))) k=true)/\Qb w wr) (λi _=>l.length - (Av i).toNat)
 case atStart=>exact ⟨0,Nat.zero_le _,rfl,yD rfl,bR⟩
 obtain ⟨k,hk,rfl,HN,o⟩:=hrel
 by_cases hlt:k < l.length
 · obtain ⟨qb,qo,rfl,ae,af,ah,qr,ar,ax,a2⟩:=kD.zg (hl.below o) (i:=k) bC9 rfl;have ag:=yD (kD.kCb (hl.below o) hk);have hb:=λq=>kTu hlt q;have hx:=λq=>kQz hlt q HN.out;generalize l[k]=x at *;have HB:=yD hb;have HX:=yD hx;clear hb hx;obtain ⟨x0,x1,x2⟩:=x;obtain ⟨bg,Z,aj,ap,ao,au⟩:=yF qr;simp only [Am,and_true] at Z;obtain ⟨rfl,rfl,rfl⟩:=Z;obtain ⟨ac,ay,rfl,bd⟩:=kD.sl ap;obtain ⟨bt,bp,c1,a8⟩:=xS;go_upto_region 4 with fail;generalize X:World.alloc wr _=wC;have EC:Qb wr wC:=rO;have M0:Qd wC wr 0 (.slice ac (x0).length ay):=tL;obtain ⟨M1,M2⟩:=F8;clear X;have FX:=yD (λ(W:Ar) (hW:Qb wC W)=>kJd hW M0 M1 M2);refine kM (λW=>Qb wC W) [Tt,Tt,Ff,Tt,Tt,Tt,Tt,Ff,Tt,Tt,Tt,Tt,Tt,Ff,Tt,Tt,Tt,Tt,Tt,Tt,Tt,Tt,Tt,Tt,Ff,Tt,Tt] bC3 bC3 pK (bR.drew) ?_;intro wS E;all_goals refine ku ?_
   all_goals refine ku ?_
   all_goals first | refine wkB (kAs (kD.raw.below aj (tQ EC E))) (λwS1 E=>?_) | refine ku ?_
   all_goals refine ku ?_
   all_goals (refine jy λb O=>?_;cases b <;> try simp only [jw] at O)
   all_goals refine ku ?_
   all_goals refine ku ?_
   all_goals first | refine wkC (yJ) ?_ | refine ku ?_
   all_goals refine ku ?_
   all_goals refine ku ?_
   all_goals (refine jy λb Y=>?_;cases b <;> try simp only [jw] at Y)
   all_goals refine ku ?_
   all_goals refine ku ?_
   all_goals first | refine wkC (yJ) ?_ | refine ku ?_
   all_goals refine ku ?_
   all_goals refine ku ?_
   all_goals (refine jy λb G=>?_;cases b <;> try simp only [jw] at G)
   iterate 7
    all_goals refine ku ?_
   all_goals first | refine wkB (kEs (kD.raw.below ag.out (tQ EC E)) (kD.raw.below aj (tQ EC E))) (λwS1 E=>?_) | refine ku ?_
   all_goals refine ku ?_
   all_goals (refine jy λb H=>?_;cases b <;> try simp only [jw] at H)
   all_goals refine kS ?_
   all_goals have F:=o.trans (Aq (tQ EC E) o.size)
   all_goals first
     | (have L:=yD (HB.out (show _=false by simp only [kDn,Ad,Aa,Ae,Ag,Ab,Ac,Aj,Ak,Ah,Ai,Al,Ap,O,Y,G,H]));clear HB HX HN ag;go_wp2;go_ret;exact ⟨kX L.out.symm,F⟩)
     | (have L:=yD (HX.out (show _=true by simp only [kDn,Ad,Aa,Ae,Ag,Ab,Ac,Aj,Ak,Ah,Ai,Al,Ap,O,Y,G,H]));clear HB HX HN ag;go_wp2;go_roundw;(case rel=>exact ⟨k + 1,by omega,by go_num,L,F⟩);(case measure=>simp [Av];omega))
 have L:=yD (kRa HN.out hlt hk)
 exact uN
def kGw (l:Au jN) (k:Nat) (x:jN):Bool:=!(!kBh x || decide (idxOf (isD x.1) (l.take k) ≥ 0))
def kRg (x:yB):Bool:=(((((decide ((x.1.length:Int)<=8) && kBt x.2.1) && kDj x.2.2.1) && kBe x.2.2.2.2.1) && kBu x.2.2.2.2.2.1) && decide ((x.2.2.2.1.length:Int)<=24)) && decide (0<=x.2.2.2.2.2.2)
def kAq (x:yB):Bool:=yh (λj=>kGw x.1 j (x.1.getD j voidD)) x.1.length && kRg x
def kVb {x:yB} {k:Nat} (h:k < x.1.length) (q:kGw x.1 k x.1[k]=false):kAq x=false:=by
 unfold kAq;rw [kCx h qB];rfl
def kRl {l:Au jN} {k:Nat} (h:k < l.length) (q:kGw l k l[k]=true) (a:yh (λj=>kGw l j (l.getD j voidD)) k=true):yh (λj=>kGw l j (l.getD j voidD)) (k + 1)=true :=
  kAu a qB
def kRm {x:yB} {k:Nat} (q:yh (λj=>kGw x.1 j (x.1.getD j voidD)) k=true) (h:¬ k < x.1.length) (hk:k<=x.1.length):kAq x=kRg x:=by
 obtain rfl:k=x.1.length:=bC9;unfold kAq;rw [q];rfl
def kSc {w:Ar} {cx:Au Ay} {x:yB} (hx:jr.raw w cx x) :
    Az prog 160 #[.agg cx.toArray] w (bQ w (.bool (kAq x))):=by
 obtain ⟨d4,d7,en,el,eg,ef,rfl,ad,a3,bi,a9,az,ba,bm,bz,dg⟩:=yS hx
 obtain ⟨cw,b6,rfl,d6⟩:=kD.sl ad
 obtain ⟨cz,co,rfl,d8⟩:=kD.sl a9
 obtain ⟨dk,c8,rfl,eh⟩:=kD.sl az
 obtain ⟨dj,di,rfl,ek⟩:=kD.sl ba
 obtain ⟨c5,c4,rfl,eq⟩:=kD.sl bm
 obtain ⟨c3,cm,rfl,ej⟩:=kD.sl bz
 have hl:=ad
 have R:=kD.kAd hl
 have H1:=yD a3
 have H4:=yD az
 have H6:=yD bm
 have Y:=yD bz
 clear hx ad a3 bi a9 az ba bm bz dg
 go_enter func160,ntmps160
 go_wp2
 generalize D:World.alloc w _=N
 obtain ⟨EB,K0,K1,K2,K3,K4,K5,K6,K7⟩:=xE
 clear D
 replace hl:=hl.below EB
 go_loopw [3] (λi wr=>∃ k:Nat,k<=x.1.length/\i=.int .i64 k/\Hid (yh (λj=>kGw x.1 j (x.1.getD j voidD)) k=true)/\Qb N wr) (λi _=>x.1.length - (Av i).toNat)
 case atStart=>exact ⟨0,Nat.zero_le _,rfl,yD rfl,bR⟩
 obtain ⟨k,hk,rfl,HN,o⟩:=hrel
 replace K0:=cL o K0
 replace K1:=cL o K1
 replace K2:=cL o K2
 replace K3:=cL o K3
 replace K4:=cL o K4
 replace K5:=cL o K5
 replace K6:=cL o K6
 replace K7:=cL o K7
 by_cases hlt:k < x.1.length
 · have ag:=yD (kD.kCb (hl.below o) hk);have hb:=λq=>kVb (x:=x) hlt q;have av:=λq=>kRl hlt q HN.out;obtain ⟨qb,qo,rfl,ae,af,ah,cc,ck,qr,ar,ax,a2,an,a4⟩:=kD.get5 (hl.below o) (i:=k) bC9 rfl;generalize x.1[k]=z at *;have HB:=yD hb;have HX:=yD av;clear hb av;obtain ⟨bg,dc,b2,Z,aj,ap,ao,au,bq,bh,cq⟩:=jb qr;simp only [Am,and_true] at Z;obtain ⟨rfl,rfl,rfl,rfl,rfl⟩:=Z;obtain ⟨ac,ay,rfl,bd⟩:=kD.sl ap;obtain ⟨ai,bc,rfl,bl⟩:=kD.sl ao;obtain ⟨am,bu,rfl,ce⟩:=kD.sl bq;have bt:=Int.ofNat_lt.2 hlt;have bp:=Int.natCast_nonneg k;have c1:(k:Int)<=(b6:Int):=bC9;have a8:k<=b6:=bC9;go_upto_region 4 with fail;have FX:=yD (λ(W:Ar) (hW:Qb wr W)=>kKa hW K0 ar ax a2 an a4);refine kM (λW=>Qb wr W) [Tt,Tt,Tt,Tt,Tt,Ff,Tt,Tt,Tt,Tt,Tt,Tt,Tt,Tt,Tt,Tt,Tt,Tt,Ff,Tt,Tt] bC3 bC3 pK (bR.drew) ?_;intro wS E;iterate 5
    all_goals refine ku ?_
   all_goals first | refine wkB (kDf (kD.raw.below qr E)) (λwS1 E=>?_) | refine ku ?_
   all_goals refine ku ?_
   all_goals (refine jy λb aw=>?_;cases b <;> try simp only [jw] at aw)
   iterate 10
    all_goals refine ku ?_
   all_goals first | refine wkB (kWp (kD.raw.below ag.out E) (kD.raw.below aj E)) (λwS1 E=>?_) | refine ku ?_
   all_goals refine ku ?_
   all_goals (refine jy λb X=>?_;cases b <;> try simp only [jw] at X)
   all_goals refine kS ?_
   all_goals have F:=(tQ o E)
   all_goals first
     | (have L:=yD (HB.out (show _=false by simp only [kGw,Ad,Aa,Ae,Ag,Ab,Ac,Aj,Ak,Ah,Ai,Al,Ap,aw,X]));clear HB HX HN ag;go_wp2;go_ret;exact ⟨kX L.out.symm,(tQ EB F)⟩)
     | (have L:=yD (HX.out (show _=true by simp only [kGw,Ad,Aa,Ae,Ag,Ab,Ac,Aj,Ak,Ah,Ai,Al,Ap,aw,X]));clear HB HX HN ag;go_wp2;go_roundw;(case rel=>exact ⟨k + 1,by omega,by go_num,L,F⟩);(case measure=>simp [Av];omega))
 have L:=yD (kRm (x:=x) HN.out hlt hk)
 have b3:¬ (k:Int) < x.1.length:=bC9
 go_upto_region 6 with fail
 have FX:=yD (λ(W:Ar) (hW:Qb wr W)=>cLs8 hW K0 K1 K2 K3 K4 K5 K6 K7)
 refine jE (λW=>Qb wr W) [Tt,Tt,Tt,Tt,Tt,Tt,Tt,Ff,Tt,Tt,Tt,Tt,Ff,Tt,Tt,Tt,Tt,Ff,Tt,Tt,Tt,Tt,Ff,Tt,Tt,Tt,Tt,Tt,Tt,Tt,Tt,Tt,Tt,Tt,Tt,Tt] bR ?_
 intro wS E
 iterate 4
  all_goals refine ku ?_
 all_goals (refine jy λb O=>?_;cases b <;> try simp only [jw] at O)
 all_goals refine ku ?_
 all_goals refine ku ?_
 all_goals first | refine wkB (kHw (kD.raw.below H1.out ((tQ EB o).trans (E.mono (Aw (tQ EB o)))))) (λwS1 E=>?_) | refine ku ?_
 all_goals refine ku ?_
 all_goals (refine jy λb J=>?_;cases b <;> try simp only [jw] at J)
 all_goals refine ku ?_
 all_goals refine ku ?_
 all_goals first | refine wkB (kNa (kD.raw.below H4.out ((tQ EB o).trans (E.mono (Aw (tQ EB o)))))) (λwS1 E=>?_) | refine ku ?_
 all_goals refine ku ?_
 all_goals (refine jy λb H=>?_;cases b <;> try simp only [jw] at H)
 all_goals refine ku ?_
 all_goals refine ku ?_
 all_goals first | refine wkB (kDz (kD.raw.below H6.out ((tQ EB o).trans (E.mono (Aw (tQ EB o)))))) (λwS1 E=>?_) | refine ku ?_
 all_goals refine ku ?_
 all_goals (refine jy λb aq=>?_;cases b <;> try simp only [jw] at aq)
 all_goals refine ku ?_
 all_goals refine ku ?_
 all_goals first | refine wkB (kHv (kD.raw.below Y.out ((tQ EB o).trans (E.mono (Aw (tQ EB o)))))) (λwS1 E=>?_) | refine ku ?_
 all_goals refine ku ?_
 all_goals (refine jy λb G=>?_;cases b <;> try simp only [jw] at G)
 iterate 5
  all_goals refine ku ?_
 all_goals (refine jy λb V=>?_;cases b <;> try simp only [jw] at V)
 iterate 4
  all_goals refine ku ?_
 all_goals (refine jy λb I=>?_;cases b <;> try simp only [jw] at I)
 all_goals refine kS ?_
 all_goals have F:=(tQ EB (tQ o E))
 all_goals first
   | (have U:=yD (show kAq x=false by rw [L.out];simp only [kRg,Ad,Aa,Ae,Ag,Ab,Ac,Aj,Ak,Ah,Ai,Al,O,J,H,aq,G,V,I]);go_wp2;go_ret;exact ⟨kX U.out.symm,F⟩)
   | (have U:=yD (show kAq x=true by rw [L.out];simp only [kRg,Ad,Aa,Ae,Ag,Ab,Ac,Aj,Ak,Ah,Ai,Al,O,J,H,aq,G,V,I]);go_wp2;go_ret;exact ⟨kX U.out.symm,F⟩)
def vStore_rng {c:Int} {l:List kT} (h:inR c 0 8=false):kBt (c,l)=false:=by unfold kBt;simp only;rw [h,Bool.false_and,Bool.and_false]
def vStore_len {c:Int} {l:List kT} (h:¬ (l.length:Int)<=c):kBt (c,l)=false:=by unfold kBt;simp only;rw [decide_eq_false h,Bool.and_false,Bool.and_false]
def vStore_yes {c:Int} {l:Au kT} {k:Nat} (q:yh (λj=>kNg l j (l.getD j kTl)) k=true) (h:¬ k < l.length) (hk:k<=l.length) (h1:inR c 0 8=true) (h2:(l.length:Int)<=c):kBt (c,l)=true:=by
 rw [kQu q h hk,h1,decide_eq_true h2];rfl
def kId {w:Ar} {cs:Au Ay} {x:kg} (hx:kN.raw w cs x) :
    Az prog 37 #[.agg cs.toArray] w (bQ w (.bool (kBt x))):=by
 obtain ⟨sv,rfl,c7,hl⟩:=jK hx
 obtain ⟨aa,pl,rfl,la⟩:=kD.sl hl
 obtain ⟨c,l⟩:=x
 replace hl:(kD.slice 111 jD).raw w [Qs aa l pl] l:=hl
 have R:=kD.kAd hl
 replace la:l.length<=9223372036854775807:=la
 clear hx c7
 go_enter func37,ntmps37
 go_upto_region 1 with fail
 generalize D:World.alloc w _=N
 have EB:Qb w N:=by rw [<- D];exact bF
 have K0:Qd N w 0 (.int .i64 c):=tK
 have K1:Qd N w 1 (.slice aa l.length pl):=tK
 clear D
 replace hl:=hl.below EB
 have HR:=yD (vStore_rng (c:=c) (l:=l));have HL:=yD (vStore_len (c:=c) (l:=l));have HG:=yD (λ(k:Nat)=>vStore_yes (c:=c) (l:=l) (k:=k))
 by_cases hr:inR c 0 8=true
 case neg =>
  have du:inR c 0 8=false:=bA6;have L:=yD (HR.out du);clear HR HL HG hr;go_wp2_with fail;refine yJ.mono ?_;rintro e Y ⟨rfl,co⟩;obtain rfl:=co.symm;rw [du];go_wp2;go_ret;exact ⟨kX L.out.symm,EB.trans (Aq bF EB.size)⟩
 by_cases hc:(l.length:Int)<=c
 case neg =>
  have L:=yD (HL.out hc);have hd:decide ((l.length:Int) > c)=true:=bC4;have aq:decide (c < (l.length:Int))=true:=bC4;have ad:c < (l.length:Int):=bC9;clear HR HL HG hc;go_wp2_with fail;refine yJ.mono ?_;rintro e Y ⟨rfl,co⟩;obtain rfl:=co.symm;rw [hr];go_wp2;go_ret;exact ⟨kX L.out.symm,EB.trans (Aq bF EB.size)⟩
 have a5:=yD (λk q h hk=>HG.out k q h hk hr hc)
 have hd:decide ((l.length:Int) > c)=false:=bC4
 have aq:decide (c < (l.length:Int))=false:=bC4
 have ad:¬ c < (l.length:Int):=bC9
 go_wp2_with fail
 refine yJ.mono ?_
 rintro e Y ⟨rfl,co⟩
 obtain rfl:=co.symm
 rw [hr]
 clear HR HL HG hc hr
 go_wp2
 clear hd aq ad
 go_loopw [20] (λi wr=>∃ k:Nat,k<=l.length/\i=.int .i64 k/\Hid (yh (λj=>kNg l j (l.getD j kTl)) k=true)/\Qb N wr) (λi _=>l.length - (Av i).toNat)
 case atStart=>exact ⟨0,Nat.zero_le _,rfl,yD rfl,bF⟩
 obtain ⟨k,hk,rfl,HN,o⟩:=hrel
 replace K0:=cL o K0
 replace K1:=cL o K1
 by_cases hlt:k < l.length
 · have ag:=yD (kD.kCb (hl.below o) hk);have hb:=λq=>kTn (c:=c) hlt q;have av:=λq=>kQt hlt q HN.out;obtain ⟨qb,qo,rfl,ae,af,ah,cc,ck,cz,qr,ar,ax,a2,an,a4,a3⟩:=kD.get6 (hl.below o) (i:=k) bC9 rfl;generalize l[k]=x at *;have HB:=yD hb;have HX:=yD av;clear hb av;obtain ⟨bg,dc,b2,Z,aj,ap,ao,au,bq,bh,cq,cw,cv⟩:=jq qr;simp only [Am,and_true] at Z;obtain ⟨rfl,rfl,rfl,rfl,rfl,rfl⟩:=Z;obtain ⟨ac,ay,rfl,bd⟩:=kD.sl ao;obtain ⟨ai,bc,rfl,bl⟩:=kD.sl au;obtain ⟨am,bu,rfl,ce⟩:=kD.sl bh;obtain ⟨bt,bp,c1,a8⟩:=xS;go_upto_region 6 with fail;generalize X:World.alloc wr _=wC;obtain ⟨EC,M0,M1,M2,M3,M4,M5⟩:=D7;replace K1:=cL EC K1;clear X;have FX:=yD (λ(W:Ar) (hW:Qb wC W)=>cLs7 hW K1 M0 M1 M2 M3 M4 M5);refine jE (λW=>Qb wC W) [Tt,Tt,Ff,Tt,Tt,Tt,Tt,Tt,Tt,Ff,Ff,Tt] bR ?_;intro wS E;all_goals refine ku ?_
   all_goals refine ku ?_
   all_goals first | refine wkB (kJu (kD.raw.below aj (tQ EC E))) (λwS1 E=>?_) | refine ku ?_
   all_goals refine ku ?_
   all_goals (refine jy λb O=>?_;cases b <;> try simp only [jw] at O)
   iterate 4
    all_goals refine ku ?_
   all_goals first|(refine kI rfl E ?_)|(refine kw rfl (λK H=>?_);go_simp;refine H _ _ E ?_;clear H K)
   all_goals refine jF ?_
   all_goals first|(refine kI rfl E ?_)|(refine kw rfl (λK H=>?_);go_simp;refine (kGs (isC x.1.1) kDw (kD.raw.below ag.out (tQ EC E)) ?_).mono ?_;(· intro b5 ak i hi dv al;exact kHl al (kD.raw.below qr ((tQ EC E).trans (ak.mono (Aw (tQ EC E))))) (cL ak (cL E M0)) (cL ak (cL E M1)) (cL ak (cL E M2)) (cL ak (cL E M3)) (cL ak (cL E M4)) (cL ak (cL E M5)));rintro e wS1 ⟨rfl,ab⟩;replace E:=(tQ E ab);refine H _ _ E ?_;clear H K ab)
   all_goals refine jF ?_
   all_goals (refine jy λb V=>?_;cases b <;> try simp only [jw] at V)
   all_goals refine kS ?_
   all_goals have F:=o.trans (Aq (tQ EC E) o.size)
   all_goals have G:decide (idxOf (isC x.1.1) (l.take k) ≥ 0)=decide (0<=idxOf (isC x.1.1) (l.take k)):=rfl
   all_goals first
     | (have L:=yD (HB.out (show _=false by simp only [kNg,Ad,Aa,Ae,Ag,Ab,Ac,Aj,Ak,Ah,Ai,Al,Ap,O,V]));clear HB HX HN ag;go_wp2;go_ret;exact ⟨kX L.out.symm,(tQ EB F)⟩)
     | (have L:=yD (HX.out (show _=true by simp only [kNg,Ad,Aa,Ae,Ag,Ab,Ac,Aj,Ak,Ah,Ai,Al,Ap,O,V]));clear HB HX HN ag;go_wp2;go_roundw;(case rel=>exact ⟨k + 1,by omega,by go_num,L,F⟩);(case measure=>simp [Av];omega))
 have L:=yD (a5.out k HN.out hlt hk)
 have b3:¬ (k:Int) < l.length:=bC9
 go_wp2
 go_ret
 exact ⟨kX L.out.symm,(tQ EB o)⟩
end Go.Proofs.YtonmjkmaadgceabGreat

/-
  Content stores that are valid: the program.
-/
import Derived.Test.YtonmjkmaadgceaaGreatVRoute
set_option linter.unusedVariables false
set_option linter.unusedSimpArgs false
set_option linter.unnecessarySimpa false
set_option maxRecDepth 100000
set_option maxHeartbeats 4000000
namespace Go.Proofs.YtonmjkmaadgceaaGreat
open Go.RowKit _root_.Go.Proofs.Tryz
def yj (n:kQ) (f:Int) (m:kT):Bool:=(m.2.1==f) && eqN m.1 n
theorem kGz {w:World} {vl:Value} {l:(List kT)} (hl:(kE.slice 105 kL).raw w [vl] l) {cn:List Value} {n:kQ} (hn:kM.raw w cn n) {f:Int} :
    Calls prog 58 #[vl,.agg cn.toArray,.int .i64 f] w (bQ w (.int .i64 (idxOf (yj n f) l))):=by
 obtain ⟨al,pl,rfl,ll⟩:=kE.sl hl
 have Hn:=yD hn
 obtain ⟨Y,rfl,R⟩:=kU hn
 obtain ⟨V,L,rfl,aa⟩:=kE.sl R
 go_enter func58,ntmps58
 go_wp2
 generalize H:World.alloc w _=N
 obtain ⟨Z,X⟩:=rZ
 clear H
 replace hl:=hl.below Z
 go_loopw [7] (fun i wr=>∃ k:Nat,k≤l.length∧i=.int .i64 k∧Hid (∀ j,(h:j < k)→(h2:j < l.length)→(yj n f) l[j]=false)∧Below N.heap.size N wr) (fun i _=>l.length - (intOf i).toNat)
 case atStart=>exact ⟨0,Nat.zero_le _,rfl,yD (fun _ h=>by omega),bR⟩
 obtain ⟨k,hk,rfl,HN,D⟩:=hrel
 replace X:=cL D X
 by_cases hlt:k < l.length
 · obtain ⟨qb,qo,rfl,ah,ai,aj,qr,a1,a4,bb⟩:=kE.kDv (hl.below D) (i:=k) bB9 rfl
   obtain ⟨J,I⟩:=xR
   generalize l[k]=x at *
   have HD:=yD J;have HX:=yD I;clear J I
   obtain ⟨x0,x1,x2⟩:=x
   obtain ⟨bq,aq,ar,ax,ap,bc⟩:=yU qr
   simp only [List.cons.injEq,and_true] at aq
   obtain ⟨rfl,rfl,rfl⟩:=aq
   obtain ⟨ae,be,rfl,az⟩:=kE.sl ax
   go_upto_region 4 with fail
   have FX:=yD (fun (W:World) (hW:Below wr.heap.size wr W)=>kLd hW X a1 a4 bb)
   refine kW (fun W=>Below wr.heap.size wr W) [true,true,true,true,true,true,true,true,true,true,true,true,true,true,false,true] bB4 bB4 qD (bR.drew) ?_
   intro wS E
   iterate 7
    all_goals refine kS ?_
   all_goals (have af:=True.intro;first|(refine yT (fun b af=>?_);cases b;all_goals first | exact Bool.noConfusion af | simp only [zU,zV] at af | skip) | refine kS ?_)
   all_goals refine kX ?_
   iterate 6
    all_goals refine kS ?_
   all_goals first | refine wkB (kAe (kE.raw.below ar E) (kE.raw.below Hn.out ((tQ Z (tQ D E))))) (fun wS1 E=>?_) | refine kS ?_
   all_goals (have F:=True.intro;first|(refine yT (fun b F=>?_);cases b;all_goals first | exact Bool.noConfusion F | simp only [zU,zV] at F | skip) | refine kS ?_)
   all_goals refine kX ?_
   all_goals refine kZ ?_
   all_goals have G:=(tQ D E)
   all_goals first
     | (have U:=yD (HD.out (show _=true by simp only [yj,Bool.not_true,Bool.not_false,Bool.and_true,Bool.true_and,Bool.and_false,Bool.false_and,Bool.or_true,Bool.true_or,Bool.or_false,Bool.false_or,Bool.not_not,af,F]));clear HD HX;go_wp2;go_ret;exact ⟨jW U.out.symm,(tQ Z G)⟩)
     | (have U:=yD (HX.out (show _=false by simp only [yj,Bool.not_true,Bool.not_false,Bool.and_true,Bool.true_and,Bool.and_false,Bool.false_and,Bool.or_true,Bool.true_or,Bool.or_false,Bool.false_or,Bool.not_not,af,F]));clear HD HX;go_wp2;go_roundw;(case rel=>exact ⟨k + 1,by omega,by go_num,U,G⟩);(case measure=>simp [intOf];omega))
 exact iT
theorem kNt {w:World} {cm:List Value} {m:kT} (hm:kL.raw w cm m) {f:Int} {Y:Nat} (R:w.cell? ⟨Y,0,none⟩=some (.int .i64 f)) {n:kQ} {cq:Value} {Bn:Nat} (nr:kM.raw w [cq] n) (D:w.cell? ⟨Bn,0,none⟩=some cq) :
    Calls prog 94 (#[.agg cm.toArray]++#[.pointer (some ⟨Y,0,none⟩),.pointer (some ⟨Bn,0,none⟩)]) w (bQ w (.bool (yj n f m))):=by
 have Hm:=yD hm
 obtain ⟨ag,rfl,ae,X,ai,aa⟩:=yU hm
 obtain ⟨ab,ac,rfl,ah⟩:=kE.sl X
 obtain ⟨af,I,am⟩:=kU nr
 simp only [List.cons.injEq,and_true] at I
 obtain rfl:=I
 obtain ⟨d0,ar,rfl,aw⟩:=kE.sl am
 show Calls prog 94 #[_,_,_] w _
 go_enter func94,ntmps94
 go_upto_region 1 with fail
 generalize H:World.alloc w _=N
 obtain ⟨Z,F,L,V⟩:=z8
 clear H
 replace R:=cL Z R
 replace D:=cL Z D
 have FX:=yD (fun (W:World) (hW:Below N.heap.size N W)=>cLs5 hW F L V R D)
 refine kz (fun W=>Below N.heap.size N W) [true,true,true,true,true,true,true,true,false,true,true] bR ?_
 intro wS E
 iterate 4
  all_goals refine kS ?_
 all_goals (have O:=True.intro;first|(refine yT (fun b O=>?_);cases b;all_goals first | exact Bool.noConfusion O | simp only [zU,zV] at O | skip) | refine kS ?_)
 all_goals refine kX ?_
 iterate 3
  all_goals refine kS ?_
 all_goals first | refine wkB (ym (kE.raw.below ae (tQ Z E)) (kE.raw.below nr (tQ Z E))) (fun wS1 E=>?_) | refine kS ?_
 all_goals refine kS ?_
 all_goals (have J:=True.intro;first|(refine yT (fun b J=>?_);cases b;all_goals first | exact Bool.noConfusion J | simp only [zU,zV] at J | skip) | refine kS ?_)
 all_goals refine kX ?_
 all_goals refine kZ ?_
 all_goals have G:=(tQ Z E)
 all_goals first
   | (have U:=yD (show (yj n f m)=false by simp only [yj,Bool.not_true,Bool.not_false,Bool.and_true,Bool.true_and,Bool.and_false,Bool.false_and,Bool.or_true,Bool.true_or,Bool.or_false,Bool.false_or,Bool.not_not,O,J]);go_wp2;go_ret;exact ⟨kR U.out.symm,G⟩)
   | (have U:=yD (show (yj n f m)=true by simp only [yj,Bool.not_true,Bool.not_false,Bool.and_true,Bool.true_and,Bool.and_false,Bool.false_and,Bool.or_true,Bool.true_or,Bool.or_false,Bool.false_or,Bool.not_not,O,J]);go_wp2;go_ret;exact ⟨kR U.out.symm,G⟩)
theorem kGc:jb prog 94:=zY func94 bB4 bB4
theorem kHw {w:World} {vl:Value} {l:(List kT)} (hl:(kE.slice 105 kL).raw w [vl] l) {cn:List Value} {n:kQ} (hn:kM.raw w cn n) {f:Int} :
    Calls prog 50 #[vl,.agg cn.toArray,.int .i64 f] w (bQ w (.int .i64 (idxOf (yj n f) l))):=by
 obtain ⟨al,pl,rfl,ll⟩:=kE.sl hl
 have Hn:=yD hn
 obtain ⟨Y,rfl,R⟩:=kU hn
 obtain ⟨V,L,rfl,aa⟩:=kE.sl R
 go_enter func50,ntmps50
 go_upto_region 1 with fail
 generalize H:World.alloc (World.alloc w _) _=N
 obtain ⟨Z,X⟩:=rZ
 have D:N.cell? ⟨w.heap.size + 1,0,none⟩=some (.int .i64 f):=tN
 clear H
 go_wp2_with fail
 refine (kIj (yj n f) kGc (kE.raw.below hl Z) ?_).mono ?_
 · intro wr hb i h cs hr
   exact kNt hr (cL hb D) (kE.raw.below Hn.out (tQ Z hb)) (cL hb X)
 exact iU
def kFd (l:List kT) (k:Nat) (x:kT):Bool:=!(!yZ x.1 || (!inR x.2.1 1 6 || (!inR x.2.2 1 50 || decide (idxOf (yj x.1 x.2.1) (l.take k) ≥ 0))))
def kJw (l:List kT):Bool:=yX (fun j=>kFd l j (l.getD j ([],0,0))) l.length && decide (l.length≤24)
theorem kRz {l:List kT} {k:Nat} (h:k < l.length) (q:kFd l k l[k]=false):kJw l=false:=by
 unfold kJw;rw [kCj h qR];rfl
theorem kPz {l:List kT} {k:Nat} (h:k < l.length) (q:kFd l k l[k]=true) (a:yX (fun j=>kFd l j (l.getD j ([],0,0))) k=true):yX (fun j=>kFd l j (l.getD j ([],0,0))) (k + 1)=true :=
  kAq a qR
theorem kQa {l:List kT} {k:Nat} (q:yX (fun j=>kFd l j (l.getD j ([],0,0))) k=true) (h:¬ k < l.length) (hk:k≤l.length):kJw l=decide (l.length≤24):=by
 obtain rfl:k=l.length:=bB9
 unfold kJw;rw [q];rfl
theorem kHr {w:World} {vl:Value} {l:List kT} (hl:(kE.slice 105 kL).raw w [vl] l) :
    Calls prog 26 #[vl] w (bQ w (.bool (kJw l))):=by
 obtain ⟨al,pl,rfl,ll⟩:=kE.sl hl
 have ak:=kE.kCq hl
 go_enter func26,ntmps26
 go_wp2
 go_loopw [3] (fun i wr=>∃ k:Nat,k≤l.length∧i=.int .i64 k∧Hid (yX (fun j=>kFd l j (l.getD j ([],0,0))) k=true)∧Below w.heap.size w wr) (fun i _=>l.length - (intOf i).toNat)
 case atStart=>exact ⟨0,Nat.zero_le _,rfl,yD rfl,bR⟩
 obtain ⟨k,hk,rfl,HN,D⟩:=hrel
 by_cases hlt:k < l.length
 · obtain ⟨qb,qo,rfl,ah,ai,aj,qr,a1,a4,bb⟩:=kE.kDv (hl.below D) (i:=k) bB9 rfl
   have au:=yD (kE.kCc (hl.below D) hk)
   have hb:=fun q=>kRz hlt q
   have hx:=fun q=>kPz hlt q HN.out
   generalize l[k]=x at *
   have HB:=yD hb;have HX:=yD hx;clear hb hx
   obtain ⟨x0,x1,x2⟩:=x
   obtain ⟨bq,aq,ar,ax,ap,bc⟩:=yU qr
   simp only [List.cons.injEq,and_true] at aq
   obtain ⟨rfl,rfl,rfl⟩:=aq
   obtain ⟨ae,be,rfl,az⟩:=kE.sl ax
   obtain ⟨a8,di,a7,a2⟩:=qJ
   go_upto_region 4 with fail
   have FX:=yD (fun (W:World) (hW:Below wr.heap.size wr W)=>kMs hW a1 a4 bb)
   refine kW (fun W=>Below wr.heap.size wr W) [true,true,true,true,true,false,true,true,true,true,true,true,true,false,true,true,true,true,true,true,true,true,false,true,true,true,true,true,true,true,true,true,true,true,true,true,true,true,true,false,true,true] bB4 bB4 qD (bR.drew) ?_
   intro wS E
   iterate 5
    all_goals refine kS ?_
   all_goals first | refine wkB (yS (kE.raw.below ar E)) (fun wS1 E=>?_) | refine kS ?_
   all_goals refine kS ?_
   all_goals (have af:=True.intro;first|(refine yT (fun b af=>?_);cases b;all_goals first | exact Bool.noConfusion af | simp only [zU,zV] at af | skip) | refine kS ?_)
   all_goals refine kX ?_
   iterate 5
    all_goals refine kS ?_
   all_goals first | refine wkC (ji) ?_ | refine kS ?_
   all_goals refine kS ?_
   all_goals refine kS ?_
   all_goals (have V:=True.intro;first|(refine yT (fun b V=>?_);cases b;all_goals first | exact Bool.noConfusion V | simp only [zU,zV] at V | skip) | refine kS ?_)
   all_goals refine kX ?_
   iterate 5
    all_goals refine kS ?_
   all_goals first | refine wkC (ji) ?_ | refine kS ?_
   all_goals refine kS ?_
   all_goals refine kS ?_
   all_goals (have X:=True.intro;first|(refine yT (fun b X=>?_);cases b;all_goals first | exact Bool.noConfusion X | simp only [zU,zV] at X | skip) | refine kS ?_)
   all_goals refine kX ?_
   iterate 13
    all_goals refine kS ?_
   all_goals first | refine wkB (kGz (kE.raw.below au.out E) (kE.raw.below ar E)) (fun wS1 E=>?_) | refine kS ?_
   all_goals refine kS ?_
   all_goals (have F:=True.intro;first|(refine yT (fun b F=>?_);cases b;all_goals first | exact Bool.noConfusion F | simp only [zU,zV] at F | skip) | refine kS ?_)
   all_goals refine kX ?_
   all_goals refine kZ ?_
   all_goals have G:=D.trans (Below.mono E D.size)
   all_goals first
     | (have U:=yD (HB.out (show _=false by simp only [kFd,Bool.not_true,Bool.not_false,Bool.and_true,Bool.true_and,Bool.and_false,Bool.false_and,Bool.or_true,Bool.true_or,Bool.or_false,Bool.false_or,Bool.not_not,ge_iff_le,af,V,X,F]));clear HB HX HN au;go_wp2;go_ret;exact ⟨kR U.out.symm,G⟩)
     | (have U:=yD (HX.out (show _=true by simp only [kFd,Bool.not_true,Bool.not_false,Bool.and_true,Bool.true_and,Bool.and_false,Bool.false_and,Bool.or_true,Bool.true_or,Bool.or_false,Bool.false_or,Bool.not_not,ge_iff_le,af,V,X,F]));clear HB HX HN au;go_wp2;go_roundw;(case rel=>exact ⟨k + 1,by omega,by go_num,U,G⟩);(case measure=>simp [intOf];omega))
 have U:=yD (kQa HN.out hlt hk)
 exact oD
theorem kHx {w:World} {vl:Value} {l:List kT} (hl:(kE.slice 105 kL).raw w [vl] l) :
    Calls prog 20 #[vl] w (bQ w (.bool (kJw l))):=by
 obtain ⟨al,pl,rfl,ll⟩:=kE.sl hl
 have ak:=kE.kCq hl
 go_enter func20,ntmps20
 go_wp2
 go_loopw [7] (fun i wr=>∃ k:Nat,k≤l.length∧i=.int .i64 k∧Hid (yX (fun j=>kFd l j (l.getD j ([],0,0))) k=true)∧Below w.heap.size w wr) (fun i _=>l.length - (intOf i).toNat)
 case atStart=>exact ⟨0,Nat.zero_le _,rfl,yD rfl,bR⟩
 obtain ⟨k,hk,rfl,HN,D⟩:=hrel
 by_cases hlt:k < l.length
 · obtain ⟨qb,qo,rfl,ah,ai,aj,qr,a1,a4,bb⟩:=kE.kDv (hl.below D) (i:=k) bB9 rfl
   have au:=yD (kE.kCc (hl.below D) hk)
   have hb:=fun q=>kRz hlt q
   have hx:=fun q=>kPz hlt q HN.out
   generalize l[k]=x at *
   have HB:=yD hb;have HX:=yD hx;clear hb hx
   obtain ⟨x0,x1,x2⟩:=x
   obtain ⟨bq,aq,ar,ax,ap,bc⟩:=yU qr
   simp only [List.cons.injEq,and_true] at aq
   obtain ⟨rfl,rfl,rfl⟩:=aq
   obtain ⟨ae,be,rfl,az⟩:=kE.sl ax
   obtain ⟨a8,di,a7,a2⟩:=qJ
   go_upto_region 4 with fail
   generalize F:World.alloc wr _=R
   have EC:Below wr.heap.size wr R:=rX
   obtain ⟨M0,M1,M2⟩:=r9
   clear F
   have FX:=yD (fun (W:World) (hW:Below R.heap.size R W)=>kMs hW M0 M1 M2)
   refine kW (fun W=>Below R.heap.size R W) [true,true,false,true,true,true,true,false,true,true,true,true,true,false,true,true,true,true,true,true,true,true,true,true,false,true,true] bB4 bB4 qD (bR.drew) ?_
   intro wS E
   all_goals refine kS ?_
   all_goals refine kS ?_
   all_goals first | refine wkB (zX (kE.raw.below ar (tQ EC E))) (fun wS1 E=>?_) | refine kS ?_
   all_goals refine kS ?_
   all_goals (have O:=True.intro;first|(refine yT (fun b O=>?_);cases b;all_goals first | exact Bool.noConfusion O | simp only [zU,zV] at O | skip) | refine kS ?_)
   all_goals refine kX ?_
   all_goals refine kS ?_
   all_goals refine kS ?_
   all_goals first | refine wkC (jh) ?_ | refine kS ?_
   all_goals refine kS ?_
   all_goals refine kS ?_
   all_goals (have J:=True.intro;first|(refine yT (fun b J=>?_);cases b;all_goals first | exact Bool.noConfusion J | simp only [zU,zV] at J | skip) | refine kS ?_)
   all_goals refine kX ?_
   all_goals refine kS ?_
   all_goals refine kS ?_
   all_goals first | refine wkC (jh) ?_ | refine kS ?_
   all_goals refine kS ?_
   all_goals refine kS ?_
   all_goals (have V:=True.intro;first|(refine yT (fun b V=>?_);cases b;all_goals first | exact Bool.noConfusion V | simp only [zU,zV] at V | skip) | refine kS ?_)
   all_goals refine kX ?_
   iterate 7
    all_goals refine kS ?_
   all_goals first | refine wkB (kHw (kE.raw.below au.out (tQ EC E)) (kE.raw.below ar (tQ EC E))) (fun wS1 E=>?_) | refine kS ?_
   all_goals refine kS ?_
   all_goals (have I:=True.intro;first|(refine yT (fun b I=>?_);cases b;all_goals first | exact Bool.noConfusion I | simp only [zU,zV] at I | skip) | refine kS ?_)
   all_goals refine kX ?_
   all_goals refine kZ ?_
   all_goals have G:=D.trans (Below.mono (tQ EC E) D.size)
   all_goals first
     | (have U:=yD (HB.out (show _=false by simp only [kFd,Bool.not_true,Bool.not_false,Bool.and_true,Bool.true_and,Bool.and_false,Bool.false_and,Bool.or_true,Bool.true_or,Bool.or_false,Bool.false_or,Bool.not_not,ge_iff_le,O,J,V,I]));clear HB HX HN au;go_wp2;go_ret;exact ⟨kR U.out.symm,G⟩)
     | (have U:=yD (HX.out (show _=true by simp only [kFd,Bool.not_true,Bool.not_false,Bool.and_true,Bool.true_and,Bool.and_false,Bool.false_and,Bool.or_true,Bool.true_or,Bool.or_false,Bool.false_or,Bool.not_not,ge_iff_le,O,J,V,I]));clear HB HX HN au;go_wp2;go_roundw;(case rel=>exact ⟨k + 1,by omega,by go_num,U,G⟩);(case measure=>simp [intOf];omega))
 have U:=yD (kQa HN.out hlt hk)
 exact oD
def kGp (l:List jG) (k:Nat) (x:jG):Bool:=!(!kBc x || decide (idxOf (isD x.1) (l.take k) ≥ 0))
def kQg (x:yI):Bool:=(((((decide ((x.1.length:Int)≤8) && kDg x.2.1) && kDh x.2.2.1) && kAz x.2.2.2.2.1) && kJw x.2.2.2.2.2.1) && decide ((x.2.2.2.1.length:Int)≤24)) && decide (0≤x.2.2.2.2.2.2)
def kBd (x:yI):Bool:=yX (fun j=>kGp x.1 j (x.1.getD j kRr)) x.1.length && kQg x
theorem kSy {x:yI} {k:Nat} (h:k < x.1.length) (q:kGp x.1 k x.1[k]=false):kBd x=false:=by
 unfold kBd;rw [kCj h qR];rfl
theorem kQk {l:List jG} {k:Nat} (h:k < l.length) (q:kGp l k l[k]=true) (a:yX (fun j=>kGp l j (l.getD j kRr)) k=true):yX (fun j=>kGp l j (l.getD j kRr)) (k + 1)=true :=
  kAq a qR
theorem kQl {x:yI} {k:Nat} (q:yX (fun j=>kGp x.1 j (x.1.getD j kRr)) k=true) (h:¬ k < x.1.length) (hk:k≤x.1.length):kBd x=kQg x:=by
 obtain rfl:k=x.1.length:=bB9
 unfold kBd;rw [q];rfl
theorem kFb {w:World} {cx:List Value} {x:yI} (hx:yA.raw w cx x) :
    Calls prog 7 #[.agg cx.toArray] w (bQ w (.bool (kBd x))):=by
 obtain ⟨ez,e9,f9,f8,f2,f1,rfl,ac,ay,a3,a5,ba,bg,b2,da,dd⟩:=zf hx
 obtain ⟨cl,b6,rfl,e1⟩:=kE.sl ac
 obtain ⟨c6,c5,rfl,fa⟩:=kE.sl a5
 obtain ⟨dq,dp,rfl,f3⟩:=kE.sl ba
 obtain ⟨ee,eb,rfl,f7⟩:=kE.sl bg
 obtain ⟨d3,dw,rfl,gd⟩:=kE.sl b2
 obtain ⟨d4,dr,rfl,f5⟩:=kE.sl da
 have hl:=ac
 have ak:=kE.kCq hl
 have H1:=yD ay
 have H4:=yD ba
 have H6:=yD b2
 have H7:=yD da
 clear hx ac ay a3 a5 ba bg b2 da dd
 go_enter func7,ntmps7
 go_wp2
 generalize H:World.alloc w _=N
 obtain ⟨Z,K0,K1,K2,K3,K4,K5,K6,K7⟩:=oO
 clear H
 replace hl:=hl.below Z
 go_loopw [3] (fun i wr=>∃ k:Nat,k≤x.1.length∧i=.int .i64 k∧Hid (yX (fun j=>kGp x.1 j (x.1.getD j kRr)) k=true)∧Below N.heap.size N wr) (fun i _=>x.1.length - (intOf i).toNat)
 case atStart=>exact ⟨0,Nat.zero_le _,rfl,yD rfl,bR⟩
 obtain ⟨k,hk,rfl,HN,D⟩:=hrel
 replace K0:=cL D K0
 replace K1:=cL D K1
 replace K2:=cL D K2
 replace K3:=cL D K3
 replace K4:=cL D K4
 replace K5:=cL D K5
 replace K6:=cL D K6
 replace K7:=cL D K7
 by_cases hlt:k < x.1.length
 · have au:=yD (kE.kCc (hl.below D) hk)
   have hb:=fun q=>kSy (x:=x) hlt q
   have an:=fun q=>kQk hlt q HN.out
   obtain ⟨qb,qo,rfl,ah,ai,aj,ck,co,qr,a1,a4,bb,b0,b4⟩:=kE.get5 (hl.below D) (i:=k) bB9 rfl
   generalize x.1[k]=z at *
   have HB:=yD hb;have HX:=yD an;clear hb an
   obtain ⟨bq,cc,cj,aq,ar,ax,ap,bc,bv,bz,ci⟩:=jN qr
   simp only [List.cons.injEq,and_true] at aq
   obtain ⟨rfl,rfl,rfl,rfl,rfl⟩:=aq
   obtain ⟨ae,be,rfl,az⟩:=kE.sl ax
   obtain ⟨ao,br,rfl,bn⟩:=kE.sl ap
   obtain ⟨am,bt,rfl,bo⟩:=kE.sl bv
   have a8:=Int.ofNat_lt.2 hlt
   have di:=Int.natCast_nonneg k
   have a7:(k:Int)≤(b6:Int):=bB9
   have a2:k≤b6:=bB9
   go_upto_region 4 with fail
   have FX:=yD (fun (W:World) (hW:Below wr.heap.size wr W)=>cLs6 hW K0 a1 a4 bb b0 b4)
   refine kW (fun W=>Below wr.heap.size wr W) [true,true,true,true,true,false,true,true,true,true,true,true,true,true,true,true,true,true,false,true,true] bB4 bB4 qD (bR.drew) ?_
   intro wS E
   iterate 5
    all_goals refine kS ?_
   all_goals first | refine wkB (kDa (kE.raw.below qr E)) (fun wS1 E=>?_) | refine kS ?_
   all_goals refine kS ?_
   all_goals (have af:=True.intro;first|(refine yT (fun b af=>?_);cases b;all_goals first | exact Bool.noConfusion af | simp only [zU,zV] at af | skip) | refine kS ?_)
   all_goals refine kX ?_
   iterate 10
    all_goals refine kS ?_
   all_goals first | refine wkB (kUc (kE.raw.below au.out E) (kE.raw.below ar E)) (fun wS1 E=>?_) | refine kS ?_
   all_goals refine kS ?_
   all_goals (have R:=True.intro;first|(refine yT (fun b R=>?_);cases b;all_goals first | exact Bool.noConfusion R | simp only [zU,zV] at R | skip) | refine kS ?_)
   all_goals refine kX ?_
   all_goals refine kZ ?_
   all_goals have G:=(tQ D E)
   all_goals first
     | (have U:=yD (HB.out (show _=false by simp only [kGp,Bool.not_true,Bool.not_false,Bool.and_true,Bool.true_and,Bool.and_false,Bool.false_and,Bool.or_true,Bool.true_or,Bool.or_false,Bool.false_or,Bool.not_not,ge_iff_le,af,R]));clear HB HX HN au;go_wp2;go_ret;exact ⟨kR U.out.symm,(tQ Z G)⟩)
     | (have U:=yD (HX.out (show _=true by simp only [kGp,Bool.not_true,Bool.not_false,Bool.and_true,Bool.true_and,Bool.and_false,Bool.false_and,Bool.or_true,Bool.true_or,Bool.or_false,Bool.false_or,Bool.not_not,ge_iff_le,af,R]));clear HB HX HN au;go_wp2;go_roundw;(case rel=>exact ⟨k + 1,by omega,by go_num,U,G⟩);(case measure=>simp [intOf];omega))
 have U:=yD (kQl (x:=x) HN.out hlt hk)
 have a6:¬ (k:Int) < x.1.length:=bB9
 go_upto_region 6 with fail
 have FX:=yD (fun (W:World) (hW:Below wr.heap.size wr W)=>cLs8 hW K0 K1 K2 K3 K4 K5 K6 K7)
 refine kz (fun W=>Below wr.heap.size wr W) [true,true,true,true,true,true,true,false,true,true,true,true,false,true,true,true,true,false,true,true,true,true,false,true,true,true,true,true,true,true,true,true,true,true,true,true] bR ?_
 intro wS E
 iterate 4
  all_goals refine kS ?_
 all_goals (have O:=True.intro;first|(refine yT (fun b O=>?_);cases b;all_goals first | exact Bool.noConfusion O | simp only [zU,zV] at O | skip) | refine kS ?_)
 all_goals refine kX ?_
 all_goals refine kS ?_
 all_goals refine kS ?_
 all_goals first | refine wkB (kHs (kE.raw.below H1.out ((tQ Z D).trans (E.mono (Below.size (tQ Z D)))))) (fun wS1 E=>?_) | refine kS ?_
 all_goals refine kS ?_
 all_goals (have L:=True.intro;first|(refine yT (fun b L=>?_);cases b;all_goals first | exact Bool.noConfusion L | simp only [zU,zV] at L | skip) | refine kS ?_)
 all_goals refine kX ?_
 all_goals refine kS ?_
 all_goals refine kS ?_
 all_goals first | refine wkB (kMe (kE.raw.below H4.out ((tQ Z D).trans (E.mono (Below.size (tQ Z D)))))) (fun wS1 E=>?_) | refine kS ?_
 all_goals refine kS ?_
 all_goals (have I:=True.intro;first|(refine yT (fun b I=>?_);cases b;all_goals first | exact Bool.noConfusion I | simp only [zU,zV] at I | skip) | refine kS ?_)
 all_goals refine kX ?_
 all_goals refine kS ?_
 all_goals refine kS ?_
 all_goals first | refine wkB (kEb (kE.raw.below H6.out ((tQ Z D).trans (E.mono (Below.size (tQ Z D)))))) (fun wS1 E=>?_) | refine kS ?_
 all_goals refine kS ?_
 all_goals (have J:=True.intro;first|(refine yT (fun b J=>?_);cases b;all_goals first | exact Bool.noConfusion J | simp only [zU,zV] at J | skip) | refine kS ?_)
 all_goals refine kX ?_
 all_goals refine kS ?_
 all_goals refine kS ?_
 all_goals first | refine wkB (kHr (kE.raw.below H7.out ((tQ Z D).trans (E.mono (Below.size (tQ Z D)))))) (fun wS1 E=>?_) | refine kS ?_
 all_goals refine kS ?_
 all_goals (have Y:=True.intro;first|(refine yT (fun b Y=>?_);cases b;all_goals first | exact Bool.noConfusion Y | simp only [zU,zV] at Y | skip) | refine kS ?_)
 all_goals refine kX ?_
 iterate 5
  all_goals refine kS ?_
 all_goals (have X:=True.intro;first|(refine yT (fun b X=>?_);cases b;all_goals first | exact Bool.noConfusion X | simp only [zU,zV] at X | skip) | refine kS ?_)
 all_goals refine kX ?_
 iterate 4
  all_goals refine kS ?_
 all_goals (have V:=True.intro;first|(refine yT (fun b V=>?_);cases b;all_goals first | exact Bool.noConfusion V | simp only [zU,zV] at V | skip) | refine kS ?_)
 all_goals refine kX ?_
 all_goals refine kZ ?_
 all_goals have G:=(tQ Z (tQ D E))
 all_goals first
   | (have HV:=yD (show kBd x=false by rw [U.out];simp only [kQg,Bool.not_true,Bool.not_false,Bool.and_true,Bool.true_and,Bool.and_false,Bool.false_and,Bool.or_true,Bool.true_or,Bool.or_false,Bool.false_or,Bool.not_not,O,L,I,J,Y,X,V]);go_wp2;go_ret;exact ⟨kR HV.out.symm,G⟩)
   | (have HV:=yD (show kBd x=true by rw [U.out];simp only [kQg,Bool.not_true,Bool.not_false,Bool.and_true,Bool.true_and,Bool.and_false,Bool.false_and,Bool.or_true,Bool.true_or,Bool.or_false,Bool.false_or,Bool.not_not,O,L,I,J,Y,X,V]);go_wp2;go_ret;exact ⟨kR HV.out.symm,G⟩)
theorem vStore_rng {c:Int} {l:List kr} (h:inR c 0 8=false):kDg (c,l)=false:=by unfold kDg;simp only;rw [h,Bool.false_and,Bool.and_false]
theorem vStore_len {c:Int} {l:List kr} (h:¬ (l.length:Int)≤c):kDg (c,l)=false:=by unfold kDg;simp only;rw [decide_eq_false h,Bool.and_false,Bool.and_false]
theorem vStore_yes {c:Int} {l:List kr} {k:Nat} (q:yX (fun j=>okCe l j (l.getD j kRs)) k=true) (h:¬ k < l.length) (hk:k≤l.length) (h1:inR c 0 8=true) (h2:(l.length:Int)≤c):kDg (c,l)=true:=by
 rw [kPv q h hk,h1,decide_eq_true h2];rfl
theorem kHy {w:World} {cs:List Value} {x:kg} (hx:kN.raw w cs x) :
    Calls prog 17 #[.agg cs.toArray] w (bQ w (.bool (kDg x))):=by
 obtain ⟨sv,rfl,ei,hl⟩:=jQ hx
 obtain ⟨aa,pl,rfl,la⟩:=kE.sl hl
 obtain ⟨c,l⟩:=x
 replace hl:(kE.slice 98 kw).raw w [.slice aa l.length pl] l:=hl
 have ak:=kE.kCq hl
 replace la:l.length≤9223372036854775807:=la
 clear hx ei
 go_enter func17,ntmps17
 go_upto_region 1 with fail
 generalize H:World.alloc w _=N
 obtain ⟨Z,K0,K1⟩:=CV
 clear H
 replace hl:=hl.below Z
 have HR:=yD (vStore_rng (c:=c) (l:=l));have HL:=yD (vStore_len (c:=c) (l:=l));have HG:=yD (fun (k:Nat)=>vStore_yes (c:=c) (l:=l) (k:=k))
 by_cases hr:inR c 0 8=true
 case neg =>
  have cf:inR c 0 8=false:=wY
  have U:=yD (HR.out cf)
  clear HR HL HG hr
  go_wp2_with fail
  refine jh.mono ?_
  rintro e w1 ⟨rfl,I⟩
  obtain rfl:=I.symm
  rw [cf]
  go_wp2
  go_ret
  exact ⟨kR U.out.symm,Z.trans (Below.mono bI Z.size)⟩
 by_cases hc:(l.length:Int)≤c
 case neg =>
  have U:=yD (HL.out hc)
  have hd:decide ((l.length:Int) > c)=true:=bB5
  have al:decide (c < (l.length:Int))=true:=bB5
  have V:c < (l.length:Int):=bB9
  clear HR HL HG hc
  go_wp2_with fail
  refine jh.mono ?_
  rintro e w1 ⟨rfl,I⟩
  obtain rfl:=I.symm
  rw [hr]
  go_wp2
  go_ret
  exact ⟨kR U.out.symm,Z.trans (Below.mono bI Z.size)⟩
 have L:=yD (fun k q h hk=>HG.out k q h hk hr hc)
 have hd:decide ((l.length:Int) > c)=false:=bB5
 have al:decide (c < (l.length:Int))=false:=bB5
 have V:¬ c < (l.length:Int):=bB9
 go_wp2_with fail
 refine jh.mono ?_
 rintro e w1 ⟨rfl,I⟩
 obtain rfl:=I.symm
 rw [hr]
 clear HR HL HG hc hr
 go_wp2
 clear hd al V
 go_loopw [20] (fun i wr=>∃ k:Nat,k≤l.length∧i=.int .i64 k∧Hid (yX (fun j=>okCe l j (l.getD j kRs)) k=true)∧Below N.heap.size N wr) (fun i _=>l.length - (intOf i).toNat)
 case atStart=>exact ⟨0,Nat.zero_le _,rfl,yD rfl,bI⟩
 obtain ⟨k,hk,rfl,HN,D⟩:=hrel
 replace K0:=cL D K0
 replace K1:=cL D K1
 by_cases hlt:k < l.length
 · have au:=yD (kE.kCc (hl.below D) hk)
   have hb:=fun q=>kRu (c:=c) hlt q
   have an:=fun q=>kPu hlt q HN.out
   obtain ⟨qb,qo,rfl,ah,ai,aj,ck,co,bx,qr,a1,a4,bb,b0,b4,ba⟩:=kE.get6 (hl.below D) (i:=k) bB9 rfl
   generalize l[k]=x at *
   have HB:=yD hb;have HX:=yD an;clear hb an
   obtain ⟨bq,cc,cj,aq,ar,ax,ap,bc,bv,bz,ci,bg,bp⟩:=jv qr
   simp only [List.cons.injEq,and_true] at aq
   obtain ⟨rfl,rfl,rfl,rfl,rfl,rfl⟩:=aq
   obtain ⟨ae,be,rfl,az⟩:=kE.sl ap
   obtain ⟨ao,br,rfl,bn⟩:=kE.sl bc
   obtain ⟨am,bt,rfl,bo⟩:=kE.sl bz
   obtain ⟨a8,di,a7,a2⟩:=qJ
   go_upto_region 6 with fail
   generalize F:World.alloc wr _=R
   obtain ⟨EC,M0,M1,M2,M3,M4,M5⟩:=uQ
   replace K1:=cL EC K1
   clear F
   have FX:=yD (fun (W:World) (hW:Below R.heap.size R W)=>cLs7 hW K1 M0 M1 M2 M3 M4 M5)
   refine kz (fun W=>Below R.heap.size R W) [true,true,false,true,true,true,true,true,true,false,false,true] bR ?_
   intro wS E
   all_goals refine kS ?_
   all_goals refine kS ?_
   all_goals first | refine wkB (kDf (kE.raw.below ar (tQ EC E))) (fun wS1 E=>?_) | refine kS ?_
   all_goals refine kS ?_
   all_goals (have O:=True.intro;first|(refine yT (fun b O=>?_);cases b;all_goals first | exact Bool.noConfusion O | simp only [zU,zV] at O | skip) | refine kS ?_)
   all_goals refine kX ?_
   iterate 4
    all_goals refine kS ?_
   all_goals first|(refine kK rfl E ?_)|(refine ko rfl (fun K J=>?_);go_simp;refine J _ _ E ?_;clear J K)
   all_goals refine kX ?_
   all_goals first|(refine kK rfl E ?_)|(refine ko rfl (fun K J=>?_);go_simp;refine (kGi (isC x.1.1) kDw (kE.raw.below au.out (tQ EC E)) ?_).mono ?_;(· intro X ab i hi ag ac;exact kHh ac (kE.raw.below qr ((tQ EC E).trans (ab.mono (Below.size (tQ EC E))))) (cL ab (cL E M0)) (cL ab (cL E M1)) (cL ab (cL E M2)) (cL ab (cL E M3)) (cL ab (cL E M4)) (cL ab (cL E M5)));rintro e wS1 ⟨rfl,af⟩;replace E:=(tQ E af);refine J _ _ E ?_;clear J K af)
   all_goals refine kX ?_
   all_goals (have Y:=True.intro;first|(refine yT (fun b Y=>?_);cases b;all_goals first | exact Bool.noConfusion Y | simp only [zU,zV] at Y | skip) | refine kS ?_)
   all_goals refine kX ?_
   all_goals refine kZ ?_
   all_goals have G:=D.trans (Below.mono (tQ EC E) D.size)
   all_goals have av:decide (idxOf (isC x.1.1) (l.take k) ≥ 0)=decide (0≤idxOf (isC x.1.1) (l.take k)):=rfl
   all_goals first
     | (have U:=yD (HB.out (show _=false by simp only [okCe,Bool.not_true,Bool.not_false,Bool.and_true,Bool.true_and,Bool.and_false,Bool.false_and,Bool.or_true,Bool.true_or,Bool.or_false,Bool.false_or,Bool.not_not,ge_iff_le,O,Y]));clear HB HX HN au;go_wp2;go_ret;exact ⟨kR U.out.symm,(tQ Z G)⟩)
     | (have U:=yD (HX.out (show _=true by simp only [okCe,Bool.not_true,Bool.not_false,Bool.and_true,Bool.true_and,Bool.and_false,Bool.false_and,Bool.or_true,Bool.true_or,Bool.or_false,Bool.false_or,Bool.not_not,ge_iff_le,O,Y]));clear HB HX HN au;go_wp2;go_roundw;(case rel=>exact ⟨k + 1,by omega,by go_num,U,G⟩);(case measure=>simp [intOf];omega))
 have U:=yD (L.out k HN.out hlt hk)
 have a6:¬ (k:Int) < l.length:=bB9
 go_wp2
 go_ret
 exact ⟨kR U.out.symm,(tQ Z D)⟩
end Go.Proofs.YtonmjkmaadgceaaGreat

/-
  Lists of routes that are valid.
-/
import Derived.Test.YtonmjkmaadgceaaGreatWoC
set_option linter.unusedVariables false
set_option linter.unusedSimpArgs false
set_option linter.unnecessarySimpa false
set_option maxRecDepth 100000
set_option maxHeartbeats 4000000
namespace Go.Proofs.YtonmjkmaadgceaaGreat
open Go.RowKit _root_.Go.Proofs.Tryz
def kRs:kr:=(([],[],[],0,0),0)
def okCe (l:List kr) (k:Nat) (x:kr):Bool:=!(!kBc x.1 || decide (idxOf (isC x.1.1) (l.take k) ≥ 0))
def kDg (x:kg):Bool:=yX (fun j=>okCe x.2 j (x.2.getD j kRs)) x.2.length && (inR x.1 0 8 && decide ((x.2.length:Int)≤x.1))
theorem kRu {c:Int} {l:List kr} {k:Nat} (h:k < l.length) (q:okCe l k l[k]=false):kDg (c,l)=false:=by
 unfold kDg;rw [kCj h qR];rfl
theorem kPu {l:List kr} {k:Nat} (h:k < l.length) (q:okCe l k l[k]=true) (a:yX (fun j=>okCe l j (l.getD j kRs)) k=true):yX (fun j=>okCe l j (l.getD j kRs)) (k + 1)=true :=
  kAq a qR
theorem kPv {c:Int} {l:List kr} {k:Nat} (q:yX (fun j=>okCe l j (l.getD j kRs)) k=true) (h:¬ k < l.length) (hk:k≤l.length):kDg (c,l)=(inR c 0 8 && decide ((l.length:Int)≤c)):=by
 obtain rfl:k=l.length:=bB9
 unfold kDg;rw [q];rfl
theorem kHs {w:World} {cs:List Value} {x:kg} (hx:kN.raw w cs x) :
    Calls prog 23 #[.agg cs.toArray] w (bQ w (.bool (kDg x))):=by
 obtain ⟨sv,rfl,ei,hl⟩:=jQ hx
 obtain ⟨aa,pl,rfl,la⟩:=kE.sl hl
 obtain ⟨c,l⟩:=x
 replace hl:(kE.slice 98 kw).raw w [.slice aa l.length pl] l:=hl
 have ak:=kE.kCq hl
 replace la:l.length≤9223372036854775807:=la
 have I:=yD ei
 clear hx ei
 go_enter func23,ntmps23
 go_wp2
 generalize H:World.alloc w _=N
 obtain ⟨Z,K0,K1⟩:=CV
 clear H
 replace hl:=hl.below Z
 go_loopw [3] (fun i wr=>∃ k:Nat,k≤l.length∧i=.int .i64 k∧Hid (yX (fun j=>okCe l j (l.getD j kRs)) k=true)∧Below N.heap.size N wr) (fun i _=>l.length - (intOf i).toNat)
 case atStart=>exact ⟨0,Nat.zero_le _,rfl,yD rfl,bR⟩
 obtain ⟨k,hk,rfl,HN,D⟩:=hrel
 replace K0:=cL D K0
 replace K1:=cL D K1
 by_cases hlt:k < l.length
 · have au:=yD (kE.kCc (hl.below D) hk)
   have hb:=fun q=>kRu (c:=c) hlt q
   have an:=fun q=>kPu hlt q HN.out
   obtain ⟨qb,qo,rfl,ah,ai,aj,ck,co,bx,qr,a1,a4,bb,b0,b4,ba⟩:=kE.get6 (hl.below D) (i:=k) bB9 rfl
   generalize l[k]=x at *
   have HB:=yD hb;have HX:=yD an;clear hb an
   obtain ⟨bq,cc,cj,aq,ar,ax,ap,bc,bv,bz,ci,bg,bp⟩:=jv qr
   simp only [List.cons.injEq,and_true] at aq
   obtain ⟨rfl,rfl,rfl,rfl,rfl,rfl⟩:=aq
   obtain ⟨ae,be,rfl,az⟩:=kE.sl ap
   obtain ⟨ao,br,rfl,bn⟩:=kE.sl bc
   obtain ⟨am,bt,rfl,bo⟩:=kE.sl bz
   obtain ⟨a8,di,a7,a2⟩:=qJ
   go_upto_region 4 with fail
   have FX:=yD (fun (W:World) (hW:Below wr.heap.size wr W)=>cLs8 hW K0 K1 a1 a4 bb b0 b4 ba)
   refine kW (fun W=>Below wr.heap.size wr W) [true,true,true,true,true,true,false,true,true,true,true,true,true,true,true,true,true,true,true,true,false,true,true] bB4 bB4 qD (bR.drew) ?_
   intro wS E
   iterate 6
    all_goals refine kS ?_
   all_goals first | refine wkB (kDa (kE.raw.below ar E)) (fun wS1 E=>?_) | refine kS ?_
   all_goals refine kS ?_
   all_goals (have ac:=True.intro;first|(refine yT (fun b ac=>?_);cases b;all_goals first | exact Bool.noConfusion ac | simp only [zU,zV] at ac | skip) | refine kS ?_)
   all_goals refine kX ?_
   iterate 11
    all_goals refine kS ?_
   all_goals first | refine wkB (kEv (kE.raw.below au.out E) (kE.raw.below ax E)) (fun wS1 E=>?_) | refine kS ?_
   all_goals refine kS ?_
   all_goals (have F:=True.intro;first|(refine yT (fun b F=>?_);cases b;all_goals first | exact Bool.noConfusion F | simp only [zU,zV] at F | skip) | refine kS ?_)
   all_goals refine kX ?_
   all_goals refine kZ ?_
   all_goals have G:=(tQ D E)
   all_goals first
     | (have U:=yD (HB.out (show _=false by simp only [okCe,Bool.not_true,Bool.not_false,Bool.and_true,Bool.true_and,Bool.and_false,Bool.false_and,Bool.or_true,Bool.true_or,Bool.or_false,Bool.false_or,Bool.not_not,ge_iff_le,ac,F]));clear HB HX HN au;go_wp2;go_ret;exact ⟨kR U.out.symm,(tQ Z G)⟩)
     | (have U:=yD (HX.out (show _=true by simp only [okCe,Bool.not_true,Bool.not_false,Bool.and_true,Bool.true_and,Bool.and_false,Bool.false_and,Bool.or_true,Bool.true_or,Bool.or_false,Bool.false_or,Bool.not_not,ge_iff_le,ac,F]));clear HB HX HN au;go_wp2;go_roundw;(case rel=>exact ⟨k + 1,by omega,by go_num,U,G⟩);(case measure=>simp [intOf];omega))
 have U:=yD (kPv (c:=c) HN.out hlt hk)
 have a6:¬ (k:Int) < l.length:=bB9
 go_upto_region 6 with fail
 have FX:=yD (fun (W:World) (hW:Below wr.heap.size wr W)=>cLs2 hW K0 K1)
 refine kz (fun W=>Below wr.heap.size wr W) [true,true,false,true,true,true,true,true,true,true,true,true] bR ?_
 intro wS E
 all_goals refine kS ?_
 all_goals refine kS ?_
 all_goals first | refine wkC (ji) ?_ | refine kS ?_
 all_goals (have ag:=True.intro;first|(refine yT (fun b ag=>?_);cases b;all_goals first | exact Bool.noConfusion ag | simp only [zU,zV] at ag | skip) | refine kS ?_)
 all_goals refine kX ?_
 iterate 7
  all_goals refine kS ?_
 all_goals (have Y:=True.intro;first|(refine yT (fun b Y=>?_);cases b;all_goals first | exact Bool.noConfusion Y | simp only [zU,zV] at Y | skip) | refine kS ?_)
 all_goals refine kX ?_
 all_goals refine kZ ?_
 all_goals have G:=(tQ Z (tQ D E))
 all_goals first
   | (have HV:=yD (show kDg (c,l)=false by rw [U.out];simp only [Bool.not_true,Bool.not_false,Bool.and_true,Bool.true_and,Bool.and_false,Bool.false_and,Bool.or_true,Bool.true_or,Bool.or_false,Bool.false_or,Bool.not_not,ag,Y]);go_wp2;go_ret;exact ⟨kR HV.out.symm,G⟩)
   | (have HV:=yD (show kDg (c,l)=true by rw [U.out];simp only [Bool.not_true,Bool.not_false,Bool.and_true,Bool.true_and,Bool.and_false,Bool.false_and,Bool.or_true,Bool.true_or,Bool.or_false,Bool.false_or,Bool.not_not,ag,Y]);go_wp2;go_ret;exact ⟨kR HV.out.symm,G⟩)
def zm (n:kQ) (f:Int) (m:jL):Bool:=(m.2.1==f) && eqN m.1 n
theorem kLo {w:World} {vl:Value} {l:(List jL)} (hl:(kE.slice 102 jT).raw w [vl] l) {cn:List Value} {n:kQ} (hn:kM.raw w cn n) {f:Int} :
    Calls prog 57 #[vl,.agg cn.toArray,.int .i64 f] w (bQ w (.int .i64 (idxOf (zm n f) l))):=by
 obtain ⟨al,pl,rfl,ll⟩:=kE.sl hl
 have Hn:=yD hn
 obtain ⟨Y,rfl,R⟩:=kU hn
 obtain ⟨V,L,rfl,aa⟩:=kE.sl R
 go_enter func57,ntmps57
 go_wp2
 generalize H:World.alloc w _=N
 obtain ⟨Z,X⟩:=rZ
 clear H
 replace hl:=hl.below Z
 go_loopw [7] (fun i wr=>∃ k:Nat,k≤l.length∧i=.int .i64 k∧Hid (∀ j,(h:j < k)→(h2:j < l.length)→(zm n f) l[j]=false)∧Below N.heap.size N wr) (fun i _=>l.length - (intOf i).toNat)
 case atStart=>exact ⟨0,Nat.zero_le _,rfl,yD (fun _ h=>by omega),bR⟩
 obtain ⟨k,hk,rfl,HN,D⟩:=hrel
 replace X:=cL D X
 by_cases hlt:k < l.length
 · obtain ⟨qb,qo,rfl,ah,ai,aj,qr,a1,a4,bb⟩:=kE.kDv (hl.below D) (i:=k) bB9 rfl
   obtain ⟨J,I⟩:=xR
   generalize l[k]=x at *
   have HD:=yD J;have HX:=yD I;clear J I
   obtain ⟨x0,x1,x2⟩:=x
   obtain ⟨bq,aq,ar,ax,ap,bc⟩:=kAy qr
   simp only [List.cons.injEq,and_true] at aq
   obtain ⟨rfl,rfl,rfl⟩:=aq
   obtain ⟨ae,be,rfl,az⟩:=kE.sl ax
   go_upto_region 4 with fail
   have FX:=yD (fun (W:World) (hW:Below wr.heap.size wr W)=>kLd hW X a1 a4 bb)
   refine kW (fun W=>Below wr.heap.size wr W) [true,true,true,true,true,true,true,true,true,true,true,true,true,true,false,true] bB4 bB4 qD (bR.drew) ?_
   intro wS E
   iterate 7
    all_goals refine kS ?_
   all_goals (have af:=True.intro;first|(refine yT (fun b af=>?_);cases b;all_goals first | exact Bool.noConfusion af | simp only [zU,zV] at af | skip) | refine kS ?_)
   all_goals refine kX ?_
   iterate 6
    all_goals refine kS ?_
   all_goals first | refine wkB (kAe (kE.raw.below ar E) (kE.raw.below Hn.out ((tQ Z (tQ D E))))) (fun wS1 E=>?_) | refine kS ?_
   all_goals (have F:=True.intro;first|(refine yT (fun b F=>?_);cases b;all_goals first | exact Bool.noConfusion F | simp only [zU,zV] at F | skip) | refine kS ?_)
   all_goals refine kX ?_
   all_goals refine kZ ?_
   all_goals have G:=(tQ D E)
   all_goals first
     | (have U:=yD (HD.out (show _=true by simp only [zm,Bool.not_true,Bool.not_false,Bool.and_true,Bool.true_and,Bool.and_false,Bool.false_and,Bool.or_true,Bool.true_or,Bool.or_false,Bool.false_or,Bool.not_not,af,F]));clear HD HX;go_wp2;go_ret;exact ⟨jW U.out.symm,(tQ Z G)⟩)
     | (have U:=yD (HX.out (show _=false by simp only [zm,Bool.not_true,Bool.not_false,Bool.and_true,Bool.true_and,Bool.and_false,Bool.false_and,Bool.or_true,Bool.true_or,Bool.or_false,Bool.false_or,Bool.not_not,af,F]));clear HD HX;go_wp2;go_roundw;(case rel=>exact ⟨k + 1,by omega,by go_num,U,G⟩);(case measure=>simp [intOf];omega))
 exact iT
theorem kTh {w:World} {cm:List Value} {m:jL} (hm:jT.raw w cm m) {f:Int} {Y:Nat} (R:w.cell? ⟨Y,0,none⟩=some (.int .i64 f)) {n:kQ} {cq:Value} {Bn:Nat} (nr:kM.raw w [cq] n) (D:w.cell? ⟨Bn,0,none⟩=some cq) :
    Calls prog 92 (#[.agg cm.toArray]++#[.pointer (some ⟨Y,0,none⟩),.pointer (some ⟨Bn,0,none⟩)]) w (bQ w (.bool (zm n f m))):=by
 have Hm:=yD hm
 obtain ⟨ag,rfl,ae,X,ai,aa⟩:=kAy hm
 obtain ⟨ab,ac,rfl,ah⟩:=kE.sl X
 obtain ⟨af,I,am⟩:=kU nr
 simp only [List.cons.injEq,and_true] at I
 obtain rfl:=I
 obtain ⟨d0,ar,rfl,aw⟩:=kE.sl am
 show Calls prog 92 #[_,_,_] w _
 go_enter func92,ntmps92
 go_upto_region 1 with fail
 generalize H:World.alloc w _=N
 obtain ⟨Z,F,L,V⟩:=z8
 clear H
 replace R:=cL Z R
 replace D:=cL Z D
 have FX:=yD (fun (W:World) (hW:Below N.heap.size N W)=>cLs5 hW F L V R D)
 refine kz (fun W=>Below N.heap.size N W) [true,true,true,true,true,true,true,true,false,true,true] bR ?_
 intro wS E
 iterate 4
  all_goals refine kS ?_
 all_goals (have O:=True.intro;first|(refine yT (fun b O=>?_);cases b;all_goals first | exact Bool.noConfusion O | simp only [zU,zV] at O | skip) | refine kS ?_)
 all_goals refine kX ?_
 iterate 3
  all_goals refine kS ?_
 all_goals first | refine wkB (ym (kE.raw.below ae (tQ Z E)) (kE.raw.below nr (tQ Z E))) (fun wS1 E=>?_) | refine kS ?_
 all_goals refine kS ?_
 all_goals (have J:=True.intro;first|(refine yT (fun b J=>?_);cases b;all_goals first | exact Bool.noConfusion J | simp only [zU,zV] at J | skip) | refine kS ?_)
 all_goals refine kX ?_
 all_goals refine kZ ?_
 all_goals have G:=(tQ Z E)
 all_goals first
   | (have U:=yD (show (zm n f m)=false by simp only [zm,Bool.not_true,Bool.not_false,Bool.and_true,Bool.true_and,Bool.and_false,Bool.false_and,Bool.or_true,Bool.true_or,Bool.or_false,Bool.false_or,Bool.not_not,O,J]);go_wp2;go_ret;exact ⟨kR U.out.symm,G⟩)
   | (have U:=yD (show (zm n f m)=true by simp only [zm,Bool.not_true,Bool.not_false,Bool.and_true,Bool.true_and,Bool.and_false,Bool.false_and,Bool.or_true,Bool.true_or,Bool.or_false,Bool.false_or,Bool.not_not,O,J]);go_wp2;go_ret;exact ⟨kR U.out.symm,G⟩)
theorem kIc:jb prog 92:=zY func92 bB4 bB4
theorem kUj {w:World} {vl:Value} {l:(List jL)} (hl:(kE.slice 102 jT).raw w [vl] l) {cn:List Value} {n:kQ} (hn:kM.raw w cn n) {f:Int} :
    Calls prog 49 #[vl,.agg cn.toArray,.int .i64 f] w (bQ w (.int .i64 (idxOf (zm n f) l))):=by
 obtain ⟨al,pl,rfl,ll⟩:=kE.sl hl
 have Hn:=yD hn
 obtain ⟨Y,rfl,R⟩:=kU hn
 obtain ⟨V,L,rfl,aa⟩:=kE.sl R
 go_enter func49,ntmps49
 go_upto_region 1 with fail
 generalize H:World.alloc (World.alloc w _) _=N
 obtain ⟨Z,X⟩:=rZ
 have D:N.cell? ⟨w.heap.size + 1,0,none⟩=some (.int .i64 f):=tN
 clear H
 go_wp2_with fail
 refine (kOl (zm n f) kIc (kE.raw.below hl Z) ?_).mono ?_
 · intro wr hb i h cs hr
   exact kTh hr (cL hb D) (kE.raw.below Hn.out (tQ Z hb)) (cL hb X)
 exact iU
def kDc (l:List jL) (k:Nat) (x:jL):Bool:=!(!yZ x.1 || (!inR x.2.1 1 6 || (!inR x.2.2 0 1000 || decide (idxOf (zm x.1 x.2.1) (l.take k) ≥ 0))))
def kAz (l:List jL):Bool:=yX (fun j=>kDc l j (l.getD j ([],0,0))) l.length && decide (l.length≤24)
theorem kPw {l:List jL} {k:Nat} (h:k < l.length) (q:kDc l k l[k]=false):kAz l=false:=by
 unfold kAz;rw [kCj h qR];rfl
theorem kMy {l:List jL} {k:Nat} (h:k < l.length) (q:kDc l k l[k]=true) (a:yX (fun j=>kDc l j (l.getD j ([],0,0))) k=true):yX (fun j=>kDc l j (l.getD j ([],0,0))) (k + 1)=true :=
  kAq a qR
theorem kMz {l:List jL} {k:Nat} (q:yX (fun j=>kDc l j (l.getD j ([],0,0))) k=true) (h:¬ k < l.length) (hk:k≤l.length):kAz l=decide (l.length≤24):=by
 obtain rfl:k=l.length:=bB9
 unfold kAz;rw [q];rfl
theorem kEb {w:World} {vl:Value} {l:List jL} (hl:(kE.slice 102 jT).raw w [vl] l) :
    Calls prog 25 #[vl] w (bQ w (.bool (kAz l))):=by
 obtain ⟨al,pl,rfl,ll⟩:=kE.sl hl
 have ak:=kE.kCq hl
 go_enter func25,ntmps25
 go_wp2
 go_loopw [3] (fun i wr=>∃ k:Nat,k≤l.length∧i=.int .i64 k∧Hid (yX (fun j=>kDc l j (l.getD j ([],0,0))) k=true)∧Below w.heap.size w wr) (fun i _=>l.length - (intOf i).toNat)
 case atStart=>exact ⟨0,Nat.zero_le _,rfl,yD rfl,bR⟩
 obtain ⟨k,hk,rfl,HN,D⟩:=hrel
 by_cases hlt:k < l.length
 · obtain ⟨qb,qo,rfl,ah,ai,aj,qr,a1,a4,bb⟩:=kE.kDv (hl.below D) (i:=k) bB9 rfl
   have au:=yD (kE.kCc (hl.below D) hk)
   have hb:=fun q=>kPw hlt q
   have hx:=fun q=>kMy hlt q HN.out
   generalize l[k]=x at *
   have HB:=yD hb;have HX:=yD hx;clear hb hx
   obtain ⟨x0,x1,x2⟩:=x
   obtain ⟨bq,aq,ar,ax,ap,bc⟩:=kAy qr
   simp only [List.cons.injEq,and_true] at aq
   obtain ⟨rfl,rfl,rfl⟩:=aq
   obtain ⟨ae,be,rfl,az⟩:=kE.sl ax
   obtain ⟨a8,di,a7,a2⟩:=qJ
   go_upto_region 4 with fail
   have FX:=yD (fun (W:World) (hW:Below wr.heap.size wr W)=>kMs hW a1 a4 bb)
   refine kW (fun W=>Below wr.heap.size wr W) [true,true,true,true,true,false,true,true,true,true,true,true,true,false,true,true,true,true,true,true,true,true,false,true,true,true,true,true,true,true,true,true,true,true,true,true,true,true,true,false,true,true] bB4 bB4 qD (bR.drew) ?_
   intro wS E
   iterate 5
    all_goals refine kS ?_
   all_goals first | refine wkB (yS (kE.raw.below ar E)) (fun wS1 E=>?_) | refine kS ?_
   all_goals refine kS ?_
   all_goals (have af:=True.intro;first|(refine yT (fun b af=>?_);cases b;all_goals first | exact Bool.noConfusion af | simp only [zU,zV] at af | skip) | refine kS ?_)
   all_goals refine kX ?_
   iterate 5
    all_goals refine kS ?_
   all_goals first | refine wkC (ji) ?_ | refine kS ?_
   all_goals refine kS ?_
   all_goals refine kS ?_
   all_goals (have V:=True.intro;first|(refine yT (fun b V=>?_);cases b;all_goals first | exact Bool.noConfusion V | simp only [zU,zV] at V | skip) | refine kS ?_)
   all_goals refine kX ?_
   iterate 5
    all_goals refine kS ?_
   all_goals first | refine wkC (ji) ?_ | refine kS ?_
   all_goals refine kS ?_
   all_goals refine kS ?_
   all_goals (have X:=True.intro;first|(refine yT (fun b X=>?_);cases b;all_goals first | exact Bool.noConfusion X | simp only [zU,zV] at X | skip) | refine kS ?_)
   all_goals refine kX ?_
   iterate 13
    all_goals refine kS ?_
   all_goals first | refine wkB (kLo (kE.raw.below au.out E) (kE.raw.below ar E)) (fun wS1 E=>?_) | refine kS ?_
   all_goals refine kS ?_
   all_goals (have F:=True.intro;first|(refine yT (fun b F=>?_);cases b;all_goals first | exact Bool.noConfusion F | simp only [zU,zV] at F | skip) | refine kS ?_)
   all_goals refine kX ?_
   all_goals refine kZ ?_
   all_goals have G:=D.trans (Below.mono E D.size)
   all_goals first
     | (have U:=yD (HB.out (show _=false by simp only [kDc,Bool.not_true,Bool.not_false,Bool.and_true,Bool.true_and,Bool.and_false,Bool.false_and,Bool.or_true,Bool.true_or,Bool.or_false,Bool.false_or,Bool.not_not,ge_iff_le,af,V,X,F]));clear HB HX HN au;go_wp2;go_ret;exact ⟨kR U.out.symm,G⟩)
     | (have U:=yD (HX.out (show _=true by simp only [kDc,Bool.not_true,Bool.not_false,Bool.and_true,Bool.true_and,Bool.and_false,Bool.false_and,Bool.or_true,Bool.true_or,Bool.or_false,Bool.false_or,Bool.not_not,ge_iff_le,af,V,X,F]));clear HB HX HN au;go_wp2;go_roundw;(case rel=>exact ⟨k + 1,by omega,by go_num,U,G⟩);(case measure=>simp [intOf];omega))
 have U:=yD (kMz HN.out hlt hk)
 exact oD
theorem kNv {w:World} {vl:Value} {l:List jL} (hl:(kE.slice 102 jT).raw w [vl] l) :
    Calls prog 19 #[vl] w (bQ w (.bool (kAz l))):=by
 obtain ⟨al,pl,rfl,ll⟩:=kE.sl hl
 have ak:=kE.kCq hl
 go_enter func19,ntmps19
 go_wp2
 go_loopw [7] (fun i wr=>∃ k:Nat,k≤l.length∧i=.int .i64 k∧Hid (yX (fun j=>kDc l j (l.getD j ([],0,0))) k=true)∧Below w.heap.size w wr) (fun i _=>l.length - (intOf i).toNat)
 case atStart=>exact ⟨0,Nat.zero_le _,rfl,yD rfl,bR⟩
 obtain ⟨k,hk,rfl,HN,D⟩:=hrel
 by_cases hlt:k < l.length
 · obtain ⟨qb,qo,rfl,ah,ai,aj,qr,a1,a4,bb⟩:=kE.kDv (hl.below D) (i:=k) bB9 rfl
   have au:=yD (kE.kCc (hl.below D) hk)
   have hb:=fun q=>kPw hlt q
   have hx:=fun q=>kMy hlt q HN.out
   generalize l[k]=x at *
   have HB:=yD hb;have HX:=yD hx;clear hb hx
   obtain ⟨x0,x1,x2⟩:=x
   obtain ⟨bq,aq,ar,ax,ap,bc⟩:=kAy qr
   simp only [List.cons.injEq,and_true] at aq
   obtain ⟨rfl,rfl,rfl⟩:=aq
   obtain ⟨ae,be,rfl,az⟩:=kE.sl ax
   obtain ⟨a8,di,a7,a2⟩:=qJ
   go_upto_region 4 with fail
   generalize F:World.alloc wr _=R
   have EC:Below wr.heap.size wr R:=rX
   obtain ⟨M0,M1,M2⟩:=r9
   clear F
   have FX:=yD (fun (W:World) (hW:Below R.heap.size R W)=>kMs hW M0 M1 M2)
   refine kW (fun W=>Below R.heap.size R W) [true,true,false,true,true,true,true,false,true,true,true,true,true,false,true,true,true,true,true,true,true,true,true,true,false,true,true] bB4 bB4 qD (bR.drew) ?_
   intro wS E
   all_goals refine kS ?_
   all_goals refine kS ?_
   all_goals first | refine wkB (zX (kE.raw.below ar (tQ EC E))) (fun wS1 E=>?_) | refine kS ?_
   all_goals refine kS ?_
   all_goals (have O:=True.intro;first|(refine yT (fun b O=>?_);cases b;all_goals first | exact Bool.noConfusion O | simp only [zU,zV] at O | skip) | refine kS ?_)
   all_goals refine kX ?_
   all_goals refine kS ?_
   all_goals refine kS ?_
   all_goals first | refine wkC (jh) ?_ | refine kS ?_
   all_goals refine kS ?_
   all_goals refine kS ?_
   all_goals (have J:=True.intro;first|(refine yT (fun b J=>?_);cases b;all_goals first | exact Bool.noConfusion J | simp only [zU,zV] at J | skip) | refine kS ?_)
   all_goals refine kX ?_
   all_goals refine kS ?_
   all_goals refine kS ?_
   all_goals first | refine wkC (jh) ?_ | refine kS ?_
   all_goals refine kS ?_
   all_goals refine kS ?_
   all_goals (have V:=True.intro;first|(refine yT (fun b V=>?_);cases b;all_goals first | exact Bool.noConfusion V | simp only [zU,zV] at V | skip) | refine kS ?_)
   all_goals refine kX ?_
   iterate 7
    all_goals refine kS ?_
   all_goals first | refine wkB (kUj (kE.raw.below au.out (tQ EC E)) (kE.raw.below ar (tQ EC E))) (fun wS1 E=>?_) | refine kS ?_
   all_goals refine kS ?_
   all_goals (have I:=True.intro;first|(refine yT (fun b I=>?_);cases b;all_goals first | exact Bool.noConfusion I | simp only [zU,zV] at I | skip) | refine kS ?_)
   all_goals refine kX ?_
   all_goals refine kZ ?_
   all_goals have G:=D.trans (Below.mono (tQ EC E) D.size)
   all_goals first
     | (have U:=yD (HB.out (show _=false by simp only [kDc,Bool.not_true,Bool.not_false,Bool.and_true,Bool.true_and,Bool.and_false,Bool.false_and,Bool.or_true,Bool.true_or,Bool.or_false,Bool.false_or,Bool.not_not,ge_iff_le,O,J,V,I]));clear HB HX HN au;go_wp2;go_ret;exact ⟨kR U.out.symm,G⟩)
     | (have U:=yD (HX.out (show _=true by simp only [kDc,Bool.not_true,Bool.not_false,Bool.and_true,Bool.true_and,Bool.and_false,Bool.false_and,Bool.or_true,Bool.true_or,Bool.or_false,Bool.false_or,Bool.not_not,ge_iff_le,O,J,V,I]));clear HB HX HN au;go_wp2;go_roundw;(case rel=>exact ⟨k + 1,by omega,by go_num,U,G⟩);(case measure=>simp [intOf];omega))
 have U:=yD (kMz HN.out hlt hk)
 exact oD
end Go.Proofs.YtonmjkmaadgceaaGreat

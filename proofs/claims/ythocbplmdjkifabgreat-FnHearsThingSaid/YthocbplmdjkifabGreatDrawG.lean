/-
  What goes out, drawn.
-/
import Derived.Test.YthocbplmdjkifabGreatMatch
import Derived.Test.YthocbplmdjkifabGreatExp
import Derived.Test.YthocbplmdjkifabGreatDrawC
set_option linter.unusedVariables false
set_option linter.defProp false
set_option linter.unusedSimpArgs false
set_option linter.unnecessarySimpa false
set_option maxRecDepth 100000
set_option maxHeartbeats 8000000
open Bool renaming true->Tt,false->Ff
open List renaming length_filter_le->Aa,take_succ_eq_append_getElem->Ah,take_of_length_le->Ai,eq_nil_of_length_eq_zero->Ak,foldl_append->Ap,take_length->Aq
open _root_ renaming List->Ab
open Go renaming World->Ac,Value->Ae,Calls->Al
open Bool renaming noConfusion->Ad
open Int renaming natCast_nonneg->Ag
open Option.some renaming injEq->Aj
open Go.Addr.mk renaming injEq->Am
open Go.RowKit renaming intOf->Ar
namespace Go.Proofs.YthocbplmdjkifabGreat
open Go.RowKit _root_.Go.Proofs.Tryz
variable {w w0:Ac} {n:kU} {S:Nat->Prop} {x:ja} {ex now:Int} {l:Ab jH} {cn cx cr:Ab Ae} {v vl:Ae} {α:Type} {r y:jH} {B:Nat}
namespace kD
def kHj (r:kD α) (w0:Ac):kD α where
  n:=r.n
  is _ _ cs x _:=r.is false w0 cs x (λ_=>True)
  bdd:=r.bdd
  zero:=r.zero
  zc:=r.zc
  mark:=r.mark
  held:=r.held
  cnt:=r.cnt
  len h:=r.len h
  one h:=r.one h
  mono h _:=h
  wide h _:=h
  weak h:=h
  live h:=h
  bdd_mono:=r.bdd_mono
  bdd_zero:=r.bdd_zero
  is_zero:=r.is_zero
  mark_held:=r.mark_held
  held_ge:=r.held_ge
  mark_ge:=r.mark_ge
  mark_le:=r.mark_le
  mark_bdd:=r.mark_bdd
def isFlat_asIn {r:kD α} :(kD.kHj r w0).kEy:=λh=>h
end kD
def kDk (r:jH):Int:=r.2.2 * 18446744073709551616 + r.2.1
def gtR (y r:jH):Bool:=decide (r.2.2 < y.2.2) || ((y.2.2==r.2.2) && decide (r.2.1 < y.2.1))
def I64 (x:Int):Prop:=Qi x
def gtR_key (hy:I64 y.2.1) (hr:I64 r.2.1):decide (kDk r < kDk y)=gtR y r:=by
 unfold I64 at hy hr;unfold gtR kDk;rw [Bool.eq_iff_iff];simp only [decide_eq_true_eq,Bool.or_eq_true,Bool.and_eq_true,beq_iff_eq];omega
def orI_key {x:jH} (hx:I64 x.2.1) (hy:I64 y.2.1):decide (orI [kFs x.2.2 y.2.2,kFs x.2.1 y.2.1] < 0)=decide (kDk x < kDk y):=by
 unfold I64 at hx hy;have e:orI [kFs x.2.2 y.2.2,kFs x.2.1 y.2.1]=if kFs x.2.2 y.2.2≠0 then kFs x.2.2 y.2.2 else kFs x.2.1 y.2.1:=by
  by_cases h:kFs x.2.2 y.2.2=0
  · by_cases h2:kFs x.2.1 y.2.1=0
    · rw [orI_miss (by intro j J;match j,J with | 0,_=>exact h | 1,_=>exact h2 | j + 2,J=>simp only [List.length_cons,List.length_nil] at J;omega),if_neg bH8,h2]
    rw [jIk (k:=1) bJ6 (by simpa using h2) (by intro j J a7;match j,J with | 0,_=>exact h),if_neg bH8];rfl
  rw [jIk (k:=0) bJ6 bH8 (by intro j J;omega),if_pos h];rfl
 rw [e,decide_eq_decide];unfold kFs kDk;split <;> split <;> (try split) <;> (try split) <;> omega
def kNs (n:kU) (l:Ab jH) (r:jH):Bool:=eqN r.1 (kAd n l)
def kYm (n:kU) (l:Ab jH):Ab jH:=Srt.sorted kDk (l.filter (kNs n l))
def kFq (l:Ab jH) (n:kU):Ab Int:=if mOk n l then (kYm n l).map (λr=>r.2.1) else []
def hopsF_no {l:List jH} (h:mOk n l=false):kFq l n=[]:=by unfold kFq;rw [h];rfl
def jGu {l:List jH} (h:mOk n l=true):kFq l n=(kYm n l).map (λr=>r.2.1):=by unfold kFq;rw [h];rfl
def jGt:(kYm n l).length<=l.length:=by unfold kYm;rw [kJs];exact Aa _ _
def kMv:(kFq l n).length<=l.length:=by
 unfold kFq;split;rw [List.length_map];exact jGt;exact Nat.zero_le _
def sorted_app {key:α->Int} {l:Ab α} {x:α}:Srt.sorted key (l++[x])=Srt.put key (Srt.sorted key l) x:=by
 unfold Srt.sorted;rw [Ap];rfl
def kZm (hr:jA.raw w cr r) {p:kU} {bl:Ae} {F:Nat} (pr:kQ.raw w [bl] p) (ak:Qc w F 0 bl) :
    Al prog 186 (#[.agg cr.toArray]++#[.pointer (Qa F)]) w (bQ w (.bool (!eqN r.1 p))):=by
 have Hr:=yD hr;obtain ⟨ac,rfl,O,H,aa,E⟩:=kDr hr;obtain ⟨aj,af,rfl,ag⟩:=kD.sl H;have ay:=kEx pr;obtain ⟨bx,bz,rfl,bf⟩:=kD.sl ay;show Al prog 186 #[_,_] w _;go_enter func186,ntmps186;go_upto_region 1 with fail;refine P7 ak λX EB ah J U ak FX=>?_;refine kX (λW=>Qb X W) [Tt,Tt,Tt,Ff,Tt,Tt] bR ?_;refine uB λwS I=>?_;all_goals ((first | refine wkB (yI (kD.raw.below O (tQ EB I)) (kD.raw.below pr (tQ EB I))) (λwS1 I=>?_) | refine kZ ?_);refine kZ ?_;refine jo λb D=>?_;cases b <;> try simp only [jm] at D)
 all_goals (refine kR ?_;have G:=(tQ EB I))
 all_goals (obtain ⟨vq,qv⟩:∃ qc,(!eqN r.1 p)=qc:=⟨_,rfl⟩;have L:=yD qv;simp only [Q0,D] at qv;subst qv;go_wp2;go_ret;exact ⟨kJ L.symm,G⟩)
def kLx:jL prog 186:=yK func186 bI9 bI9
def cmpI_rng (a b:Int):-9223372036854775808<=kFs a b/\kFs a b<=9223372036854775807:=by unfold kFs;split <;> (try split) <;> omega
def kD.row_int2 {a b:Int} (ha:Qi a) (hb:Qi b):kD.row kD.int true w [.int .i64 a,.int .i64 b] [a,b] (λ_=>True) :=
  ⟨[Qn a],[.int .i64 b],λ_=>False,λ_=>False,rfl,⟨rfl,ha⟩,⟨[Qn b],[],λ_=>False,λ_=>False,rfl,⟨rfl,hb⟩,rfl,λ_ h=>h,λ_ h=>h,λ_ _ h=>h.elim⟩,λ_ h=>h.elim,λ_ h=>h.elim,λ_ _ h=>h.elim⟩
def kZl {x:jH} (hx:jA.raw w cx x) {cy:Ab Ae} (hy:jA.raw w cy y) :
    Al prog 188 #[.agg cx.toArray,.agg cy.toArray] w λe w'=>∃ k:Int,e=.returned (.int .i64 k)/\decide (k < 0)=decide (kDk x < kDk y)/\Qb w w':=by
 have Hx:=yD hx;obtain ⟨ay,rfl,Y,O,ag,am⟩:=kDr hx;obtain ⟨az,ar,rfl,aq⟩:=kD.sl O;have Hy:=yD hy;obtain ⟨a3,rfl,ae,ai,al,ao⟩:=kDr hy;obtain ⟨aw,av,rfl,a6⟩:=kD.sl ai;have HK:=yD (orI_key (x:=x) (y:=y) ag al);go_enter func188,ntmps188;go_upto_region 1 with fail;refine xL λX EB ah J U F V aj FX=>?_;refine jf (λW=>Qb X W) [(0,true),(1,true),(2,true),(3,true),(5,true),(6,true),(7,true),(8,true),(4,false),(9,false),(10,false),(11,false),(12,true)] bI9 bI9 sD (bR.drew) ?_;refine uN λwS I=>?_;all_goals ((iterate 8 refine kZ ?_);(iterate 2 (first | refine wkC (kVg) ?_ | refine kZ ?_));(first|(refine kI rfl I ?_)|(refine ku rfl (λK E=>?_);go_simp;have H:Ck.rd (World.alloc wS (.cells #[.int .i64 (kFs x.2.2 y.2.2),.int .i64 (kFs x.2.1 y.2.1)] 3)) [.slice (Qa wS) 2 2] [kFs x.2.2 y.2.2,kFs x.2.1 y.2.1]:=((kD.yf (e:=3) (r:=kD.int) (w:=wS) (cs:=[.int .i64 (kFs x.2.2 y.2.2),.int .i64 (kFs x.2.1 y.2.1)]) (xs:=[kFs x.2.2 y.2.2,kFs x.2.1 y.2.1]) (T:=λ_=>True) (S:=λ_=>True) (λ_ _=>trivial) (by show 2<=_;unfold maxLen;omega) (kD.row_int2 (cmpI_rng _ _) (cmpI_rng _ _)) (λ_ h=>h) trivial).own (by show 2<=_;unfold Big;omega)).rd;have R:Below wS wS (World.alloc wS (.cells #[.int .i64 (kFs x.2.2 y.2.2),.int .i64 (kFs x.2.1 y.2.1)] 3)):=bR.alloc nL _;generalize aa:World.alloc wS (.cells #[.int .i64 (kFs x.2.2 y.2.2),.int .i64 (kFs x.2.1 y.2.1)] 3)=wN at H R ⊢;clear aa;replace I:=(tQ I R);refine E _ _ I ?_;clear E K R));refine jD ?_;(first | refine wkC (cmpOr_c H.1) ?_ | refine kZ ?_);refine kZ ?_;refine kR ?_)
 have G:=(tQ EB I);go_wp2;go_ret;exact ⟨_,rfl,by simpa using HK.out,G⟩
def kTd:jL prog 188:=yK func188 bI9 bI9
def jDj (hl:Ch.rd w [vl] l) (hn:kQ.rd w cn n) (L:l.length<=19) :
    Al prog 125 #[vl,.agg cn.toArray] w (kAo 3 kD.int (kFq l n) w):=by
 refine SL λHL HN bm=>?_;obtain ⟨nv,rfl,ab⟩:=kT hn.1;obtain ⟨na,np,rfl,_,la,lp,rfl,_⟩:=kD.sx ab (kD.sl hl.1);clear ab hl hn;go_enter func125,ntmps125;go_wp2_with fail;refine MJ λX U EB=>?_;have Y:Qd X w 0 (Qs na n np):=bA9;clear U;refine (kBl (HL.below EB) (HN.below EB)).mono ?_;refine NP λw1 O bx bz OP HP E1=>?_;have a4:=E1.size;clear OP O EB Y;have ax:=yD (hopsF_no (l:=l) (n:=n));have av:=yD (jGu (l:=l) (n:=n));cases bu:mOk n l
 · have HE:=yD (ax.out bu);go_wp2;go_ret;exact ⟨_,rfl,by rw [HE.out];exact kD.ko.void,E1.trans (Below.mono bK E1.size)⟩
 have HE:=yD (av.out bu);clear ax av;go_wp2_with fail;generalize R:World.alloc w1 _=wC;have ag:Qb w1 wC:=vT;have KP:Qd wC w1 0 (.slice bx (kAd n l).length bz):=bB0;clear R;have EC:=(tQ E1 ag);have a9:=ag.size;refine (kMp (HL.below EC)).mono ?_;refine eD λw2 v2 O2 V=>?_;refine aH O2 λoa on oc ho ak=>?_;obtain rfl:=ho;refine aN O2 V λF af=>?_;have am:=V.size;have E2:=(tQ EC V);clear O2 V;go_wp2_with fail;have al:Hid (∀ wr,Touch (jW wC w2) w2 wr->∀ x cs,jA.raw wr cs x->Al prog 186 (#[.agg cs.toArray]++#[.pointer (Qa w1)]) wr (λe w'=>e=.returned (.bool (!eqN x.1 (kAd n l)))/\Qb wr w')):=yD (λwr I x cs hx=>by
   have e:=af.trans (I.below af.size (λi hi=>hi.1));exact kZm hx (kD.raw.below HP.1 (tQ ag e)) (cL e KP))
 refine (kTm (λr=>!eqN r.1 (kAd n l)) kLx F.out bm al.out).mono ?_;refine eD λw3 v3 O3 T3=>?_;refine aH O3 λda G dc hd h9=>?_;obtain rfl:=hd;have ap:=yD (O3.cast (show _=l.filter (kNs n l) by congr 1;funext r;simp [kNs]));have bq:=T3.size;have E3:=E2.trans (T3.below bJ5 wR);clear O3 T3 F al KP;go_wp2_with fail;have HC:Hid (kXn kDk 188 #[] (jW wC w2) w3):=yD (λwr I x y cs ds hx hy=>by simpa using kZl hx hy);refine (kTj kDk kTd HC.out ap.out (by have:=Aa (kNs n l) l;omega)).mono ?_;rintro e w4 ⟨rfl,O4,T4⟩;have aq:=yD (show kD.ko 139 jA w4 _ (kYm n l) _ from O4);have cd:=T4.size;have E4:=E3.trans (T4.below bJ5 wR);have W:=jGt (l:=l) (n:=n);clear O4 T4 ap HC E3 E2;have b5:Hid (G=(kYm n l).length):=yD (by have:=aq.zK;obtain ⟨a,c,h⟩:=this;simp only [Value.slice.injEq] at h;exact h.2.1);generalize kYm n l=H at *;obtain ⟨FS,a7⟩:∃ FS:Ab Int,FS=H.map (λr=>r.2.1):=⟨_,rfl⟩;have E:=yD a7;clear a7;have ba:G<=16777216:=by have:=b5.out;omega
 go_wp2;go_loopw [8,28] (λv i wr=>∃ (k:Nat),k<=G/\i=.int .i64 k/\Hid (kD.ko 3 kD.int wr v (FS.take k) (jW w4 wr))/\Qb w4 wr) (λ_ i _=>G - (Ar i).toNat);case atStart=>exact ⟨0,Nat.zero_le _,rfl,yD kD.ko.void,bK⟩
 obtain ⟨k,hk,rfl,HI,D⟩:=hrel;refine aH HI λia a8 ic hi co=>?_;obtain rfl:=hi;have bo:=D.size;by_cases hlt:k < G
 · have Z:k < H.length:=by have:=b5.out;omega
   have hil:a8<=16777216:=vC;obtain ⟨qb,qo,rfl,ah,aj,ao,qr,A0,A1,A2⟩:=kD.zx (aq.kMm.below D) Z rfl;have ch:=yD (show FS.take (k + 1)=FS.take k++[H[k].2.1] by (have hl:k < FS.length:=by rw [E.out];simpa using Z);rw [Ah hl];simp [E.out]);generalize H[k]=x at *;obtain ⟨rfl,rfl,au,az,aw,bi⟩:=yS qr;obtain ⟨ai,a6,rfl,bb⟩:=kD.sl az;have N:=aw;go_upto_region 10 with fail;generalize bf:World.alloc wr _=wD;have ED:Qb wr wD:=vS;have D1:Qd wD wr 1 (Qn x.2.1):=bA8;clear bf;have b0:=ED.size;have ac:=(tQ D ED);replace HI:=yD (HI.below ED);have bd:(FS.take k).length<=16777216:=bE4;go_wp2_with (at_builtin;refine kD.jN rfl _ _ 63 rfl (r:=kD.int) (e:=3) underlying63 zk rfl bJ4 bJ4 (B:=w4.heap.size) HI.out bJ7 bJ7 rfl (kD.jB N _) rfl (λ_ _ h=>h) vD (λ_ h=>h.elim) bJ5 bJ5 ?_);intro v5 w5 hown a1 bw;have ar:=yD (kD.ko.cast hown ch.symm);have bv:=ac.trans a1;clear hown a1;exact iI ar bv
 obtain rfl:k=G:=bJ5;have HF:=yD (HI.cast (show _=kFq l n by rw [HE.out,<- E.out,Ai (by rw [E.out];simp;have:=b5.out;omega)]));have b4:¬ (k:Int) < k:=bJ5;go_wp2;go_ret;exact ⟨_,rfl,HF.wide vE,(tQ E4 D)⟩
def jd {xs ys:Ab jH} {av:Option Addr} {len cap:Nat} (hown:kD.ko 139 (kD.kHj jA w0) w v xs S) (hy:(kD.slice 139 (kD.kHj jA w0)).rd w [.slice av len cap] ys) (hSB:∀ k,S k->B<=k/\k < w.heap.size) (hB:B<=w.heap.size) (hlen:xs.length + ys.length<=1000000000) :
    ∃ v' w',(Builtin.append_ #[30,30] 30 #[v,.slice av len cap]).run prog w=.ok v' w'/\kD.ko 139 (kD.kHj jA w0) w' v' (xs++ys) (jW B w')/\Below B w w'/\w.heap.size<=w'.heap.size :=
  kD.kQk (r:=(kD.kHj jA w0)) underlying30 kIk rfl (show 0 < 3 by omega) bJ4 kD.isFlat_asIn hown hy hSB hB hlen
def kBt {cs:Ab Ae} {x:jH} (hx:kD.is (kD.kHj jA w0) true w cs x (λ_=>True)) (hb:kD.bdd (kD.kHj jA w0) Big x) :
    (kD.slice 139 (kD.kHj jA w0)).rd (World.alloc w (.cells cs.toArray 139)) [.slice (Qa w) 1 1] [x] :=
  ((kD.yf (e:=139) (r:=(kD.kHj jA w0)) (w:=w) (cs:=cs) (xs:=[x]) (T:=λ_=>True) (S:=λ_=>True) nT vX (kD.kGc hx) (λ_ h=>h) trivial).own wW).rd
def jHw (hl:kD.ko 139 (kD.kHj jA w0) w vl l S) (hr:jA.rd w0 cr r) (hlen:l.length < 16777216) :
    Al prog 199 #[vl,.agg cr.toArray] w (kAo 139 (kD.kHj jA w0) (Srt.put kDk l r) w):=by
 have HR:=yD hr;obtain ⟨la,lp,bz⟩:=hl.zK;obtain rfl:=bz;have HL:=yD ((hl.own bE7).rd);have V:=yD (kD.kWk hl);have ae:=kD.kBx HL.1;obtain ⟨b0,rfl,ay,ap,bb,bt⟩:=kDr hr.1;obtain ⟨ra,rp,rfl,_⟩:=kD.sl ap;have bq:=yD bb;clear hl hr ay ap bt bb;go_enter func199,ntmps199;go_wp2;refine oM λX EB N=>?_;obtain ⟨Y,K1,K2⟩:=kBc N;clear N;have U:=yD (HL.below EB);have cc:=EB.size;go_loopw [5] (λq wr=>∃ (k:Nat),k<=l.length/\q=.int .i64 k/\Hid (Srt.place kDk k l r=Srt.place kDk l.length l r)/\Qb X wr) (λq _=>(Ar q).toNat);case atStart=>exact ⟨l.length,Nat.le_refl _,rfl,yD rfl,bR⟩
 obtain ⟨k,bp,rfl,HP,D⟩:=hrel;refine aJ D Y K1 K2 λY K1 K2=>?_;have dt:=Ag k;have ak:(k:Int)<=lp:=bJ5;have bu:k<=lp:=bJ5;by_cases hk:0 < k
 · obtain ⟨j,J⟩:∃ j,j + 1=k:=⟨k - 1,by omega⟩;have dc:(k:Int) - 1=(j:Int):=bJ5;have bx:IntKind.i64.wrap (j:Int)=j:=IntWalk.i64_in _ bJ5;have dh:=Ag j;have aq:j < l.length:=bJ5;have br:(j:Int) < l.length:=bJ5;have hp:decide ((k:Int) > 0)=true:=bJ0;have bw:decide (0 < k)=true:=bG3;have bv:(0:Int) < k:=bJ5;obtain ⟨qb,qo,rfl,ah,aj,ao,qr,A0,A1,A2⟩:=kD.zx (U.1.below D) aq rfl;have HY:=yD (λq=>(jCc (key:=kDk) (x:=r) J aq q).symm.trans HP.out);have ax:=yD (λq=>(jCa (key:=kDk) (x:=r) J aq q).symm.trans HP.out);generalize l[j]=y at *;obtain ⟨rfl,rfl,au,az,aw,bi⟩:=yS (show jA.raw w0 _ y from qr);have HG:=yD (gtR_key (y:=y) (r:=r) aw bq.out);clear au az aw bi qr;go_upto_region 2 with fail;go_cut [42] from 8 to 42 (λam wc=>am=.bool (gtR y r)/\Qb wr wc);case first =>
    refine xS A1 A2 K1 K2 λFX=>?_;refine kN (λW=>Qb wr W) [Tt,Tt,Tt,Tt,Tt,Tt,Tt,Tt,Tt,Tt,Tt,Tt,Tt,Tt,Tt,Tt,Tt,Tt,Tt,Tt,Tt,Tt,Tt,Tt,Tt,Tt,Tt,Tt,Tt,Tt,Tt,Tt,Tt,Tt,Tt] bI9 bI9 sD (bR.drew) ?_;intro wS I;all_goals (refine kZ ?_;refine kZ ?_;refine jo λb ai=>?_;cases b <;> try simp only [jm] at ai)
    all_goals ((iterate 9 refine kZ ?_);refine jo λb ab=>?_;cases b <;> try simp only [jm] at ab)
    all_goals ((iterate 9 refine kZ ?_);refine jo λb bm=>?_;cases b <;> try simp only [jm] at bm)
    all_goals ((iterate 11 refine kZ ?_);refine jo λb F=>?_;cases b <;> try simp only [jm] at F)
    all_goals refine kR ?_
    all_goals (cases hv:gtR y r)
    all_goals first|(exfalso;simp only [gtR,Q0,ai,ab,bm,F] at hv;exact Ad hv)|(have HV:=yD hv;clear hv;go_wp2;go_meet;(case rel=>exact ⟨by rw [HV.out],I⟩))
   obtain ⟨rfl,I⟩:=hcut;have af:=(tQ D I);cases bo:gtR y r
   · have bc:=yD (ax.out (HG.trans bo));clear HY ax HG;have ac:=yD (jIi (show k=_ from bc.out));refine aL I Y K1 λY K1=>?_;replace K2:=cL I K2;generalize wc=wq at *;clear I;have a8:=yD (U.below af);have ag:=yD (kD.kTu a8.out (k:=k) bp);have bj:=af.size;go_upto_region 4 with fail;by_cases bl:k < lp
     · have bk:¬ lp=k:=bJ5;rcases V.out with ⟨h1,h2⟩|⟨b,hb⟩;exact absurd bl bJ5;first | subst hb|(simp only [Aj,Am,and_true] at hb;obtain ⟨rfl,rfl⟩:=hb)
       refine CV λdm FX wS I=>?_;refine jg (i:=0) (j:=6) rfl rfl bI9 rfl rfl (λK E=>?_) (λK E=>?_)
       · refine uI λbg t0 R I=>?_;clear E K R;refine jD ?_;refine jg (i:=4) (j:=6) rfl rfl bI9 rfl rfl (λK E=>?_) (λK E=>?_)
         · refine lL λbf t1 O bh a1 n1 c1 a5 hr HV I=>?_;clear E K hr O;refine iB λt2 H bd HV I=>?_;refine SE λK E v2 t3 hr L O a7=>?_;refine RA L λa2 n2 c2 a9 a6=>?_;obtain rfl:=a9;refine U7 λI HV=>?_;clear H L;clear E K hr O;refine RQ λK E=>?_;refine UA λv3 t4 hr L O a4=>?_;refine RA L λa3 n3 c3 ar ba=>?_;obtain rfl:=ar;exact RF
         refine iN λbf t1 H R I=>?_;clear E K R;refine iU λbe t2 bd a1 n1 c1 a5 HV H I=>?_;refine jD ?_;exact TN
       refine RO λbg t0 H R=>?_;refine LG R λI=>?_;clear E K R;refine iE λt1 H I K E be=>?_;refine UC λv1 t2 hr HV O bd=>?_;refine LD HV λa1 n1 c1 an a5=>?_;obtain rfl:=an;refine SK H O λH I=>?_;clear E K hr O;exact QN
     have bk:lp=k:=bJ5;subst bk;obtain ⟨dm,FX⟩:=WB;refine TB λwS I=>?_;refine kP 8 ?_;refine kP 9 ?_;refine kP 10 ?_;refine jg (i:=0) (j:=6) rfl rfl bI9 rfl rfl (λK E=>?_) (λK E=>?_)
     · refine uI λbg t0 R I=>?_;clear E K R;refine jD ?_;refine jg (i:=4) (j:=6) rfl rfl bI9 rfl rfl (λK E=>?_) (λK E=>?_)
       · refine lL λbf t1 O bh a1 n1 c1 a5 hr HV I=>?_;clear E K hr O;refine iB λt2 H bd HV I=>?_;refine bG λt3 a7 a2 n2 c2 a6 I HV K E=>?_;clear H;obtain ⟨v3,t4,hr,L,O,a4⟩:=jd (B:=wq.heap.size) HV ((dm _).out.below I) vD I.size bJ0;refine LX ?_;exact aZ
       refine iN λbf t1 H R I=>?_;clear E K R;refine iU λbe t2 bd a1 n1 c1 a5 HV H I=>?_;exact QJ
     refine iM λbg t0 H R I=>?_;clear E K R;refine jD ?_;refine kK (k:=0) rfl bI9 rfl (λK E=>?_);go_simp;refine jZ ?_;intro t1 R _ _;refine SH R λH I=>?_;clear R;refine S9 λK E=>?_;have be:=I.size;refine RY λv1 t2 hr HV O bd=>?_;refine aM HV λa1 n1 c1 an a5=>?_;obtain rfl:=an;refine SH O λH I=>?_;clear hr O;refine jD ?_;refine SE λK E v2 t3 hr L O a7=>?_;refine aM L λa2 n2 c2 a9 a6=>?_;obtain rfl:=a9;refine U6 λI G HV=>?_;clear L G;refine E _ _ I ?_;clear hr O;refine RQ λK E=>?_;exact TV
   have ge:=yD (HY.out (HG.trans bo));clear HY ax HG bo;refine Qg ?_;exact ⟨j,by omega,rfl,ge,af⟩
 have bn:k=0:=bJ5;have hp:decide ((k:Int) > 0)=false:=bJ0;have bv:¬ (0:Int) < k:=bJ5;have bc:Hid (k=Srt.place kDk l.length l r):=yD (by rw [<- HP.out,bn];rfl);clear bn;go_upto_region 2 with fail;refine kN (λW=>Qb wr W) [Tt,Tt,Tt,Tt,Tt,Tt,Tt,Tt,Tt,Tt,Tt,Tt,Tt,Tt,Tt,Tt,Tt,Tt,Tt,Tt,Tt,Tt,Tt,Tt,Tt,Tt,Tt,Tt,Tt,Tt,Tt,Tt,Tt,Tt,Tt] bI9 bI9 sD (bR.drew) ?_;intro wS I;all_goals (refine kZ ?_;refine kZ ?_;refine jo λb ai=>?_;cases b <;> try simp only [jm] at ai)
 all_goals ((iterate 9 refine kZ ?_);refine jo λb ab=>?_;cases b <;> try simp only [jm] at ab)
 all_goals ((iterate 9 refine kZ ?_);refine jo λb bm=>?_;cases b <;> try simp only [jm] at bm)
 all_goals ((iterate 11 refine kZ ?_);refine jo λb F=>?_;cases b <;> try simp only [jm] at F)
 all_goals (refine kR ?_;have af:=(tQ D I))
 have ac:=yD (jIi (show k=_ from bc.out));refine aJ I Y K1 K2 λY K1 K2=>?_;generalize wS=wq at *;clear I;have a8:=yD (U.below af);have ag:=yD (kD.kTu a8.out (k:=k) bp);have bj:=af.size;go_upto_region 4 with fail;by_cases bl:k < lp
 · have bk:¬ lp=k:=bJ5;rcases V.out with ⟨h1,h2⟩|⟨b,hb⟩;exact absurd bl bJ5;first | subst hb|(simp only [Aj,Am,and_true] at hb;obtain ⟨rfl,rfl⟩:=hb)
   refine CV λdm FX wS I=>?_;refine jg (i:=0) (j:=6) rfl rfl bI9 rfl rfl (λK E=>?_) (λK E=>?_)
   · refine uI λbg t0 R I=>?_;clear E K R;refine jD ?_;refine jg (i:=4) (j:=6) rfl rfl bI9 rfl rfl (λK E=>?_) (λK E=>?_)
     · refine lL λbf t1 O bh a1 n1 c1 a5 hr HV I=>?_;clear E K hr O;refine iB λt2 H bd HV I=>?_;exact TN
     refine iN λbf t1 H R I=>?_;clear E K R;refine iU λbe t2 bd a1 n1 c1 a5 HV H I=>?_;exact QN
   refine iM λbg t0 H R I=>?_;clear E K R;refine jD ?_;refine kK (k:=0) rfl bI9 rfl (λK E=>?_);go_simp;refine jZ ?_;intro t1 R _ _;refine SH R λH I=>?_;clear R;refine S9 λK E=>?_;have be:=I.size;refine RY λv1 t2 hr HV O bd=>?_;refine aM HV λa1 n1 c1 an a5=>?_;obtain rfl:=an;refine SH O λH I=>?_;clear hr O;refine jD ?_;refine SE λK E v2 t3 hr L O a7=>?_;refine aM L λa2 n2 c2 a9 a6=>?_;obtain rfl:=a9;refine U6 λI G HV=>?_;clear L G;refine E _ _ I ?_;clear hr O;refine RQ λK E=>?_;refine UA λv3 t4 hr L O a4=>?_;refine aM L λa3 n3 c3 ar ba=>?_;obtain rfl:=ar;exact LC
 have bk:lp=k:=bJ5;subst bk;obtain ⟨dm,FX⟩:=WB;refine N8 λwS I=>?_;refine kP 8 ?_;refine kP 9 ?_;refine kP 10 ?_;refine jg (i:=0) (j:=6) rfl rfl bI9 rfl rfl (λK E=>?_) (λK E=>?_)
 · refine uI λbg t0 R I=>?_;clear E K R;refine jD ?_;refine jg (i:=4) (j:=6) rfl rfl bI9 rfl rfl (λK E=>?_) (λK E=>?_)
   · refine lL λbf t1 O bh a1 n1 c1 a5 hr HV I=>?_;clear E K hr O;refine jD ?_;refine uL λK E=>?_;refine NK λt2 H bd R HV=>?_;refine LG R λI=>?_;clear E K R;exact QJ
   refine iN λbf t1 H R I=>?_;clear E K R;refine S9 λK E=>?_;have be:=I.size;refine QD λv1 t2 hr HV O bd=>?_;refine aM HV λa1 n1 c1 an a5=>?_;obtain rfl:=an;refine SH O λH I=>?_;clear E K hr O;refine jD ?_;refine SE λK E v2 t3 hr L O a7=>?_;refine aM L λa2 n2 c2 a9 a6=>?_;obtain rfl:=a9;refine U7 λI HV=>?_;clear H L;clear E K hr O;refine RQ λK E=>?_;exact TV
 refine LZ λbg t0 H R=>?_;refine bE R λI=>?_;clear E K R;refine ND λK E t1 R=>?_;refine aV H R λH I=>?_;clear E K R;refine MS λK E be=>?_;refine RY λv1 t2 hr HV O bd=>?_;refine eU ?_;refine aH HV λa1 n1 c1 an a5=>?_;obtain rfl:=an;refine aV H O λH I=>?_;clear E K hr O;refine jD ?_;refine MQ λK E v2 t3 hr L O a7=>?_;refine eU ?_;refine aH L λa2 n2 c2 a9 a6=>?_;obtain rfl:=a9;refine U6 λI G HV=>?_;clear L G H;refine E _ _ I ?_;clear E K hr O;refine MN λK E=>?_;obtain ⟨v3,t4,hr,L,O,a4⟩:=jd (B:=wq.heap.size) HV ((dm _).out.below I) vD I.size bJ0;refine eU ?_;refine aH L λa3 n3 c3 ar ba=>?_;exact LA
def jBn (hl:Ch.rd w [vl] l) (hn:kQ.rd w cn n) :
    Al prog 133 #[vl,.agg cn.toArray] w (kAj Ck (kFq l n) w):=by
 refine SL λHL HN bm=>?_;obtain ⟨nv,rfl,ab⟩:=kT hn.1;obtain ⟨na,np,rfl,_,la,lp,rfl,_⟩:=kD.sx ab (kD.sl hl.1);clear ab hl hn;go_enter func133,ntmps133;go_wp2_with fail;refine MJ λX U EB=>?_;have Y:Qd X w 0 (Qs na n np):=bA9;clear U;refine (kBi (HL.below EB) (HN.below EB)).mono ?_;refine NP λw1 O bx bz OP HP E1=>?_;clear OP O EB Y;have ax:=yD (hopsF_no (l:=l) (n:=n));have av:=yD (jGu (l:=l) (n:=n));have am:Hid (kYm n l=Srt.sorted kDk (l.filter (kNs n l))):=yD rfl;generalize bu:mOk n l=ok at *;have bg:=yD bu;clear bu;go_wp2;generalize R:World.alloc (World.alloc w1 _) _=wC;have ag:Qb w1 wC:=by rw [<- R];exact bK
 have KP:Qd wC w1 0 (.slice bx (kAd n l).length bz):=bB0;clear R;have EC:=(tQ E1 ag);go_loopw [7,8] (λv i wr=>∃ (k:Nat),k<=l.length/\i=.int .i64 k/\(ok=false->k=0)/\Hid (kD.ko 139 (kD.kHj jA w) wr v (Srt.sorted kDk ((l.take k).filter (kNs n l))) (jW w wr))/\Qb wC wr) (λ_ i _=>l.length - (Ar i).toNat);case atStart=>exact ⟨0,Nat.zero_le _,rfl,λ_=>rfl,yD kD.ko.void,bR⟩
 obtain ⟨k,hk,rfl,dt,F,D⟩:=hrel;refine aH F λoa on oc ho ak=>?_;obtain rfl:=ho;have b0:=yD dt;clear dt;have bo:=D.size;replace KP:=cL D KP;have G:=(tQ EC D);have b4:=Ag k;by_cases hlt:k < l.length
 · cases ok
   · have ce:(k:Int) < l.length:=bJ5;have al:Hid (kFq l n=(Srt.sorted kDk ((l.take k).filter (kNs n l))).map (λr=>r.2.1)):=yD (by rw [ax.out rfl,b0.out rfl];rfl);have ac:(Srt.sorted kDk ((l.take k).filter (kNs n l))).length<=16777216:=mM;generalize Srt.sorted kDk ((l.take k).filter (kNs n l))=H at *;obtain ⟨FS,a7⟩:∃ FS:Ab Int,FS=H.map (λr=>r.2.1):=⟨_,rfl⟩;have E:=yD a7;clear a7;have ba:on<=16777216:=bD3;clear ac am ax av bg b0;obtain ⟨wz,ap⟩:∃ wz,wz=wr:=⟨_,rfl⟩;subst ap;go_wp2;go_loopw [9,10] (λv i wx=>∃ (j:Nat),j<=on/\i=.int .i64 j/\Hid (kD.ko 3 kD.int wx v (FS.take j) (jW wz wx))/\Qb wz wx) (λ_ i _=>on - (Ar i).toNat);case atStart=>exact ⟨0,Nat.zero_le _,rfl,yD kD.ko.void,bK⟩
     obtain ⟨j,J,rfl,HI,V⟩:=hrel;obtain ⟨ia,a8,ic,hi,co⟩:=HI.parts;exact V5
   have ce:(k:Int) < l.length:=bJ5;have br:=λq=>kDp (p:=kNs n l) hlt q;have bn:=λq=>kCh (p:=kNs n l) hlt q;obtain ⟨qb,qo,rfl,ah,aj,ao,qr,a2,a4,a5⟩:=kD.zx (HL.1.below G) hlt rfl;have a3:=kD.zL HL.out hlt;have bh:Hid (jA.rd w [ah,aj,ao] l[k]):=yD (by
     obtain ⟨b2,o2,V,c0,c1,c2,h,h0,h1,h2⟩:=kD.zx HL.1 hlt rfl;simp only [Aj,Am,and_true] at V;obtain ⟨rfl,rfl⟩:=V;have e0:=(cL G h0).symm.trans a2;have e1:=(cL G h1).symm.trans a4;have e2:=(cL G h2).symm.trans a5;simp only [Aj] at e0 e1 e2;subst e0 e1 e2;exact ⟨h,a3⟩)
   generalize l[k]=x at *;refine aN br bn λan aa=>?_;clear br bn a3;obtain ⟨rfl,rfl,au,az,aw,bi⟩:=yS qr;obtain ⟨ai,a6,rfl,bb⟩:=kD.sl az;go_upto_region 6 with fail;refine xS a2 a4 a5 KP λFX=>?_;refine q9 λwS I=>?_;all_goals ((first | refine wkB (zb (kD.raw.below au I) (kD.raw.below HP.1 (Below.trans ag ((tQ D I).mono ag.size)))) (λwS1 I=>?_) | refine kZ ?_);refine kR ?_)
   have af:=(tQ D I);have ae:=yD (F.below I);have b6:=I.size;refine aJ I a2 a4 a5 λa2 a4 a5=>?_;generalize wS1=wq at *;clear I;cases hq:eqN x.1 (kAd n l)
   · have L:=yD (aa.out hq);clear an aa;refine Qg ?_;exact ⟨k + 1,by omega,by go_num,(λh=>Ad h),yD ((ae.cast (by rw [L.out])).wide vD),af⟩
   have L:=yD (an.out hq);clear an aa;have hlen:(Srt.sorted kDk ((l.take k).filter (kNs n l))).length < 16777216:=by have h1:=kAe (p:=kNs n l) (l:=l) (k:=k) bJ5;rw [kJs];omega
   go_wp2_with fail;refine (jHw ae.out bh.out hlen).mono ?_;refine eD λw4 v4 O4 N=>?_;have aq:=yD ((O4.cast (show _=Srt.sorted kDk ((l.take (k + 1)).filter (kNs n l)) by rw [L.out,sorted_app])).wide (T:=jW w w4) (λj J=>⟨by have:=J.1;have:=EC.size;omega,J.2⟩));have bv:=(tQ af N);obtain ⟨fa,fn,fc,hf,aa⟩:=aq.parts;obtain rfl:=hf;clear O4 N;refine Qg ?_;exact ⟨k + 1,by omega,by go_num,(λh=>Ad h),aq,bv⟩
 have ce:¬ (k:Int) < l.length:=bJ5;have al:Hid (kFq l n=(Srt.sorted kDk ((l.take k).filter (kNs n l))).map (λr=>r.2.1)):=yD (by
   obtain rfl:k=l.length:=bJ5;rw [Aq];cases ok;rw [ax.out rfl];have h0:=b0.out rfl;rw [Ak h0];rfl
   · rw [av.out rfl,am.out])
 have ac:(Srt.sorted kDk ((l.take k).filter (kNs n l))).length<=16777216:=mM;generalize Srt.sorted kDk ((l.take k).filter (kNs n l))=H at *;obtain ⟨FS,a7⟩:∃ FS:Ab Int,FS=H.map (λr=>r.2.1):=⟨_,rfl⟩;have E:=yD a7;clear a7;have ba:on<=16777216:=bD3;clear ac am ax av bg b0;obtain ⟨wz,ap⟩:∃ wz,wz=wr:=⟨_,rfl⟩;subst ap;go_wp2;go_loopw [9,10] (λv i wx=>∃ (j:Nat),j<=on/\i=.int .i64 j/\Hid (kD.ko 3 kD.int wx v (FS.take j) (jW wz wx))/\Qb wz wx) (λ_ i _=>on - (Ar i).toNat);case atStart=>exact ⟨0,Nat.zero_le _,rfl,yD kD.ko.void,bK⟩
 obtain ⟨j,J,rfl,HI,V⟩:=hrel;refine aH HI λia a8 ic hi co=>?_;exact V5
def kXm {l:Ab Int} {g:FuncId} {cp:Array Ae} (p:Int->Bool) (hg:jL prog g) (hl:kD.ko 3 kD.int w v l S) (hlen:l.length<=16777216)
    (ag:∀ wr,Touch S w wr->∀ x c,kD.int.raw wr [c] x->Al prog g (#[c]++cp) wr (λe w'=>e=.returned (.bool (p x))/\Qb wr w')) :
    Al prog 124 #[v,.func (.func g) #[] cp] w λe w'=>∃ v',e=.returned v'/\kD.ko 3 kD.int w' v' (l.filter (λx=>!p x)) S/\Touch S w w':=by
 have al:=yD ag;clear ag;have F:=yD hl;have N:=yD hg;unfold jL at hg;have HI:Hid (∀ va,v=va->Al prog 184 #[va,.func (.func g) #[] cp] w λe w'=>e=.returned (.int .i64 (idxOf p l))/\Qb w w'):=yD (λva hv=>by
   subst hv;exact kZt p N.out (F.own hlen).raw (λwr hb i h c hr=>al.out wr (Touch.of_below hb) _ c hr))
 rcases kPx p l with ⟨hi,hno⟩|⟨i,hil,hi,hyes,hno⟩
 · refine aH hl λoa on oc ho ak=>?_;obtain rfl:=ho;rw [hi] at HI;have HF:=yD (kPz hno).symm;clear hno hi hl;go_enter func124,ntmps124;exact D9
 obtain ⟨b,cap,rfl,H⟩:=kD.kCz hl hil;refine pM λHI Y b0 eh X a2 a5 bu=>?_;clear H hl F hi hyes hno;go_enter func124,ntmps124;go_wp2_with fail;refine PI λw1 O G1 E1=>?_;clear HI Y;go_wp2;go_loopw [5,6] (λq c wr=>∃ m U:Nat,m<=l.length/\U + 1<=m/\q=.int .i64 U/\c=.int .i64 m/\Hid (U=((l.take m).filter (λy=>!p y)).length)/\Hid (kD.gap 3 kD.int wr b cap l.length ((l.take m).filter (λy=>!p y)) (m - U) (l.drop m) S)/\Hid (Touch S w wr)) (λ_ c _=>l.length - (Ar c).toNat);case atStart =>
  exact EZ
 clear E1 G1 eh b0 O;obtain ⟨m,U,hm,b4,rfl,rfl,I,G,E⟩:=hrel;by_cases hlt:m < l.length
 · refine A9 λhG br bn cs hr ag a3 ac V W ah=>?_;generalize l[m]=x at *;have an:=yD br;have aa:=yD bn;clear br bn hG;rw [<- I.out] at ac V;rw [show U + (m - U)=m by omega] at ac;obtain ⟨c0,rfl⟩:∃ c0,cs=[c0]:=by
    have bq:=kD.int.len hr
    match cs,bq with
    | [c0],_=>exact ⟨_,rfl⟩
   have A0:Qc wr b m c0:=by have:=ac 0 c0 rfl;simpa [show kD.int.n=1 from rfl] using this
   have D:∀ q,q < 1->U * 1 + q < cap * 1:=by intro q hq;omega
   obtain ⟨o0,O0⟩:=Option.isSome_iff_exists.1 (G.cells (i:=U) (by have:=D 0 bJ5;simp only [show kD.int.n=1 from rfl];omega));have Z0:=ah U;have HR:=yD hr;obtain ⟨am,ap⟩:=kD.yX hr;obtain rfl:c0=_:=by simpa using am
   clear am ap hr ag ac D ah;have bg:=yD V;have ab:=yD W;clear V W;have HB:=yD (G.lt);go_wp2_with fail;refine (al.out wr E.out _ _ HR.out).mono ?_;refine fO λw5 a1=>?_;have E5:=yD a1;clear a1;cases hp:p x
   · have L:=yD (an.out bJ3);replace O0:=cL E5.out O0;replace Z0:=(E5.frozen (p:=⟨b,U,none⟩) HB.out).trans Z0;obtain ⟨Z,ai⟩:=bg.out w5 E5.out bJ5 _ rfl;simp only [show kD.int.n=1 from rfl,Nat.mul_one] at Z ai;exact rZ
   exact xC
 obtain rfl:m=l.length:=bJ5;refine CO λI hlt HG ao aq dh=>?_;clear G;obtain ⟨w6,af,h6,t6⟩:=HG.kCx (P:=prog) (t:=63) (ty:=0) (c:=cap - U) (p:=U) dh underlying63 zk rfl bJ4 (kGq _ bJ4) (by simp only [show kD.int.n=1 from rfl];rw [<- I.out,Nat.mul_one]);refine aN h6 t6 λH6 T6=>?_;exact G7
def outOk (x:ja) (n:kU):Bool:=mOk n x.2.2.2.2.1
def kOt (x:ja) (n:kU) (ex:Int):Ab Int:=if outOk x n then kOf x.2.2.2.2.2.1 (kAd n x.2.2.2.2.1) ((kFq x.2.2.2.2.1 n).filter (λf=>!(f==ex))) else []
def outF_no (h:mOk n x.2.2.2.2.1=false):kOt x n ex=[]:=by unfold kOt outOk;rw [h];rfl
def jCh (h:mOk n x.2.2.2.2.1=true):kOt x n ex=kOf x.2.2.2.2.2.1 (kAd n x.2.2.2.2.1) ((kFq x.2.2.2.2.1 n).filter (λf=>!(f==ex))):=by unfold kOt outOk;rw [h];rfl
def outF_yes2 (h:mOk n x.2.2.2.2.1=true):kOt x n ex=(kOf x.2.2.2.2.2.1 (kAd n x.2.2.2.2.1) (kFq x.2.2.2.2.1 n)).filter (λf=>!(f==ex)):=by
 rw [jCh h];unfold kOf;rw [Srt.jEw]
def outF_len:(kOt x n ex).length<=x.2.2.2.2.1.length:=by
 unfold kOt;split;rw [kQl];exact Nat.le_trans (Aa _ _) kMv;exact Nat.zero_le _
def kZk {f:Int} (A:Qc w B 0 (Qn ex)):Al prog 126 (#[.int .i64 f]++#[.pointer (Qa B)]) w λe w'=>e=.returned (.bool (f==ex))/\w'=w:=by
 show Al prog 126 #[_,_] w _;go_enter func126,ntmps126;go_wp2;go_ret;exact ⟨rfl,rfl⟩
def kTc:jL prog 126:=yK func126 bI9 bI9
def cell_lt {b i:Nat} (k:Qc w b i v):b < w.heap.size:=by
 rcases Nat.lt_or_ge b w with q | q;exact q;unfold World.cell? at k;simp [Array.getElem?_eq_none q] at k
def Touch.cell {w':Ac} {b i:Nat} (h:Touch S w w') (hb:¬ S b) (k:Qc w b i v):Qc w' b i v:=by
 exact H8
def kQz (hx:jc.rd w cx x) (hn:kQ.rd w cn n) (ae:Qi ex) (L:x.2.2.2.2.1.length<=19) :
    Al prog 64 #[.agg cx.toArray,.agg cn.toArray,.int .i64 ex] w (kAj Ck (kOt x n ex) w):=by
 obtain ⟨q1,q2,q3,q4,q5,q6,q7⟩:=hx.2;have HA:Hid (x.2.2.2.2.1.length<=16777216):=yD q5.1;have HN:=yD hn;obtain ⟨nv,rfl,ab⟩:=kT hn.1;obtain ⟨na,np,rfl,_⟩:=kD.sl ab;obtain ⟨el,e1,f3,f1,fw,fu,rfl,ac,bc,bl,bj,bf,bp,bt,c6,dp⟩:=yF hx.1;obtain ⟨dg,dd,rfl,en,dj,di,rfl,e4,d4,dz,rfl,fx,eb,d9,rfl,fz,d3,dy,rfl,f5,dx,dr,rfl,fy⟩:=kD.sx ac (kD.sx bj (kD.sx bf (kD.sx bp (kD.sx bt (kD.sl c6)))));refine uQ λZ RM=>?_;clear ab hn hx q1 q2 q3 q4 q5 q6 q7 ac bc bl bj bf bp bt c6 dp;have ax:=yD (outF_no (x:=x) (n:=n) (ex:=ex));have av:=yD (jCh (x:=x) (n:=n) (ex:=ex));go_enter func64,ntmps64;go_wp2_with fail;refine nA λX U=>?_;refine iD λEB=>?_;refine CJ λK5 K6=>?_;refine IR λKN=>?_;have D:X.cell? ⟨w.heap.size + 1 + 1,0,none⟩=some (.int .i64 ex):=bA9;clear U;refine (kBl (Z.below EB) (HN.below EB)).mono ?_;refine NP λw1 O bx bz OP HP E1=>?_;refine aJ O K5 K6 KN λK5 K6 KN=>?_;replace D:=cL O D;clear OP O EB;cases bu:mOk n x.2.2.2.2.1
 · have HE:=yD (ax.out bu);go_wp2;go_ret;exact ⟨_,rfl,by rw [HE.out];exact kD.jr,E1.trans (Below.mono bK E1.size)⟩
 have HE:=yD (av.out bu);clear ax av;go_upto_region 4 with fail;generalize R:World.alloc w1 _=wC;have ag:Qb w1 wC:=vT;have KP:Qd wC w1 0 (.slice bx (kAd n x.2.2.2.2.1).length bz):=bB0;clear R;refine aJ ag K5 K6 KN λK5 K6 KN=>?_;replace D:=cL ag D;have EC:=(tQ E1 ag);have H:=cell_lt K6;have W:=cell_lt KP;go_wp2_with fail;refine (jDj (Z.below EC) (HN.below EC) L).mono ?_;refine eD λw2 v2 O2 V=>?_;refine aH O2 λoa on oc ho ak=>?_;obtain rfl:=ho;refine aN O2 V λF af=>?_;have am:=V.size;have E2:=(tQ EC V);refine aL V K6 KP λK6 KP=>?_;clear O2 V;go_wp2_with fail;have al:Hid (∀ wr,Touch (jW wC w2) w2 wr->∀ z c,kD.int.raw wr [c] z->Al prog 126 (#[c]++#[.pointer (Qa (w.heap.size + 1 + 1))]) wr (λe w'=>e=.returned (.bool (z==ex))/\Qb wr w')):=yD (λwr I z c hz=>by
   have e:=af.trans (I.below af.size (λi hi=>hi.1));obtain ⟨hc,_⟩:=kD.yX hz;obtain rfl:c=_:=by simpa using hc
   exact (kZk (cL e D)).mono (λe2 w2 h=>⟨h.1,by rw [h.2];exact bR⟩))
 refine (kXm (λz=>z==ex) kTc F.out (by have:=kMv (l:=x.2.2.2.2.1) (n:=n);have:=HA.out;omega) al.out).mono ?_;refine eD λw3 v3 O3 T3=>?_;refine aH O3 λda G dc hd h9=>?_;obtain rfl:=hd;have aa:=T3.below (B:=wC.heap.size) am (λi hi=>hi.1);have bq:=T3.size;have ap:=yD O3;have E3:=E2.trans (T3.below bJ5 wR);have E:Qb wC w3:=af.trans aa;have ah:Qd w3 w 6 (Qs dx x.2.2.2.2.2.1 dr):=T3.cell (by intro q;have:=q.1;omega) K6;have Y:Qd w3 w1 0 (.slice bx (kAd n x.2.2.2.2.1).length bz):=T3.cell (by intro q;have:=q.1;omega) KP;clear O3 T3 F al K6 KP aa;have HD:Hid (Ck.rd w3 [.slice da G dc] ((kFq x.2.2.2.2.1 n).filter (λz=>!(z==ex)))):=yD ((ap.own (by have:=kMv (l:=x.2.2.2.2.1) (n:=n);have:=HA.out;have:=Aa (λz=>!(z==ex)) (kFq x.2.2.2.2.1 n);unfold Big;omega)).rd);go_wp2_with fail;refine (kZj (RM.below E3) (HP.below (tQ ag E)) HD.out (by have:=kMv (l:=x.2.2.2.2.1) (n:=n);have:=Aa (λz=>!(z==ex)) (kFq x.2.2.2.2.1 n);omega)).mono ?_;refine eD λw4 v4 O4 N=>?_;obtain ⟨ra,rp,rfl,_⟩:=kD.sl O4.raw;have aq:=yD O4;clear O4;go_wp2;go_ret;exact ⟨_,rfl,by rw [HE.out];exact aq.wide vE,(tQ E3 N)⟩
def kQv (hx:jc.rd w cx x) (hn:kQ.rd w cn n) (ae:Qi ex) :
    Al prog 68 #[.agg cx.toArray,.agg cn.toArray,.int .i64 ex] w (kAj Ck (kOt x n ex) w):=by
 obtain ⟨q1,q2,q3,q4,q5,q6,q7⟩:=hx.2;have HA:Hid (x.2.2.2.2.1.length<=16777216):=yD q5.1;have HN:=yD hn;obtain ⟨nv,rfl,ab⟩:=kT hn.1;obtain ⟨na,np,rfl,_⟩:=kD.sl ab;obtain ⟨el,e1,f3,f1,fw,fu,rfl,ac,bc,bl,bj,bf,bp,bt,c6,dp⟩:=yF hx.1;obtain ⟨dg,dd,rfl,en,dj,di,rfl,e4,d4,dz,rfl,fx,eb,d9,rfl,fz,d3,dy,rfl,f5,dx,dr,rfl,fy⟩:=kD.sx ac (kD.sx bj (kD.sx bf (kD.sx bp (kD.sx bt (kD.sl c6)))));refine uQ λZ RM=>?_;clear ab hn hx q1 q2 q3 q4 q5 q6 q7 ac bc bl bj bf bp bt c6 dp;have ax:=yD (outF_no (x:=x) (n:=n) (ex:=ex));have av:=yD (jCh (x:=x) (n:=n) (ex:=ex));have H:=yD (outF_yes2 (x:=x) (n:=n) (ex:=ex));go_enter func68,ntmps68;go_wp2_with fail;refine fK λX U EB=>?_;refine CJ λK5 K6=>?_;refine IR λKN=>?_;clear U;refine (kBi (Z.below EB) (HN.below EB)).mono ?_;refine NP λw1 O bx bz OP HP E1=>?_;refine aJ O K5 K6 KN λK5 K6 KN=>?_;clear OP O EB;generalize bu:mOk n x.2.2.2.2.1=ok at *;go_upto_region 2 with fail;generalize R:World.alloc w1 _=wC;have ag:Qb w1 wC:=vT;have KP:Qd wC w1 0 (.slice bx (kAd n x.2.2.2.2.1).length bz):=bB0;clear R;refine aJ ag K5 K6 KN λK5 K6 KN=>?_;have EC:=(tQ E1 ag);have FX:=yD (λ(W:Ac) (hW:Qb wC W)=>kIm hW K5 K6 KN KP);refine kN (λW=>Qb wC W) [Tt,Tt,Tt,Tt,Tt,Tt,Ff,Ff,Tt] bI9 bI9 sD (bR.drew) ?_;refine uC λwS I=>?_;all_goals ((first|(refine kI rfl I ?_)|(refine ku rfl (λK E=>?_);go_simp;refine (jBn (Z.below (tQ EC I)) (HN.below (tQ EC I))).mono ?_;rintro e wT ⟨hv,rfl,OH,ba⟩;obtain ⟨ha,hp,rfl,_⟩:=kD.sl OH.raw;have Y:=yD OH;clear OH;replace I:=(tQ I ba);refine E _ _ I ?_;clear E K ba));refine jD ?_;(first|(refine kI rfl I ?_)|(refine ku rfl (λK E=>?_);go_simp;refine (kYw (RM.below (tQ EC I)) (HP.below (tQ ag I)) Y.rd).mono ?_;rintro e wU ⟨fv,rfl,OF,G⟩;obtain ⟨fa,fp,rfl,_⟩:=kD.sl OF.raw;have HF:=yD OF;clear OF;replace I:=(tQ I G);refine E _ _ I ?_;clear E K G));refine jD ?_;refine kZ ?_;refine kR ?_)
 generalize wU=w4 at *;have E4:=(tQ EC I);have cd:=E4.size;have c8:Hid ((kOf x.2.2.2.2.2.1 (kAd n x.2.2.2.2.1) (kFq x.2.2.2.2.1 n)).length<=16777216):=yD (by rw [kQl];have:=kMv (l:=x.2.2.2.2.1) (n:=n);have:=HA.out;omega);have V:=yD HF.raw;clear Y HF KP K5 K6 KN I;generalize kOf x.2.2.2.2.2.1 (kAd n x.2.2.2.2.1) (kFq x.2.2.2.2.1 n)=F at *;have d2:F.length<=16777216:=c8.out;go_wp2;go_loopw [10,11] (λv i wr=>∃ (k:Nat),k<=F.length/\i=.int .i64 k/\(ok=false->k=0)/\Hid (kD.ko 3 kD.int wr v ((F.take k).filter (λz=>!(z==ex))) (jW w4 wr))/\Qb w4 wr) (λ_ i _=>F.length - (Ar i).toNat);case atStart=>exact ⟨0,Nat.zero_le _,rfl,λ_=>rfl,yD kD.ko.void,bK⟩
 obtain ⟨k,hk,rfl,dt,HI,D⟩:=hrel;refine aH HI λia a8 ic hi co=>?_;obtain rfl:=hi;have b0:=yD dt;clear dt;have bo:=D.size;have b4:=Ag k;by_cases hlt:k < F.length
 · have af:(k:Int) < F.length:=bJ5;cases ok
   · have al:Hid (kOt x n ex=(F.take k).filter (λz=>!(z==ex))):=yD (by rw [ax.out rfl,b0.out rfl];rfl);exact V6
   have ce:(k:Int) < F.length:=bJ5;have br:=λq=>kDp (p:=λz=>!(z==ex)) hlt q;have bn:=λq=>kCh (p:=λz=>!(z==ex)) hlt q;have hil:a8<=16777216:=by have h1:=co.out;have h2:=kAe (p:=λz=>!(z==ex)) (l:=F) (k:=k) bJ5;omega
   have bd:((F.take k).filter (λz=>!(z==ex))).length<=16777216:=by have h2:=kAe (p:=λz=>!(z==ex)) (l:=F) (k:=k) bJ5;omega
   obtain ⟨qb,qo,rfl,ah,qr,A0⟩:=kD.kAu (V.below D) hlt rfl;obtain ⟨ai,N⟩:=kD.yX qr;obtain rfl:ah=_:=by simpa using ai
   generalize F[k]=z at *;refine aN br bn λan aa=>?_;clear br bn ai qr;cases hq:(z==ex)
   · have L:=yD (an.out (by rw [hq];rfl));have hne:(z != ex)=true:=by simp only [bne,hq];rfl
     clear an aa;go_wp2_with (at_builtin;refine kD.jN rfl _ _ 63 rfl (r:=kD.int) (e:=3) underlying63 zk rfl bJ4 bJ4 (B:=w4.heap.size) HI.out bJ7 bJ7 rfl (kD.jB N _) rfl (λ_ _ h=>h) vD (λ_ h=>h.elim) bJ5 bJ5 ?_);intro v5 w5 hown a1 bw;have ar:=yD (kD.ko.cast hown L.symm);have bv:=D.trans a1;clear hown a1;refine Qg ?_;exact ⟨k + 1,by omega,by go_num,(λh=>Ad h),ar,bv⟩
   have L:=yD (aa.out (by rw [hq];rfl));have hne:(z != ex)=false:=by simp only [bne,hq];rfl
   clear an aa;refine Qg ?_;exact ⟨k + 1,by omega,by go_num,(λh=>Ad h),yD (HI.cast L.symm),D⟩
 have ce:¬ (k:Int) < F.length:=bJ5;have al:Hid (kOt x n ex=(F.take k).filter (λz=>!(z==ex))):=yD (by 
         obtain rfl:k=F.length:=bJ5;rw [Aq];cases ok;rw [ax.out rfl];have h0:=b0.out rfl;rw [Ak h0];rfl
         · exact H.out rfl)
 exact V6
def jBe (fs:Ab Int) (n:kU) (m:Ab kM):Ab kM:=match fs with | []=>m | f :: _=>kOr n f m
def kDv (x:ja) (P:Ab kF) (st:Ab jI × Ab kM) (p:kF):Ab jI × Ab kM :=
  if p.2.1.length=0 then st else if 0<=idxOf (jR p.1) P then st else
    ((p.2.1.foldl (λs r=>yT s p.1 r.2.1) st.1),
      if mOk p.1 x.2.2.2.2.1 then jBe (kOt (x.1,x.2.1,P,(p.2.1.foldl (λs r=>yT s p.1 r.2.1) st.1),x.2.2.2.2.1,st.2,x.2.2.2.2.2.2) p.1 0) (kAd p.1 x.2.2.2.2.1) st.2 else st.2)
def kCb (now:Int) (x:ja) (k:Nat):Ab jI × Ab kM:=(x.2.2.1.take k).foldl (kDv x (kKj now x.2.2.1)) (x.2.2.2.1,x.2.2.2.2.2.1)
def jBd (now:Int) (x:ja):ja:=(x.1,evict now x.2.1,kKj now x.2.2.1,(kCb now x x.2.2.1.length).1,x.2.2.2.2.1,(kCb now x x.2.2.1.length).2,x.2.2.2.2.2.2)
def kSi {k:Nat} (h:k < x.2.2.1.length):kCb now x (k + 1)=kDv x (kKj now x.2.2.1) (kCb now x k) x.2.2.1[k]:=by
 unfold kCb;rw [Ah h,Ap];rfl
def jHp {P:Ab kF} {st:Ab jI × Ab kM} {p:kF}:(kDv x P st p).1.length<=max st.1.length 24:=by
 unfold kDv;split;omega;split;omega;exact kNn _ _
def jFo:∀ {k:Nat},(kCb now x k).1.length<=max x.2.2.2.1.length 24:=by
 intro k;induction k with
 | zero=>simp [kCb];omega
 | succ k ih =>
   by_cases h:k < x.2.2.1.length
   · rw [kSi h];have:=jHp (x:=x) (P:=kKj now x.2.2.1) (st:=kCb now x k) (p:=x.2.2.1[k]);omega
   · have e:kCb now x (k + 1)=kCb now x k:=by unfold kCb;rw [Ai bJ5,Ai bJ5]
     rw [e];exact ih
def sentO (y:yw) (g:Int):jw:=(g,true,y,kTn)
def out2_own {g:Int} {c0 c1 c2 c3:Ae} {y:yw} (hg:Qi g) (h:zh.own w [c0,c1,c2,c3] y S) :
    yj.own w [Qn g,.bool true,c0,c1,c2,c3,.slice none 0 0,.slice none 0 0,.slice none 0 0,Qn 0,Qn 0] (sentO y g) S :=
  kD.kCp (r:=kD.int) (q:=kD.pair kD.bool (kD.pair zh jC)) (cs:=[.int .i64 g]) (kD.jB hg) (kD.kCp (r:=kD.bool) (q:=kD.pair zh jC) (cs:=[.bool true]) (kD.jGx true)
    (kD.ji (r:=zh) (q:=jC) (cs:=[c0,c1,c2,c3]) (A:=S) (B:=λ_=>False) h voidD_own (λ_ h=>h) (λ_ h=>h.elim) (λ_ _ h=>h)))
def DrawnO (w0 w:Ac) (p:Nat) (e:Ending) (w':Ac):Prop:=∃ a c l,e=.returned (.slice a l.length c)/\Cq.own w' [Qs a l c] l (jW w w')/\l.length<=4/\yz w0 w' p/\Touch (λk=>k=p) w w'
def jEm {p:Nat} (hc:yz w0 w p) :
    Al prog 42 #[.pointer (Qa p)] w λe w'=>DrawnO w0 w p e w':=by
 go_enter func42,ntmps42;obtain ⟨bx,b5⟩:=hc.lt;go_upto_region 2 with fail;have OZ:=yD (kD.yf (e:=70) (r:=yj) (w:=w) (cs:=[]) (xs:=[]) (T:=λ_=>False) (S:=λk=>k=w.heap.size) bJ6 bJ6 rfl (λ_ h=>h.elim) rfl);generalize G:World.alloc w _=w1 at OZ ⊢;have ag:Qb w w1:=vU;have br:w.heap.size + 1<=w1.heap.size:=bH7;clear G;have am:=yD (((OZ.own bJ4).wide (T:=λq=>w.heap.size<=q/\q < w1.heap.size) (λj q=>⟨Nat.le_of_eq q.symm,by omega⟩)));clear OZ;refine iG ag λhc TE=>?_;clear ag;go_wp2_with fail;refine (kw (n:=5) hc bJ4).mono ?_;refine iP λw2 m b1 b3 ck N D b8=>?_;refine eY am D λam=>?_;refine LK b3 ck λTE hc b3=>?_;clear D N ck;obtain ⟨m,rfl⟩:=Int.eq_ofNat_of_zero_le b1;have O0:Cq.own w2 [.slice (Qa w) ([]:Ab jw).length 0] [] (λq=>w.heap.size<=q/\q < w2.heap.size):=am.wide vI;clear am;go_wp2;go_loopw [3,4] (λv i wr=>∃ (j:Nat) (a:Option Addr) (c:Nat) (l:Ab jw),v=.slice a l.length c/\i=.int .i64 j/\j<=4/\l.length + j<=4/\Hid (Cq.own wr [Qs a l c] l (λq=>w.heap.size<=q/\q < wr.heap.size))/\w2.heap.size<=wr.heap.size/\yz w0 wr p/\Touch (λk=>k=p) w wr) (λ_ i _=>(Ar i).toNat);case atStart=>exact ⟨m,_,0,[],rfl,rfl,by omega,bJ0,yD O0,Nat.le_refl _,hc,TE⟩
 clear hc TE O0;obtain ⟨j,a,c,l,rfl,rfl,J,aw,F,dn,hc,TE⟩:=hrel;cases j with
 | zero =>
   have ek:¬ (0:Int) < (0:Nat):=bJ5;go_wp2;refine bodyPost_ret (v:=Qs a l c) (by simp [results,results42,go_sem]) rfl ⟨a,c,l,rfl,F.out,by omega,hc,TE⟩
 | succ j =>
   have dc:(0:Int) < (j:Int) + 1:=bJ5;have aq:=hc.lt.2;replace F:=yD (F.wide (T:=(λq=>w.heap.size<=q/\q < wr.heap.size)) (λ_ h=>h));go_wp2_with fail;refine (kw (n:=3) hc bJ4).mono ?_;rintro e w6 ⟨fa,au,ao,ap,rfl,N,D⟩;have dq:=D.size;obtain ⟨F,TE⟩:=VX;clear hc D;have hc:=N;clear N;replace ao:=ao bJ4;clear ap;go_upto_region 6 with fail;refine jZ ?_;intro w7 U BX dm;replace F:=yD (F.below U);replace hc:=hc.below U;replace TE:=TE.trans (Touch.of_below U);clear U;go_wp2_with fail;refine (kAf (n:=2) hc bJ4).mono ?_;rintro e w8 ⟨b_,rfl,N,D⟩;have eq:=D.size;replace BX:=D.kC BX bJ5;obtain ⟨F,TE⟩:=VX;clear hc D;have hc:=N;clear N;have ar:=hc.lt.2;have bc:¬ (w.heap.size<=p/\p < wr.heap.size):=bJ5;cases b_
   · go_wp2_with fail;refine (kJa hc).mono ?_;rintro e w9 ⟨ds,y,rfl,hY,dw,N,D⟩;have d6:=D.size;replace BX:=D.kC BX bJ5;obtain ⟨F,TE⟩:=VX;clear hc D;have hc:=N;clear N;obtain ⟨b0,b2,cg,ch,b9,cl,rfl⟩:=zO hY.raw;have HY:=yD (show jC.own _ (Qe b0 b2 cg ch b9 cl y) y (jW w8 w9) from hY);clear hY;obtain ⟨V,Y,ab,Z,aa,aj,ak,al,H,I,E⟩:=jBy BX;obtain ⟨b4,L,R,bb,a9,af,ai,ah,ac,W,O⟩:=rowF11 BX;go_upto_region 10 with fail;generalize G:World.setCell (World.setCell (World.setCell (World.setCell (World.setCell w9 _ _) _ _) _ _) _ _) _ _=bo;have av:Touch (λk=>k=w6.heap.size) w9 bo:=bD4;replace BX:Qr bo w6 #[Qn fa,.bool false,.slice none 0 0,Qn 0,Qn 0,Qn 0,Qs b0 y.1 b2,Qs cg y.2.1 ch,Qs b9 y.2.2.1 cl,Qn y.2.2.2.1,Qn y.2.2.2.2] 70:=by rw [<- G];exact kG (kG (kG (kG (kG (BX) 6) 7) 8) 9) 10
     have dv:=av.size;clear G;replace F:=yD (F.touch av rU);replace HY:=yD (HY.touch av rU);replace hc:=hc.touch av bJ5 bF2;replace TE:=TE.jO av bJ5;clear V Y ab Z aa aj ak al H I E b4 L R bb a9 af ai ah ac W O av;obtain ⟨V,Y,ab,Z,aa,aj,ak,al,H,I,E⟩:=jBy BX;go_wp2_with (at_builtin;refine kD.zG rfl _ _ 46 rfl (r:=yj) (e:=70) underlying46 kKw rfl bJ4 bJ4 (w:=bo) F.out bR (c:=1) (jCi bJ5 HY.out) bJ7 bJ7 rA bJ5 ?_);intro v2 cf hQ c1;have hT:Touch (λk=>w.heap.size<=k/\k < wr.heap.size) bo cf:=c1.wide (λj q=>q.1);have ef:=hT.size;clear c1;have bq:(l++[(fa,false,zI,y)]).length=l.length + 1:=bJ6;generalize l++[(fa,false,zI,y)]=l2 at *;obtain ⟨a2,c2,rfl,_⟩:=kD.sl hQ.raw;have ae:=yD (hQ.wide (T:=(λq=>w.heap.size<=q/\q < cf.heap.size)) bN);exact UR
   · have V:Qd w8 w6 0 (Qn fa):=kE BX rfl;have Y:Qd w8 w6 1 (.bool false):=kE BX rfl;have ab:Qd w8 w6 2 (.slice none 0 0):=kE BX rfl;have Z:Qd w8 w6 3 (Qn 0):=kE BX rfl;have aa:Qd w8 w6 4 (Qn 0):=kE BX rfl;have aj:Qd w8 w6 5 (Qn 0):=kE BX rfl;have ak:Qd w8 w6 6 (.slice none 0 0):=kE BX rfl;have al:Qd w8 w6 7 (.slice none 0 0):=kE BX rfl;have H:Qd w8 w6 8 (.slice none 0 0):=kE BX rfl;have I:Qd w8 w6 9 (Qn 0):=kE BX rfl;have E:Qd w8 w6 10 (Qn 0):=kE BX rfl;obtain ⟨b4,L,R,bb,a9,af,ai,ah,ac,W,O⟩:=rowF11 BX;go_upto_region 8 with fail;generalize G:World.setCell w8 _ _=w9;have X:Touch (λk=>k=w6.heap.size) w8 w9:=bD0;replace BX:Qr w9 w6 #[Qn fa,.bool true,.slice none 0 0,Qn 0,Qn 0,Qn 0,.slice none 0 0,.slice none 0 0,.slice none 0 0,Qn 0,Qn 0] 70:=by rw [<- G];exact kG BX 1
     have d6:=X.size;clear G;replace F:=yD (F.touch X rU);replace hc:=hc.touch X bJ5 bF2;replace TE:=TE.jO X bJ5;clear V Y ab Z aa aj ak al H I E b4 L R bb a9 af ai ah ac W O X;go_wp2_with fail;refine (kNi hc).mono ?_;rintro e bo ⟨ia,ic,ps,n,h,t,rfl,hr,bg,hn,hh,ht,N,D⟩;have dv:=D.size;replace BX:=D.kC BX bJ5;obtain ⟨F,TE⟩:=VX;clear hc D;have hc:=N;clear N;have HY:=yD (show zh.own _ [Qs ia ps ic,Qn n,Qn h,Qn t] (ps,n,h,t) (jW w9 bo) from jIm hr bJ5 bJ5 bJ5);clear hr;obtain ⟨V,Y,ab,Z,aa,aj,ak,al,H,I,E⟩:=jBy BX;obtain ⟨b4,L,R,bb,a9,af,ai,ah,ac,W,O⟩:=rowF11 BX;go_upto_region 10 with fail;generalize G:World.setCell (World.setCell (World.setCell (World.setCell bo _ _) _ _) _ _) _ _=cf;have ba:Touch (λk=>k=w6.heap.size) bo cf:=bD9;replace BX:Qr cf w6 #[Qn fa,.bool true,Qs ia ps ic,Qn n,Qn h,Qn t,.slice none 0 0,.slice none 0 0,.slice none 0 0,Qn 0,Qn 0] 70:=by rw [<- G];exact kG (kG (kG (kG (BX) 2) 3) 4) 5
     have ef:=ba.size;clear G;replace F:=yD (F.touch ba rU);replace HY:=yD (HY.touch ba rU);replace hc:=hc.touch ba bJ5 bF2;replace TE:=TE.jO ba bJ5;clear V Y ab Z aa aj ak al H I E b4 L R bb a9 af ai ah ac W O ba;obtain ⟨V,Y,ab,Z,aa,aj,ak,al,H,I,E⟩:=jBy BX;go_wp2_with (at_builtin;refine kD.zG rfl _ _ 46 rfl (r:=yj) (e:=70) underlying46 kKw rfl bJ4 bJ4 (w:=cf) F.out bR (c:=1) (out2_own bJ5 HY.out) bJ7 bJ7 rA bJ5 ?_);intro v2 b6 hQ c1;have hT:Touch (λk=>w.heap.size<=k/\k < wr.heap.size) cf b6:=c1.wide (λj q=>q.1);have e3:=hT.size;clear c1;have bq:(l++[sentO (ps,n,h,t) fa]).length=l.length + 1:=bJ6;generalize l++[sentO (ps,n,h,t) fa]=l2 at *;obtain ⟨a2,c2,rfl,_⟩:=kD.sl hQ.raw;have ae:=yD (hQ.wide (T:=(λq=>w.heap.size<=q/\q < b6.heap.size)) bN);exact UR
def DrawnOs (w:Ac) (e:Ending) (w':Ac):Prop:=∃ a c l,e=.returned (.slice a l.length c)/\Cq.jv w' [Qs a l c] l (jW w w')/\l.length<=4/\Qb w w'
def kKh {ac:Ab UInt8} (X:Cc.raw w [v] ac) :
    Al prog 7 #[v] w (DrawnOs w):=by
 obtain ⟨ca,cc,rfl,_⟩:=kD.sl X;go_enter func7,ntmps7;go_wp2_with fail;refine (kPg X bR).mono ?_;rintro e w1 ⟨p,rfl,hc,bx,O⟩;have br:=O.size;have b5:=hc.lt.2;have TE:Touch (λk=>k=p) w w1:=Touch.of_below (O);clear O;go_wp2_with fail;refine (jEm hc).mono ?_;refine l6 λw2 a c l hO hl N D b8=>?_;refine eO λTE hc=>?_;clear D N;have F:=yD (hO);clear hO;go_wp2;refine bodyPost_ret (v:=Qs a l c) (by simp [results,results7,go_sem]) rfl ⟨a,c,l,rfl,F.jv.wide pK,hl,TE.below nL bF2⟩
end Go.Proofs.YthocbplmdjkifabGreat

/-
  A requester added to the pending interests.
-/
import Derived.Test.YthocbplmdjkifaaGreatPut
import Derived.Test.YthocbplmdjkifaaGreatSoftT
set_option linter.unusedVariables false
set_option linter.defProp false
set_option linter.unusedSimpArgs false
set_option linter.unnecessarySimpa false
set_option maxRecDepth 100000
set_option maxHeartbeats 4000000
open Bool renaming true->Tt,false->Ff
open Bool renaming not_false->Aa,and_false->Ab,false_and->Ac,not_true->Ad,and_true->Ae,true_and->Ag,or_false->Ah,false_or->Ai,or_true->Aj,true_or->Ak,not_not->Al
open Go renaming World->Am,Value->Av
open List renaming getElem_mem->Ap,length_eq_one_iff->Ar
open _root_ renaming ge_iff_le->Aq,List->Au
open Go.Proofs.Tryz renaming underlying28->Aw
open Go.Value.slice renaming injEq->Ay
namespace Go.Proofs.YthocbplmdjkifaaGreat
open Go.RowKit _root_.Go.Proofs.Tryz
def kHn (x:jE) (f t:Int):kV:=(f,x.2.1,wrap64 (t + x.2.2.2))
def yY (x:jE) (f:Int) (l:Au kF):Bool:=!((!kEl x || !inR f 0 6) || (decide (idxOf (jV x.1) l < 0) && decide ((12:Int)<=(l.length:Int))))
def addQ1 (x:jE) (f t:Int) (l:Au kF):Au kF :=
  if idxOf (jV x.1) l < 0 then l++[(x.1,[kHn x f t],0)]
  else l.set (idxOf (jV x.1) l).toNat ((l.getD (idxOf (jV x.1) l).toNat ([],[],0)).1,kLc (kHn x f t) (l.getD (idxOf (jV x.1) l).toNat ([],[],0)).2.1,(l.getD (idxOf (jV x.1) l).toNat ([],[],0)).2.2)
def kDv (x:jE) (f t:Int) (l:Au kF):Au kF:=if yY x f l then addQ1 x f t l else l
def kPs {x:jE} {f t:Int} {l:List kF} (h:yY x f l=false):kDv x f t l=l/\yY x f l=false:=by unfold kDv;rw [h];exact ⟨rfl,rfl⟩
def kUc {x:jE} {f t:Int} {l:List kF} (h:yY x f l=true) (hk:idxOf (jV x.1) l < 0):kDv x f t l=l++[(x.1,[kHn x f t],0)]/\yY x f l=true:=by unfold kDv addQ1;rw [h,if_pos hk];exact ⟨rfl,rfl⟩
def kUb {x:jE} {f t:Int} {l:Au kF} {k:Nat} (h:yY x f l=true) (hk:idxOf (jV x.1) l=k) (hkl:k < l.length):kDv x f t l=l.set k (l[k].1,kLc (kHn x f t) l[k].2.1,l[k].2.2)/\yY x f l=true:=by
 unfold kDv addQ1;rw [h,if_pos rfl,hk,if_neg (show ¬ ((k:Int) < 0) by omega)];refine ⟨?_,rfl⟩;simp only [Int.toNat_natCast,jb hkl]
def kSk {x:jE} {f:Int} {l:Au kF} (h:yY x f l=true) (hk:idxOf (jV x.1) l < 0):l.length < 12:=by
 unfold yY at h;simp [hk] at h;omega
def kXa {P:Program} {l:Au Oper} {Q:Exit->Act->Am->Prop} {a:Act} {w:Am} {id:Nat} (S:Am->Prop) (hm:P.follows .mixedOrders=true) (hS:S { w with drawn:=w.drawn + 1 })
    (h:tree P l S Q l.length (List.replicate l.length false) a { w with drawn:=w.drawn + 1 }):(Code.region id l.toArray true).wp P Q a w:=by
 exact aB
def jDo {α:Type} {r:kD α} {e:TypeId} {w:Am} {v:Av} {xs:Au α} {S T:Nat->Prop} {P:Program} {t ty:TypeId}
    {z:Av} {bytes:Nat} (ht:P.underlying t=some (.slice e)) (hinf:(P.info? e).map (λi=>(i.zero,i.size,i.bytes))=some (some z,r.n,bytes)) (hzs:z.cells.size=r.n) (hn:0 < r.n) (hby:bytes<=1000)
    (hown:kD.kY e r w v xs S) {b:Nat} (hb:b=w.heap.size) {cs:Au Av} {y:α} (hy:r.own w cs y T)
    {u:Am} (hu:u=w.alloc (.cells cs.toArray e)) (hST:∀ k,S k->T k->False) (hlen:xs.length + 1<=1000000000) :
    ∃ v' w',(Builtin.append_ #[t,t] ty #[v,.slice (some ⟨b,0,none⟩) 1 1]).run P u=.ok v' w'/\kD.kY e r w' v' (xs++[y]) (λk=>S k\/T k\/(w.heap.size + 1<=k/\k < w'.heap.size))/\Touch (λk=>some k=v.ownBlock/\S k) u w':=by
 subst hu hb
 obtain ⟨i,hi,hz,hsize,L⟩:=info_parts hinf
 have hl:=r.len hy.1
 have E:kD.kY e r (w.alloc (.cells cs.toArray e)) v xs (λk=>S k/\k < w.heap.size):=(kD.kY.alloc hown.live _)
 have H:=hy.live.alloc (.cells cs.toArray e)
 have hsrc:kD.Src (w.alloc (.cells cs.toArray e)) (.slice (some ⟨w,0,none⟩) 1 1) 1 cs:=.inr ⟨_,1,rfl,λj c I=>by
   have F:(⟨w,0,none⟩:Addr).add j=⟨w,j,none⟩:=rF;rw [F];exact kE (heap_alloc_new w _) bD7⟩
 obtain ⟨v',w',h0,h1,h2⟩:=kD.kFg (P:=P) (ty:=ty) ht hi hz hsize hzs hn bF2 E hsrc (by rw [hl,Nat.one_mul]) (r.one hy.1) hlen
 refine ⟨v',w',h0,(h2 (ys:=[y]) (T:=λk=>T k/\k < w.heap.size) ⟨cs,[],_,λ_=>False,by simp,H.1,rfl,λ_ h=>h,λ_ h=>h.elim,λ_ _ _ h=>h.elim⟩ (λk h1 h2=>hST k h1.1 h2.1) (by simpa using hy.2)).wide ?_,⟨h1.os,h1.tape,h1.output,h1.size,λk hk q=>h1.block k hk (λa=>q ⟨a.1,a.2.1⟩)⟩⟩
 exact aC
def pend_setReq {w:Am} {b cap len k:Nat} {l:Au kF} {S T:Nat->Prop} {v':Av} {F:Au kV} (h:kD.kY 107 kH w (.slice (some ⟨b,0,none⟩) len cap) l S) (hk:k < l.length)
    (hv:kD.kY 105 kQ w v' F T) (aa:F.length<=Big) (hST:∀ j,S j->T j->False) :
    kD.kY 107 kH (w.setCell ⟨b,k * 3 + 1,none⟩ v') (.slice (some ⟨b,0,none⟩) len cap) (l.set k (l[k].1,F,l[k].2.2)) (λj=>S j\/T j):=by
 have bf:=h.1 l[k] (Ap hk)
 refine (kD.jFt (i:=k) (j:=1) (p:=k * 3 + 1) (T:=T) (y:=(l[k].1,F,l[k].2.2)) h hk bF1 ?_ ⟨bf.1,(hv.own0h aa).2,trivial⟩ hST rfl).1
 rintro cs D ⟨c,d,A,B,rfl,h1,⟨c2,d2,A2,B2,rfl,h2,h3,k1,k2,k3⟩,k4,k5,k6⟩ hD
 have dj:c.length=1:=kR.len h1
 obtain ⟨cn,rfl⟩:=Ar.1 dj
 have eh:c2.length=1:=(kD.slice 105 kQ).len h2
 obtain ⟨cq,rfl⟩:=Ar.1 eh
 refine ⟨[cn],v' :: d2,A,T,rfl,h1,?_,λj I=>.inl (k4 j I),λj=>.inr,λ_ j a t=>hST j (hD j (k4 j a)) t⟩
 exact ⟨[v'],d2,T,λ_=>False,rfl,(hv.own aa).1,h3,λj I=>I,λj I=>I.elim,λ_ j _ I=>I⟩
def kGa (z:Int):-9223372036854775808<=wrap64 z/\wrap64 z<=9223372036854775807:=by unfold wrap64;omega
def kPo (f:Int) (r:kV):Bool:=r.1==f
def kQi {w:Am} {cr:Au Av} {r:kV} (hr:kQ.raw w cr r) {f:Int} {N:Nat} (H:Qc w N 0 (Qn f)) :
    Calls prog 110 (#[.agg cr.toArray]++#[.pointer (some ⟨N,0,none⟩)]) w (bQ w (.bool (kPo f r))):=by
 have Hr:=yD hr
 obtain ⟨rfl,I,J,O⟩:=kAa hr
 show Calls prog 110 #[_,_] w _
 go_enter func110,ntmps110
 go_upto_region 1 with fail
 refine ja ?_
 intro U Z F _
 obtain ⟨X,o,R⟩:=kBd F
 clear F
 replace H:=cL Z H
 have FX:=yD (λ(W:Am) (hW:Qb U W)=>kDk hW X o R H)
 refine kL (λW=>Qb U W) [Tt,Tt,Tt,Tt,Tt] bR ?_
 intro wS E
 all_goals ((iterate 4 refine kS ?_);refine jT λb a1=>?_;cases b <;> try simp only [jS] at a1)
 all_goals (refine kM ?_;have D:=(tQ Z E))
 all_goals first
   | (have L:=yD (show (kPo f r)=false by simp only [kPo,Ad,Aa,Ae,Ag,Ab,Ac,Aj,Ak,Ah,Ai,Al,a1]);go_wp2;go_ret;exact ⟨kJ L.out.symm,D⟩)
   | (have L:=yD (show (kPo f r)=true by simp only [kPo,Ad,Aa,Ae,Ag,Ab,Ac,Aj,Ak,Ah,Ai,Al,a1]);go_wp2;go_ret;exact ⟨kJ L.out.symm,D⟩)
def kIy:jL prog 110:=yM func110 bE5 bE5
def kQh {w:Am} {cr:Au Av} {r:kV} (hr:kQ.raw w cr r) {f:Int} {N:Nat} (H:Qc w N 0 (Qn f)) :
    Calls prog 112 (#[.agg cr.toArray]++#[.pointer (some ⟨N,0,none⟩)]) w (bQ w (.bool (decide (f<=r.1)))):=by
 have Hr:=yD hr
 obtain ⟨rfl,I,J,O⟩:=kAa hr
 show Calls prog 112 #[_,_] w _
 go_enter func112,ntmps112
 go_upto_region 1 with fail
 refine ja ?_
 intro U Z F _
 obtain ⟨X,o,R⟩:=kBd F
 clear F
 replace H:=cL Z H
 have FX:=yD (λ(W:Am) (hW:Qb U W)=>kDk hW X o R H)
 refine kL (λW=>Qb U W) [Tt,Tt,Tt,Tt,Tt] bR ?_
 intro wS E
 all_goals ((iterate 4 refine kS ?_);refine jT λb a1=>?_;cases b <;> try simp only [jS] at a1)
 all_goals (refine kM ?_;have D:=(tQ Z E))
 all_goals first
   | (have L:=yD (show (decide (f<=r.1))=false by simp only [Ad,Aa,Ae,Ag,Ab,Ac,Aj,Ak,Ah,Ai,Al,a1]);go_wp2;go_ret;exact ⟨kJ L.out.symm,D⟩)
   | (have L:=yD (show (decide (f<=r.1))=true by simp only [Ad,Aa,Ae,Ag,Ab,Ac,Aj,Ak,Ah,Ai,Al,a1]);go_wp2;go_ret;exact ⟨kJ L.out.symm,D⟩)
def kIx:jL prog 112:=yM func112 bE5 bE5
def kEk {w:Am} {vl:Av} {l:Au kF} (hl:(kD.slice 107 kH).rd w [vl] l) (a1:∀ y∈l,y.2.1.length<=1048576) {cx:Au Av} {x:jE} (hx:jM.rd w cx x) {f:Int} (hf:Qi f) {t:Int} (ht:Qi t) :
    Calls prog 58 #[vl,.agg cx.toArray,.int .i64 f,.int .i64 t] w λe w'=>∃ v,e=.returned (.tuple #[v,.bool (yY x f l)])/\(kD.slice 107 kH).own w' [v] (kDv x f t l) (jg w w')/\Qb w w':=by
 have HL:=yD hl
 have cd:=yD a1
 have bc:l.length<=16777216:=hl.2.1
 have HW:=yD hx
 obtain ⟨nv,rfl,bd,aq,a8,bk,br⟩:=jY hx.1
 obtain ⟨n,x1,x2,x3⟩:=x
 have Y:Hid (kR.rd w [nv] n):=yD ⟨bd,hx.2.1⟩
 obtain ⟨na,np,rfl,_,va,vp,rfl,bl⟩:=kD.sx aq (kD.sl hl.1)
 have HF:=yD hf
 have bw:=yD a8
 clear bd aq a8 bk br hl hx hf ht a1
 go_enter func58,ntmps58
 go_upto_region 1 with fail
 generalize R:World.alloc w _=U
 obtain ⟨Z,K0⟩:=DX
 have K1:Qd U w 1 (Qn x1):=vS
 have K2:Qd U w 2 (Qn x2):=vS
 have K3:Qd U w 3 (Qn x3):=vS
 have bx:U.heap.size=w.heap.size + 1:=bD4
 clear R
 go_wp2_with fail
 refine (kKb (HL.out.below Z)).mono ?_
 rintro e w1 ⟨v1,rfl,O1,N⟩
 obtain ⟨K0,K1,K2⟩:=DD
 replace K3:=cL N K3
 have E1:=(tQ Z N)
 have bn:=N.size
 have J:=yD O1
 obtain ⟨oa,on,oc,ho,ay⟩:=O1.parts
 obtain rfl:=ho
 clear O1 N Z
 go_wp2_with fail
 refine (kCt (HL.out.1.below E1) (Y.out.1.below E1)).mono ?_
 rintro e w4 ⟨rfl,F⟩
 replace K0:=cL F K0
 replace K1:=cL F K1
 replace K2:=cL F K2
 replace K3:=cL F K3
 have E4:=(tQ E1 F)
 have b5:=F.size
 replace J:=yD ((J.out.below F).wide (T:=jg U w4) sI)
 clear F E1
 by_cases hk:idxOf (jV n) l < 0
 · have HK:Hid (decide (idxOf (jV n) l < 0)=true):=yD bC2;go_upto_region 3 with fail;have FX:=yD (λ(W:Am) (hW:Qb w4 W)=>kDk hW K0 K1 K2 K3);refine kL (λW=>Qb w4 W) [Tt,Ff,Tt,Tt,Tt,Ff,Tt,Tt,Tt,Tt,Tt,Tt,Tt,Tt,Tt,Tt,Tt] (bR) ?_;intro wS E;all_goals (refine kS ?_;(first|(refine kI rfl E ?_)|(refine ku rfl (λK H=>?_);go_simp;refine (kDt (HW.out.1.below (tQ E4 E))).mono ?_;rintro e wV ⟨rfl,a3⟩;replace E:=(tQ E a3);refine H _ _ E ?_;clear H K a3));refine jH ?_;refine kS ?_;refine jT λb bh=>?_;cases b <;> try simp only [jS] at bh)
   all_goals (refine kS ?_;(first | refine wkC (yL) ?_ | refine kS ?_);refine kS ?_;refine kS ?_;refine jT λb b6=>?_;cases b <;> try simp only [jS] at b6)
   all_goals (refine kS ?_;refine kS ?_;refine jT λb an=>?_;cases b <;> try simp only [jS] at an)
   all_goals ((iterate 4 refine kS ?_);refine jT λb ao=>?_;cases b <;> try simp only [jS] at ao)
   all_goals (refine kM ?_;have E5:=(tQ E4 E);have am:=yD (J.out.below E);have b4:=E.size;have be:=cL E K0;have bu:=cL E K1;have bv:=cL E K2;have b1:=cL E K3;clear K0 K1 K2 K3 J)
   all_goals first|(have L:=yD (kPs (t:=t) (show yY (n,x1,x2,x3) f l=false by simp only [yY,HK.out,Ad,Aa,Ae,Ag,Ab,Ac,Aj,Ak,Ah,Ai,Al,Aq,bh,b6,an,ao,ao]));go_wp2;go_ret2;exact ⟨_,by rw [L.out.2];rfl,((am.out.cast L.out.1.symm).own wJ).wide nK,E5⟩) | skip
   obtain ⟨L,bi⟩:=AP;generalize hq:idxOf (jV n) l=q at *;clear hq HK;go_upto_region 6 with fail;generalize az:wrap64 (t + x3)=y3;obtain ⟨HR,HY⟩:=DJ;clear az;generalize O:World.alloc _ _=wC;obtain ⟨EC,bt,a9,a7,ax,E6,ag⟩:=xH;replace be:=cL EC be;clear O bu bv b1 am E EC;go_wp2_with fail;refine (zg (Y.out.below E6)).mono ?_;rintro e wT ⟨tc,rfl,OT,ai⟩;obtain ⟨fr,rfl,b7⟩:=kw OT.raw;obtain ⟨b0,dd,rfl,_⟩:=kD.sl b7;clear b7;go_upto_region 8 with fail;generalize bg:World.alloc wT _=wD;have ED:Qb wT wD:=by rw [<- bg];exact bR.alloc nL _
   have KD:Qd wD wT 0 (Qs b0 n dd):=by rw [<- bg];simp [go_sem]
   have c6:wT.heap.size<=wD.heap.size:=ED.size;clear bg;have ER:=(tQ ai ED);have fx:=ai.size;have ae:=yD (OT.below ED);replace a9:=cL ER a9;replace a7:=cL ER a7;replace ax:=cL ER ax;have X:=yD (ag.out.below ER);have HQ:Hid ((kD.slice 105 kQ).own (wD.alloc (.cells #[.int .i64 f,.int .i64 x1,.int .i64 y3] 105)) [.slice (some ⟨wD,0,none⟩) 1 1] [(f,x1,y3)] (jg wD (wD.heap.size + 1))):=yD (kD.kY.own (kD.yR (e:=105) (r:=kQ) (w:=wD) (cs:=[.int .i64 f,.int .i64 x1,.int .i64 y3]) (xs:=[(f,x1,y3)]) (T:=λ_=>False) (S:=jg wD (wD.heap.size + 1)) dI (by simp [maxLen]) ⟨_,[],_,_,by simp,(kD.flat.own (S:=λ_=>False) (kD.jl (kD.ky HF.out) (kD.jl (kD.ky bw.out) (kD.ky HY.out)))).1,rfl,λ_ h=>h,λ_ h=>h,λ_ _ h _=>h⟩ (λ_ h=>h.elim) ⟨Nat.le_refl _,by omega⟩) bE7);have E8:=(tQ E6 ER);clear OT;go_wp2_with (at_builtin;refine kD.jR rfl _ _ 28 rfl (r:=kH) (e:=107) Aw yj rfl bF1 bF1 (B:=w.heap.size) (b:=wD.heap.size + 1) (X.out.alloc _) bF4 bF4 bF3 (kD.own.wide (T:=jg w4 (wD.heap.size + 1)) (kD.jq (r:=kR) (q:=kD.pair (kD.slice 105 kQ) kD.int) (cs:=[.slice b0 n.length dd]) (ds:=[.slice (some ⟨wD,0,none⟩) 1 1,.int .i64 0]) (x:=n) (y:=([(f,x1,y3)],0)) (S:=jg w4 (wD.heap.size + 1)) (ae.out.alloc _) (kD.yQ (r:=(kD.slice 105 kQ)) (q:=kD.int) (cs:=[.slice (some ⟨wD,0,none⟩) 1 1]) (ds:=[.int .i64 0]) (x:=[(f,x1,y3)]) (y:=0) HQ.out (kD.ky ⟨by decide,by decide⟩)) nK nK nT) (λj I=>I)) rfl nT mK mK bE6 bF2 ?_);intro v5 w5 o D cz;have bm:=yD (o.cast (by rw [L.out.1,HR.out]:_=kDv (n,x1,x2,x3) f t l));obtain ⟨pa,pn,pc,hp,bo⟩:=o.parts;obtain rfl:=hp;have E9:=(E8.alloc E8.size _).trans D;clear o D;go_wp2;go_ret2;exact ⟨_,by rw [L.out.2];rfl,bm.out.own rH,E9⟩
 have HK:Hid (decide (idxOf (jV n) l < 0)=false):=yD bC2
 obtain ⟨k,hkl,ad⟩:=zn hk
 have av:=yD ad
 rw [ad]
 have b3:¬ ((k:Int) < 0):=bF2
 clear hk ad
 go_upto_region 3 with fail
 have FX:=yD (λ(W:Am) (hW:Qb w4 W)=>kDk hW K0 K1 K2 K3)
 refine kL (λW=>Qb w4 W) [Tt,Ff,Tt,Tt,Tt,Ff,Tt,Tt,Tt,Tt,Tt,Tt,Tt,Tt,Tt,Tt,Tt] (bR) ?_
 intro wS E
 all_goals (refine kS ?_;(first|(refine kI rfl E ?_)|(refine ku rfl (λK H=>?_);go_simp;refine (kDt (HW.out.1.below (tQ E4 E))).mono ?_;rintro e wV ⟨rfl,a3⟩;replace E:=(tQ E a3);refine H _ _ E ?_;clear H K a3));refine jH ?_;refine kS ?_;refine jT λb bh=>?_;cases b <;> try simp only [jS] at bh)
 all_goals (refine kS ?_;(first | refine wkC (yL) ?_ | refine kS ?_);refine kS ?_;refine kS ?_;refine jT λb b6=>?_;cases b <;> try simp only [jS] at b6)
 all_goals (refine kS ?_;refine kS ?_;refine jT λb an=>?_;cases b <;> try simp only [jS] at an)
 all_goals ((iterate 4 refine kS ?_);refine jT λb ao=>?_;cases b <;> try simp only [jS] at ao)
 all_goals (refine kM ?_;have E5:=(tQ E4 E);have am:=yD (J.out.below E);have b4:=E.size;have be:=cL E K0;have bu:=cL E K1;have bv:=cL E K2;have b1:=cL E K3;clear K0 K1 K2 K3 J)
 all_goals first|(have L:=yD (kPs (t:=t) (show yY (n,x1,x2,x3) f l=false by simp only [yY,HK.out,Ad,Aa,Ae,Ag,Ab,Ac,Aj,Ak,Ah,Ai,Al,Aq,bh,b6,an,ao,ao]));go_wp2;go_ret2;exact ⟨_,by rw [L.out.2];rfl,((am.out.cast L.out.1.symm).own wJ).wide nK,E5⟩) | skip
 have L:=yD (kUb (t:=t) (show yY (n,x1,x2,x3) f l=true by simp only [yY,HK.out,Ad,Aa,Ae,Ag,Ab,Ac,Aj,Ak,Ah,Ai,Al,Aq,bh,b6,an,ao,ao]) av.out hkl)
 go_upto_region 6 with fail
 generalize az:wrap64 (t + x3)=y3
 obtain ⟨HR,HY⟩:=DJ
 clear az
 generalize O:World.alloc _ _=wC
 obtain ⟨EC,bt,a9,a7,ax,E6,ag⟩:=xH
 clear O bu bv b1 am E EC
 obtain ⟨b,cap,hv,V,au,ar,ap⟩:=kD.zm ag.out hkl
 simp only [Ay] at hv
 obtain ⟨rfl,ab,rfl⟩:=hv
 have a2:(k:Int) < on:=bF2
 clear ab
 have a6:=yD (ag.out.own bc)
 obtain ⟨c0,c1,c2,hr,A0,A1,A2⟩:=kD.at3 a6.out.raw hkl rfl
 obtain ⟨rfl,ah,aj,ak,aw⟩:=jP hr
 have ac:Hid ((kD.slice 105 kQ).rd wC [c1] l[k].2.1):=yD ⟨ak,(kD.yx a6.out.rd hkl).2.1⟩
 obtain ⟨ra,rp,rfl,_⟩:=kD.sl ak
 have cw:l[k].2.1.length<=1048576:=cd.out _ (Ap hkl)
 clear hr ah aj ak aw A0 A2 a6
 go_upto_region 9 with fail
 have FX:=yD (λ(W:Am) (hW:Qb wC W)=>kDk hW A1 a9 a7 ax)
 refine kK (λW=>Qb wC W) [Tt,Tt,Tt,Tt,Tt,Tt,Ff,Tt] bE5 bE5 qW (bR.drew) ?_
 intro wS E
 all_goals ((iterate 6 refine kS ?_);(first|(refine kI rfl E ?_)|(refine ku rfl (λK H=>?_);go_simp;refine (jFl (ac.out.below E) HF.out bw.out HY.out).mono ?_;rintro e w6 ⟨v6,rfl,O6,a4⟩;obtain ⟨pa,pn,pc,hp,bo⟩:=O6.parts;obtain rfl:=hp;replace O6:=yD O6;have a5:=E.size;have c5:=a4.size;replace E:=(tQ E a4);refine H _ _ E ?_;clear H K a4));refine jH ?_;refine kS ?_;refine kM ?_)
 have ba:=cL E A1
 have al:=yD (ag.out.below E)
 have af:=kD.kGv al.out bF2 (k * 3 + 1)
 have aa:(kLc (f,x1,y3) l[k].2.1).length<=Big:=Nat.le_trans (kOd _ _) bB1
 have bp:=yD (pend_setReq al.out hkl O6.out aa nT)
 have cf:=yD (bp.out.cast (by rw [L.out.1,HR.out]:_=kDv (n,x1,x2,x3) f t l))
 have E9:=(tQ E6 E)
 clear bp
 go_wp2
 go_ret2
 exact ⟨_,by rw [L.out.2];rfl,(cf.out.own rH).wide (λj I=>by rcases I with I | I;exact ⟨by have:=I.1;omega,by have:=I.2;simp [World.setCell];omega⟩;exact ⟨by have:=I.1;omega,by have:=I.2;simp [World.setCell];omega⟩),E9.setCell (show w.heap.size<=b by have:=V.1;omega) _⟩
def kSd {w:Am} {vl:Av} {l:Au kF} (hl:(kD.slice 107 kH).rd w [vl] l) (a1:∀ y∈l,y.2.1.length<=1048576) {cx:Au Av} {x:jE} (hx:jM.rd w cx x) {f:Int} (hf:Qi f) {t:Int} (ht:Qi t) :
    Calls prog 39 #[vl,.agg cx.toArray,.int .i64 f,.int .i64 t] w λe w'=>∃ v,e=.returned (.tuple #[v,.bool (yY x f l)])/\(kD.slice 107 kH).own w' [v] (kDv x f t l) (jg w w')/\Qb w w':=by
 have HL:=yD hl
 have cd:=yD a1
 have bc:l.length<=16777216:=hl.2.1
 have HW:=yD hx
 obtain ⟨nv,rfl,bd,aq,a8,bk,br⟩:=jY hx.1
 obtain ⟨n,x1,x2,x3⟩:=x
 have Y:Hid (kR.rd w [nv] n):=yD ⟨bd,hx.2.1⟩
 obtain ⟨na,np,rfl,_,va,vp,rfl,bl⟩:=kD.sx aq (kD.sl hl.1)
 have HF:=yD hf
 have bw:=yD a8
 clear bd aq a8 bk br hl hx hf ht a1
 go_enter func39,ntmps39
 go_upto_region 1 with fail
 generalize R:World.alloc (World.alloc w _) _=U
 obtain ⟨Z,K0⟩:=DX
 have K1:Qd U w 1 (Qn x1):=vS
 have K2:Qd U w 2 (Qn x2):=vS
 have K3:Qd U w 3 (Qn x3):=vS
 have KF:Qc U (w.heap.size + 1) 0 (Qn f):=vS
 have bx:U.heap.size=w.heap.size + 2:=bD4
 clear R
 go_wp2_with fail
 refine (kTm (HL.out.below Z)).mono ?_
 rintro e w1 ⟨v1,rfl,O1,N⟩
 obtain ⟨K0,K1,K2⟩:=DD
 replace K3:=cL N K3
 replace KF:=cL N KF
 have E1:=(tQ Z N)
 have bn:=N.size
 have J:=yD O1
 obtain ⟨oa,on,oc,ho,ay⟩:=O1.parts
 obtain rfl:=ho
 clear O1 N Z
 go_wp2_with fail
 refine (kBn (HL.out.1.below E1) (Y.out.1.below E1)).mono ?_
 rintro e w4 ⟨rfl,F⟩
 replace K0:=cL F K0
 replace K1:=cL F K1
 replace K2:=cL F K2
 replace K3:=cL F K3
 replace KF:=cL F KF
 have E4:=(tQ E1 F)
 have b5:=F.size
 replace J:=yD ((J.out.below F).wide (T:=jg U w4) sI)
 clear F E1
 by_cases hk:idxOf (jV n) l < 0
 · have HK:Hid (decide (idxOf (jV n) l < 0)=true):=yD bC2;go_upto_region 3 with fail;have FX:=yD (λ(W:Am) (hW:Qb w4 W)=>kTx hW K0 K1 K2 K3 KF);refine kL (λW=>Qb w4 W) [Tt,Ff,Tt,Tt,Tt,Ff,Tt,Tt,Tt,Tt,Tt,Tt,Tt,Tt,Tt,Tt,Tt] (bR) ?_;intro wS E;all_goals (refine kS ?_;(first|(refine kI rfl E ?_)|(refine ku rfl (λK H=>?_);go_simp;refine (kDu (HW.out.1.below (tQ E4 E))).mono ?_;rintro e wV ⟨rfl,a3⟩;replace E:=(tQ E a3);refine H _ _ E ?_;clear H K a3));refine jH ?_;refine kS ?_;refine jT λb bh=>?_;cases b <;> try simp only [jS] at bh)
   all_goals (refine kS ?_;(first | refine wkC (yC) ?_ | refine kS ?_);refine kS ?_;refine kS ?_;refine jT λb b6=>?_;cases b <;> try simp only [jS] at b6)
   all_goals (refine kS ?_;refine kS ?_;refine jT λb an=>?_;cases b <;> try simp only [jS] at an)
   all_goals ((iterate 4 refine kS ?_);refine jT λb ao=>?_;cases b <;> try simp only [jS] at ao)
   all_goals (refine kM ?_;have E5:=(tQ E4 E);have am:=yD (J.out.below E);have b4:=E.size;have be:=cL E K0;have bu:=cL E K1;have bv:=cL E K2;have b1:=cL E K3;have a6:=cL E KF;clear K0 K1 K2 K3 KF J)
   all_goals first|(have L:=yD (kPs (t:=t) (show yY (n,x1,x2,x3) f l=false by simp only [yY,HK.out,Ad,Aa,Ae,Ag,Ab,Ac,Aj,Ak,Ah,Ai,Al,Aq,bh,b6,an,ao,ao]));go_wp2;go_ret2;exact ⟨_,by rw [L.out.2];rfl,(((kIb am.out).cast L.out.1.symm).own wJ).wide nK,E5⟩) | skip
   obtain ⟨L,bi⟩:=AP;generalize hq:idxOf (jV n) l=q at *;clear hq HK;go_upto_region 6 with fail;generalize az:wrap64 (t + x3)=y3;obtain ⟨HR,HY⟩:=DJ;clear az;generalize O:World.alloc _ _=wC;obtain ⟨EC,bt,a9,a7,ax,E6,ag⟩:=xH;replace be:=cL EC be;clear O bu bv b1 am E EC;go_upto_region 7 with fail;have J:Hid (kD.kY 107 kHj wC.drew (.slice oa on oc) l (jg U w4)):=yD (kD.kY.drew ag.out);have E:Below w w wC.drew/\(wC.drew.cell? ⟨w,0,none⟩=some (.slice na n.length np)/\wC.drew.cell? ⟨wV,0,none⟩=some (.int .i64 f)/\wC.drew.cell? ⟨wV,1,none⟩=some (.int .i64 x1)/\wC.drew.cell? ⟨wV,2,none⟩=some (.int .i64 y3)):=⟨E6.trans bR.drew,be,a9,a7,ax⟩;refine kXa (λW=>Qb w W/\(Qd W w 0 (Qs na n np)/\Qd W wV 0 (Qn f)/\Qd W wV 1 (Qn x1)/\Qd W wV 2 (Qn y3))) bE5 E ?_;change tree _ _ _ _ _ _ _ wC.drew;have c6:wC.heap.size<=wC.drew.heap.size:=Nat.le_refl _;generalize bg:wC.drew=wD at *;clear bg ag be a9 a7 ax;refine kT 0 ?_;refine kT 1 ?_;refine kCr (k:=2) (v:=?_) rfl bE5 qW rfl E (λW hW=>?_) ?_;rotate_left
   · obtain ⟨_,A0,A1,A2,A3⟩:=hW;go_simp;try with_reducible rfl
   refine jH ?_;refine kCr (k:=4) (v:=?_) rfl bE5 qW rfl E (λW hW=>?_) ?_;rotate_left
   · obtain ⟨_,A0,A1,A2,A3⟩:=hW;go_simp;try with_reducible rfl
   refine jH ?_;refine yH (i:=3) (j:=5) rfl rfl bE5 rfl rfl (λK H=>?_) (λK H=>?_)
   · have bj:=E.1.size;go_simp;refine (zG (Y.out.below E.1)).mono ?_;rintro e wT ⟨tc,rfl,OT,ai⟩;obtain ⟨fr,rfl,b7⟩:=kw OT.raw;obtain ⟨b0,dd,rfl,_⟩:=kD.sl b7;clear b7;replace OT:=yD OT;have fx:=ai.size;replace J:=yD (J.out.below ai);replace E:=And.intro (tQ E.1 ai) (And.intro (cL ai E.2.1) (And.intro (cL ai E.2.2.1) (And.intro (cL ai E.2.2.2.1) (cL ai E.2.2.2.2))));refine H _ _ E ?_;clear H K ai;refine kU (k:=5) rfl bE5 rfl (λK H=>?_);go_simp;have HQ:Hid (kD.kY 105 kQ (wT.alloc (.cells #[.int .i64 f,.int .i64 x1,.int .i64 y3] 105)) (.slice (some ⟨wT,0,none⟩) 1 1) [(f,x1,y3)] (jg wT (wT.heap.size + 1))):=yD (kD.yR (e:=105) (r:=kQ) (w:=wT) (cs:=[.int .i64 f,.int .i64 x1,.int .i64 y3]) (xs:=[(f,x1,y3)]) (T:=λ_=>False) (S:=jg wT (wT.heap.size + 1)) dI (by simp [maxLen]) ⟨_,[],_,_,by simp,(kD.flat.own (S:=λ_=>False) (kD.jl (kD.ky HF.out) (kD.jl (kD.ky bw.out) (kD.ky HY.out)))).1,rfl,λ_ h=>h,λ_ h=>h,λ_ _ h _=>h⟩ (λ_ h=>h.elim) ⟨Nat.le_refl _,by omega⟩);obtain ⟨qb,ak⟩:∃ q,q=wT.heap.size:=⟨_,rfl⟩;rw [<- ak] at HQ;have EU:Below wT wT (World.alloc wT (.cells #[.int .i64 f,.int .i64 x1,.int .i64 y3] 105)):=(bR.alloc nL _);have bp:wT.heap.size + 1=(World.alloc wT (.cells #[.int .i64 f,.int .i64 x1,.int .i64 y3] 105)).heap.size:=(by simp);generalize al:World.alloc wT (.cells #[.int .i64 f,.int .i64 x1,.int .i64 y3] 105)=wU at HQ EU bp ⊢;clear al;replace J:=yD (J.out.below EU);replace OT:=yD (OT.out.below EU);replace E:=And.intro (tQ E.1 EU) (And.intro (cL EU E.2.1) (And.intro (cL EU E.2.2.1) (And.intro (cL EU E.2.2.2.1) (cL EU E.2.2.2.2))));replace bp:wT.heap.size + 1<=wU.heap.size:=Nat.le_of_eq bp;rw [<- ak];replace ak:=Nat.le_antisymm_iff.1 ak;refine H _ _ E ?_;clear H K EU;refine kT 6 ?_;refine kU (k:=7) rfl bE5 rfl (λK H=>?_);go_simp;have EL:Below wU wU (World.alloc wU (.cells #[.slice b0 n.length dd,.slice (some ⟨qb,0,none⟩) 1 1,.int .i64 0] 107)):=(bR.alloc nL _);obtain ⟨v5,w5,aw,a4,ah⟩:=jDo (P:=prog) (t:=28) (ty:=28) (r:=kHj) (e:=107) (w:=wU) (u:=World.alloc wU (.cells #[.slice b0 n.length dd,.slice (some ⟨qb,0,none⟩) 1 1,.int .i64 0] 107)) Aw yj rfl bF1 bF1 J.out (b:=wU.heap.size) rfl (kD.own.wide (T:=jg w4 wU) (kD.jq (r:=kR) (q:=kD.pair (kD.kRs 105 kQ) kD.int) (cs:=[.slice b0 n.length dd]) (ds:=[.slice (some ⟨qb,0,none⟩) 1 1,.int .i64 0]) (x:=n) (y:=([(f,x1,y3)],0)) (S:=jg w4 wU) OT.out (kD.yQ (r:=(kD.kRs 105 kQ)) (q:=kD.int) (cs:=[.slice (some ⟨qb,0,none⟩) 1 1]) (ds:=[.int .i64 0]) (x:=[(f,x1,y3)]) (y:=0) (HQ.out.own0h bE7) (kD.ky ⟨by decide,by decide⟩)) nK nK fC) (λj I=>I)) rfl nT bF2;have c2:wU.heap.size < (World.alloc wU (.cells #[.slice b0 n.length dd,.slice (some ⟨qb,0,none⟩) 1 1,.int .i64 0] 107)).heap.size:=(by simp);obtain ⟨lb,ce⟩:∃ q,q=wU.heap.size:=⟨_,rfl⟩;rw [<- ce] at aw;generalize c3:World.alloc wU (.cells #[.slice b0 n.length dd,.slice (some ⟨qb,0,none⟩) 1 1,.int .i64 0] 107)=wL at EL aw ah c2 ⊢;exact aD
   have bj:=E.1.size;go_simp;have HQ:Hid (kD.kY 105 kQ (wD.alloc (.cells #[.int .i64 f,.int .i64 x1,.int .i64 y3] 105)) (.slice (some ⟨wD,0,none⟩) 1 1) [(f,x1,y3)] (jg wD (wD.heap.size + 1))):=yD (kD.yR (e:=105) (r:=kQ) (w:=wD) (cs:=[.int .i64 f,.int .i64 x1,.int .i64 y3]) (xs:=[(f,x1,y3)]) (T:=λ_=>False) (S:=jg wD (wD.heap.size + 1)) dI (by simp [maxLen]) ⟨_,[],_,_,by simp,(kD.flat.own (S:=λ_=>False) (kD.jl (kD.ky HF.out) (kD.jl (kD.ky bw.out) (kD.ky HY.out)))).1,rfl,λ_ h=>h,λ_ h=>h,λ_ _ h _=>h⟩ (λ_ h=>h.elim) ⟨Nat.le_refl _,by omega⟩);obtain ⟨qb,ak⟩:∃ q,q=wD.heap.size:=⟨_,rfl⟩;rw [<- ak] at HQ;have EU:Below wD wD (World.alloc wD (.cells #[.int .i64 f,.int .i64 x1,.int .i64 y3] 105)):=(bR.alloc nL _);have bp:wD.heap.size + 1=(World.alloc wD (.cells #[.int .i64 f,.int .i64 x1,.int .i64 y3] 105)).heap.size:=(by simp);generalize al:World.alloc wD (.cells #[.int .i64 f,.int .i64 x1,.int .i64 y3] 105)=wU at HQ EU bp ⊢;clear al;replace J:=yD (J.out.below EU);replace E:=And.intro (tQ E.1 EU) (And.intro (cL EU E.2.1) (And.intro (cL EU E.2.2.1) (And.intro (cL EU E.2.2.2.1) (cL EU E.2.2.2.2))));replace bp:wD.heap.size + 1<=wU.heap.size:=Nat.le_of_eq bp;rw [<- ak];replace ak:=Nat.le_antisymm_iff.1 ak;refine H _ _ E ?_;clear H K EU;refine kU (k:=3) rfl bE5 rfl (λK H=>?_);go_simp;refine (zG (Y.out.below E.1)).mono ?_;rintro e wT ⟨tc,rfl,OT,ai⟩;obtain ⟨fr,rfl,b7⟩:=kw OT.raw;obtain ⟨b0,dd,rfl,_⟩:=kD.sl b7;clear b7;replace OT:=yD OT;have fx:=ai.size;replace J:=yD (J.out.below ai);replace HQ:=yD (HQ.out.below ai);replace E:=And.intro (tQ E.1 ai) (And.intro (cL ai E.2.1) (And.intro (cL ai E.2.2.1) (And.intro (cL ai E.2.2.2.1) (cL ai E.2.2.2.2))));refine H _ _ E ?_;clear H K ai;refine kT 6 ?_;refine kU (k:=7) rfl bE5 rfl (λK H=>?_);have bf:=E.1.size;go_simp;have EL:Below wT wT (World.alloc wT (.cells #[.slice b0 n.length dd,.slice (some ⟨qb,0,none⟩) 1 1,.int .i64 0] 107)):=(bR.alloc nL _);obtain ⟨v5,w5,aw,a4,ah⟩:=jDo (P:=prog) (t:=28) (ty:=28) (r:=kHj) (e:=107) (w:=wT) (u:=World.alloc wT (.cells #[.slice b0 n.length dd,.slice (some ⟨qb,0,none⟩) 1 1,.int .i64 0] 107)) Aw yj rfl bF1 bF1 J.out (b:=wT.heap.size) rfl (kD.own.wide (T:=jg w4 wT) (kD.jq (r:=kR) (q:=kD.pair (kD.kRs 105 kQ) kD.int) (cs:=[.slice b0 n.length dd]) (ds:=[.slice (some ⟨qb,0,none⟩) 1 1,.int .i64 0]) (x:=n) (y:=([(f,x1,y3)],0)) (S:=jg w4 wT) OT.out (kD.yQ (r:=(kD.kRs 105 kQ)) (q:=kD.int) (cs:=[.slice (some ⟨qb,0,none⟩) 1 1]) (ds:=[.int .i64 0]) (x:=[(f,x1,y3)]) (y:=0) (HQ.out.own0h bE7) (kD.ky ⟨by decide,by decide⟩)) nK nK fC) (λj I=>I)) rfl nT bF2;have c2:wT.heap.size < (World.alloc wT (.cells #[.slice b0 n.length dd,.slice (some ⟨qb,0,none⟩) 1 1,.int .i64 0] 107)).heap.size:=(by simp);obtain ⟨lb,ce⟩:∃ q,q=wT.heap.size:=⟨_,rfl⟩;rw [<- ce] at aw;generalize c3:World.alloc wT (.cells #[.slice b0 n.length dd,.slice (some ⟨qb,0,none⟩) 1 1,.int .i64 0] 107)=wL at EL aw ah c2 ⊢;exact aD
 have HK:Hid (decide (idxOf (jV n) l < 0)=false):=yD bC2
 obtain ⟨k,hkl,ad⟩:=zn hk
 have av:=yD ad
 rw [ad]
 have b3:¬ ((k:Int) < 0):=bF2
 clear hk ad
 go_upto_region 3 with fail
 have FX:=yD (λ(W:Am) (hW:Qb w4 W)=>kTx hW K0 K1 K2 K3 KF)
 refine kL (λW=>Qb w4 W) [Tt,Ff,Tt,Tt,Tt,Ff,Tt,Tt,Tt,Tt,Tt,Tt,Tt,Tt,Tt,Tt,Tt] (bR) ?_
 intro wS E
 all_goals (refine kS ?_;(first|(refine kI rfl E ?_)|(refine ku rfl (λK H=>?_);go_simp;refine (kDu (HW.out.1.below (tQ E4 E))).mono ?_;rintro e wV ⟨rfl,a3⟩;replace E:=(tQ E a3);refine H _ _ E ?_;clear H K a3));refine jH ?_;refine kS ?_;refine jT λb bh=>?_;cases b <;> try simp only [jS] at bh)
 all_goals (refine kS ?_;(first | refine wkC (yC) ?_ | refine kS ?_);refine kS ?_;refine kS ?_;refine jT λb b6=>?_;cases b <;> try simp only [jS] at b6)
 all_goals (refine kS ?_;refine kS ?_;refine jT λb an=>?_;cases b <;> try simp only [jS] at an)
 all_goals ((iterate 4 refine kS ?_);refine jT λb ao=>?_;cases b <;> try simp only [jS] at ao)
 all_goals (refine kM ?_;have E5:=(tQ E4 E);have am:=yD (J.out.below E);have b4:=E.size;have be:=cL E K0;have bu:=cL E K1;have bv:=cL E K2;have b1:=cL E K3;have a6:=cL E KF;clear K0 K1 K2 K3 KF J)
 all_goals first|(have L:=yD (kPs (t:=t) (show yY (n,x1,x2,x3) f l=false by simp only [yY,HK.out,Ad,Aa,Ae,Ag,Ab,Ac,Aj,Ak,Ah,Ai,Al,Aq,bh,b6,an,ao,ao]));go_wp2;go_ret2;exact ⟨_,by rw [L.out.2];rfl,(((kIb am.out).cast L.out.1.symm).own wJ).wide nK,E5⟩) | skip
 have L:=yD (kUb (t:=t) (show yY (n,x1,x2,x3) f l=true by simp only [yY,HK.out,Ad,Aa,Ae,Ag,Ab,Ac,Aj,Ak,Ah,Ai,Al,Aq,bh,b6,an,ao,ao]) av.out hkl)
 go_upto_region 6 with fail
 generalize az:wrap64 (t + x3)=y3
 obtain ⟨HR,HY⟩:=DJ
 clear az
 generalize O:World.alloc _ _=wC
 obtain ⟨EC,bt,a9,a7,ax,E6,ag⟩:=xH
 replace a6:=cL EC a6
 clear O bu bv b1 am E EC
 obtain ⟨b,cap,hv,V,au,ar,ap⟩:=kD.zm ag.out hkl
 simp only [Ay] at hv
 obtain ⟨rfl,ab,rfl⟩:=hv
 have a2:(k:Int) < on:=bF2
 clear ab
 have cw:l[k].2.1.length<=1048576:=cd.out _ (Ap hkl)
 obtain ⟨ra,rp,B,A1,hQ,hB,o,ck,cg,ac⟩:=pend_part ag.out hkl
 have HQ:=yD hQ
 have aj:=yD ac
 have HB:=yD hB
 clear ac hQ hB
 have bq:Hid (∀ j,B j->U.heap.size<=j/\j < w4.heap.size):=yD (λj I=>(HB.out j I).1)
 clear ag
 go_wp2_with fail
 refine (kMz (kPo f) kIy HQ.out bF2 (λwr hb x cs hr=>kQi hr ?_)).mono ?_
 · have e1:wr.heap[w.heap.size + 1]?=wC.heap[w.heap.size + 1]?:=hb.block _ bF2 (λq=>by have:=(bq.out _ q).1;omega);rw [<- a6];unfold World.cell?;simp only [e1]
 rintro e w6 ⟨v6,rfl,O6,T6⟩
 have ba:=yD T6
 have D:∀ (bb i:Nat) (u:Av),Qc wC bb i u->(bb < U.heap.size\/w4.heap.size<=bb)->Qc w6 bb i u:=λbb i u hu hq=>by
   have e1:w6.heap[bb]?=wC.heap[bb]?:=T6.block _ (World.block_lt_of_cell? _ _ hu) (λq=>by have:=bq.out _ q;omega);unfold World.cell? at hu ⊢;simp only [e1];exact hu
 replace a6:=D _ _ _ a6 (.inl bF2)
 replace a9:=D _ _ _ a9 (.inr bF2)
 replace a7:=D _ _ _ a7 (.inr bF2)
 replace ax:=D _ _ _ ax (.inr bF2)
 have c5:=T6.size
 obtain ⟨i,hi,b8,a5⟩:=kTf (f,x1,y3) l[k].2.1
 obtain ⟨M,hM⟩:∃ M,M=zT (f,x1,y3).1 l[k].2.1:=⟨_,rfl⟩
 rw [<- hM] at hi b8 a5
 have HM:Hid (kD.kY 105 kQ w6 v6 M B):=yD (O6.cast (by rw [hM];rfl))
 have c8:M.length<=1048576:=by rw [hM];exact Nat.le_trans (List.length_filter_le _ _) cw
 have aa:=yD b8
 obtain ⟨pa,pn,pc,hp,bo⟩:=HM.out.parts
 obtain rfl:=hp
 have c4:=yD A1
 clear O6 T6 D A1 HQ hM b8
 go_wp2_with fail
 refine (kDa (λr=>decide (f<=r.1)) kIx HM.out.kKg (λwr hb i h cs hr=>kQh hr (cL hb a6))).mono ?_
 rintro e w7 ⟨rfl,ae⟩
 have cv:=ae.size
 have cm:=yD (HM.out.below ae)
 have cl:=yD ae
 replace a9:=cL ae a9
 replace a7:=cL ae a7
 replace ax:=cL ae ax
 clear HM ae
 rcases a5 with ⟨hx,hi2⟩ | hx
 · have hx:idxOf (λr:kV=>decide (f<=r.1)) M=-1:=hx;obtain rfl:i=pn:=hi2.trans bo.out.symm;rw [hx];clear hx hi2;exact aF
 have hx:idxOf (λr:kV=>decide (f<=r.1)) M=(i:Int):=hx
 rw [hx]
 clear hx
 exact aF
end Go.Proofs.YthocbplmdjkifaaGreat

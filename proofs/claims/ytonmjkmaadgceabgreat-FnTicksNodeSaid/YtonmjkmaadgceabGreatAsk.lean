/-
  Requesters that are valid: in order, in range.
-/
import Derived.Test.YtonmjkmaadgceabGreatPut
import Derived.Test.YtonmjkmaadgceabGreatSoftT
set_option linter.unusedVariables false
set_option linter.defProp false
set_option linter.unusedSimpArgs false
set_option linter.unnecessarySimpa false
set_option maxRecDepth 100000
set_option maxHeartbeats 4000000
open Bool renaming true->Tt,false->Ff
open Bool renaming not_false->Aa,and_false->Ab,false_and->Ac,not_true->Ad,and_true->Ae,true_and->Ag,or_false->Ah,false_or->Ai,or_true->Aj,true_or->Ak,not_not->Al
open _root_ renaming List->Am,ge_iff_le->Aq
open List renaming findIdx?_eq_some_iff_getElem->Ap,findIdx?_eq_none_iff->Au,getElem_mem->Av,getElem?_cons_succ->Aw,getElem?_cons_zero->Ay,length_eq_one_iff->Az,pairwise_cons->Bb
open List.cons renaming injEq->Ar
open Go renaming World->Ba,Value->Be
open Int renaming natCast_nonneg->Bc,toNat_natCast->Bd
open Go.Value.slice renaming injEq->Bf
namespace Go.Proofs.YtonmjkmaadgceabGreat
open Go.RowKit _root_.Go.Proofs.Tryz
def kRh (x:zh) (f t:Int):kW:=(f,x.2.1,wrap64 (t + x.2.2.2))
def kBm (x:zh) (f:Int) (l:Am kF):Bool:=!((!kPy x || !inR f 0 6) || (decide (idxOf (ja x.1) l < 0) && decide ((12:Int)<=(l.length:Int))))
def addQ1 (x:zh) (f t:Int) (l:Am kF):Am kF :=
  if idxOf (ja x.1) l < 0 then l++[(x.1,[kRh x f t],0)]
  else l.set (idxOf (ja x.1) l).toNat ((l.getD (idxOf (ja x.1) l).toNat ([],[],0)).1,kOp (kRh x f t) (l.getD (idxOf (ja x.1) l).toNat ([],[],0)).2.1,(l.getD (idxOf (ja x.1) l).toNat ([],[],0)).2.2)
def addQ (x:zh) (f t:Int) (l:Am kF):Am kF:=if kBm x f l then addQ1 x f t l else l
def jAh {x:zh} {f t:Int} {l:List kF} (h:kBm x f l=false):addQ x f t l=l/\kBm x f l=false:=by unfold addQ;rw [h];exact ⟨rfl,rfl⟩
def addQ_new {x:zh} {f t:Int} {l:List kF} (h:kBm x f l=true) (hk:idxOf (ja x.1) l < 0):addQ x f t l=l++[(x.1,[kRh x f t],0)]/\kBm x f l=true:=by unfold addQ addQ1;rw [h,if_pos hk];exact ⟨rfl,rfl⟩
def addQ_set {x:zh} {f t:Int} {l:Am kF} {k:Nat} (h:kBm x f l=true) (hk:idxOf (ja x.1) l=k) (aa:k < l.length):addQ x f t l=l.set k (l[k].1,kOp (kRh x f t) l[k].2.1,l[k].2.2)/\kBm x f l=true:=by
 unfold addQ addQ1;rw [h,if_pos rfl,hk,if_neg (show ¬ ((k:Int) < 0) by omega)];refine ⟨?_,rfl⟩;simp only [Bd,jS aa]
def addQok_len {x:zh} {f:Int} {l:Am kF} (h:kBm x f l=true) (hk:idxOf (ja x.1) l < 0):l.length < 12:=by
 unfold kBm at h;simp [hk] at h;omega
def pend_setReq {w:Ba} {b cap len k:Nat} {l:Am kF} {S T:Nat->Prop} {v':Be} {o:Am kW} (h:kD.kR 43 kH w (.slice (some ⟨b,0,none⟩) len cap) l S) (hk:k < l.length)
    (hv:kD.kR 45 jA w v' o T) (b7:o.length<=Big) (hST:∀ j,S j->T j->False) :
    kD.kR 43 kH (w.setCell ⟨b,k * 3 + 1,none⟩ v') (.slice (some ⟨b,0,none⟩) len cap) (l.set k (l[k].1,o,l[k].2.2)) (λj=>S j\/T j):=by
 have b8:=h.1 l[k] (Av hk)
 refine (kD.kZv (i:=k) (j:=1) (p:=k * 3 + 1) (T:=T) (y:=(l[k].1,o,l[k].2.2)) h hk bC8 ?_ ⟨b8.1,(hv.own0h b7).2,trivial⟩ hST rfl).1
 rintro cs D ⟨c,d,A,B,rfl,h1,⟨c2,R,A2,U,rfl,h2,h3,k1,k2,k3⟩,k4,k5,k6⟩ E
 have G:c.length=1:=kU.len h1
 obtain ⟨cn,rfl⟩:=Az.1 G
 have bc:c2.length=1:=(kD.slice 45 jA).len h2
 obtain ⟨cq,rfl⟩:=Az.1 bc
 refine ⟨[cn],v' :: R,A,T,rfl,h1,?_,λj I=>.inl (k4 j I),λj=>.inr,λ_ j a t=>hST j (E j (k4 j a)) t⟩
 exact ⟨[v'],R,T,λ_=>False,rfl,(hv.own b7).1,h3,λj I=>I,λj I=>I.elim,λ_ j _ I=>I⟩
def kTh (z:Int):-9223372036854775808<=wrap64 z/\wrap64 z<=9223372036854775807:=by unfold wrap64;omega
def kGe {w:Ba} {vl:Be} {l:Am kF} (hl:(kD.slice 43 kH).rd w [vl] l) (be:∀ y∈l,y.2.1.length<=1048576) {cx:Am Be} {x:zh} (hx:kLs.rd w cx x) {f:Int} (hf:Qi f) {t:Int} (ht:Qi t) :
    Calls prog 137 #[vl,.agg cx.toArray,.int .i64 f,.int .i64 t] w λe w'=>∃ v,e=.returned (.tuple #[v,.bool (kBm x f l)])/\(kD.slice 43 kH).own w' [v] (addQ x f t l) (jX w.heap.size w'.heap.size)/\Qb w w':=by
 have HL:=yD hl
 have ae:=yD be
 have a5:l.length<=16777216:=hl.2.1
 have HW:=yD hx
 obtain ⟨nv,rfl,bj,ai,bd,bm,ar⟩:=kMw hx.1
 obtain ⟨n,x1,x2,x3⟩:=x
 have HN:Hid (kU.rd w [nv] n):=yD ⟨bj,hx.2.1⟩
 obtain ⟨na,np,rfl,_⟩:=kD.sl ai
 obtain ⟨va,vp,rfl,av⟩:=kD.sl hl.1
 have HF:=yD hf
 have bl:=yD bd
 clear bj ai bd bm ar hl hx hf ht be
 go_enter func137,ntmps137
 go_upto_region 1 with fail
 generalize D:World.alloc w _=N
 obtain ⟨EB,K0⟩:=GR
 have K1:Qd N w 1 (.int .i64 x1):=tK
 have K2:Qd N w 2 (.int .i64 x2):=tK
 have K3:Qd N w 3 (.int .i64 x3):=tK
 have bu:N.heap.size=w.heap.size + 1:=bB2
 clear D
 go_wp2_with fail
 refine (kHg (HL.out.below EB)).mono ?_
 rintro e Y ⟨v1,rfl,O1,O⟩
 replace K0:=cL O K0
 replace K1:=cL O K1
 replace K2:=cL O K2
 replace K3:=cL O K3
 have E1:=(tQ EB O)
 have bq:=O.size
 have J:=yD O1
 obtain ⟨oa,on,oc,ho,bb⟩:=O1.parts;obtain rfl:=ho
 clear O1 O EB
 go_wp2_with fail
 refine (kEw (HL.out.1.below E1) (HN.out.1.below E1)).mono ?_
 rintro e w4 ⟨rfl,an⟩
 replace K0:=cL an K0
 replace K1:=cL an K1
 replace K2:=cL an K2
 replace K3:=cL an K3
 have E4:=(tQ E1 an)
 have bw:=an.size
 replace J:=yD ((J.out.below an).wide (T:=jX N.heap.size w4.heap.size) qU)
 clear an E1
 by_cases hk:idxOf (ja n) l < 0
 · have HK:Hid (decide (idxOf (ja n) l < 0)=true):=yD bA0;go_upto_region 3 with fail;have FX:=yD (λ(W:Ba) (hW:Qb w4 W)=>kGr hW K0 K1 K2 K3);refine jE (λW=>Qb w4 W) [Tt,Ff,Tt,Tt,Tt,Ff,Tt,Tt,Tt,Tt,Tt,Tt,Tt,Tt,Tt,Tt,Tt] (bR) ?_;intro wS E;all_goals refine ku ?_
   all_goals first|(refine kI rfl E ?_)|(refine kw rfl (λK H=>?_);go_simp;refine (kFp (HW.out.1.below (tQ E4 E))).mono ?_;rintro e wV ⟨rfl,a4⟩;replace E:=(tQ E a4);refine H _ _ E ?_;clear H K a4)
   all_goals refine jF ?_
   all_goals refine ku ?_
   all_goals (refine jy λb a1=>?_;cases b <;> try simp only [jw] at a1)
   all_goals refine ku ?_
   all_goals first | refine wkC (jo) ?_ | refine ku ?_
   all_goals refine ku ?_
   all_goals refine ku ?_
   all_goals (refine jy λb ak=>?_;cases b <;> try simp only [jw] at ak)
   all_goals refine ku ?_
   all_goals refine ku ?_
   all_goals (refine jy λb V=>?_;cases b <;> try simp only [jw] at V)
   iterate 4
    all_goals refine ku ?_
   all_goals (refine jy λb G=>?_;cases b <;> try simp only [jw] at G)
   all_goals refine kS ?_
   all_goals have E5:=(tQ E4 E)
   all_goals have bc:=yD (J.out.below E)
   all_goals have bv:=E.size
   all_goals have af:=cL E K0
   all_goals have bh:=cL E K1
   all_goals have bi:=cL E K2
   all_goals have bk:=cL E K3
   all_goals clear K0 K1 K2 K3 J
   all_goals first|(have L:=yD (jAh (t:=t) (show kBm (n,x1,x2,x3) f l=false by simp only [kBm,HK.out,Ad,Aa,Ae,Ag,Ab,Ac,Aj,Ak,Ah,Ai,Al,Aq,a1,ak,V,G,G]));go_wp2;go_ret2;exact ⟨_,by rw [L.out.2];rfl,((bc.out.cast L.out.1.symm).own (by rw [L.out.1];exact a5)).wide mH,E5⟩) | skip
   have L:=yD (addQ_new (t:=t) (show kBm (n,x1,x2,x3) f l=true by simp only [kBm,HK.out,Ad,Aa,Ae,Ag,Ab,Ac,Aj,Ak,Ah,Ai,Al,Aq,a1,ak,V,G,G]) hk);have ba:=addQok_len L.out.2 hk;have dr:¬ (0<=idxOf (ja n) l):=bC9;generalize hq:idxOf (ja n) l=q at *;clear hq HK;go_upto_region 6 with fail;generalize am:wrap64 (t + x3)=y3;have HR:Hid (kRh (n,x1,x2,x3) f t=(f,x1,y3)):=yD (by rw [<- am];rfl);have HY:Hid (Qi y3):=yD (by rw [<- am];exact kTh _);clear am;generalize X:World.alloc _ _=wC;obtain ⟨EC,ca,a9,a8,a6,E6,a2,af⟩:=FZ;clear X bh bi bk bc E EC;go_wp2_with fail;refine (zJ (HN.out.below E6)).mono ?_;rintro e wT ⟨tc,rfl,OT,aq⟩;obtain ⟨cf,rfl,al⟩:=kZ OT.raw;obtain ⟨a7,br,rfl,_⟩:=kD.sl al;clear al;go_upto_region 8 with fail;generalize ad:World.alloc wT _=wD;have ED:Qb wT wD:=rG;have KD:Qd wD wT 0 (.slice a7 n.length br):=tC;have b1:wT.heap.size<=wD.heap.size:=ED.size;clear ad;have ER:=(tQ aq ED);have bo:=aq.size;have b4:=yD (OT.below ED);replace a9:=cL ER a9;replace a8:=cL ER a8;replace a6:=cL ER a6;have ax:=yD (a2.out.below ER);have HQ:Hid ((kD.slice 45 jA).own (wD.alloc (.cells #[.int .i64 f,.int .i64 x1,.int .i64 y3] 45)) [.slice (some ⟨wD.heap.size,0,none⟩) 1 1] [(f,x1,y3)] (jX wD.heap.size (wD.heap.size + 1))):=yD (kD.kR.own (kD.yO (e:=45) (r:=jA) (w:=wD) (cs:=[.int .i64 f,.int .i64 x1,.int .i64 y3]) (xs:=[(f,x1,y3)]) (T:=λ_=>False) (S:=jX wD.heap.size (wD.heap.size + 1)) (by intro y hy;simp only [List.mem_singleton] at hy;rw [hy];exact ⟨trivial,trivial,trivial⟩) (by simp [maxLen]) ⟨_,[],_,_,by simp,(kD.flat.own (S:=λ_=>False) (kD.yC (kD.jB HF.out) (kD.yC (kD.jB bl.out) (kD.jB HY.out)))).1,rfl,λ_ h=>h,λ_ h=>h,λ_ _ h _=>h⟩ (λ_ h=>h.elim) ⟨Nat.le_refl _,by omega⟩) bC5);have E8:=(tQ E6 ER);clear OT;go_wp2_with (at_builtin;refine kD.jL rfl _ _ 28 rfl (r:=kH) (e:=43) underlying28 yP rfl bC8 bC8 (B:=w.heap.size) (b:=wD.heap.size + 1) (ax.out.alloc _) bD1 bD1 bD0 (kD.own.wide (T:=jX w4.heap.size (wD.heap.size + 1)) (kD.jl (r:=kU) (q:=kD.pair (kD.slice 45 jA) kD.int) (cs:=[.slice a7 n.length br]) (ds:=[.slice (some ⟨wD.heap.size,0,none⟩) 1 1,.int .i64 0]) (x:=n) (y:=([(f,x1,y3)],0)) (S:=jX w4.heap.size (wD.heap.size + 1)) (b4.out.alloc _) (kD.jv (r:=(kD.slice 45 jA)) (q:=kD.int) (cs:=[.slice (some ⟨wD.heap.size,0,none⟩) 1 1]) (ds:=[.int .i64 0]) (x:=[(f,x1,y3)]) (y:=0) HQ.out (kD.jB ⟨by decide,by decide⟩)) mH mH mM) (λj I=>I)) rfl mM gH gH bC4 bC9 ?_);intro v5 w5 F R b8;have b5:=yD (F.cast (by rw [L.out.1,HR.out]:_=addQ (n,x1,x2,x3) f t l));obtain ⟨pa,pn,pc,hp,ay⟩:=F.parts;obtain rfl:=hp;have E9:=(E8.alloc E8.size _).trans R;clear F R;go_wp2;go_ret2;exact ⟨_,by rw [L.out.2];rfl,b5.out.own (by rw [L.out.1];simp;unfold Big;omega),E9⟩
 have HK:Hid (decide (idxOf (ja n) l < 0)=false):=yD bA0
 obtain ⟨k,aa,ac⟩:=kIf hk
 have U:=yD ac
 rw [ac]
 have cw:¬ ((k:Int) < 0):=bC9
 clear hk ac
 go_upto_region 3 with fail
 have FX:=yD (λ(W:Ba) (hW:Qb w4 W)=>kGr hW K0 K1 K2 K3)
 refine jE (λW=>Qb w4 W) [Tt,Ff,Tt,Tt,Tt,Ff,Tt,Tt,Tt,Tt,Tt,Tt,Tt,Tt,Tt,Tt,Tt] (bR) ?_
 intro wS E
 all_goals refine ku ?_
 all_goals first|(refine kI rfl E ?_)|(refine kw rfl (λK H=>?_);go_simp;refine (kFp (HW.out.1.below (tQ E4 E))).mono ?_;rintro e wV ⟨rfl,a4⟩;replace E:=(tQ E a4);refine H _ _ E ?_;clear H K a4)
 all_goals refine jF ?_
 all_goals refine ku ?_
 all_goals (refine jy λb a1=>?_;cases b <;> try simp only [jw] at a1)
 all_goals refine ku ?_
 all_goals first | refine wkC (jo) ?_ | refine ku ?_
 all_goals refine ku ?_
 all_goals refine ku ?_
 all_goals (refine jy λb ak=>?_;cases b <;> try simp only [jw] at ak)
 all_goals refine ku ?_
 all_goals refine ku ?_
 all_goals (refine jy λb V=>?_;cases b <;> try simp only [jw] at V)
 iterate 4
  all_goals refine ku ?_
 all_goals (refine jy λb G=>?_;cases b <;> try simp only [jw] at G)
 all_goals refine kS ?_
 all_goals have E5:=(tQ E4 E)
 all_goals have bc:=yD (J.out.below E)
 all_goals have bv:=E.size
 all_goals have af:=cL E K0
 all_goals have bh:=cL E K1
 all_goals have bi:=cL E K2
 all_goals have bk:=cL E K3
 all_goals clear K0 K1 K2 K3 J
 all_goals first|(have L:=yD (jAh (t:=t) (show kBm (n,x1,x2,x3) f l=false by simp only [kBm,HK.out,Ad,Aa,Ae,Ag,Ab,Ac,Aj,Ak,Ah,Ai,Al,Aq,a1,ak,V,G,G]));go_wp2;go_ret2;exact ⟨_,by rw [L.out.2];rfl,((bc.out.cast L.out.1.symm).own (by rw [L.out.1];exact a5)).wide mH,E5⟩) | skip
 have L:=yD (addQ_set (t:=t) (show kBm (n,x1,x2,x3) f l=true by simp only [kBm,HK.out,Ad,Aa,Ae,Ag,Ab,Ac,Aj,Ak,Ah,Ai,Al,Aq,a1,ak,V,G,G]) U.out aa)
 go_upto_region 6 with fail
 generalize am:wrap64 (t + x3)=y3
 have HR:Hid (kRh (n,x1,x2,x3) f t=(f,x1,y3)):=yD (by rw [<- am];rfl)
 have HY:Hid (Qi y3):=yD (by rw [<- am];exact kTh _)
 clear am
 generalize X:World.alloc _ _=wC
 obtain ⟨EC,ca,a9,a8,a6,E6,a2,af⟩:=FZ
 clear X bh bi bk bc E EC
 obtain ⟨b,cap,hv,ab,aw,a3,az⟩:=kD.kAn a2.out aa
 simp only [Bf] at hv
 obtain ⟨rfl,o,rfl⟩:=hv
 have ag:k < on:=bC9
 have bt:(0:Int)<=k:=bC9
 have bx:(k:Int) < on:=bC9
 clear o
 have bf:=yD (a2.out.own a5)
 obtain ⟨c0,c1,c2,hr,A0,A1,A2⟩:=kD.at3 bf.out.raw aa rfl
 obtain ⟨bg,dc,Z,aj,ap,ao,au⟩:=jQ hr
 simp only [Ar,and_true] at Z
 obtain ⟨rfl,rfl,rfl⟩:=Z
 have b3:Hid ((kD.slice 45 jA).rd wC [c1] l[k].2.1):=yD ⟨ao,(kD.yX bf.out.rd aa).2.1⟩
 obtain ⟨ra,rp,rfl,_⟩:=kD.sl ao
 have b6:l[k].2.1.length<=1048576:=ae.out _ (Av aa)
 clear hr aj ap ao au A0 A2 bf
 go_upto_region 9 with fail
 have FX:=yD (λ(W:Ba) (hW:Qb wC W)=>kGr hW A1 a9 a8 a6)
 refine kM (λW=>Qb wC W) [Tt,Tt,Tt,Tt,Tt,Tt,Ff,Tt] bC3 bC3 pK (bR.drew) ?_
 intro wS E
 iterate 6
  all_goals refine ku ?_
 all_goals first|(refine kI rfl E ?_)|(refine kw rfl (λK H=>?_);go_simp;refine (kZm (b3.out.below E) HF.out bl.out HY.out).mono ?_;rintro e w6 ⟨v6,rfl,O6,bn⟩;obtain ⟨pa,pn,pc,hp,ay⟩:=O6.parts;obtain rfl:=hp;replace O6:=yD O6;have cg:=E.size;have bz:=bn.size;replace E:=(tQ E bn);refine H _ _ E ?_;clear H K bn)
 all_goals refine jF ?_
 all_goals refine ku ?_
 all_goals refine kS ?_
 have b9:=cL E A1
 have bp:=yD (a2.out.below E)
 have ah:=kD.kFf bp.out bC9 (k * 3 + 1)
 have b7:(kOp (f,x1,y3) l[k].2.1).length<=Big:=Nat.le_trans (putR_len _ _) wH
 have b2:=yD (pend_setReq bp.out aa O6.out b7 mM)
 have b0:=yD (b2.out.cast (by rw [L.out.1,HR.out]:_=addQ (n,x1,x2,x3) f t l))
 have E9:=(tQ E6 E)
 clear b2
 go_wp2
 go_ret2
 exact ⟨_,by rw [L.out.2];rfl,(b0.out.own (by rw [L.out.1];simp;unfold Big;omega)).wide (λj I=>by rcases I with I | I;exact ⟨by have:=I.1;omega,by have:=I.2;simp [World.setCell];omega⟩;exact ⟨by have:=I.1;omega,by have:=I.2;simp [World.setCell];omega⟩),E9.setCell (show w.heap.size<=b by have:=ab.1;omega) _⟩
def kUj (n:ko) (t:Int) (l:Am kF):Am kF :=
  if idxOf (ja n) l < 0 then l else l.set (idxOf (ja n) l).toNat (kAv (l.getD (idxOf (ja n) l).toNat ([],[],0)) t)
def sentP_no {n:ko} {t:Int} {l:List kF} (h:idxOf (ja n) l < 0):kUj n t l=l:=by unfold kUj;rw [if_pos h]
def kXo {n:ko} {t:Int} {l:Am kF} {k:Nat} (h:idxOf (ja n) l=k) (hk:k < l.length):kUj n t l=l.set k (kAv l[k] t):=by
 unfold kUj;simp only [h,Bd,jS hk];rw [if_neg bC9]
def kUf {w:Ba} {vl:Be} {l:Am kF} (hl:(kD.slice 43 kH).rd w [vl] l) {cn:Am Be} {n:ko} (hn:kU.rd w cn n) {t:Int} (ht:Qi t) :
    Calls prog 174 #[vl,.agg cn.toArray,.int .i64 t] w (kAa (kD.slice 43 kH) (kUj n t l) w):=by
 obtain ⟨HL,HN,a5⟩:=DF
 obtain ⟨nv,rfl,a8⟩:=kZ hn.1
 obtain ⟨na,np,rfl,_⟩:=kD.sl a8
 obtain ⟨va,vp,rfl,av⟩:=kD.sl hl.1
 clear a8 hl hn
 go_enter func174,ntmps174
 go_wp2_with fail
 generalize D:World.alloc w _=N
 obtain ⟨EB,K0,bu⟩:=CS
 clear D
 refine (kHg (HL.out.below EB)).mono ?_
 rintro e Y ⟨v1,rfl,O1,O⟩
 replace K0:=cL O K0
 obtain ⟨E1,bq,J⟩:=DT
 obtain ⟨oa,on,oc,ho,bb⟩:=O1.parts;obtain rfl:=ho
 clear O1 O EB
 have HF:=yD ht
 clear ht
 go_wp2_with fail
 refine (kEw (HL.out.1.below E1) (HN.out.1.below E1)).mono ?_
 rintro e w4 ⟨rfl,an⟩
 replace K0:=cL an K0
 have E4:=(tQ E1 an)
 obtain ⟨bw,J⟩:=D9
 clear an E1
 by_cases hk:idxOf (ja n) l < 0
 · have L:=yD (sentP_no (t:=t) hk);have dr:¬ (0<=idxOf (ja n) l):=bC9;generalize hq:idxOf (ja n) l=q at *;clear hq;go_wp2;go_ret;exact ⟨_,rfl,(J.out.cast L.out.symm).own vL,E4⟩
 obtain ⟨k,aa,ac⟩:=kIf hk
 have U:=yD ac
 rw [ac]
 clear hk ac
 obtain ⟨b,cap,hv,ab,aw,a3,az⟩:=kD.kAn J.out aa
 simp only [Bf] at hv
 obtain ⟨rfl,o,rfl⟩:=hv
 obtain ⟨ag,bt,bx,bf⟩:=DK
 obtain ⟨c0,c1,c2,hr,A0,A1,A2⟩:=kD.at3 bf.out.raw aa rfl
 clear hr
 have ah:=kD.kFf J.out bC9 (k * 3 + 2)
 have L:=yD (kXo (t:=t) U.out aa)
 obtain ⟨s1,s2⟩:=kD.kEf (i:=k) (j:=2) (p:=k * 3 + 2) (u:=.int .i64 t) J.out a5 aa bC8 (λh=>kKb _ HF.out h) (show kH.bdd Big (kAv l[k] t) from kD.yX bf.out.rd aa) rfl
 have ae:=yD (s1.cast L.out.symm);clear s1 s2 o
 go_wp2
 go_ret
 exact ⟨_,rfl,(ae.out.own qE).wide mD,E4.setCell ab.1 _⟩
def yK (l:Am jH) (n:ko) (x:Int):Am jH:=if (24:Nat) < (l++[(n,x)]).length then (l++[(n,x)]).drop 1 else l++[(n,x)]
def kGd {w:Ba} {vl:Be} {l:Am jH} (hl:(kD.slice 99 jG).rd w [vl] l) (hlen:l.length<=2000000) {cn:Am Be} {n:ko} (hn:kU.rd w cn n) {x:Int} (hx:Qi x) :
    Calls prog 30 #[vl,.agg cn.toArray,.int .i64 x] w (kAa (kD.slice 99 jG) (yK l n x) w):=by
 have HL:=yD hl
 have HN:=yD hn
 have HX:=yD hx
 obtain ⟨la,lp,rfl,ll⟩:=kD.sl hl.1
 obtain ⟨av,rfl,ad⟩:=kZ hn.1
 obtain ⟨na,np,rfl,_⟩:=kD.sl ad
 clear hl hn ad hx
 go_enter func30,ntmps30
 go_upto_region 1 with fail
 generalize D:World.alloc w _=N
 have EB:Qb w N:=by rw [<- D];exact bF
 have bu:w.heap.size + 1<=N.heap.size:=bB2
 have K0:Qd N w 0 (.slice na n.length np):=tK
 clear D
 have FX:=yD (λ(W:Ba) (hW:Qb N W)=>cL hW K0)
 refine jm (λW=>Qb N W) [(0,true),(2,true),(4,true),(1,false),(3,false),(5,true),(6,false),(7,false),(8,true)] bC3 bC3 pK (bR.drew) ?_
 intro wS E
 simp only [kz,Aw,Ay,List.map_cons,List.map_nil]
 iterate 3
  all_goals refine ku ?_
 all_goals first|(refine kI rfl E ?_)|(refine kw rfl (λK H=>?_);go_simp;refine (kMo (HL.out.below (tQ EB E))).mono ?_;rintro e wA ⟨v1,rfl,O1,O⟩;have ah:=E.size;have di:=O.size;have am:=E;obtain ⟨va,vn,vc,ab,a1⟩:=O1.parts;obtain rfl:=ab;have F:=yD O1;clear O1;replace E:=(tQ E O);refine H _ _ E ?_;clear H K O)
 all_goals refine jF ?_
 all_goals first|(refine kI rfl E ?_)|(refine kw rfl (λK H=>?_);go_simp;refine (zJ (HN.out.below (tQ EB E))).mono ?_;rintro e wC ⟨tc,rfl,O3,L⟩;have ca:=L.size;obtain ⟨tv,rfl,al⟩:=kZ O3.raw;obtain ⟨ta,tp,rfl,_⟩:=kD.sl al;clear al;have ai:=yD O3;clear O3;replace F:=yD (F.out.below L);have bg:=a1.out;subst bg;clear a1;replace E:=(tQ E L);refine H _ _ E ?_;clear H K L)
 all_goals refine jF ?_
 all_goals refine ku ?_
 all_goals first|(refine kI rfl E ?_)|(refine kw rfl (λK H=>?_);go_simp;refine H _ _ (E.alloc E.size _) ?_;clear H K)
 all_goals refine jF ?_
 all_goals first|(refine kI rfl E ?_)|(refine kw rfl (λK H=>?_);obtain ⟨J,w7,aa,Y,U⟩:=kD.kGg (P:=prog) (t:=29) (ty:=29) (r:=jG) (e:=99) (w:=wC) (xs:=l) (c:=1) underlying29 kEi rfl bC8 bC8 (F.out.own wH) bR (kD.jv (r:=kU) (q:=kD.int) (cs:=[.slice ta n.length tp]) (ds:=[.int .i64 x]) (x:=n) (y:=x) ai.out (kD.jB HX.out)) nW bC9;refine kD.kV _ _ _ rfl bD1 bD1 aa ?_;have aj:=U.size;have ar:Qb N w7:=E.trans (U.below E.size (λj q=>by have:=q.1.1;omega));clear aa;generalize X:l++[(n,x)]=q at *;have az:Hid (q.length=l.length + 1):=yD bB7;obtain ⟨a7,o,rfl,_⟩:=kD.sl Y.raw;have ax:=yD (Y.wide (T:=jX w.heap.size w7.heap.size) bG);clear Y U;have I:=yD X;clear X;refine H _ _ ar ?_;clear H K E)
 all_goals refine jF ?_
 all_goals refine ku ?_
 all_goals refine kS ?_
 exact lZ
def kNl {w:Ba} {vl:Be} {l:Am jH} (hl:(kD.slice 99 jG).rd w [vl] l) (hlen:l.length<=2000000) {cn:Am Be} {n:ko} (hn:kU.rd w cn n) {x:Int} (hx:Qi x) :
    Calls prog 18 #[vl,.agg cn.toArray,.int .i64 x] w (kAa (kD.slice 99 jG) (yK l n x) w):=by
 have HL:=yD hl
 have HN:=yD hn
 have HX:=yD hx
 obtain ⟨la,lp,rfl,ll⟩:=kD.sl hl.1
 obtain ⟨av,rfl,ad⟩:=kZ hn.1
 obtain ⟨na,np,rfl,_⟩:=kD.sl ad
 clear hl hn ad hx
 go_enter func18,ntmps18
 go_upto_region 1 with fail
 generalize D:World.alloc w _=N
 have EB:Qb w N:=by rw [<- D];exact bF
 have bu:w.heap.size + 1<=N.heap.size:=bB2
 have K0:Qd N w 0 (.slice na n.length np):=tK
 clear D
 have FX:=yD (λ(W:Ba) (hW:Qb N W)=>cL hW K0)
 refine jm (λW=>Qb N W) [(0,true),(2,true),(4,true),(1,false),(3,false),(5,true),(6,false),(7,false),(8,true)] bC3 bC3 pK (bR.drew) ?_
 intro wS E
 simp only [kz,Aw,Ay,List.map_cons,List.map_nil]
 iterate 3
  all_goals refine ku ?_
 all_goals first|(refine kI rfl E ?_)|(refine kw rfl (λK H=>?_);go_simp;refine (kKu (HL.out.below (tQ EB E))).mono ?_;rintro e wA ⟨v1,rfl,O1,O⟩;have ah:=E.size;have di:=O.size;have am:=E;obtain ⟨va,vn,vc,ab,a1⟩:=O1.parts;obtain rfl:=ab;have F:=yD O1;clear O1;replace E:=(tQ E O);refine H _ _ E ?_;clear H K O)
 all_goals refine jF ?_
 all_goals first|(refine kI rfl E ?_)|(refine kw rfl (λK H=>?_);go_simp;refine (zI (HN.out.below (tQ EB E))).mono ?_;rintro e wC ⟨tc,rfl,O3,L⟩;have ca:=L.size;obtain ⟨tv,rfl,al⟩:=kZ O3.raw;obtain ⟨ta,tp,rfl,_⟩:=kD.sl al;clear al;have ai:=yD O3;clear O3;replace F:=yD (F.out.below L);have bg:=a1.out;subst bg;clear a1;replace E:=(tQ E L);refine H _ _ E ?_;clear H K L)
 all_goals refine jF ?_
 all_goals refine ku ?_
 all_goals first|(refine kI rfl E ?_)|(refine kw rfl (λK H=>?_);go_simp;refine H _ _ (E.alloc E.size _) ?_;clear H K)
 all_goals refine jF ?_
 all_goals first|(refine kI rfl E ?_)|(refine kw rfl (λK H=>?_);obtain ⟨J,w7,aa,Y,U⟩:=kD.kGg (P:=prog) (t:=29) (ty:=29) (r:=jG) (e:=99) (w:=wC) (xs:=l) (c:=1) underlying29 kEi rfl bC8 bC8 (F.out.own wH) bR (kD.jv (r:=kU) (q:=kD.int) (cs:=[.slice ta n.length tp]) (ds:=[.int .i64 x]) (x:=n) (y:=x) ai.out (kD.jB HX.out)) nW bC9;refine kD.kV _ _ _ rfl bD1 bD1 aa ?_;have aj:=U.size;have ar:Qb N w7:=E.trans (U.below E.size (λj q=>by have:=q.1.1;omega));clear aa;generalize X:l++[(n,x)]=q at *;have az:Hid (q.length=l.length + 1):=yD bB7;obtain ⟨a7,o,rfl,_⟩:=kD.sl Y.raw;have ax:=yD (Y.wide (T:=jX w.heap.size w7.heap.size) bG);clear Y U;have I:=yD X;clear X;refine H _ _ ar ?_;clear H K E)
 all_goals refine jF ?_
 all_goals refine ku ?_
 all_goals refine kS ?_
 exact lZ
end Go.Proofs.YtonmjkmaadgceabGreat
namespace Go.Proofs.YtonmjkmaadgceabGreat
open _root_.Go.Proofs.Tryz
def kLc {f:Nat->Bool}:∀ {n:Nat},yh f n=true↔∀ j,j < n->f j=true
  | 0=>by simp [yh]
  | n + 1=>by
    rw [yh,Bool.and_eq_true,kLc];constructor
    · rintro ⟨h,k⟩ j I;by_cases e:j=n
      · rw [e];exact k
      · exact h j bC9
    · intro h;exact ⟨λj I=>h j bC9,h n bC9⟩
def kIe {α:Type} {p:α->Bool} {x:Am α}:idxOf p x < 0↔∀ y∈x,p y=false:=by
 unfold idxOf;cases h:x.findIdx? p with
 | none=>simp [Au.1 h];exact Au.1 h
 | some i =>
   obtain ⟨hi,hp,_⟩:=Ap.1 h;constructor
   · intro q;simp at q;omega
   · intro q;rw [q _ (Av hi)] at hp;cases hp
def kRp {α:Type} {p:α->Bool} {x:Am α} {k:Nat} (h:idxOf p x=k):∃ hk:k < x.length,p x[k]=true/\∀ j (I:j < k),p (x[j]'(Nat.lt_trans I hk))=false:=by
 unfold idxOf at h;cases e:x.findIdx? p with
 | none=>rw [e] at h;simp at h
 | some i =>
   rw [e] at h;obtain rfl:i=k:=by simp only at h;omega
   obtain ⟨hi,hp,hq⟩:=Ap.1 e;exact ⟨hi,hp,λj I=>by have:=hq j I;simpa using this⟩
def kMu {α:Type} {R:α->α->Prop} (o:∀ a b c,R a b->R b c->R a c):∀ {l:Am α},(∀ k (h:k + 1 < l.length),R (l[k]'(Nat.lt_of_succ_lt h)) l[k + 1])->l.Pairwise R
  | [],_=>.nil
  | [a],_=>by simp
  | a :: b :: l,h=>by
    have ih:=kMu o (l:=b :: l) (λk hk=>h (k + 1) (by simp only [List.length_cons] at hk ⊢;omega));have dq:=h 0 bD0;refine Bb.2 ⟨?_,ih⟩;intro x hx;rcases List.mem_cons.1 hx with rfl | hx
    · exact dq
    · exact o _ _ _ dq ((Bb.1 ih).1 x hx)
end Go.Proofs.YtonmjkmaadgceabGreat
namespace Go.Proofs.YtonmjkmaadgceabGreat
open Go.RowKit _root_.Go.Proofs.Tryz
def okA (y x:kW):Bool:=!((!inR x.1 0 6 || !inR x.2.1 0 1000000) || decide (x.1<=y.1))
def okA0 (x:kW):Bool:=!(!inR x.1 0 6 || !inR x.2.1 0 1000000)
def kJp (l:Am kW) (k:Nat) (x:kW):Bool:=if 0 < k then okA (l.getD (k - 1) (0,0,0)) x else okA0 x
def kJw (l:Am kW):Bool:=yh (λj=>kJp l j (l.getD j (0,0,0))) l.length && decide (0 < l.length)
def vAsk_bad {l:Am kW} {k:Nat} (h:k < l.length) (q:kJp l k l[k]=false):kJw l=false:=by
 unfold kJw;rw [kCx h qB];rfl
def kXg {l:Am kW} {k:Nat} (h:k < l.length) (q:kJp l k l[k]=true) (a:yh (λj=>kJp l j (l.getD j (0,0,0))) k=true):yh (λj=>kJp l j (l.getD j (0,0,0))) (k + 1)=true :=
  kAu a qB
def kXh {l:Am kW} {k:Nat} (q:yh (λj=>kJp l j (l.getD j (0,0,0))) k=true) (h:¬ k < l.length) (hk:k<=l.length):kJw l=decide (0 < l.length):=by
 obtain rfl:k=l.length:=bC9;unfold kJw;rw [q];rfl
def kIw {l:List kW} {k:Nat} {x:kW} (h:¬ 0 < k):kJp l k x=okA0 x:=by unfold kJp;rw [if_neg h]
def kLn {l:List kW} {k j:Nat} {x:kW} (h:0 < k) (e:k - 1=j) (I:j < l.length):kJp l k x=okA l[j] x:=by unfold kJp;rw [if_pos h,e,jS I]
def kRz {w:Ba} {vl:Be} {l:Am kW} (hl:(kD.slice 45 jA).raw w [vl] l) :
    Calls prog 205 #[vl] w (bQ w (.bool (kJw l))):=by
 obtain ⟨al,pl,rfl,ll⟩:=kD.sl hl
 go_enter func205,ntmps205
 go_wp2
 go_loopw [3] (λi wr=>∃ k:Nat,k<=l.length/\i=.int .i64 k/\Hid (yh (λj=>kJp l j (l.getD j (0,0,0))) k=true)/\Qb w wr) (λi _=>l.length - (intOf i).toNat)
 case atStart=>exact ⟨0,Nat.zero_le _,rfl,yD rfl,bR⟩
 obtain ⟨k,hk,rfl,HN,o⟩:=hrel
 by_cases hlt:k < l.length
 · have bt:=Int.ofNat_lt.2 hlt;have bp:=Bc k;obtain ⟨qb,qo,rfl,ae,af,ah,qr,ar,ax,a2⟩:=kD.zg (hl.below o) (i:=k) bC9 rfl;have hb:=λq=>vAsk_bad hlt q;have av:=λq=>kXg hlt q HN.out;by_cases h0:0 < k
   · obtain ⟨j,I⟩:∃ j,k - 1=j:=⟨_,rfl⟩;have an:j < l.length:=bC9;have J:=yD (kLn (l:=l) (x:=l[k]) h0 I an);have co:(k:Int) - 1=(j:Int):=bC9;obtain ⟨yb,yo,yE,be,bh,bf,yr,U,a1,az⟩:=kD.zg (hl.below o) an rfl;simp only [Option.some.injEq,Addr.mk.injEq,and_true] at yE;obtain ⟨rfl,rfl⟩:=yE;generalize l[j]=y at *;obtain ⟨am,ba,a9,ck⟩:=yG yr;simp only [Ar,and_true] at am;obtain ⟨rfl,rfl,rfl⟩:=am;clear yr;have hw:IntKind.i64.wrap (j:Int)=j:=IntWalk.i64_in _ bC9;have ch:=Bc j;have br:=Int.ofNat_lt.2 an;clear I;have hp:decide ((k:Int) > 0)=true:=bC4;have b9:decide (0 < k)=true:=bA2;have cf:(0:Int) < k:=bC9;generalize l[k]=x at *;have HB:=yD hb;have HX:=yD av;clear hb av;obtain ⟨Z,aj,ap,ao⟩:=yG qr;simp only [Ar,and_true] at Z;obtain ⟨rfl,rfl,rfl⟩:=Z;go_upto_region 4 with fail;have FX:=yD (λ(W:Ba) (hW:Qb wr W)=>kGr hW ar ax a2 U);refine kM (λW=>Qb wr W) [Tt,Tt,Tt,Tt,Tt,Ff,Tt,Tt,Tt,Tt,Tt,Tt,Tt,Ff,Tt,Tt,Tt,Tt,Tt,Tt,Tt,Tt,Tt,Tt,Tt,Tt,Tt,Tt,Tt,Tt,Tt,Tt,Tt,Tt] bC3 bC3 pK (bR.drew) ?_;intro wS E;iterate 5
      all_goals refine ku ?_
     all_goals first | refine wkC (jo) ?_ | refine ku ?_
     all_goals refine ku ?_
     all_goals (refine jy λb aw=>?_;cases b <;> try simp only [jw] at aw)
     iterate 5
      all_goals refine ku ?_
     all_goals first | refine wkC (jo) ?_ | refine ku ?_
     all_goals refine ku ?_
     all_goals refine ku ?_
     all_goals (refine jy λb G=>?_;cases b <;> try simp only [jw] at G)
     all_goals refine ku ?_
     all_goals refine ku ?_
     all_goals (refine jy λb aq=>?_;cases b <;> try simp only [jw] at aq)
     iterate 13
      all_goals refine ku ?_
     all_goals (refine jy λb O=>?_;cases b <;> try simp only [jw] at O)
     all_goals refine kS ?_
     all_goals have F:=(tQ o E)
     all_goals first
       | (have L:=yD (HB.out (show _=false by rw [J.out];simp only [okA,Ad,Aa,Ae,Ag,Ab,Ac,Aj,Ak,Ah,Ai,Al,Aq,aw,G,aq,O]));clear HB HX HN J;go_wp2;go_ret;exact ⟨kX L.out.symm,F⟩)
       | (have L:=yD (HX.out (show _=true by rw [J.out];simp only [okA,Ad,Aa,Ae,Ag,Ab,Ac,Aj,Ak,Ah,Ai,Al,Aq,aw,G,aq,O]));clear HB HX HN J;go_wp2;go_roundw;(case rel=>exact ⟨k + 1,by omega,by go_num,L,F⟩);(case measure=>simp [intOf];omega))
   have J:=yD (kIw (l:=l) (x:=l[k]) h0);have hp:decide ((k:Int) > 0)=false:=bC4;have b9:decide (0 < k)=false:=bA2;have cf:¬ (0:Int) < k:=bC9;generalize l[k]=x at *;have HB:=yD hb;have HX:=yD av;clear hb av;obtain ⟨Z,aj,ap,ao⟩:=yG qr;simp only [Ar,and_true] at Z;obtain ⟨rfl,rfl,rfl⟩:=Z;go_upto_region 4 with fail;have FX:=yD (λ(W:Ba) (hW:Qb wr W)=>kJd hW ar ax a2);refine kM (λW=>Qb wr W) [Tt,Tt,Tt,Tt,Tt,Ff,Tt,Tt,Tt,Tt,Tt,Tt,Tt,Ff,Tt,Tt,Tt,Tt,Tt,Tt,Tt,Tt,Tt,Tt,Tt,Tt,Tt,Tt,Tt,Tt,Tt,Tt,Tt,Tt] bC3 bC3 pK (bR.drew) ?_;intro wS E;iterate 5
    all_goals refine ku ?_
   all_goals first | refine wkC (jo) ?_ | refine ku ?_
   all_goals refine ku ?_
   all_goals (refine jy λb aw=>?_;cases b <;> try simp only [jw] at aw)
   iterate 5
    all_goals refine ku ?_
   all_goals first | refine wkC (jo) ?_ | refine ku ?_
   all_goals refine ku ?_
   all_goals refine ku ?_
   all_goals (refine jy λb G=>?_;cases b <;> try simp only [jw] at G)
   all_goals refine ku ?_
   all_goals refine ku ?_
   all_goals (refine jy λb aq=>?_;cases b <;> try simp only [jw] at aq)
   iterate 13
    all_goals refine ku ?_
   all_goals (refine jy λb O=>?_;cases b <;> try simp only [jw] at O)
   all_goals refine kS ?_
   all_goals have F:=(tQ o E)
   all_goals first
     | (have L:=yD (HB.out (show _=false by rw [J.out];simp only [okA0,Ad,Aa,Ae,Ag,Ab,Ac,Aj,Ak,Ah,Ai,Al,Aq,aw,G,aq,O]));clear HB HX HN J;go_wp2;go_ret;exact ⟨kX L.out.symm,F⟩)
     | (have L:=yD (HX.out (show _=true by rw [J.out];simp only [okA0,Ad,Aa,Ae,Ag,Ab,Ac,Aj,Ak,Ah,Ai,Al,Aq,aw,G,aq,O]));clear HB HX HN J;go_wp2;go_roundw;(case rel=>exact ⟨k + 1,by omega,by go_num,L,F⟩);(case measure=>simp [intOf];omega))
 have L:=yD (kXh HN.out hlt hk)
 have b3:¬ (k:Int) < l.length:=bC9
 go_wp2
 go_ret
 exact ⟨kX (L.out.trans bD0).symm,o⟩
end Go.Proofs.YtonmjkmaadgceabGreat

/-
  A requester added to the pending interests.
-/
import Derived.Test.YtjhfdpopkkmigabGreatPut
import Derived.Test.YtjhfdpopkkmigabGreatSoftT
set_option linter.unusedVariables false
set_option linter.defProp false
set_option linter.unusedSimpArgs false
set_option linter.unnecessarySimpa false
set_option maxRecDepth 100000
set_option maxHeartbeats 4000000
open Bool renaming true->Tt,false->Ff
open Bool renaming not_false->Aa,and_false->Ab,false_and->Ac,not_true->Ad,and_true->Ae,true_and->Ag,or_false->Ah,false_or->Ai,or_true->Aj,true_or->Ak,not_not->Al
open Go renaming World->Am,Value->Av
open List renaming getElem_mem->Ap,length_eq_one_iff->Ar
open _root_ renaming ge_iff_le->Aq,List->Au
open Go.Proofs.Tryz renaming underlying28->Aw
open Go.Value.slice renaming injEq->Ay
namespace Go.Proofs.YtjhfdpopkkmigabGreat
open Go.RowKit _root_.Go.Proofs.Tryz
def kFj (x:jF) (f t:Int):kU:=(f,x.2.1,wrap64 (t + x.2.2.2))
def yH (x:jF) (f:Int) (l:Au kF):Bool:=!((!kDk x || !inR f 0 6) || (decide (idxOf (jQ x.1) l < 0) && decide ((12:Int)<=(l.length:Int))))
def addQ1 (x:jF) (f t:Int) (l:Au kF):Au kF :=
  if idxOf (jQ x.1) l < 0 then l++[(x.1,[kFj x f t],0)]
  else l.set (idxOf (jQ x.1) l).toNat ((l.getD (idxOf (jQ x.1) l).toNat ([],[],0)).1,kIt (kFj x f t) (l.getD (idxOf (jQ x.1) l).toNat ([],[],0)).2.1,(l.getD (idxOf (jQ x.1) l).toNat ([],[],0)).2.2)
def kBk (x:jF) (f t:Int) (l:Au kF):Au kF:=if yH x f l then addQ1 x f t l else l
def kKw {x:jF} {f t:Int} {l:List kF} (h:yH x f l=false):kBk x f t l=l/\yH x f l=false:=by unfold kBk;rw [h];exact ⟨rfl,rfl⟩
def kRk {x:jF} {f t:Int} {l:List kF} (h:yH x f l=true) (hk:idxOf (jQ x.1) l < 0):kBk x f t l=l++[(x.1,[kFj x f t],0)]/\yH x f l=true:=by unfold kBk addQ1;rw [h,if_pos hk];exact ⟨rfl,rfl⟩
def kRj {x:jF} {f t:Int} {l:Au kF} {k:Nat} (h:yH x f l=true) (hk:idxOf (jQ x.1) l=k) (hkl:k < l.length):kBk x f t l=l.set k (l[k].1,kIt (kFj x f t) l[k].2.1,l[k].2.2)/\yH x f l=true:=by
 unfold kBk addQ1;rw [h,if_pos rfl,hk,if_neg (show ¬ ((k:Int) < 0) by omega)];refine ⟨?_,rfl⟩;simp only [Int.toNat_natCast,ja hkl]
def kPm {x:jF} {f:Int} {l:Au kF} (h:yH x f l=true) (hk:idxOf (jQ x.1) l < 0):l.length < 12:=by
 unfold yH at h;simp [hk] at h;omega
def kTv {P:Program} {l:Au Oper} {Q:Exit->Act->Am->Prop} {a:Act} {w:Am} {id:Nat} (S:Am->Prop) (hm:P.follows .mixedOrders=true) (hS:S { w with drawn:=w.drawn + 1 })
    (h:tree P l S Q l.length (List.replicate l.length false) a { w with drawn:=w.drawn + 1 }):(Code.region id l.toArray true).wp P Q a w:=by
 exact aB
def kZj {α:Type} {r:kD α} {e:TypeId} {w:Am} {v:Av} {xs:Au α} {S T:Nat->Prop} {P:Program} {t ty:TypeId}
    {z:Av} {bytes:Nat} (ht:P.underlying t=some (.slice e)) (hinf:(P.info? e).map (λi=>(i.zero,i.size,i.bytes))=some (some z,r.n,bytes)) (hzs:z.cells.size=r.n) (hn:0 < r.n) (hby:bytes<=1000)
    (hown:kD.kQ e r w v xs S) {b:Nat} (hb:b=w.heap.size) {cs:Au Av} {y:α} (hy:r.own w cs y T)
    {u:Am} (hu:u=w.alloc (.cells cs.toArray e)) (hST:∀ k,S k->T k->False) (hlen:xs.length + 1<=1000000000) :
    ∃ v' w',(Builtin.append_ #[t,t] ty #[v,.slice (some ⟨b,0,none⟩) 1 1]).run P u=.ok v' w'/\kD.kQ e r w' v' (xs++[y]) (λk=>S k\/T k\/(w.heap.size + 1<=k/\k < w'.heap.size))/\Touch (λk=>some k=v.ownBlock/\S k) u w':=by
 subst hu hb
 obtain ⟨i,hi,hz,hsize,D⟩:=info_parts hinf
 have hl:=r.len hy.1
 have F:kD.kQ e r (w.alloc (.cells cs.toArray e)) v xs (λk=>S k/\k < w.heap.size):=(kD.kQ.alloc hown.live _)
 have H:=hy.live.alloc (.cells cs.toArray e)
 have hsrc:kD.Src (w.alloc (.cells cs.toArray e)) (.slice (some ⟨w.heap.size,0,none⟩) 1 1) 1 cs:=.inr ⟨_,1,rfl,λj c hj=>by
   have G:(⟨w.heap.size,0,none⟩:Addr).add j=⟨w.heap.size,j,none⟩:=rH;rw [G];exact kE (heap_alloc_new w _) bD9⟩
 obtain ⟨v',w',h0,h1,h2⟩:=kD.kEt (P:=P) (ty:=ty) ht hi hz hsize hzs hn bH3 F hsrc (by rw [hl,Nat.one_mul]) (r.one hy.1) hlen
 refine ⟨v',w',h0,(h2 (ys:=[y]) (T:=λk=>T k/\k < w.heap.size) ⟨cs,[],_,λ_=>False,by simp,H.1,rfl,λ_ h=>h,λ_ h=>h.elim,λ_ _ _ h=>h.elim⟩ (λk h1 h2=>hST k h1.1 h2.1) (by simpa using hy.2)).wide ?_,⟨h1.os,h1.tape,h1.output,h1.size,λk hk q=>h1.block k hk (λa=>q ⟨a.1,a.2.1⟩)⟩⟩
 exact aC
def pend_setReq {w:Am} {b cap len k:Nat} {l:Au kF} {S T:Nat->Prop} {v':Av} {o:Au kU} (h:kD.kQ 93 kH w (.slice (some ⟨b,0,none⟩) len cap) l S) (hk:k < l.length)
    (hv:kD.kQ 91 kM w v' o T) (ae:o.length<=Big) (hST:∀ j,S j->T j->False) :
    kD.kQ 93 kH (w.setCell ⟨b,k * 3 + 1,none⟩ v') (.slice (some ⟨b,0,none⟩) len cap) (l.set k (l[k].1,o,l[k].2.2)) (λj=>S j\/T j):=by
 have aa:=h.1 l[k] (Ap hk)
 refine (kD.jBo (i:=k) (j:=1) (p:=k * 3 + 1) (T:=T) (y:=(l[k].1,o,l[k].2.2)) h hk bH2 ?_ ⟨aa.1,(hv.own0h ae).2,trivial⟩ hST rfl).1
 rintro cs D ⟨c,d,A,B,rfl,h1,⟨c2,d2,A2,X,rfl,h2,h3,k1,k2,k3⟩,k4,k5,k6⟩ hD
 have dp:c.length=1:=kN.len h1
 obtain ⟨cn,rfl⟩:=Ar.1 dp
 have fj:c2.length=1:=(kD.slice 91 kM).len h2
 obtain ⟨cq,rfl⟩:=Ar.1 fj
 refine ⟨[cn],v' :: d2,A,T,rfl,h1,?_,λj hj=>.inl (k4 j hj),λj=>.inr,λ_ j a t=>hST j (hD j (k4 j a)) t⟩
 exact ⟨[v'],d2,T,λ_=>False,rfl,(hv.own ae).1,h3,λj hj=>hj,λj hj=>hj.elim,λ_ j _ hj=>hj⟩
def kFl (z:Int):-9223372036854775808<=wrap64 z/\wrap64 z<=9223372036854775807:=by unfold wrap64;omega
def kNn (f:Int) (r:kU):Bool:=r.1==f
def kNy {w:Am} {cr:Au Av} {r:kU} (hr:kM.raw w cr r) {f:Int} {R:Nat} (G:Qc w R 0 (.int .i64 f)) :
    Calls prog 86 (#[.agg cr.toArray]++#[.pointer (some ⟨R,0,none⟩)]) w (bQ w (.bool (kNn f r))):=by
 have Hr:=yD hr
 obtain ⟨rfl,D,H,O⟩:=yU hr
 show Calls prog 86 #[_,_] w _
 go_enter func86,ntmps86
 go_upto_region 1 with fail
 generalize J:World.alloc w _=N
 obtain ⟨EB,I,o,F⟩:=AX
 clear J
 obtain ⟨G,FX⟩:=JD
 refine kr (λW=>Qb N W) [Tt,Tt,Tt,Tt,Tt] bR ?_
 intro wS E
 iterate 4
  all_goals refine ky ?_
 all_goals (refine jy λb co=>?_;cases b <;> try simp only [jw] at co)
 all_goals refine kS ?_
 all_goals have EG:=(tQ EB E)
 all_goals first
   | (have L:=yD (show (kNn f r)=false by simp only [kNn,Ad,Aa,Ae,Ag,Ab,Ac,Aj,Ak,Ah,Ai,Al,co]);go_wp2;go_ret;exact ⟨kW L.out.symm,EG⟩)
   | (have L:=yD (show (kNn f r)=true by simp only [kNn,Ad,Aa,Ae,Ag,Ab,Ac,Aj,Ak,Ah,Ai,Al,co]);go_wp2;go_ret;exact ⟨kW L.out.symm,EG⟩)
def kHs:jK prog 86:=zP func86 bG6 bG6
def kNx {w:Am} {cr:Au Av} {r:kU} (hr:kM.raw w cr r) {f:Int} {R:Nat} (G:Qc w R 0 (.int .i64 f)) :
    Calls prog 88 (#[.agg cr.toArray]++#[.pointer (some ⟨R,0,none⟩)]) w (bQ w (.bool (decide (f<=r.1)))):=by
 have Hr:=yD hr
 obtain ⟨rfl,D,H,O⟩:=yU hr
 show Calls prog 88 #[_,_] w _
 go_enter func88,ntmps88
 go_upto_region 1 with fail
 generalize J:World.alloc w _=N
 obtain ⟨EB,I,o,F⟩:=AX
 clear J
 obtain ⟨G,FX⟩:=JD
 refine kr (λW=>Qb N W) [Tt,Tt,Tt,Tt,Tt] bR ?_
 intro wS E
 iterate 4
  all_goals refine ky ?_
 all_goals (refine jy λb co=>?_;cases b <;> try simp only [jw] at co)
 all_goals refine kS ?_
 all_goals have EG:=(tQ EB E)
 all_goals first
   | (have L:=yD (show (decide (f<=r.1))=false by simp only [Ad,Aa,Ae,Ag,Ab,Ac,Aj,Ak,Ah,Ai,Al,co]);go_wp2;go_ret;exact ⟨kW L.out.symm,EG⟩)
   | (have L:=yD (show (decide (f<=r.1))=true by simp only [Ad,Aa,Ae,Ag,Ab,Ac,Aj,Ak,Ah,Ai,Al,co]);go_wp2;go_ret;exact ⟨kW L.out.symm,EG⟩)
def kHr:jK prog 88:=zP func88 bG6 bG6
def kEc {w:Am} {vl:Av} {l:Au kF} (hl:(kD.slice 93 kH).rd w [vl] l) (a3:∀ y∈l,y.2.1.length<=1048576) {cx:Au Av} {x:jF} (hx:jO.rd w cx x) {f:Int} (hf:Qi f) {t:Int} (ht:Qi t) :
    Calls prog 43 #[vl,.agg cx.toArray,.int .i64 f,.int .i64 t] w λe w'=>∃ v,e=.returned (.tuple #[v,.bool (yH x f l)])/\(kD.slice 93 kH).own w' [v] (kBk x f t l) (jb w.heap.size w'.heap.size)/\Qb w w':=by
 have HL:=yD hl
 have b8:=yD a3
 have bc:l.length<=16777216:=hl.2.1
 have HW:=yD hx
 obtain ⟨nv,rfl,az,ai,ay,bl,bw⟩:=jY hx.1
 obtain ⟨n,F,x2,x3⟩:=x
 have HN:Hid (kN.rd w [nv] n):=yD ⟨az,hx.2.1⟩
 obtain ⟨na,np,rfl,_⟩:=kD.sl ai
 obtain ⟨va,vp,rfl,bv⟩:=kD.sl hl.1
 have HF:=yD hf
 have b5:=yD ay
 clear az ai ay bl bw hl hx hf ht a3
 go_enter func43,ntmps43
 go_upto_region 1 with fail
 generalize J:World.alloc w _=N
 obtain ⟨EB,K0⟩:=FC
 obtain ⟨K1,K2,K3⟩:=DD
 have bk:N.heap.size=w.heap.size + 1:=bF5
 clear J
 go_wp2_with fail
 refine (kIq (HL.out.below EB)).mono ?_
 rintro e w1 ⟨v1,rfl,O1,O⟩
 obtain ⟨K0,K1,K2⟩:=DZ
 replace K3:=cL O K3
 have E1:=(tQ EB O)
 have bf:=O.size
 have I:=yD O1
 obtain ⟨oa,on,oc,ho,a1⟩:=O1.parts;obtain rfl:=ho
 clear O1 O EB
 go_wp2_with fail
 refine (kCi (HL.out.1.below E1) (HN.out.1.below E1)).mono ?_
 rintro e w4 ⟨rfl,ad⟩
 replace K0:=cL ad K0
 replace K1:=cL ad K1
 replace K2:=cL ad K2
 replace K3:=cL ad K3
 have E4:=(tQ E1 ad)
 have b1:=ad.size
 replace I:=yD ((I.out.below ad).wide (T:=jb N.heap.size w4.heap.size) rQ)
 clear ad E1
 by_cases hk:idxOf (jQ n) l < 0
 · have HK:Hid (decide (idxOf (jQ n) l < 0)=true):=yD bE2;go_upto_region 3 with fail;have FX:=yD (λ(W:Am) (hW:Qb w4 W)=>kEe hW K0 K1 K2 K3);refine kr (λW=>Qb w4 W) [Tt,Ff,Tt,Tt,Tt,Ff,Tt,Tt,Tt,Tt,Tt,Tt,Tt,Tt,Tt,Tt,Tt] (bR) ?_;intro wS E;all_goals refine ky ?_
   all_goals first|(refine kJ rfl E ?_)|(refine kw rfl (λK H=>?_);go_simp;refine (kDj (HW.out.1.below (tQ E4 E))).mono ?_;rintro e wV ⟨rfl,bd⟩;replace E:=(tQ E bd);refine H _ _ E ?_;clear H K bd)
   all_goals refine jG ?_
   all_goals refine ky ?_
   all_goals (refine jy λb bh=>?_;cases b <;> try simp only [jw] at bh)
   all_goals refine ky ?_
   all_goals first | refine wkC (yA) ?_ | refine ky ?_
   all_goals refine ky ?_
   all_goals refine ky ?_
   all_goals (refine jy λb ck=>?_;cases b <;> try simp only [jw] at ck)
   all_goals refine ky ?_
   all_goals refine ky ?_
   all_goals (refine jy λb an=>?_;cases b <;> try simp only [jw] at an)
   iterate 4
    all_goals refine ky ?_
   all_goals (refine jy λb V=>?_;cases b <;> try simp only [jw] at V)
   all_goals refine kS ?_
   all_goals have E5:=(tQ E4 E)
   all_goals have aj:=yD (I.out.below E)
   all_goals have bz:=E.size
   all_goals have af:=cL E K0
   all_goals have b2:=cL E K1
   all_goals have b3:=cL E K2
   all_goals have cd:=cL E K3
   all_goals clear K0 K1 K2 K3 I
   all_goals first|(have L:=yD (kKw (t:=t) (show yH (n,F,x2,x3) f l=false by simp only [yH,HK.out,Ad,Aa,Ae,Ag,Ab,Ac,Aj,Ak,Ah,Ai,Al,Aq,bh,ck,an,V,V]));go_wp2;go_ret2;exact ⟨_,by rw [L.out.2];rfl,((aj.out.cast L.out.1.symm).own bA2).wide mV,E5⟩) | skip
   obtain ⟨L,ce,dl⟩:=CL;generalize hq:idxOf (jQ n) l=q at *;clear hq HK;go_upto_region 6 with fail;generalize Y:wrap64 (t + x3)=y3;obtain ⟨HR,HY⟩:=FQ;clear Y;generalize D:World.alloc _ _=wC;obtain ⟨EC,aw,bm,be,a9,E6,ao,af⟩:=xU;clear D b2 b3 cd aj E EC;go_wp2_with fail;refine (zX (HN.out.below E6)).mono ?_;rintro e wT ⟨tc,rfl,OT,al⟩;obtain ⟨fp,rfl,b6⟩:=kX OT.raw;obtain ⟨bi,cv,rfl,_⟩:=kD.sl b6;clear b6;go_upto_region 8 with fail;generalize ab:World.alloc wT _=wD;have ED:Qb wT wD:=tH;have KD:Qd wD wT 0 (.slice bi n.length cv):=vV;have db:wT.heap.size<=wD.heap.size:=ED.size;clear ab;have ER:=(tQ al ED);have f2:=al.size;have aa:=yD (OT.below ED);replace bm:=cL ER bm;replace be:=cL ER be;replace a9:=cL ER a9;have a5:=yD (ao.out.below ER);have HQ:Hid ((kD.slice 91 kM).own (wD.alloc (.cells #[.int .i64 f,.int .i64 F,.int .i64 y3] 91)) [.slice (some ⟨wD.heap.size,0,none⟩) 1 1] [(f,F,y3)] (jb wD.heap.size (wD.heap.size + 1))):=yD (kD.kQ.own (kD.yJ (e:=91) (r:=kM) (w:=wD) (cs:=[.int .i64 f,.int .i64 F,.int .i64 y3]) (xs:=[(f,F,y3)]) (T:=λ_=>False) (S:=jb wD.heap.size (wD.heap.size + 1)) dG (by simp [maxLen]) ⟨_,[],_,_,by simp,(kD.flat.own (S:=λ_=>False) (kD.jW (kD.ku HF.out) (kD.jW (kD.ku b5.out) (kD.ku HY.out)))).1,rfl,λ_ h=>h,λ_ h=>h,λ_ _ h _=>h⟩ (λ_ h=>h.elim) ⟨Nat.le_refl _,by omega⟩) bG8);have E8:=(tQ E6 ER);clear OT;go_wp2_with (at_builtin;refine kD.jP rfl _ _ 28 rfl (r:=kH) (e:=93) Aw yQ rfl bH2 bH2 (B:=w.heap.size) (b:=wD.heap.size + 1) (a5.out.alloc _) bH5 bH5 bH4 (kD.own.wide (T:=jb w4.heap.size (wD.heap.size + 1)) (kD.jh (r:=kN) (q:=kD.pair (kD.slice 91 kM) kD.int) (cs:=[.slice bi n.length cv]) (ds:=[.slice (some ⟨wD.heap.size,0,none⟩) 1 1,.int .i64 0]) (x:=n) (y:=([(f,F,y3)],0)) (S:=jb w4.heap.size (wD.heap.size + 1)) (aa.out.alloc _) (kD.yF (r:=(kD.slice 91 kM)) (q:=kD.int) (cs:=[.slice (some ⟨wD.heap.size,0,none⟩) 1 1]) (ds:=[.int .i64 0]) (x:=[(f,F,y3)]) (y:=0) HQ.out (kD.ku ⟨by decide,by decide⟩)) mV mV nX) (λj hj=>hj)) rfl nX mE mE bG7 bH3 ?_);intro v5 w5 R ap c5;have bp:=yD (R.cast (by rw [L.out.1,HR.out]:_=kBk (n,F,x2,x3) f t l));obtain ⟨pa,pn,pc,hp,bj⟩:=R.parts;obtain rfl:=hp;have E9:=(E8.alloc E8.size _).trans ap;clear R ap;go_wp2;go_ret2;exact ⟨_,by rw [L.out.2];rfl,bp.out.own rJ,E9⟩
 have HK:Hid (decide (idxOf (jQ n) l < 0)=false):=yD bE2
 obtain ⟨k,hkl,ac⟩:=kAz hk
 have au:=yD ac
 rw [ac]
 have co:¬ ((k:Int) < 0):=bH3
 clear hk ac
 go_upto_region 3 with fail
 have FX:=yD (λ(W:Am) (hW:Qb w4 W)=>kEe hW K0 K1 K2 K3)
 refine kr (λW=>Qb w4 W) [Tt,Ff,Tt,Tt,Tt,Ff,Tt,Tt,Tt,Tt,Tt,Tt,Tt,Tt,Tt,Tt,Tt] (bR) ?_
 intro wS E
 all_goals refine ky ?_
 all_goals first|(refine kJ rfl E ?_)|(refine kw rfl (λK H=>?_);go_simp;refine (kDj (HW.out.1.below (tQ E4 E))).mono ?_;rintro e wV ⟨rfl,bd⟩;replace E:=(tQ E bd);refine H _ _ E ?_;clear H K bd)
 all_goals refine jG ?_
 all_goals refine ky ?_
 all_goals (refine jy λb bh=>?_;cases b <;> try simp only [jw] at bh)
 all_goals refine ky ?_
 all_goals first | refine wkC (yA) ?_ | refine ky ?_
 all_goals refine ky ?_
 all_goals refine ky ?_
 all_goals (refine jy λb ck=>?_;cases b <;> try simp only [jw] at ck)
 all_goals refine ky ?_
 all_goals refine ky ?_
 all_goals (refine jy λb an=>?_;cases b <;> try simp only [jw] at an)
 iterate 4
  all_goals refine ky ?_
 all_goals (refine jy λb V=>?_;cases b <;> try simp only [jw] at V)
 all_goals refine kS ?_
 all_goals have E5:=(tQ E4 E)
 all_goals have aj:=yD (I.out.below E)
 all_goals have bz:=E.size
 all_goals have af:=cL E K0
 all_goals have b2:=cL E K1
 all_goals have b3:=cL E K2
 all_goals have cd:=cL E K3
 all_goals clear K0 K1 K2 K3 I
 all_goals first|(have L:=yD (kKw (t:=t) (show yH (n,F,x2,x3) f l=false by simp only [yH,HK.out,Ad,Aa,Ae,Ag,Ab,Ac,Aj,Ak,Ah,Ai,Al,Aq,bh,ck,an,V,V]));go_wp2;go_ret2;exact ⟨_,by rw [L.out.2];rfl,((aj.out.cast L.out.1.symm).own bA2).wide mV,E5⟩) | skip
 have L:=yD (kRj (t:=t) (show yH (n,F,x2,x3) f l=true by simp only [yH,HK.out,Ad,Aa,Ae,Ag,Ab,Ac,Aj,Ak,Ah,Ai,Al,Aq,bh,ck,an,V,V]) au.out hkl)
 go_upto_region 6 with fail
 generalize Y:wrap64 (t + x3)=y3
 obtain ⟨HR,HY⟩:=FQ
 clear Y
 generalize D:World.alloc _ _=wC
 obtain ⟨EC,aw,bm,be,a9,E6,ao,af⟩:=xU
 clear D b2 b3 cd aj E EC
 obtain ⟨b,cap,hv,Z,a8,a4,U⟩:=kD.zy ao.out hkl
 simp only [Ay] at hv
 obtain ⟨rfl,o,rfl⟩:=hv
 have bt:k < on:=bH3
 obtain ⟨b4,a2⟩:=GU
 clear o
 have ax:=yD (ao.out.own bc)
 obtain ⟨c0,c1,c2,hr,A0,A1,A2⟩:=kD.at3 ax.out.raw hkl rfl
 obtain ⟨a6,bn,G,ag,ak,am,ar⟩:=jR hr
 simp only [List.cons.injEq,and_true] at G
 obtain ⟨rfl,rfl,rfl⟩:=G
 have X:Hid ((kD.slice 91 kM).rd wC [c1] l[k].2.1):=yD ⟨am,(kD.yX ax.out.rd hkl).2.1⟩
 obtain ⟨ra,rp,rfl,_⟩:=kD.sl am
 have c4:l[k].2.1.length<=1048576:=b8.out _ (Ap hkl)
 clear hr ag ak am ar A0 A2 ax
 go_upto_region 9 with fail
 have FX:=yD (λ(W:Am) (hW:Qb wC W)=>kEe hW A1 bm be a9)
 refine kK (λW=>Qb wC W) [Tt,Tt,Tt,Tt,Tt,Tt,Ff,Tt] bG6 bG6 qY (bR.drew) ?_
 intro wS E
 iterate 6
  all_goals refine ky ?_
 all_goals first|(refine kJ rfl E ?_)|(refine kw rfl (λK H=>?_);go_simp;refine (jBf (X.out.below E) HF.out b5.out HY.out).mono ?_;rintro e w6 ⟨v6,rfl,O6,av⟩;obtain ⟨pa,pn,pc,hp,bj⟩:=O6.parts;obtain rfl:=hp;replace O6:=yD O6;have bu:=E.size;have c9:=av.size;replace E:=(tQ E av);refine H _ _ E ?_;clear H K av)
 all_goals refine jG ?_
 all_goals refine ky ?_
 all_goals refine kS ?_
 have aq:=cL E A1
 have bx:=yD (ao.out.below E)
 have ah:=kD.kGg bx.out bH3 (k * 3 + 1)
 have ae:(kIt (f,F,y3) l[k].2.1).length<=Big:=Nat.le_trans (kMf _ _) bD0
 have br:=yD (pend_setReq bx.out hkl O6.out ae nX)
 have cl:=yD (br.out.cast (by rw [L.out.1,HR.out]:_=kBk (n,F,x2,x3) f t l))
 have E9:=(tQ E6 E)
 clear br
 go_wp2
 go_ret2
 exact ⟨_,by rw [L.out.2];rfl,(cl.out.own rJ).wide (λj hj=>by rcases hj with hj | hj;exact ⟨by have:=hj.1;omega,by have:=hj.2;simp [World.setCell];omega⟩;exact ⟨by have:=hj.1;omega,by have:=hj.2;simp [World.setCell];omega⟩),E9.setCell (show w.heap.size<=b by have:=Z.1;omega) _⟩
def kPh {w:Am} {vl:Av} {l:Au kF} (hl:(kD.slice 93 kH).rd w [vl] l) (a3:∀ y∈l,y.2.1.length<=1048576) {cx:Au Av} {x:jF} (hx:jO.rd w cx x) {f:Int} (hf:Qi f) {t:Int} (ht:Qi t) :
    Calls prog 27 #[vl,.agg cx.toArray,.int .i64 f,.int .i64 t] w λe w'=>∃ v,e=.returned (.tuple #[v,.bool (yH x f l)])/\(kD.slice 93 kH).own w' [v] (kBk x f t l) (jb w.heap.size w'.heap.size)/\Qb w w':=by
 have HL:=yD hl
 have b8:=yD a3
 have bc:l.length<=16777216:=hl.2.1
 have HW:=yD hx
 obtain ⟨nv,rfl,az,ai,ay,bl,bw⟩:=jY hx.1
 obtain ⟨n,F,x2,x3⟩:=x
 have HN:Hid (kN.rd w [nv] n):=yD ⟨az,hx.2.1⟩
 obtain ⟨na,np,rfl,_⟩:=kD.sl ai
 obtain ⟨va,vp,rfl,bv⟩:=kD.sl hl.1
 have HF:=yD hf
 have b5:=yD ay
 clear az ai ay bl bw hl hx hf ht a3
 go_enter func27,ntmps27
 go_upto_region 1 with fail
 generalize J:World.alloc (World.alloc w _) _=N
 obtain ⟨EB,K0⟩:=FC
 obtain ⟨K1,K2,K3⟩:=DD
 have KF:Qc N (w.heap.size + 1) 0 (.int .i64 f):=wF
 have bk:N.heap.size=w.heap.size + 2:=bF5
 clear J
 go_wp2_with fail
 refine (kQt (HL.out.below EB)).mono ?_
 rintro e w1 ⟨v1,rfl,O1,O⟩
 obtain ⟨K0,K1,K2⟩:=DZ
 replace K3:=cL O K3
 replace KF:=cL O KF
 have E1:=(tQ EB O)
 have bf:=O.size
 have I:=yD O1
 obtain ⟨oa,on,oc,ho,a1⟩:=O1.parts;obtain rfl:=ho
 clear O1 O EB
 go_wp2_with fail
 refine (kCg (HL.out.1.below E1) (HN.out.1.below E1)).mono ?_
 rintro e w4 ⟨rfl,ad⟩
 replace K0:=cL ad K0
 replace K1:=cL ad K1
 replace K2:=cL ad K2
 replace K3:=cL ad K3
 replace KF:=cL ad KF
 have E4:=(tQ E1 ad)
 have b1:=ad.size
 replace I:=yD ((I.out.below ad).wide (T:=jb N.heap.size w4.heap.size) rQ)
 clear ad E1
 by_cases hk:idxOf (jQ n) l < 0
 · have HK:Hid (decide (idxOf (jQ n) l < 0)=true):=yD bE2;go_upto_region 3 with fail;have FX:=yD (λ(W:Am) (hW:Qb w4 W)=>cLs5 hW K0 K1 K2 K3 KF);refine kr (λW=>Qb w4 W) [Tt,Ff,Tt,Tt,Tt,Ff,Tt,Tt,Tt,Tt,Tt,Tt,Tt,Tt,Tt,Tt,Tt] (bR) ?_;intro wS E;all_goals refine ky ?_
   all_goals first|(refine kJ rfl E ?_)|(refine kw rfl (λK H=>?_);go_simp;refine (kDl (HW.out.1.below (tQ E4 E))).mono ?_;rintro e wV ⟨rfl,bd⟩;replace E:=(tQ E bd);refine H _ _ E ?_;clear H K bd)
   all_goals refine jG ?_
   all_goals refine ky ?_
   all_goals (refine jy λb bh=>?_;cases b <;> try simp only [jw] at bh)
   all_goals refine ky ?_
   all_goals first | refine wkC (kBj) ?_ | refine ky ?_
   all_goals refine ky ?_
   all_goals refine ky ?_
   all_goals (refine jy λb ck=>?_;cases b <;> try simp only [jw] at ck)
   all_goals refine ky ?_
   all_goals refine ky ?_
   all_goals (refine jy λb an=>?_;cases b <;> try simp only [jw] at an)
   iterate 4
    all_goals refine ky ?_
   all_goals (refine jy λb V=>?_;cases b <;> try simp only [jw] at V)
   all_goals refine kS ?_
   all_goals have E5:=(tQ E4 E)
   all_goals have aj:=yD (I.out.below E)
   all_goals have bz:=E.size
   all_goals have af:=cL E K0
   all_goals have b2:=cL E K1
   all_goals have b3:=cL E K2
   all_goals have cd:=cL E K3
   all_goals have a5:=cL E KF
   all_goals clear K0 K1 K2 K3 KF I
   all_goals first|(have L:=yD (kKw (t:=t) (show yH (n,F,x2,x3) f l=false by simp only [yH,HK.out,Ad,Aa,Ae,Ag,Ab,Ac,Aj,Ak,Ah,Ai,Al,Aq,bh,ck,an,V,V]));go_wp2;go_ret2;exact ⟨_,by rw [L.out.2];rfl,(((kHa aj.out).cast L.out.1.symm).own bA2).wide mV,E5⟩) | skip
   obtain ⟨L,ce,dl⟩:=CL;generalize hq:idxOf (jQ n) l=q at *;clear hq HK;go_upto_region 6 with fail;generalize Y:wrap64 (t + x3)=y3;obtain ⟨HR,HY⟩:=FQ;clear Y;generalize D:World.alloc _ _=wC;obtain ⟨EC,aw,bm,be,a9,E6,ao,af⟩:=xU;replace a5:=cL EC a5;clear D b2 b3 cd aj E EC;go_upto_region 7 with fail;have I:Hid (kD.kQ 93 kGp wC.drew (.slice oa on oc) l (jb N.heap.size w4.heap.size)):=yD (kD.kQ.drew ao.out);have E:Below w.heap.size w wC.drew/\(wC.drew.cell? ⟨w.heap.size,0,none⟩=some (.slice na n.length np)/\wC.drew.cell? ⟨wV.heap.size,0,none⟩=some (.int .i64 f)/\wC.drew.cell? ⟨wV.heap.size,1,none⟩=some (.int .i64 F)/\wC.drew.cell? ⟨wV.heap.size,2,none⟩=some (.int .i64 y3)):=⟨E6.trans bR.drew,af,bm,be,a9⟩;have bn:w.heap.size<=wC.drew.heap.size:=E.1.size;refine kTv (λW=>Qb w W/\(Qd W w 0 (.slice na n.length np)/\Qd W wV 0 (.int .i64 f)/\Qd W wV 1 (.int .i64 F)/\Qd W wV 2 (.int .i64 y3))) bG6 E ?_;change tree _ _ _ _ _ _ _ wC.drew;have db:wC.heap.size<=wC.drew.heap.size:=Nat.le_refl _;generalize ab:wC.drew=wD at *;clear ab ao af bm be a9;refine kL 0 ?_;refine kL 1 ?_;refine kJe (k:=2) (v:=?_) rfl bG6 qY rfl E (λW hW=>?_) ?_;rotate_left
   · obtain ⟨_,A0,A1,A2,A3⟩:=hW;go_simp;try with_reducible rfl
   refine jG ?_;refine kJe (k:=4) (v:=?_) rfl bG6 qY rfl E (λW hW=>?_) ?_;rotate_left
   · obtain ⟨_,A0,A1,A2,A3⟩:=hW;go_simp;try with_reducible rfl
   refine jG ?_;refine jr (i:=3) (j:=5) rfl rfl bG6 rfl rfl (λK H=>?_) (λK H=>?_)
   · have bo:=E.1.size;go_simp;refine (yh (HN.out.below E.1)).mono ?_;rintro e wT ⟨tc,rfl,OT,al⟩;obtain ⟨fp,rfl,b6⟩:=kX OT.raw;obtain ⟨bi,cv,rfl,_⟩:=kD.sl b6;clear b6;replace OT:=yD OT;have f2:=al.size;replace I:=yD (I.out.below al);replace E:=And.intro (tQ E.1 al) (And.intro (cL al E.2.1) (And.intro (cL al E.2.2.1) (And.intro (cL al E.2.2.2.1) (cL al E.2.2.2.2))));refine H _ _ E ?_;clear H K al;refine kP (k:=5) rfl bG6 rfl (λK H=>?_);have ba:=E.1.size;go_simp;have HQ:Hid (kD.kQ 91 kM (wT.alloc (.cells #[.int .i64 f,.int .i64 F,.int .i64 y3] 91)) (.slice (some ⟨wT.heap.size,0,none⟩) 1 1) [(f,F,y3)] (jb wT.heap.size (wT.heap.size + 1))):=yD (kD.yJ (e:=91) (r:=kM) (w:=wT) (cs:=[.int .i64 f,.int .i64 F,.int .i64 y3]) (xs:=[(f,F,y3)]) (T:=λ_=>False) (S:=jb wT.heap.size (wT.heap.size + 1)) dG (by simp [maxLen]) ⟨_,[],_,_,by simp,(kD.flat.own (S:=λ_=>False) (kD.jW (kD.ku HF.out) (kD.jW (kD.ku b5.out) (kD.ku HY.out)))).1,rfl,λ_ h=>h,λ_ h=>h,λ_ _ h _=>h⟩ (λ_ h=>h.elim) ⟨Nat.le_refl _,by omega⟩);obtain ⟨qb,ax⟩:∃ q,q=wT.heap.size:=⟨_,rfl⟩;rw [<- ax] at HQ;have EU:Below wT.heap.size wT (World.alloc wT (.cells #[.int .i64 f,.int .i64 F,.int .i64 y3] 91)):=(bR.alloc nL _);have b0:wT.heap.size + 1=(World.alloc wT (.cells #[.int .i64 f,.int .i64 F,.int .i64 y3] 91)).heap.size:=(by simp);generalize av:World.alloc wT (.cells #[.int .i64 f,.int .i64 F,.int .i64 y3] 91)=wU at HQ EU b0 ⊢;clear av;replace I:=yD (I.out.below EU);replace OT:=yD (OT.out.below EU);replace E:=And.intro (tQ E.1 EU) (And.intro (cL EU E.2.1) (And.intro (cL EU E.2.2.1) (And.intro (cL EU E.2.2.2.1) (cL EU E.2.2.2.2))));replace b0:wT.heap.size + 1<=wU.heap.size:=Nat.le_of_eq b0;rw [<- ax];replace ax:=Nat.le_antisymm_iff.1 ax;refine H _ _ E ?_;clear H K EU;refine kL 6 ?_;refine kP (k:=7) rfl bG6 rfl (λK H=>?_);have a7:=E.1.size;go_simp;have EL:Below wU.heap.size wU (World.alloc wU (.cells #[.slice bi n.length cv,.slice (some ⟨qb,0,none⟩) 1 1,.int .i64 0] 93)):=(bR.alloc nL _);obtain ⟨v5,w5,a6,bx,am⟩:=kZj (P:=prog) (t:=28) (ty:=28) (r:=kGp) (e:=93) (w:=wU) (u:=World.alloc wU (.cells #[.slice bi n.length cv,.slice (some ⟨qb,0,none⟩) 1 1,.int .i64 0] 93)) Aw yQ rfl bH2 bH2 I.out (b:=wU.heap.size) rfl (kD.own.wide (T:=jb w4.heap.size wU.heap.size) (kD.jh (r:=kN) (q:=kD.pair (kD.kPa 91 kM) kD.int) (cs:=[.slice bi n.length cv]) (ds:=[.slice (some ⟨qb,0,none⟩) 1 1,.int .i64 0]) (x:=n) (y:=([(f,F,y3)],0)) (S:=jb w4.heap.size wU.heap.size) OT.out (kD.yF (r:=(kD.kPa 91 kM)) (q:=kD.int) (cs:=[.slice (some ⟨qb,0,none⟩) 1 1]) (ds:=[.int .i64 0]) (x:=[(f,F,y3)]) (y:=0) (HQ.out.own0h bG8) (kD.ku ⟨by decide,by decide⟩)) mV mV dZ) (λj hj=>hj)) rfl nX bH3;have c6:wU.heap.size < (World.alloc wU (.cells #[.slice bi n.length cv,.slice (some ⟨qb,0,none⟩) 1 1,.int .i64 0] 93)).heap.size:=(by simp);obtain ⟨lb,bq⟩:∃ q,q=wU.heap.size:=⟨_,rfl⟩;rw [<- bq] at a6;generalize c7:World.alloc wU (.cells #[.slice bi n.length cv,.slice (some ⟨qb,0,none⟩) 1 1,.int .i64 0] 93)=wL at EL a6 am c6 ⊢;exact aD
   have bo:=E.1.size;go_simp;have HQ:Hid (kD.kQ 91 kM (wD.alloc (.cells #[.int .i64 f,.int .i64 F,.int .i64 y3] 91)) (.slice (some ⟨wD.heap.size,0,none⟩) 1 1) [(f,F,y3)] (jb wD.heap.size (wD.heap.size + 1))):=yD (kD.yJ (e:=91) (r:=kM) (w:=wD) (cs:=[.int .i64 f,.int .i64 F,.int .i64 y3]) (xs:=[(f,F,y3)]) (T:=λ_=>False) (S:=jb wD.heap.size (wD.heap.size + 1)) dG (by simp [maxLen]) ⟨_,[],_,_,by simp,(kD.flat.own (S:=λ_=>False) (kD.jW (kD.ku HF.out) (kD.jW (kD.ku b5.out) (kD.ku HY.out)))).1,rfl,λ_ h=>h,λ_ h=>h,λ_ _ h _=>h⟩ (λ_ h=>h.elim) ⟨Nat.le_refl _,by omega⟩);obtain ⟨qb,ax⟩:∃ q,q=wD.heap.size:=⟨_,rfl⟩;rw [<- ax] at HQ;have EU:Below wD.heap.size wD (World.alloc wD (.cells #[.int .i64 f,.int .i64 F,.int .i64 y3] 91)):=(bR.alloc nL _);have b0:wD.heap.size + 1=(World.alloc wD (.cells #[.int .i64 f,.int .i64 F,.int .i64 y3] 91)).heap.size:=(by simp);generalize av:World.alloc wD (.cells #[.int .i64 f,.int .i64 F,.int .i64 y3] 91)=wU at HQ EU b0 ⊢;clear av;replace I:=yD (I.out.below EU);replace E:=And.intro (tQ E.1 EU) (And.intro (cL EU E.2.1) (And.intro (cL EU E.2.2.1) (And.intro (cL EU E.2.2.2.1) (cL EU E.2.2.2.2))));replace b0:wD.heap.size + 1<=wU.heap.size:=Nat.le_of_eq b0;rw [<- ax];replace ax:=Nat.le_antisymm_iff.1 ax;refine H _ _ E ?_;clear H K EU;refine kP (k:=3) rfl bG6 rfl (λK H=>?_);have ba:=E.1.size;go_simp;refine (yh (HN.out.below E.1)).mono ?_;rintro e wT ⟨tc,rfl,OT,al⟩;obtain ⟨fp,rfl,b6⟩:=kX OT.raw;obtain ⟨bi,cv,rfl,_⟩:=kD.sl b6;clear b6;replace OT:=yD OT;have f2:=al.size;replace I:=yD (I.out.below al);replace HQ:=yD (HQ.out.below al);replace E:=And.intro (tQ E.1 al) (And.intro (cL al E.2.1) (And.intro (cL al E.2.2.1) (And.intro (cL al E.2.2.2.1) (cL al E.2.2.2.2))));refine H _ _ E ?_;clear H K al;refine kL 6 ?_;refine kP (k:=7) rfl bG6 rfl (λK H=>?_);have a7:=E.1.size;go_simp;have EL:Below wT.heap.size wT (World.alloc wT (.cells #[.slice bi n.length cv,.slice (some ⟨qb,0,none⟩) 1 1,.int .i64 0] 93)):=(bR.alloc nL _);obtain ⟨v5,w5,a6,bx,am⟩:=kZj (P:=prog) (t:=28) (ty:=28) (r:=kGp) (e:=93) (w:=wT) (u:=World.alloc wT (.cells #[.slice bi n.length cv,.slice (some ⟨qb,0,none⟩) 1 1,.int .i64 0] 93)) Aw yQ rfl bH2 bH2 I.out (b:=wT.heap.size) rfl (kD.own.wide (T:=jb w4.heap.size wT.heap.size) (kD.jh (r:=kN) (q:=kD.pair (kD.kPa 91 kM) kD.int) (cs:=[.slice bi n.length cv]) (ds:=[.slice (some ⟨qb,0,none⟩) 1 1,.int .i64 0]) (x:=n) (y:=([(f,F,y3)],0)) (S:=jb w4.heap.size wT.heap.size) OT.out (kD.yF (r:=(kD.kPa 91 kM)) (q:=kD.int) (cs:=[.slice (some ⟨qb,0,none⟩) 1 1]) (ds:=[.int .i64 0]) (x:=[(f,F,y3)]) (y:=0) (HQ.out.own0h bG8) (kD.ku ⟨by decide,by decide⟩)) mV mV dZ) (λj hj=>hj)) rfl nX bH3;have c6:wT.heap.size < (World.alloc wT (.cells #[.slice bi n.length cv,.slice (some ⟨qb,0,none⟩) 1 1,.int .i64 0] 93)).heap.size:=(by simp);obtain ⟨lb,bq⟩:∃ q,q=wT.heap.size:=⟨_,rfl⟩;rw [<- bq] at a6;generalize c7:World.alloc wT (.cells #[.slice bi n.length cv,.slice (some ⟨qb,0,none⟩) 1 1,.int .i64 0] 93)=wL at EL a6 am c6 ⊢;exact aD
 have HK:Hid (decide (idxOf (jQ n) l < 0)=false):=yD bE2
 obtain ⟨k,hkl,ac⟩:=kAz hk
 have au:=yD ac
 rw [ac]
 have co:¬ ((k:Int) < 0):=bH3
 clear hk ac
 go_upto_region 3 with fail
 have FX:=yD (λ(W:Am) (hW:Qb w4 W)=>cLs5 hW K0 K1 K2 K3 KF)
 refine kr (λW=>Qb w4 W) [Tt,Ff,Tt,Tt,Tt,Ff,Tt,Tt,Tt,Tt,Tt,Tt,Tt,Tt,Tt,Tt,Tt] (bR) ?_
 intro wS E
 all_goals refine ky ?_
 all_goals first|(refine kJ rfl E ?_)|(refine kw rfl (λK H=>?_);go_simp;refine (kDl (HW.out.1.below (tQ E4 E))).mono ?_;rintro e wV ⟨rfl,bd⟩;replace E:=(tQ E bd);refine H _ _ E ?_;clear H K bd)
 all_goals refine jG ?_
 all_goals refine ky ?_
 all_goals (refine jy λb bh=>?_;cases b <;> try simp only [jw] at bh)
 all_goals refine ky ?_
 all_goals first | refine wkC (kBj) ?_ | refine ky ?_
 all_goals refine ky ?_
 all_goals refine ky ?_
 all_goals (refine jy λb ck=>?_;cases b <;> try simp only [jw] at ck)
 all_goals refine ky ?_
 all_goals refine ky ?_
 all_goals (refine jy λb an=>?_;cases b <;> try simp only [jw] at an)
 iterate 4
  all_goals refine ky ?_
 all_goals (refine jy λb V=>?_;cases b <;> try simp only [jw] at V)
 all_goals refine kS ?_
 all_goals have E5:=(tQ E4 E)
 all_goals have aj:=yD (I.out.below E)
 all_goals have bz:=E.size
 all_goals have af:=cL E K0
 all_goals have b2:=cL E K1
 all_goals have b3:=cL E K2
 all_goals have cd:=cL E K3
 all_goals have a5:=cL E KF
 all_goals clear K0 K1 K2 K3 KF I
 all_goals first|(have L:=yD (kKw (t:=t) (show yH (n,F,x2,x3) f l=false by simp only [yH,HK.out,Ad,Aa,Ae,Ag,Ab,Ac,Aj,Ak,Ah,Ai,Al,Aq,bh,ck,an,V,V]));go_wp2;go_ret2;exact ⟨_,by rw [L.out.2];rfl,(((kHa aj.out).cast L.out.1.symm).own bA2).wide mV,E5⟩) | skip
 have L:=yD (kRj (t:=t) (show yH (n,F,x2,x3) f l=true by simp only [yH,HK.out,Ad,Aa,Ae,Ag,Ab,Ac,Aj,Ak,Ah,Ai,Al,Aq,bh,ck,an,V,V]) au.out hkl)
 go_upto_region 6 with fail
 generalize Y:wrap64 (t + x3)=y3
 obtain ⟨HR,HY⟩:=FQ
 clear Y
 generalize D:World.alloc _ _=wC
 obtain ⟨EC,aw,bm,be,a9,E6,ao,af⟩:=xU
 replace a5:=cL EC a5
 clear D b2 b3 cd aj E EC
 obtain ⟨b,cap,hv,Z,a8,a4,U⟩:=kD.zy ao.out hkl
 simp only [Ay] at hv
 obtain ⟨rfl,o,rfl⟩:=hv
 have bt:k < on:=bH3
 obtain ⟨b4,a2⟩:=GU
 clear o
 have c4:l[k].2.1.length<=1048576:=b8.out _ (Ap hkl)
 obtain ⟨ra,rp,B,A1,hQ,hB,R,br,cm,ag⟩:=pend_part ao.out hkl
 have HQ:=yD hQ;have ar:=yD ag;have HB:=yD hB;clear ag hQ hB
 have ak:Hid (∀ j,B j->N.heap.size<=j/\j < w4.heap.size):=yD (λj hj=>(HB.out j hj).1)
 clear ao
 go_wp2_with fail
 refine (kLa (kNn f) kHs HQ.out bH3 (λwr hb x cs hr=>kNy hr ?_)).mono ?_
 · have e1:wr.heap[w.heap.size + 1]?=wC.heap[w.heap.size + 1]?:=hb.block _ bH3 (λq=>by have:=(ak.out _ q).1;omega);rw [<- a5];unfold World.cell?;simp only [e1]
 rintro e w6 ⟨v6,rfl,O6,T6⟩
 have bg:=yD T6
 have ae:∀ (bb i:Nat) (u:Av),Qc wC bb i u->(bb < N.heap.size\/w4.heap.size<=bb)->Qc w6 bb i u:=λbb i u hu hq=>by
   have e1:w6.heap[bb]?=wC.heap[bb]?:=T6.block _ (World.block_lt_of_cell? _ _ hu) (λq=>by have:=ak.out _ q;omega);unfold World.cell? at hu ⊢;simp only [e1];exact hu
 replace a5:=ae _ _ _ a5 (.inl bH3)
 replace bm:=ae _ _ _ bm (.inr bH3)
 replace be:=ae _ _ _ be (.inr bH3)
 replace a9:=ae _ _ _ a9 (.inr bH3)
 have c9:=T6.size
 obtain ⟨i,hi,cf,bu⟩:=kMg (f,F,y3) l[k].2.1
 obtain ⟨M,hM⟩:∃ M,M=yt (f,F,y3).1 l[k].2.1:=⟨_,rfl⟩
 rw [<- hM] at hi cf bu
 have HM:Hid (kD.kQ 91 kM w6 v6 M B):=yD (O6.cast (by rw [hM];rfl))
 have dd:M.length<=1048576:=by rw [hM];exact Nat.le_trans (List.length_filter_le _ _) c4
 have aa:=yD cf
 obtain ⟨pa,pn,pc,hp,bj⟩:=HM.out.parts;obtain rfl:=hp
 have c8:=yD A1
 clear O6 T6 ae A1 HQ hM cf
 go_wp2_with fail
 refine (kCn (λr=>decide (f<=r.1)) kHr HM.out.kBi (λwr hb i h cs hr=>kNx hr (cL hb a5))).mono ?_
 rintro e w7 ⟨rfl,X⟩
 have c3:=X.size
 have c1:=yD (HM.out.below X)
 have cz:=yD X
 replace bm:=cL X bm
 replace be:=cL X be
 replace a9:=cL X a9
 clear HM X
 rcases bu with ⟨hx,hi2⟩ | hx
 · have hx:idxOf (λr:kU=>decide (f<=r.1)) M=-1:=hx;obtain rfl:i=pn:=hi2.trans bj.out.symm;rw [hx];clear hx hi2;exact aF
 have hx:idxOf (λr:kU=>decide (f<=r.1)) M=(i:Int):=hx
 rw [hx]
 have dc:¬ ((i:Int) < 0):=bH3
 clear hx
 exact aF
end Go.Proofs.YtjhfdpopkkmigabGreat

/-
  Lists of pending interests that are valid.
-/
import Derived.Test.YthocbplmdjkifabGreatSoftT
set_option linter.unusedVariables false
set_option linter.defProp false
set_option linter.unusedSimpArgs false
set_option linter.unnecessarySimpa false
set_option maxRecDepth 100000
set_option maxHeartbeats 4000000
open Bool renaming true->Tt,false->Ff
open _root_ renaming List->Aa,ge_iff_le->Ab
open List renaming findIdx?_eq_some_iff_getElem->Ac,findIdx?_eq_none_iff->Ad,getElem_mem->Ae,length_eq_one_iff->Ag
open Go renaming Value->Ah,World->Aj
open Int renaming natCast_nonneg->Ai
open Go.Value.slice renaming injEq->Ak
namespace Go.Proofs.YthocbplmdjkifabGreat
open Go.RowKit _root_.Go.Proofs.Tryz
variable {l:Aa kF} {t f:Int} {x:yw} {w:Aj} {n:kU} {cn:Aa Ah} {vl:Ah} {k:Nat}
def kYf (x:yw) (f t:Int):kY:=(f,x.2.1,wrap64 (t + x.2.2.2))
def kDc (x:yw) (f:Int) (l:Aa kF):Bool:=!((!kWl x || !inR f 0 6) || (decide (idxOf (jR x.1) l < 0) && decide ((12:Int)<=(l.length:Int))))
def addQ1 (x:yw) (f t:Int) (l:Aa kF):Aa kF :=
  if idxOf (jR x.1) l < 0 then l++[(x.1,[kYf x f t],0)]
  else l.set (idxOf (jR x.1) l).toNat ((l.getD (idxOf (jR x.1) l).toNat ([],[],0)).1,kUh (kYf x f t) (l.getD (idxOf (jR x.1) l).toNat ([],[],0)).2.1,(l.getD (idxOf (jR x.1) l).toNat ([],[],0)).2.2)
def addQ (x:yw) (f t:Int) (l:Aa kF):Aa kF:=if kDc x f l then addQ1 x f t l else l
def jIx {l:List kF} (h:kDc x f l=false):addQ x f t l=l/\kDc x f l=false:=by unfold addQ;rw [h];exact ⟨rfl,rfl⟩
def addQ_new {l:List kF} (h:kDc x f l=true) (hk:idxOf (jR x.1) l < 0):addQ x f t l=l++[(x.1,[kYf x f t],0)]/\kDc x f l=true:=by unfold addQ addQ1;rw [h,if_pos hk];exact ⟨rfl,rfl⟩
def addQ_set (h:kDc x f l=true) (hk:idxOf (jR x.1) l=k) (Z:k < l.length):addQ x f t l=l.set k (l[k].1,kUh (kYf x f t) l[k].2.1,l[k].2.2)/\kDc x f l=true:=by
 unfold addQ addQ1;rw [h,if_pos rfl,hk,if_neg (show ¬ ((k:Int) < 0) by omega)];refine ⟨?_,rfl⟩;simp only [Int.toNat_natCast,jY Z]
def addQok_len (h:kDc x f l=true) (hk:idxOf (jR x.1) l < 0):l.length < 12:=by
 unfold kDc at h;simp [hk] at h;omega
def pend_setReq {b cap len:Nat} {S T:Nat->Prop} {v':Ah} {E:Aa kY} (h:kD.ko 106 kH w (.slice (Qa b) len cap) l S) (hk:k < l.length)
    (hv:kD.ko 83 ky w v' E T) (a3:E.length<=Big) (hST:∀ j,S j->T j->False) :
    kD.ko 106 kH (w.setCell ⟨b,k * 3 + 1,none⟩ v') (.slice (Qa b) len cap) (l.set k (l[k].1,E,l[k].2.2)) (λj=>S j\/T j):=by
 have dc:=h.1 l[k] (Ae hk);refine (kD.jIj (i:=k) (j:=1) (p:=k * 3 + 1) (T:=T) (y:=(l[k].1,E,l[k].2.2)) h hk bJ4 ?_ ⟨dc.1,(hv.own0h a3).2,trivial⟩ hST rfl).1;rintro cs D ⟨c,d,A,B,rfl,h1,⟨c2,N,A2,B2,rfl,h2,h3,k1,k2,k3⟩,k4,k5,k6⟩ F;have be:c.length=1:=kQ.len h1;obtain ⟨cn,rfl⟩:=Ag.1 be;have bt:c2.length=1:=Ci.len h2;obtain ⟨cq,rfl⟩:=Ag.1 bt;refine ⟨[cn],v' :: N,A,T,rfl,h1,?_,λj J=>.inl (k4 j J),λj=>.inr,λ_ j a t=>hST j (F j (k4 j a)) t⟩;exact ⟨[v'],N,T,λ_=>False,rfl,(hv.own a3).1,h3,λj J=>J,λj J=>J.elim,λ_ j _ J=>J⟩
def jAg (z:Int):-9223372036854775808<=wrap64 z/\wrap64 z<=9223372036854775807:=by unfold wrap64;omega
def kJr (hl:Ce.rd w [vl] l) (dd:∀ y∈l,y.2.1.length<=1048576) {cx:Aa Ah} (hx:zh.rd w cx x) (hf:Qi f) (ht:Qi t) :
    Calls prog 219 #[vl,.agg cx.toArray,.int .i64 f,.int .i64 t] w λe w'=>∃ v,e=.returned (.tuple #[v,.bool (kDc x f l)])/\Ce.own w' [v] (addQ x f t l) (jW w w')/\Qb w w':=by
 have HL:=yD hl;have ao:=yD dd;refine oL λbm=>?_;have HW:=yD hx;obtain ⟨nv,rfl,ay,ap,bb,bt,aq⟩:=kFt hx.1;obtain ⟨n,x1,x2,x3⟩:=x;have HN:Hid (kQ.rd w [nv] n):=yD ⟨ay,hx.2.1⟩;obtain ⟨na,np,rfl,_,va,vp,rfl,bj⟩:=kD.sx ap (kD.sl hl.1);refine aN hf bb λHF bl=>?_;clear ay ap bb bt aq hl hx hf ht dd;go_enter func219,ntmps219;go_upto_region 1 with fail;refine MJ λX U EB=>?_;have Y:Qd X w 0 (Qs na n np):=bA9;have K1:Qd X w 1 (Qn x1):=bA9;have K2:Qd X w 2 (Qn x2):=bA9;have K3:Qd X w 3 (Qn x3):=bA9;have cc:X.heap.size=w.heap.size + 1:=bH6;clear U;go_wp2_with fail;refine (kHy (HL.below EB)).mono ?_;refine eD λw1 v1 O1 O=>?_;refine aJ O Y K1 K2 λY K1 K2=>?_;replace K3:=cL O K3;have E1:=(tQ EB O);have a4:=O.size;have F:=yD O1;refine aH O1 λoa on oc ho ak=>?_;obtain rfl:=ho;clear O1 O EB;go_wp2_with fail;refine (kEd (HL.1.below E1) (HN.1.below E1)).mono ?_;refine fO λw4 N=>?_;refine aJ N Y K1 K2 λY K1 K2=>?_;replace K3:=cL N K3;have E4:=(tQ E1 N);have cd:=N.size;replace F:=yD ((F.below N).wide (T:=jW X w4) vD);clear N E1;by_cases hk:idxOf (jR n) l < 0
 · have HK:Hid (decide (idxOf (jR n) l < 0)=true):=yD bG3;go_upto_region 3 with fail;have FX:=yD (λ(W:Aj) (hW:Qb w4 W)=>kIm hW Y K1 K2 K3);refine kX (λW=>Qb w4 W) [Tt,Ff,Tt,Tt,Tt,Ff,Tt,Tt,Tt,Tt,Tt,Tt,Tt,Tt,Tt,Tt,Tt] (bR) ?_;intro wS I;all_goals (refine kZ ?_;(first|(refine kI rfl I ?_)|(refine ku rfl (λK E=>?_);go_simp;refine (kIv (HW.1.below (tQ E4 I))).mono ?_;rintro e H ⟨rfl,ac⟩;replace I:=(tQ I ac);refine E _ _ I ?_;clear E K ac));refine jD ?_;refine kZ ?_;refine jo λb a1=>?_;cases b <;> try simp only [jm] at a1)
   all_goals (refine kZ ?_;(first | refine wkC (yQ) ?_ | refine kZ ?_);refine kZ ?_;refine kZ ?_;refine jo λb an=>?_;cases b <;> try simp only [jm] at an)
   all_goals (refine kZ ?_;refine kZ ?_;refine jo λb am=>?_;cases b <;> try simp only [jm] at am)
   all_goals ((iterate 4 refine kZ ?_);refine jo λb V=>?_;cases b <;> try simp only [jm] at V)
   all_goals (refine kR ?_;have E5:=(tQ E4 I);have ar:=yD (F.below I);have bw:=I.size;have bn:=cL I Y;have a6:=cL I K1;have bq:=cL I K2;have bv:=cL I K3;clear Y K1 K2 K3 F)
   all_goals first|(have L:=yD (jIx (t:=t) (show kDc (n,x1,x2,x3) f l=false by simp only [kDc,HK.out,Q0,Ab,a1,an,am,V,V]));go_wp2;go_ret2;exact ⟨_,by rw [L.2];rfl,((ar.cast L.1.symm).own (by rw [L.1];exact bm)).wide pJ,E5⟩) | skip
   have L:=yD (addQ_new (t:=t) (show kDc (n,x1,x2,x3) f l=true by simp only [kDc,HK.out,Q0,Ab,a1,an,am,V,V]) hk);have ag:=addQok_len L.2 hk;generalize hq:idxOf (jR n) l=q at *;clear hq HK;go_upto_region 6 with fail;generalize aj:wrap64 (t + x3)=y3;have HR:Hid (kYf (n,x1,x2,x3) f t=(f,x1,y3)):=yD (by rw [<- aj];rfl);have HY:Hid (Qi y3):=yD (by rw [<- aj];exact jAg _);clear aj;generalize R:World.alloc _ _=wC;have EC:Qb H wC:=vT;have a9:H.heap.size<=wC.heap.size:=EC.size;have ax:Qd wC H 0 (Qn f):=bB0;have av:Qd wC H 1 (Qn x1):=bB0;have D:Qd wC H 2 (Qn y3):=bB0;have E6:=(tQ E5 EC);have be:=yD (ar.below EC);replace bn:=cL EC bn;clear R a6 bq bv ar I EC;go_wp2_with fail;refine (zo (HN.below E6)).mono ?_;refine ML λwT ba a7 b7 bh OT=>?_;clear bh;go_upto_region 8 with fail;generalize bf:World.alloc wT _=wD;have ED:Qb wT wD:=vS;have KD:Qd wD wT 0 (Qs a7 n b7):=bA8;have b0:wT.heap.size<=wD.heap.size:=ED.size;clear bf;have ER:=(tQ ba ED);have ee:=ba.size;have bz:=yD (OT.below ED);refine aJ ER ax av D λax av D=>?_;have ab:=yD (be.below ER);have HQ:Hid (Ci.own (wD.alloc (.cells #[.int .i64 f,.int .i64 x1,.int .i64 y3] 83)) [.slice (Qa wD) 1 1] [(f,x1,y3)] (jW wD (wD.heap.size + 1))):=yD (kD.ko.own (kD.yf (e:=83) (r:=ky) (w:=wD) (cs:=[.int .i64 f,.int .i64 x1,.int .i64 y3]) (xs:=[(f,x1,y3)]) (T:=λ_=>False) (S:=jW wD (wD.heap.size + 1)) (by intro y hy;simp only [List.mem_singleton] at hy;rw [hy];exact ⟨trivial,trivial,trivial⟩) (by simp [maxLen]) ⟨_,[],_,_,by simp,(kD.flat.own (S:=λ_=>False) (kD.yh (kD.jB HF.out) (kD.yh (kD.jB bl.out) (kD.jB HY.out)))).1,rfl,λ_ h=>h,λ_ h=>h,λ_ _ h _=>h⟩ (λ_ h=>h.elim) ⟨Nat.le_refl _,by omega⟩) bJ1);have E8:=(tQ E6 ER);clear OT;go_wp2_with (at_builtin;refine kD.jN rfl _ _ 28 rfl (r:=kH) (e:=106) underlying28 jl rfl bJ4 bJ4 (B:=w.heap.size) (b:=wD.heap.size + 1) (ab.alloc _) bJ7 bJ7 bJ6 (kD.own.wide (T:=jW w4 (wD.heap.size + 1)) (kD.ji (r:=kQ) (q:=kD.pair Ci kD.int) (cs:=[.slice a7 n.length b7]) (ds:=[.slice (Qa wD) 1 1,.int .i64 0]) (x:=n) (y:=([(f,x1,y3)],0)) (S:=jW w4 (wD.heap.size + 1)) (bz.alloc _) (kD.yR (r:=Ci) (q:=kD.int) (cs:=[.slice (Qa wD) 1 1]) (ds:=[.int .i64 0]) (x:=[(f,x1,y3)]) (y:=0) HQ.out (kD.jB ⟨by decide,by decide⟩)) pJ pJ pQ) (λj J=>J)) rfl pQ nD nD bJ0 bJ5 ?_);intro v5 w5 aa ae b2;have bo:=yD (aa.cast (by rw [L.1,HR.out]:_=addQ (n,x1,x2,x3) f t l));refine aH aa λpa pn pc hp bc=>?_;obtain rfl:=hp;have E9:=(E8.alloc E8.size _).trans ae;clear aa ae;go_wp2;go_ret2;exact ⟨_,by rw [L.2];rfl,bo.own (by rw [L.1];simp;unfold Big;omega),E9⟩
 have HK:Hid (decide (idxOf (jR n) l < 0)=false):=yD bG3;obtain ⟨k,Z,al⟩:=kCo hk;have bd:=yD al;rw [al];have br:¬ ((k:Int) < 0):=bJ5;clear hk al;go_upto_region 3 with fail;have FX:=yD (λ(W:Aj) (hW:Qb w4 W)=>kIm hW Y K1 K2 K3);refine kX (λW=>Qb w4 W) [Tt,Ff,Tt,Tt,Tt,Ff,Tt,Tt,Tt,Tt,Tt,Tt,Tt,Tt,Tt,Tt,Tt] (bR) ?_;intro wS I;all_goals (refine kZ ?_;(first|(refine kI rfl I ?_)|(refine ku rfl (λK E=>?_);go_simp;refine (kIv (HW.1.below (tQ E4 I))).mono ?_;rintro e H ⟨rfl,ac⟩;replace I:=(tQ I ac);refine E _ _ I ?_;clear E K ac));refine jD ?_;refine kZ ?_;refine jo λb a1=>?_;cases b <;> try simp only [jm] at a1)
 all_goals (refine kZ ?_;(first | refine wkC (yQ) ?_ | refine kZ ?_);refine kZ ?_;refine kZ ?_;refine jo λb an=>?_;cases b <;> try simp only [jm] at an)
 all_goals (refine kZ ?_;refine kZ ?_;refine jo λb am=>?_;cases b <;> try simp only [jm] at am)
 all_goals ((iterate 4 refine kZ ?_);refine jo λb V=>?_;cases b <;> try simp only [jm] at V)
 all_goals (refine kR ?_;have E5:=(tQ E4 I);have ar:=yD (F.below I);have bw:=I.size;have bn:=cL I Y;have a6:=cL I K1;have bq:=cL I K2;have bv:=cL I K3;clear Y K1 K2 K3 F)
 all_goals first|(have L:=yD (jIx (t:=t) (show kDc (n,x1,x2,x3) f l=false by simp only [kDc,HK.out,Q0,Ab,a1,an,am,V,V]));go_wp2;go_ret2;exact ⟨_,by rw [L.2];rfl,((ar.cast L.1.symm).own (by rw [L.1];exact bm)).wide pJ,E5⟩) | skip
 have L:=yD (addQ_set (t:=t) (show kDc (n,x1,x2,x3) f l=true by simp only [kDc,HK.out,Q0,Ab,a1,an,am,V,V]) bd.out Z);go_upto_region 6 with fail;generalize aj:wrap64 (t + x3)=y3;have HR:Hid (kYf (n,x1,x2,x3) f t=(f,x1,y3)):=yD (by rw [<- aj];rfl);have HY:Hid (Qi y3):=yD (by rw [<- aj];exact jAg _);clear aj;generalize R:World.alloc _ _=wC;have EC:Qb H wC:=vT;have a9:H.heap.size<=wC.heap.size:=EC.size;have ax:Qd wC H 0 (Qn f):=bB0;have av:Qd wC H 1 (Qn x1):=bB0;have D:Qd wC H 2 (Qn y3):=bB0;have E6:=(tQ E5 EC);have be:=yD (ar.below EC);clear R a6 bq bv ar I EC;obtain ⟨b,cap,hv,af,bk,a2,a5⟩:=kD.kAp be.out Z;simp only [Ak] at hv;obtain ⟨rfl,ai,rfl⟩:=hv;have bu:(k:Int) < on:=bJ5;clear ai;have a8:=yD (be.own bm);obtain ⟨c0,c1,c2,hr,A0,A1,A2⟩:=kD.at3 a8.raw Z rfl;obtain ⟨rfl,au,az,aw,bi⟩:=jV hr;have ck:Hid (Ci.rd wC [c1] l[k].2.1):=yD ⟨aw,(kD.zL a8.rd Z).2.1⟩;obtain ⟨ra,rp,rfl,_⟩:=kD.sl aw;have b1:l[k].2.1.length<=1048576:=ao.out _ (Ae Z);clear hr au az aw bi A0 A2 a8;go_upto_region 9 with fail;have FX:=yD (λ(W:Aj) (hW:Qb wC W)=>kIm hW A1 ax av D);refine kN (λW=>Qb wC W) [Tt,Tt,Tt,Tt,Tt,Tt,Ff,Tt] bI9 bI9 sD (bR.drew) ?_;refine uC λwS I=>?_;all_goals ((first|(refine kI rfl I ?_)|(refine ku rfl (λK E=>?_);go_simp;refine (jHz (ck.below I) HF.out bl.out HY.out).mono ?_;rintro e w6 ⟨v6,rfl,O6,bg⟩;obtain ⟨pa,pn,pc,hp,bc⟩:=O6.parts;obtain rfl:=hp;replace O6:=yD O6;have b6:=I.size;have bp:=bg.size;replace I:=(tQ I bg);refine E _ _ I ?_;clear E K bg));refine jD ?_;refine kZ ?_;refine kR ?_)
 have b3:=cL I A1;have G:=yD (be.below I);have ah:=kD.kIi G.out bJ5 (k * 3 + 1);have a3:(kUh (f,x1,y3) l[k].2.1).length<=Big:=Nat.le_trans (putR_len _ _) bE7;have b9:=yD (pend_setReq G.out Z O6.out a3 pQ);have bx:=yD (b9.cast (by rw [L.1,HR.out]:_=addQ (n,x1,x2,x3) f t l));have E9:=(tQ E6 I);clear b9;go_wp2;go_ret2;exact ⟨_,by rw [L.2];rfl,(bx.own (by rw [L.1];simp;unfold Big;omega)).wide (λj J=>by rcases J with J | J;exact ⟨by have:=J.1;omega,by have:=J.2;simp [World.setCell];omega⟩;exact ⟨by have:=J.1;omega,by have:=J.2;simp [World.setCell];omega⟩),E9.setCell (show w.heap.size<=b by have:=af.1;omega) _⟩
def jBv (n:kU) (t:Int) (l:Aa kF):Aa kF :=
  if idxOf (jR n) l < 0 then l else l.set (idxOf (jR n) l).toNat (kCm (l.getD (idxOf (jR n) l).toNat ([],[],0)) t)
def sentP_no {l:List kF} (h:idxOf (jR n) l < 0):jBv n t l=l:=by unfold jBv;rw [if_pos h]
def jFu (h:idxOf (jR n) l=k) (hk:k < l.length):jBv n t l=l.set k (kCm l[k] t):=by
 unfold jBv;exact UG
def jBo (hl:Ce.rd w [vl] l) (hn:kQ.rd w cn n) (ht:Qi t) :
    Calls prog 257 #[vl,.agg cn.toArray,.int .i64 t] w (kAj Ce (jBv n t l) w):=by
 refine SL λHL HN bm=>?_;obtain ⟨nv,rfl,ab⟩:=kT hn.1;obtain ⟨na,np,rfl,_,va,vp,rfl,bj⟩:=kD.sx ab (kD.sl hl.1);clear ab hl hn;go_enter func257,ntmps257;go_wp2_with fail;refine oH λX EB Y cc=>?_;refine (kHy (HL.below EB)).mono ?_;refine eD λw1 v1 O1 O=>?_;refine lC O EB λY E1=>?_;have F:=yD (O1.wide (T:=jW w w1) vE);refine aH O1 λoa on oc ho ak=>?_;obtain rfl:=ho;clear O1 O EB;have HF:=yD ht;clear ht;go_wp2_with fail;refine (kEd (HL.1.below E1) (HN.1.below E1)).mono ?_;refine fO λw4 N=>?_;have E4:=(tQ E1 N);refine CK E1 λcd F=>?_;clear E1 N;by_cases hk:idxOf (jR n) l < 0
 · have L:=yD (sentP_no (t:=t) hk);generalize hq:idxOf (jR n) l=q at *;clear hq;exact DL E4
 obtain ⟨k,Z,al⟩:=kCo hk;have bd:=yD al;rw [al];clear hk al;obtain ⟨b,cap,hv,af,bk,a2,a5⟩:=kD.kAp F.out Z;simp only [Ak] at hv;obtain ⟨rfl,ai,rfl⟩:=hv;refine P9 λbg bu=>?_;have a8:=yD (F.own bm);obtain ⟨c0,c1,c2,hr,A0,A1,A2⟩:=kD.at3 a8.raw Z rfl;clear hr;have ah:=kD.kIi F.out bJ5 (k * 3 + 2);have L:=yD (jFu (t:=t) bd.out Z);obtain ⟨s1,s2⟩:=kD.kFb (i:=k) (j:=2) (p:=k * 3 + 2) (u:=.int .i64 t) F.out bm Z bJ4 (λh=>kPb _ HF.out h) (show kH.bdd Big (kCm l[k] t) from kD.zL a8.rd Z) rfl;have aj:=yD (s1.cast L.symm);clear s1 s2 ai;go_wp2;go_ret;exact ⟨_,rfl,(aj.own tJ).wide nZ,E4.setCell af.1 _⟩
def yT (l:Aa jI) (n:kU) (x:Int):Aa jI:=if (24:Nat) < (l++[(n,x)]).length then (l++[(n,x)]).drop 1 else l++[(n,x)]
def kDh {l:Aa jI} (hl:Cj.rd w [vl] l) (hlen:l.length<=2000000) (hn:kQ.rd w cn n) {x:Int} (hx:Qi x) :
    Calls prog 50 #[vl,.agg cn.toArray,.int .i64 x] w (kAj Cj (yT l n x) w):=by
 refine NW λHL HN=>?_;have HX:=yD hx;obtain ⟨la,lp,rfl,ll⟩:=kD.sl hl.1;obtain ⟨av,rfl,ac⟩:=kT hn.1;obtain ⟨na,np,rfl,_⟩:=kD.sl ac;clear hl hn ac hx;go_enter func50,ntmps50;go_upto_region 1 with fail;refine MJ λX U EB=>?_;refine EJ λcc Y FX=>?_;clear U;refine uN λwS I=>?_;all_goals ((iterate 3 refine kZ ?_);(first|(refine kI rfl I ?_)|(refine ku rfl (λK E=>?_);go_simp;refine (kRu (HL.below (tQ EB I))).mono ?_;rintro e Z ⟨v1,rfl,O1,N⟩;have ae:=I.size;have d9:=N.size;have af:=I;obtain ⟨va,vn,vc,an,aw⟩:=O1.parts;obtain rfl:=an;have R:=yD O1;clear O1;replace I:=(tQ I N);refine E _ _ I ?_;clear E K N));refine jD ?_;(first|(refine kI rfl I ?_)|(refine ku rfl (λK E=>?_);go_simp;refine (zo (HN.below (tQ EB I))).mono ?_;rintro e wC ⟨tc,rfl,O3,H⟩;have a9:=H.size;obtain ⟨tv,rfl,bh⟩:=kT O3.raw;obtain ⟨ta,tp,rfl,_⟩:=kD.sl bh;clear bh;have ap:=yD O3;clear O3;replace R:=yD (R.below H);have ar:=aw.out;subst ar;clear aw;replace I:=(tQ I H);refine E _ _ I ?_;clear E K H));refine jD ?_;refine kZ ?_;(first|(refine kI rfl I ?_)|(refine ku rfl (λK E=>?_);go_simp;refine E _ _ (I.alloc I.size _) ?_;clear E K));refine jD ?_;(first|(refine kI rfl I ?_)|(refine ku rfl (λK E=>?_);obtain ⟨G,w7,L,F,J⟩:=kD.kJt (P:=prog) (t:=29) (ty:=29) (r:=jG) (e:=131) (w:=wC) (xs:=l) (c:=1) underlying29 kHd rfl bJ4 bJ4 (R.own bE7) bR (kD.yR (r:=kQ) (q:=kD.int) (cs:=[.slice ta n.length tp]) (ds:=[.int .i64 x]) (x:=n) (y:=x) ap.out (kD.jB HX.out)) rD bJ5;refine kD.kV _ _ _ rfl bJ7 bJ7 L ?_;have am:=J.size;have ag:Qb X w7:=I.trans (J.below I.size (λj q=>by have:=q.1.1;omega));clear L;generalize V:l++[(n,x)]=q at *;have aj:Hid (q.length=l.length + 1):=yD bI3;obtain ⟨a7,D,rfl,_⟩:=kD.sl F.raw;have ab:=yD (F.wide (T:=jW w w7) bL);clear F J;have fi:=yD V;clear V;refine E _ _ ag ?_;clear E K I));refine jD ?_;refine kZ ?_;refine kR ?_)
 exact uH
def kGg {l:Aa jI} (hl:Cj.rd w [vl] l) (hlen:l.length<=2000000) (hn:kQ.rd w cn n) {x:Int} (hx:Qi x) :
    Calls prog 36 #[vl,.agg cn.toArray,.int .i64 x] w (kAj Cj (yT l n x) w):=by
 refine NW λHL HN=>?_;have HX:=yD hx;obtain ⟨la,lp,rfl,ll⟩:=kD.sl hl.1;obtain ⟨av,rfl,ac⟩:=kT hn.1;obtain ⟨na,np,rfl,_⟩:=kD.sl ac;clear hl hn ac hx;go_enter func36,ntmps36;go_upto_region 1 with fail;refine MJ λX U EB=>?_;refine EJ λcc Y FX=>?_;clear U;refine uN λwS I=>?_;all_goals ((iterate 3 refine kZ ?_);(first|(refine kI rfl I ?_)|(refine ku rfl (λK E=>?_);go_simp;refine (kPs (HL.below (tQ EB I))).mono ?_;rintro e Z ⟨v1,rfl,O1,N⟩;have ae:=I.size;have d9:=N.size;have af:=I;obtain ⟨va,vn,vc,an,aw⟩:=O1.parts;obtain rfl:=an;have R:=yD O1;clear O1;replace I:=(tQ I N);refine E _ _ I ?_;clear E K N));refine jD ?_;(first|(refine kI rfl I ?_)|(refine ku rfl (λK E=>?_);go_simp;refine (zl (HN.below (tQ EB I))).mono ?_;rintro e wC ⟨tc,rfl,O3,H⟩;have a9:=H.size;obtain ⟨tv,rfl,bh⟩:=kT O3.raw;obtain ⟨ta,tp,rfl,_⟩:=kD.sl bh;clear bh;have ap:=yD O3;clear O3;replace R:=yD (R.below H);have ar:=aw.out;subst ar;clear aw;replace I:=(tQ I H);refine E _ _ I ?_;clear E K H));refine jD ?_;refine kZ ?_;(first|(refine kI rfl I ?_)|(refine ku rfl (λK E=>?_);go_simp;refine E _ _ (I.alloc I.size _) ?_;clear E K));refine jD ?_;(first|(refine kI rfl I ?_)|(refine ku rfl (λK E=>?_);obtain ⟨G,w7,L,F,J⟩:=kD.kJt (P:=prog) (t:=29) (ty:=29) (r:=jG) (e:=131) (w:=wC) (xs:=l) (c:=1) underlying29 kHd rfl bJ4 bJ4 (R.own bE7) bR (kD.yR (r:=kQ) (q:=kD.int) (cs:=[.slice ta n.length tp]) (ds:=[.int .i64 x]) (x:=n) (y:=x) ap.out (kD.jB HX.out)) rD bJ5;refine kD.kV _ _ _ rfl bJ7 bJ7 L ?_;have am:=J.size;have ag:Qb X w7:=I.trans (J.below I.size (λj q=>by have:=q.1.1;omega));clear L;generalize V:l++[(n,x)]=q at *;have aj:Hid (q.length=l.length + 1):=yD bI3;obtain ⟨a7,D,rfl,_⟩:=kD.sl F.raw;have ab:=yD (F.wide (T:=jW w w7) bL);clear F J;have fi:=yD V;clear V;refine E _ _ ag ?_;clear E K I));refine jD ?_;refine kZ ?_;refine kR ?_)
 exact uH
end Go.Proofs.YthocbplmdjkifabGreat
namespace Go.Proofs.YthocbplmdjkifabGreat
open _root_.Go.Proofs.Tryz
variable {α:Type} {p:α->Bool} {x:Aa α}
def kVj {f:Nat->Bool}:∀ {n:Nat},zf f n=true↔∀ j,j < n->f j=true
  | 0=>by simp [zf]
  | n + 1=>by
    rw [zf,Bool.and_eq_true,kVj];constructor
    · rintro ⟨h,k⟩ j J;by_cases e:j=n;rw [e];exact k
      · exact h j bJ5
    · intro h;exact ⟨λj J=>h j bJ5,h n bJ5⟩
def kMu:idxOf p x < 0↔∀ y∈x,p y=false:=by
 unfold idxOf;cases h:x.findIdx? p with
 | none=>simp [Ad.1 h];exact Ad.1 h
 | some i =>
   obtain ⟨hi,hp,_⟩:=Ac.1 h;constructor;intro q;simp at q;omega
   · intro q;rw [q _ (Ae hi)] at hp;cases hp
def kPw {k:Nat} (h:idxOf p x=k):∃ hk:k < x.length,p x[k]=true/\∀ j (J:j < k),p (x[j]'(Nat.lt_trans J hk))=false:=by
 unfold idxOf at h;cases e:x.findIdx? p with
 | none=>rw [e] at h;simp at h
 | some i =>
   rw [e] at h;obtain rfl:i=k:=by simp only at h;omega
   obtain ⟨hi,hp,hq⟩:=Ac.1 e;exact ⟨hi,hp,λj J=>by have:=hq j J;simpa using this⟩
end Go.Proofs.YthocbplmdjkifabGreat
namespace Go.Proofs.YthocbplmdjkifabGreat
open Go.RowKit _root_.Go.Proofs.Tryz
variable {k:Nat} {l:Aa kY} {vl:Ah} {x:kY} {w:Aj}
def okA (y x:kY):Bool:=!((!inR x.1 0 6 || !inR x.2.1 0 1000000) || decide (x.1<=y.1))
def okA0 (x:kY):Bool:=!(!inR x.1 0 6 || !inR x.2.1 0 1000000)
def kOh (l:Aa kY) (k:Nat) (x:kY):Bool:=if 0 < k then okA (l.getD (k - 1) (0,0,0)) x else okA0 x
def kTr (l:Aa kY):Bool:=zf (λj=>kOh l j (l.getD j (0,0,0))) l.length && decide (0 < l.length)
def vAsk_bad (h:k < l.length) (q:kOh l k l[k]=false):kTr l=false:=by
 unfold kTr;rw [kEw h sW];rfl
def jFj (h:k < l.length) (q:kOh l k l[k]=true) (a:zf (λj=>kOh l j (l.getD j (0,0,0))) k=true):zf (λj=>kOh l j (l.getD j (0,0,0))) (k + 1)=true :=
  kCi a sW
def jFk (q:zf (λj=>kOh l j (l.getD j (0,0,0))) k=true) (h:¬ k < l.length) (hk:k<=l.length):kTr l=decide (0 < l.length):=by
 obtain rfl:k=l.length:=bJ5;unfold kTr;rw [q];rfl
def jCm {l:List kY} (h:¬ 0 < k):kOh l k x=okA0 x:=by unfold kOh;rw [if_neg h]
def jGj {l:List kY} {j:Nat} (h:0 < k) (e:k - 1=j) (J:j < l.length):kOh l k x=okA l[j] x:=by unfold kOh;rw [if_pos h,e,jY J]
def kYt (hl:Ci.raw w [vl] l) :
    Calls prog 301 #[vl] w (bQ w (.bool (kTr l))):=by
 obtain ⟨al,pl,rfl,ll⟩:=kD.sl hl;go_enter func301,ntmps301;go_wp2;go_loopw [3] (λi wr=>∃ k:Nat,k<=l.length/\i=.int .i64 k/\Hid (zf (λj=>kOh l j (l.getD j (0,0,0))) k=true)/\Qb w wr) (λi _=>l.length - (intOf i).toNat);case atStart=>exact ⟨0,Nat.zero_le _,rfl,yD rfl,bR⟩
 obtain ⟨k,hk,rfl,HN,D⟩:=hrel;by_cases hlt:k < l.length
 · have bg:=Int.ofNat_lt.2 hlt;have dt:=Ai k;obtain ⟨qb,qo,rfl,ah,aj,ao,qr,a2,a4,a5⟩:=kD.zx (hl.below D) (i:=k) bJ5 rfl;have hb:=λq=>vAsk_bad hlt q;have H:=λq=>jFj hlt q HN.out;by_cases h0:0 < k
   · obtain ⟨j,J⟩:∃ j,k - 1=j:=⟨_,rfl⟩;have aq:j < l.length:=bJ5;have F:=yD (jGj (l:=l) (x:=l[k]) h0 J aq);have bh:(k:Int) - 1=(j:Int):=bJ5;obtain ⟨yb,yo,yE,bm,br,bo,yr,E,bc,a1⟩:=kD.zx (hl.below D) aq rfl;simp only [Option.some.injEq,Addr.mk.injEq,and_true] at yE;obtain ⟨rfl,rfl⟩:=yE;generalize l[j]=y at *;obtain ⟨rfl,rfl,rfl,bp,bj,bv⟩:=yJ yr;clear yr;have hw:IntKind.i64.wrap (j:Int)=j:=IntWalk.i64_in _ bJ5;have dh:=Ai j;have a7:=Int.ofNat_lt.2 aq;clear J;have hp:decide ((k:Int) > 0)=true:=bJ0;generalize l[k]=x at *;have HB:=yD hb;have HX:=yD H;clear hb H;obtain ⟨rfl,rfl,rfl,au,az,aw⟩:=yJ qr;go_upto_region 4 with fail;refine xS a2 a4 a5 E λFX=>?_;refine kN (λW=>Qb wr W) [Tt,Tt,Tt,Tt,Tt,Ff,Tt,Tt,Tt,Tt,Tt,Tt,Tt,Ff,Tt,Tt,Tt,Tt,Tt,Tt,Tt,Tt,Tt,Tt,Tt,Tt,Tt,Tt,Tt,Tt,Tt,Tt,Tt,Tt] bI9 bI9 sD (bR.drew) ?_;intro wS I;all_goals ((iterate 5 refine kZ ?_);(first | refine wkC (yQ) ?_ | refine kZ ?_);refine kZ ?_;refine jo λb af=>?_;cases b <;> try simp only [jm] at af)
     all_goals ((iterate 5 refine kZ ?_);(first | refine wkC (yQ) ?_ | refine kZ ?_);refine kZ ?_;refine kZ ?_;refine jo λb V=>?_;cases b <;> try simp only [jm] at V)
     all_goals (refine kZ ?_;refine kZ ?_;refine jo λb ak=>?_;cases b <;> try simp only [jm] at ak)
     all_goals ((iterate 13 refine kZ ?_);refine jo λb R=>?_;cases b <;> try simp only [jm] at R)
     all_goals (refine kR ?_;have G:=(tQ D I))
     all_goals first|(have L:=yD (HB.out (show _=false by rw [F.out];simp only [okA,Q0,Ab,af,V,ak,R]));clear HB HX HN F;go_wp2;go_ret;exact ⟨kJ L.symm,G⟩)|(have L:=yD (HX.out (show _=true by rw [F.out];simp only [okA,Q0,Ab,af,V,ak,R]));clear HB HX HN F;refine Qg ?_;exact ⟨k + 1,by omega,by go_num,L,G⟩)
   have F:=yD (jCm (l:=l) (x:=l[k]) h0);have hp:decide ((k:Int) > 0)=false:=bJ0;generalize l[k]=x at *;refine aN hb H λHB HX=>?_;clear hb H;obtain ⟨rfl,rfl,rfl,au,az,aw⟩:=yJ qr;go_upto_region 4 with fail;refine OV a2 a4 a5 λFX=>?_;refine kN (λW=>Qb wr W) [Tt,Tt,Tt,Tt,Tt,Ff,Tt,Tt,Tt,Tt,Tt,Tt,Tt,Ff,Tt,Tt,Tt,Tt,Tt,Tt,Tt,Tt,Tt,Tt,Tt,Tt,Tt,Tt,Tt,Tt,Tt,Tt,Tt,Tt] bI9 bI9 sD (bR.drew) ?_;refine PM λwS I=>?_;all_goals ((first | refine wkC (yQ) ?_ | refine kZ ?_);refine kZ ?_;refine jo λb af=>?_;cases b <;> try simp only [jm] at af)
   all_goals ((iterate 5 refine kZ ?_);(first | refine wkC (yQ) ?_ | refine kZ ?_);refine kZ ?_;refine kZ ?_;refine jo λb V=>?_;cases b <;> try simp only [jm] at V)
   all_goals (refine kZ ?_;refine kZ ?_;refine jo λb ak=>?_;cases b <;> try simp only [jm] at ak)
   all_goals ((iterate 13 refine kZ ?_);refine jo λb R=>?_;cases b <;> try simp only [jm] at R)
   all_goals (refine kR ?_;have G:=(tQ D I))
   all_goals first|(have L:=yD (HB.out (show _=false by rw [F.out];simp only [okA0,Q0,Ab,af,V,ak,R]));clear HB HX HN F;go_wp2;go_ret;exact ⟨kJ L.symm,G⟩)|(have L:=yD (HX.out (show _=true by rw [F.out];simp only [okA0,Q0,Ab,af,V,ak,R]));clear HB HX HN F;refine Qg ?_;exact ⟨k + 1,by omega,by go_num,L,G⟩)
 have L:=yD (jFk HN.out hlt hk);have b4:¬ (k:Int) < l.length:=bJ5;go_wp2;go_ret;exact ⟨kJ (L.trans bJ6).symm,D⟩
def kEf (l:Aa kF) (k:Nat) (x:kF):Bool:=!((((!zX x.1 || ((x.1.length:Int)==0)) || !kTr x.2.1) || !inR x.2.2 0 100000) || decide (idxOf (jR x.1) (l.take k) ≥ 0))
def kEq (l:Aa kF):Bool:=zf (λj=>kEf l j (l.getD j ([],[],0))) l.length && decide (l.length<=12)
def jAs {l:Aa kF} (h:k < l.length) (q:kEf l k l[k]=false):kEq l=false:=by
 unfold kEq;rw [kEw h sW];rfl
def kXs {l:Aa kF} (h:k < l.length) (q:kEf l k l[k]=true) (a:zf (λj=>kEf l j (l.getD j ([],[],0))) k=true):zf (λj=>kEf l j (l.getD j ([],[],0))) (k + 1)=true :=
  kCi a sW
def kXt {l:Aa kF} (q:zf (λj=>kEf l j (l.getD j ([],[],0))) k=true) (h:¬ k < l.length) (hk:k<=l.length):kEq l=decide (l.length<=12):=by
 obtain rfl:k=l.length:=bJ5;unfold kEq;rw [q];rfl
def kSk {l:Aa kF} (hl:Ce.raw w [vl] l) :
    Calls prog 283 #[vl] w (bQ w (.bool (kEq l))):=by
 obtain ⟨al,pl,rfl,ll⟩:=kD.sl hl;have ae:=kD.kBx hl;go_enter func283,ntmps283;go_wp2;go_loopw [3] (λi wr=>∃ k:Nat,k<=l.length/\i=.int .i64 k/\Hid (zf (λj=>kEf l j (l.getD j ([],[],0))) k=true)/\Qb w wr) (λi _=>l.length - (intOf i).toNat);case atStart=>exact ⟨0,Nat.zero_le _,rfl,yD rfl,bR⟩
 obtain ⟨k,hk,rfl,HN,D⟩:=hrel;by_cases hlt:k < l.length
 · obtain ⟨qb,qo,rfl,ah,aj,ao,qr,a2,a4,a5⟩:=kD.zx (hl.below D) (i:=k) bJ5 rfl;refine FK λag=>?_;have hb:=λq=>jAs hlt q;have hx:=λq=>kXs hlt q HN.out;generalize l[k]=x at *;refine aN hb hx λHB HX=>?_;clear hb hx;obtain ⟨x0,x1,x2⟩:=x;obtain ⟨rfl,au,az,aw,bi⟩:=jV qr;obtain ⟨ai,a6,rfl,bb,ar,bd,rfl,b2⟩:=kD.sx az (kD.sl aw);refine A8 λbg dt cz=>?_;go_upto_region 4 with fail;refine OV a2 a4 a5 λFX=>?_;refine kN (λW=>Qb wr W) [Tt,Tt,Tt,Tt,Tt,Ff,Tt,Tt,Tt,Tt,Tt,Tt,Tt,Tt,Tt,Tt,Tt,Tt,Tt,Tt,Tt,Tt,Tt,Ff,Tt,Tt,Tt,Tt,Tt,Tt,Tt,Tt,Ff,Tt,Tt,Tt,Tt,Tt,Tt,Tt,Tt,Tt,Tt,Tt,Ff,Tt,Tt] bI9 bI9 sD (bR.drew) ?_;refine PM λwS I=>?_;all_goals ((first | refine wkB (zM (kD.raw.below au I)) (λwS1 I=>?_) | refine kZ ?_);refine kZ ?_;refine jo λb af=>?_;cases b <;> try simp only [jm] at af)
   all_goals ((iterate 9 refine kZ ?_);refine jo λb bu=>?_;cases b <;> try simp only [jm] at bu)
   all_goals ((iterate 5 refine kZ ?_);(first | refine wkB (kYt (kD.raw.below aw I)) (λwS1 I=>?_) | refine kZ ?_);refine kZ ?_;refine kZ ?_;refine jo λb H=>?_;cases b <;> try simp only [jm] at H)
   all_goals ((iterate 5 refine kZ ?_);(first | refine wkC (yQ) ?_ | refine kZ ?_);refine kZ ?_;refine kZ ?_;refine jo λb F=>?_;cases b <;> try simp only [jm] at F)
   all_goals ((iterate 8 refine kZ ?_);(first | refine wkB (kEd (kD.raw.below ag.out I) (kD.raw.below au I)) (λwS1 I=>?_) | refine kZ ?_);refine kZ ?_;refine jo λb E=>?_;cases b <;> try simp only [jm] at E)
   all_goals (refine kR ?_;have G:=D.trans (Below.mono I D.size))
   all_goals first|(have L:=yD (HB.out (show _=false by simp only [kEf,Q0,Ab,af,bu,H,F,E]));clear HB HX HN ag;go_wp2;go_ret;exact ⟨kJ L.symm,G⟩)|(have L:=yD (HX.out (show _=true by simp only [kEf,Q0,Ab,af,bu,H,F,E]));clear HB HX HN ag;refine Qg ?_;exact ⟨k + 1,by omega,by go_num,L,G⟩)
 have L:=yD (kXt HN.out hlt hk);exact L6
end Go.Proofs.YthocbplmdjkifabGreat

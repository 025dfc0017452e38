/-
  Pending interests: what is right stays right, who asks is found again. Plain.
-/
import Derived.Test.YtjhfdpopkkmigaaGreatPut
import Derived.Test.YtjhfdpopkkmigaaGreatSoftT
set_option linter.unusedVariables false
set_option linter.defProp false
set_option linter.unusedSimpArgs false
set_option linter.unnecessarySimpa false
set_option maxRecDepth 100000
set_option maxHeartbeats 4000000
open Bool renaming true->Tt,false->Ff
open Bool renaming not_false->Aa,and_false->Ab,false_and->Ac,not_true->Ad,and_true->Ae,true_and->Ag,or_false->Ah,false_or->Ai,or_true->Aj,true_or->Ak,not_not->Al
open _root_ renaming List->Am,ge_iff_le->Aq
open List renaming getElem_mem->Ap,findIdx?_eq_some_iff_getElem->Au,findIdx?_eq_none_iff->Av,length_eq_one_iff->Aw
open List.cons renaming injEq->Ar
open Go renaming World->Ay,Value->Bc
open Int renaming natCast_nonneg->Az,toNat_natCast->Ba
open Go.Value.slice renaming injEq->Bb
namespace Go.Proofs.YtjhfdpopkkmigaaGreat
open Go.RowKit _root_.Go.Proofs.Tryz
def kRp (x:zh) (f t:Int):jA:=(f,x.2.1,wrap64 (t + x.2.2.2))
def kBl (x:zh) (f:Int) (l:Am kI):Bool:=!((!kQd x || !inR f 0 6) || (decide (idxOf (yP x.1) l < 0) && decide ((12:Int)<=(l.length:Int))))
def addQ1 (x:zh) (f t:Int) (l:Am kI):Am kI :=
  if idxOf (yP x.1) l < 0 then l++[(x.1,[kRp x f t],0)]
  else l.set (idxOf (yP x.1) l).toNat ((l.getD (idxOf (yP x.1) l).toNat ([],[],0)).1,kOv (kRp x f t) (l.getD (idxOf (yP x.1) l).toNat ([],[],0)).2.1,(l.getD (idxOf (yP x.1) l).toNat ([],[],0)).2.2)
def addQ (x:zh) (f t:Int) (l:Am kI):Am kI:=if kBl x f l then addQ1 x f t l else l
def jAw {x:zh} {f t:Int} {l:List kI} (h:kBl x f l=false):addQ x f t l=l/\kBl x f l=false:=by unfold addQ;rw [h];exact ⟨rfl,rfl⟩
def addQ_new {x:zh} {f t:Int} {l:List kI} (h:kBl x f l=true) (hk:idxOf (yP x.1) l < 0):addQ x f t l=l++[(x.1,[kRp x f t],0)]/\kBl x f l=true:=by unfold addQ addQ1;rw [h,if_pos hk];exact ⟨rfl,rfl⟩
def addQ_set {x:zh} {f t:Int} {l:Am kI} {k:Nat} (h:kBl x f l=true) (hk:idxOf (yP x.1) l=k) (am:k < l.length):addQ x f t l=l.set k (l[k].1,kOv (kRp x f t) l[k].2.1,l[k].2.2)/\kBl x f l=true:=by
 unfold addQ addQ1;rw [h,if_pos rfl,hk,if_neg (show ¬ ((k:Int) < 0) by omega)];refine ⟨?_,rfl⟩;simp only [Ba,jZ am]
def addQok_len {x:zh} {f:Int} {l:Am kI} (h:kBl x f l=true) (hk:idxOf (yP x.1) l < 0):l.length < 12:=by
 unfold kBl at h;simp [hk] at h;omega
def pend_setReq {w:Ay} {b cap len k:Nat} {l:Am kI} {S T:Nat->Prop} {v':Bc} {o:Am jA} (h:kD.kU 145 kJ w (.slice (some ⟨b,0,none⟩) len cap) l S) (hk:k < l.length)
    (hv:kD.kU 147 jN w v' o T) (a9:o.length<=Big) (hST:∀ j,S j->T j->False) :
    kD.kU 145 kJ (w.setCell ⟨b,k * 3 + 1,none⟩ v') (.slice (some ⟨b,0,none⟩) len cap) (l.set k (l[k].1,o,l[k].2.2)) (λj=>S j\/T j):=by
 have V:=h.1 l[k] (Ap hk)
 refine (kD.jAf (i:=k) (j:=1) (p:=k * 3 + 1) (T:=T) (y:=(l[k].1,o,l[k].2.2)) h hk bD0 ?_ ⟨V.1,(hv.own0h a9).2,trivial⟩ hST rfl).1
 rintro cs D ⟨c,d,A,B,rfl,h1,⟨c2,O,A2,B2,rfl,h2,h3,k1,k2,k3⟩,k4,k5,k6⟩ E
 have ac:c.length=1:=kW.len h1
 obtain ⟨cn,rfl⟩:=Aw.1 ac
 have cd:c2.length=1:=(kD.slice 147 jN).len h2
 obtain ⟨F,rfl⟩:=Aw.1 cd
 refine ⟨[cn],v' :: O,A,T,rfl,h1,?_,λj I=>.inl (k4 j I),λj=>.inr,λ_ j a t=>hST j (E j (k4 j a)) t⟩
 exact ⟨[v'],O,T,λ_=>False,rfl,(hv.own a9).1,h3,λj I=>I,λj I=>I.elim,λ_ j _ I=>I⟩
def kTw (z:Int):-9223372036854775808<=wrap64 z/\wrap64 z<=9223372036854775807:=by unfold wrap64;omega
def kGi {w:Ay} {vl:Bc} {l:Am kI} (hl:(kD.slice 145 kJ).rd w [vl] l) (a6:∀ y∈l,y.2.1.length<=1048576) {cx:Am Bc} {x:zh} (hx:kLv.rd w cx x) {f:Int} (hf:Qi f) {t:Int} (ht:Qi t) :
    Calls prog 171 #[vl,.agg cx.toArray,.int .i64 f,.int .i64 t] w λe w'=>∃ v,e=.returned (.tuple #[v,.bool (kBl x f l)])/\(kD.slice 145 kJ).own w' [v] (addQ x f t l) (jU w.heap.size w'.heap.size)/\Qb w w':=by
 have HL:=yD hl
 have ae:=yD a6
 have bc:l.length<=16777216:=hl.2.1
 have HW:=yD hx
 obtain ⟨nv,rfl,bl,ai,bf,bp,ap⟩:=kNa hx.1
 obtain ⟨n,x1,x2,x3⟩:=x
 have HN:Hid (kW.rd w [nv] n):=yD ⟨bl,hx.2.1⟩
 obtain ⟨na,np,rfl,_⟩:=kD.sl ai
 obtain ⟨va,vp,rfl,Z⟩:=kD.sl hl.1
 have HF:=yD hf
 have bt:=yD bf
 clear bl ai bf bp ap hl hx hf ht a6
 go_enter func171,ntmps171
 go_upto_region 1 with fail
 generalize J:World.alloc w _=N
 obtain ⟨R,K0⟩:=IW
 have K1:Qd N w 1 (.int .i64 x1):=tT
 have K2:Qd N w 2 (.int .i64 x2):=tT
 have K3:Qd N w 3 (.int .i64 x3):=tT
 have bq:N.heap.size=w.heap.size + 1:=bB4
 clear J
 go_wp2_with fail
 refine (kHn (HL.out.below R)).mono ?_
 rintro e w1 ⟨v1,rfl,O1,O⟩
 obtain ⟨K0,K1,K2⟩:=FL
 replace K3:=cL O K3
 have E1:=(tQ R O)
 have bj:=O.size
 have L:=yD O1
 obtain ⟨oa,on,oc,ho,bh⟩:=O1.parts;obtain rfl:=ho
 clear O1 O R
 go_wp2_with fail
 refine (kHm (HL.out.1.below E1) (HN.out.1.below E1)).mono ?_
 rintro e w4 ⟨rfl,aj⟩
 replace K0:=cL aj K0
 replace K1:=cL aj K1
 replace K2:=cL aj K2
 replace K3:=cL aj K3
 have E4:=(tQ E1 aj)
 have b3:=aj.size
 replace L:=yD ((L.out.below aj).wide (T:=jU N.heap.size w4.heap.size) rC)
 clear aj E1
 by_cases hk:idxOf (yP n) l < 0
 · have HK:Hid (decide (idxOf (yP n) l < 0)=true):=yD bA5;go_upto_region 3 with fail;have FX:=yD (λ(W:Ay) (hW:Qb w4 W)=>kGr hW K0 K1 K2 K3);refine ky (λW=>Qb w4 W) [Tt,Ff,Tt,Tt,Tt,Ff,Tt,Tt,Tt,Tt,Tt,Tt,Tt,Tt,Tt,Tt,Tt] (bR) ?_;intro wS E;all_goals refine kX ?_
   all_goals first|(refine kG rfl E ?_)|(refine kY rfl (λK H=>?_);go_simp;refine (kFp (HW.out.1.below (tQ E4 E))).mono ?_;rintro e wV ⟨rfl,ab⟩;replace E:=(tQ E ab);refine H _ _ E ?_;clear H K ab)
   all_goals refine jD ?_
   all_goals refine kX ?_
   all_goals (refine jd λb a1=>?_;cases b <;> try simp only [jc] at a1)
   all_goals refine kX ?_
   all_goals first | refine wkC (jw) ?_ | refine kX ?_
   all_goals refine kX ?_
   all_goals refine kX ?_
   all_goals (refine jd λb av=>?_;cases b <;> try simp only [jc] at av)
   all_goals refine kX ?_
   all_goals refine kX ?_
   all_goals (refine jd λb au=>?_;cases b <;> try simp only [jc] at au)
   iterate 4
    all_goals refine kX ?_
   all_goals (refine jd λb V=>?_;cases b <;> try simp only [jc] at V)
   all_goals refine kR ?_
   all_goals have E5:=(tQ E4 E)
   all_goals have az:=yD (L.out.below E)
   all_goals have ce:=E.size
   all_goals have aa:=cL E K0
   all_goals have bg:=cL E K1
   all_goals have bi:=cL E K2
   all_goals have br:=cL E K3
   all_goals clear K0 K1 K2 K3 L
   all_goals first|(have U:=yD (jAw (t:=t) (show kBl (n,x1,x2,x3) f l=false by simp only [kBl,HK.out,Ad,Aa,Ae,Ag,Ab,Ac,Aj,Ak,Ah,Ai,Al,Aq,a1,av,au,V,V]));go_wp2;go_ret2;exact ⟨_,by rw [U.out.2];rfl,((az.out.cast U.out.1.symm).own (by rw [U.out.1];exact bc)).wide mU,E5⟩) | skip
   have U:=yD (addQ_new (t:=t) (show kBl (n,x1,x2,x3) f l=true by simp only [kBl,HK.out,Ad,Aa,Ae,Ag,Ab,Ac,Aj,Ak,Ah,Ai,Al,Aq,a1,av,au,V,V]) hk);have be:=addQok_len U.out.2 hk;have co:¬ (0<=idxOf (yP n) l):=bD1;generalize hq:idxOf (yP n) l=q at *;clear hq HK;go_upto_region 6 with fail;generalize af:wrap64 (t + x3)=y3;have HR:Hid (kRp (n,x1,x2,x3) f t=(f,x1,y3)):=yD (by rw [<- af];rfl);have HY:Hid (Qi y3):=yD (by rw [<- af];exact kTw _);clear af;generalize D:World.alloc _ _=wC;obtain ⟨EC,cl,a7,ay,aq,E6,bb,aa⟩:=HV;clear D bg bi br az E EC;go_wp2_with fail;refine (zT (HN.out.below E6)).mono ?_;rintro e wT ⟨tc,rfl,OT,an⟩;obtain ⟨c7,rfl,a5⟩:=ko OT.raw;obtain ⟨a8,bm,rfl,_⟩:=kD.sl a5;clear a5;go_upto_region 8 with fail;generalize Y:World.alloc wT _=wD;have ED:Qb wT wD:=rX;have KD:Qd wD wT 0 (.slice a8 n.length bm):=tX;have bz:wT.heap.size<=wD.heap.size:=ED.size;clear Y;have ER:=(tQ an ED);have bk:=an.size;have b4:=yD (OT.below ED);replace a7:=cL ER a7;replace ay:=cL ER ay;replace aq:=cL ER aq;have al:=yD (bb.out.below ER);have HQ:Hid ((kD.slice 147 jN).own (wD.alloc (.cells #[.int .i64 f,.int .i64 x1,.int .i64 y3] 147)) [.slice (some ⟨wD.heap.size,0,none⟩) 1 1] [(f,x1,y3)] (jU wD.heap.size (wD.heap.size + 1))):=yD (kD.kU.own (kD.yO (e:=147) (r:=jN) (w:=wD) (cs:=[.int .i64 f,.int .i64 x1,.int .i64 y3]) (xs:=[(f,x1,y3)]) (T:=λ_=>False) (S:=jU wD.heap.size (wD.heap.size + 1)) (by intro y hy;simp only [List.mem_singleton] at hy;rw [hy];exact ⟨trivial,trivial,trivial⟩) (by simp [maxLen]) ⟨_,[],_,_,by simp,(kD.flat.own (S:=λ_=>False) (kD.yJ (kD.jG HF.out) (kD.yJ (kD.jG bt.out) (kD.jG HY.out)))).1,rfl,λ_ h=>h,λ_ h=>h,λ_ _ h _=>h⟩ (λ_ h=>h.elim) ⟨Nat.le_refl _,by omega⟩) bC7);have E8:=(tQ E6 ER);clear OT;go_wp2_with (at_builtin;refine kD.jO rfl _ _ 28 rfl (r:=kJ) (e:=145) underlying28 zN rfl bD0 bD0 (B:=w.heap.size) (b:=wD.heap.size + 1) (al.out.alloc _) bD3 bD3 bD2 (kD.own.wide (T:=jU w4.heap.size (wD.heap.size + 1)) (kD.jY (r:=kW) (q:=kD.pair (kD.slice 147 jN) kD.int) (cs:=[.slice a8 n.length bm]) (ds:=[.slice (some ⟨wD.heap.size,0,none⟩) 1 1,.int .i64 0]) (x:=n) (y:=([(f,x1,y3)],0)) (S:=jU w4.heap.size (wD.heap.size + 1)) (b4.out.alloc _) (kD.yN (r:=(kD.slice 147 jN)) (q:=kD.int) (cs:=[.slice (some ⟨wD.heap.size,0,none⟩) 1 1]) (ds:=[.int .i64 0]) (x:=[(f,x1,y3)]) (y:=0) HQ.out (kD.jG ⟨by decide,by decide⟩)) mU mU mZ) (λj I=>I)) rfl mZ gT gT bC6 bD1 ?_);intro v5 w5 F G b8;have b6:=yD (F.cast (by rw [U.out.1,HR.out]:_=addQ (n,x1,x2,x3) f t l));obtain ⟨pa,pn,pc,hp,a2⟩:=F.parts;obtain rfl:=hp;have E9:=(E8.alloc E8.size _).trans G;clear F G;go_wp2;go_ret2;exact ⟨_,by rw [U.out.2];rfl,b6.out.own (by rw [U.out.1];simp;unfold Big;omega),E9⟩
 have HK:Hid (decide (idxOf (yP n) l < 0)=false):=yD bA5
 obtain ⟨k,am,ad⟩:=kIm hk
 have ar:=yD ad
 rw [ad]
 have cz:¬ ((k:Int) < 0):=bD1
 clear hk ad
 go_upto_region 3 with fail
 have FX:=yD (λ(W:Ay) (hW:Qb w4 W)=>kGr hW K0 K1 K2 K3)
 refine ky (λW=>Qb w4 W) [Tt,Ff,Tt,Tt,Tt,Ff,Tt,Tt,Tt,Tt,Tt,Tt,Tt,Tt,Tt,Tt,Tt] (bR) ?_
 intro wS E
 all_goals refine kX ?_
 all_goals first|(refine kG rfl E ?_)|(refine kY rfl (λK H=>?_);go_simp;refine (kFp (HW.out.1.below (tQ E4 E))).mono ?_;rintro e wV ⟨rfl,ab⟩;replace E:=(tQ E ab);refine H _ _ E ?_;clear H K ab)
 all_goals refine jD ?_
 all_goals refine kX ?_
 all_goals (refine jd λb a1=>?_;cases b <;> try simp only [jc] at a1)
 all_goals refine kX ?_
 all_goals first | refine wkC (jw) ?_ | refine kX ?_
 all_goals refine kX ?_
 all_goals refine kX ?_
 all_goals (refine jd λb av=>?_;cases b <;> try simp only [jc] at av)
 all_goals refine kX ?_
 all_goals refine kX ?_
 all_goals (refine jd λb au=>?_;cases b <;> try simp only [jc] at au)
 iterate 4
  all_goals refine kX ?_
 all_goals (refine jd λb V=>?_;cases b <;> try simp only [jc] at V)
 all_goals refine kR ?_
 all_goals have E5:=(tQ E4 E)
 all_goals have az:=yD (L.out.below E)
 all_goals have ce:=E.size
 all_goals have aa:=cL E K0
 all_goals have bg:=cL E K1
 all_goals have bi:=cL E K2
 all_goals have br:=cL E K3
 all_goals clear K0 K1 K2 K3 L
 all_goals first|(have U:=yD (jAw (t:=t) (show kBl (n,x1,x2,x3) f l=false by simp only [kBl,HK.out,Ad,Aa,Ae,Ag,Ab,Ac,Aj,Ak,Ah,Ai,Al,Aq,a1,av,au,V,V]));go_wp2;go_ret2;exact ⟨_,by rw [U.out.2];rfl,((az.out.cast U.out.1.symm).own (by rw [U.out.1];exact bc)).wide mU,E5⟩) | skip
 have U:=yD (addQ_set (t:=t) (show kBl (n,x1,x2,x3) f l=true by simp only [kBl,HK.out,Ad,Aa,Ae,Ag,Ab,Ac,Aj,Ak,Ah,Ai,Al,Aq,a1,av,au,V,V]) ar.out am)
 go_upto_region 6 with fail
 generalize af:wrap64 (t + x3)=y3
 have HR:Hid (kRp (n,x1,x2,x3) f t=(f,x1,y3)):=yD (by rw [<- af];rfl)
 have HY:Hid (Qi y3):=yD (by rw [<- af];exact kTw _)
 clear af
 generalize D:World.alloc _ _=wC
 obtain ⟨EC,cl,a7,ay,aq,E6,bb,aa⟩:=HV
 clear D bg bi br az E EC
 obtain ⟨b,cap,hv,X,aw,bw,bo⟩:=kD.kAr bb.out am
 simp only [Bb] at hv
 obtain ⟨rfl,o,rfl⟩:=hv
 have a4:k < on:=bD1
 obtain ⟨bv,a3⟩:=GU
 clear o
 have ba:=yD (bb.out.own bc)
 obtain ⟨c0,c1,c2,hr,A0,A1,A2⟩:=kD.at3 ba.out.raw am rfl
 obtain ⟨bd,b5,ac,ag,ak,ao,ax⟩:=jT hr
 simp only [Ar,and_true] at ac
 obtain ⟨rfl,rfl,rfl⟩:=ac
 have b0:Hid ((kD.slice 147 jN).rd wC [c1] l[k].2.1):=yD ⟨ao,(kD.yh ba.out.rd am).2.1⟩
 obtain ⟨ra,rp,rfl,_⟩:=kD.sl ao
 have b7:l[k].2.1.length<=1048576:=ae.out _ (Ap am)
 clear hr ag ak ao ax A0 A2 ba
 go_upto_region 9 with fail
 have FX:=yD (λ(W:Ay) (hW:Qb wC W)=>kGr hW A1 a7 ay aq)
 refine kM (λW=>Qb wC W) [Tt,Tt,Tt,Tt,Tt,Tt,Ff,Tt] bC5 bC5 pY (bR.drew) ?_
 intro wS E
 iterate 6
  all_goals refine kX ?_
 all_goals first|(refine kG rfl E ?_)|(refine kY rfl (λK H=>?_);go_simp;refine (kZx (b0.out.below E) HF.out bt.out HY.out).mono ?_;rintro e w6 ⟨v6,rfl,O6,bn⟩;obtain ⟨pa,pn,pc,hp,a2⟩:=O6.parts;obtain rfl:=hp;replace O6:=yD O6;have cw:=E.size;have bx:=bn.size;replace E:=(tQ E bn);refine H _ _ E ?_;clear H K bn)
 all_goals refine jD ?_
 all_goals refine kX ?_
 all_goals refine kR ?_
 have b9:=cL E A1
 have b1:=yD (bb.out.below E)
 have ah:=kD.kHb b1.out bD1 (k * 3 + 1)
 have a9:(kOv (f,x1,y3) l[k].2.1).length<=Big:=Nat.le_trans (putR_len _ _) wM
 have b2:=yD (pend_setReq b1.out am O6.out a9 mZ)
 have bu:=yD (b2.out.cast (by rw [U.out.1,HR.out]:_=addQ (n,x1,x2,x3) f t l))
 have E9:=(tQ E6 E)
 clear b2
 go_wp2
 go_ret2
 exact ⟨_,by rw [U.out.2];rfl,(bu.out.own (by rw [U.out.1];simp;unfold Big;omega)).wide (λj I=>by rcases I with I | I;exact ⟨by have:=I.1;omega,by have:=I.2;simp [World.setCell];omega⟩;exact ⟨by have:=I.1;omega,by have:=I.2;simp [World.setCell];omega⟩),E9.setCell (show w.heap.size<=b by have:=X.1;omega) _⟩
def kVc (n:kr) (t:Int) (l:Am kI):Am kI :=
  if idxOf (yP n) l < 0 then l else l.set (idxOf (yP n) l).toNat (kAv (l.getD (idxOf (yP n) l).toNat ([],[],0)) t)
def sentP_no {n:kr} {t:Int} {l:List kI} (h:idxOf (yP n) l < 0):kVc n t l=l:=by unfold kVc;rw [if_pos h]
def kYd {n:kr} {t:Int} {l:Am kI} {k:Nat} (h:idxOf (yP n) l=k) (hk:k < l.length):kVc n t l=l.set k (kAv l[k] t):=by
 unfold kVc;simp only [h,Ba,jZ hk];rw [if_neg bD1]
def kUv {w:Ay} {vl:Bc} {l:Am kI} (hl:(kD.slice 145 kJ).rd w [vl] l) {cn:Am Bc} {n:kr} (hn:kW.rd w cn n) {t:Int} (ht:Qi t) :
    Calls prog 208 #[vl,.agg cn.toArray,.int .i64 t] w (kBm (kD.slice 145 kJ) (kVc n t l) w):=by
 obtain ⟨HL,HN,bc⟩:=G7
 obtain ⟨nv,rfl,a9⟩:=ko hn.1
 obtain ⟨na,np,rfl,_⟩:=kD.sl a9
 obtain ⟨va,vp,rfl,Z⟩:=kD.sl hl.1
 clear a9 hl hn
 go_enter func208,ntmps208
 go_wp2_with fail
 generalize J:World.alloc w _=N
 obtain ⟨R,K0,bq⟩:=GL
 clear J
 refine (kHn (HL.out.below R)).mono ?_
 rintro e w1 ⟨v1,rfl,O1,O⟩
 replace K0:=cL O K0
 obtain ⟨E1,bj,L⟩:=IR
 obtain ⟨oa,on,oc,ho,bh⟩:=O1.parts;obtain rfl:=ho
 clear O1 O R
 have HF:=yD ht
 clear ht
 go_wp2_with fail
 refine (kHm (HL.out.1.below E1) (HN.out.1.below E1)).mono ?_
 rintro e w4 ⟨rfl,aj⟩
 replace K0:=cL aj K0
 have E4:=(tQ E1 aj)
 obtain ⟨b3,L⟩:=H8
 clear aj E1
 by_cases hk:idxOf (yP n) l < 0
 · have U:=yD (sentP_no (t:=t) hk);have co:¬ (0<=idxOf (yP n) l):=bD1;generalize hq:idxOf (yP n) l=q at *;clear hq;go_wp2;go_ret;exact ⟨_,rfl,(L.out.cast U.out.symm).own vO,E4⟩
 obtain ⟨k,am,ad⟩:=kIm hk
 have ar:=yD ad
 rw [ad]
 clear hk ad
 obtain ⟨b,cap,hv,X,aw,bw,bo⟩:=kD.kAr L.out am
 simp only [Bb] at hv
 obtain ⟨rfl,o,rfl⟩:=hv
 have a4:k < on:=bD1
 obtain ⟨bv,a3⟩:=GU
 have ba:=yD (L.out.own bc)
 obtain ⟨c0,c1,c2,hr,A0,A1,A2⟩:=kD.at3 ba.out.raw am rfl
 clear hr
 have ah:=kD.kHb L.out bD1 (k * 3 + 2)
 have U:=yD (kYd (t:=t) ar.out am)
 obtain ⟨s1,s2⟩:=kD.kFu (i:=k) (j:=2) (p:=k * 3 + 2) (u:=.int .i64 t) L.out bc am bD0 (λh=>kKc _ HF.out h) (show kJ.bdd Big (kAv l[k] t) from kD.yh ba.out.rd am) rfl
 have aa:=yD (s1.cast U.out.symm);clear s1 s2 o
 go_wp2
 go_ret
 exact ⟨_,rfl,(aa.out.own qU).wide mP,E4.setCell X.1 _⟩
def kEy (l:Am jK) (n:kr) (x:Int):Am jK:=if (24:Nat) < (l++[(n,x)]).length then (l++[(n,x)]).drop 1 else l++[(n,x)]
def kNh {w:Ay} {vl:Bc} {l:Am jK} (hl:(kD.slice 102 jE).rd w [vl] l) (hlen:l.length<=2000000) {cn:Am Bc} {n:kr} (hn:kW.rd w cn n) {x:Int} (hx:Qi x) :
    Calls prog 207 #[vl,.agg cn.toArray,.int .i64 x] w (kBm (kD.slice 102 jE) (kEy l n x) w):=by
 have HL:=yD hl
 have HN:=yD hn
 have HX:=yD hx
 obtain ⟨la,lp,rfl,ll⟩:=kD.sl hl.1
 obtain ⟨av,rfl,G⟩:=ko hn.1
 obtain ⟨na,np,rfl,_⟩:=kD.sl G
 clear hl hn G hx
 go_enter func207,ntmps207
 go_upto_region 1 with fail
 generalize J:World.alloc w _=N
 have R:Qb w N:=by rw [<- J];exact bG
 have bq:w.heap.size + 1<=N.heap.size:=bB4
 have K0:Qd N w 0 (.slice na n.length np):=tT
 clear J
 have FX:=yD (λ(W:Ay) (hW:Qb N W)=>cL hW K0)
 refine jo (λW=>Qb N W) [(0,true),(2,true),(4,true),(1,false),(3,false),(5,true),(6,false),(7,false),(8,true)] bC5 bC5 pY (bR.drew) ?_
 intro wS E
 simp only [jB,List.getElem?_cons_succ,List.getElem?_cons_zero,List.map_cons,List.map_nil]
 iterate 3
  all_goals refine kX ?_
 all_goals first|(refine kG rfl E ?_)|(refine kY rfl (λK H=>?_);go_simp;refine (kMq (HL.out.below (tQ R E))).mono ?_;rintro e wA ⟨v1,rfl,O1,F⟩;have ak:=E.size;have d7:=F.size;have an:=E;obtain ⟨va,vn,vc,aj,cw⟩:=O1.parts;obtain rfl:=aj;have aa:=yD O1;clear O1;replace E:=(tQ E F);refine H _ _ E ?_;clear H K F)
 all_goals refine jD ?_
 all_goals first|(refine kG rfl E ?_)|(refine kY rfl (λK H=>?_);go_simp;refine (zT (HN.out.below (tQ R E))).mono ?_;rintro e wC ⟨tc,rfl,O3,U⟩;have cl:=U.size;obtain ⟨tv,rfl,a5⟩:=ko O3.raw;obtain ⟨ta,tp,rfl,_⟩:=kD.sl a5;clear a5;have ai:=yD O3;clear O3;replace aa:=yD (aa.out.below U);have d3:=cw.out;subst d3;clear cw;replace E:=(tQ E U);refine H _ _ E ?_;clear H K U)
 all_goals refine jD ?_
 all_goals refine kX ?_
 all_goals first|(refine kG rfl E ?_)|(refine kY rfl (λK H=>?_);go_simp;refine H _ _ (E.alloc E.size _) ?_;clear H K)
 all_goals refine jD ?_
 all_goals first|(refine kG rfl E ?_)|(refine kY rfl (λK H=>?_);obtain ⟨I,w7,Z,X,L⟩:=kD.kJb (P:=prog) (t:=29) (ty:=29) (r:=jE) (e:=102) (w:=wC) (xs:=l) (c:=1) underlying29 kFv rfl bD0 bD0 (aa.out.own wM) bR (kD.yN (r:=kW) (q:=kD.int) (cs:=[.slice ta n.length tp]) (ds:=[.int .i64 x]) (x:=n) (y:=x) ai.out (kD.jG HX.out)) (λj h1 h2=>by have:=h1.2;have:=h2.1;omega) bD1;refine kD.kV _ _ _ rfl bD3 bD3 Z ?_;have ab:=L.size;have ay:Qb N w7:=E.trans (L.below E.size (λj q=>by have:=q.1.1;omega));clear Z;generalize V:l++[(n,x)]=q at *;have ap:Hid (q.length=l.length + 1):=yD (by rw [<- V];simp);obtain ⟨a7,D,rfl,_⟩:=kD.sl X.raw;have al:=yD (X.wide (T:=jU w.heap.size w7.heap.size) (λj q=>by rcases q with q | q | q;exact ⟨by have:=q.1;omega,by have:=q.2;omega⟩;exact ⟨by have:=q.1;omega,by have:=q.2;omega⟩;exact ⟨by have:=q.1;omega,q.2⟩));clear X L;have o:=yD V;clear V;refine H _ _ ay ?_;clear H K E)
 all_goals refine jD ?_
 all_goals refine kX ?_
 all_goals refine kR ?_
 have EF:=(tQ R ay)
 by_cases af:24 < q.length
 · obtain ⟨_,b,off,rfl,ah,aw⟩:=kD.kOx al.out bD1;have ae:=(kD.kBe al.out.raw);have Y:(24:Int) < q.length:=bD1;have ag:(1:Int)<=q.length:=bD1;have ac:¬ D=1:=bD1;have ad:(q.length:Int)<=D:=bD1;have am:D<=9223372036854775807:=ae.2;have HD:=yD (kD.kWl al.out (k:=1) bD1);have O:Hid (kEy l n x=q.drop 1):=yD (by unfold kEy;rw [o.out,if_pos af]);clear al o;go_wp2;go_ret;refine ⟨_,rfl,?_,EF⟩;rw [O.out];exact HD.out
 have Y:¬ (24:Int) < q.length:=bD1
 have O:Hid (kEy l n x=q):=yD (by unfold kEy;rw [o.out,if_neg af])
 clear o
 go_wp2
 go_ret
 refine ⟨_,rfl,?_,EF⟩
 rw [O.out]
 exact al.out
end Go.Proofs.YtjhfdpopkkmigaaGreat
namespace Go.Proofs.YtjhfdpopkkmigaaGreat
open _root_.Go.Proofs.Tryz
def allB_iff {f:Nat->Bool}:∀ {n:Nat},ym f n=true↔∀ j,j < n->f j=true
  | 0=>by simp [ym]
  | n + 1=>by
    rw [ym,Bool.and_eq_true,allB_iff];constructor
    · rintro ⟨h,k⟩ j I;by_cases e:j=n
      · rw [e];exact k
      · exact h j bD1
    · intro h;exact ⟨λj I=>h j bD1,h n bD1⟩
def kYv {α:Type} {p:α->Bool} {x:Am α}:idxOf p x < 0↔∀ y∈x,p y=false:=by
 unfold idxOf;cases h:x.findIdx? p with
 | none=>simp [Av.1 h];exact Av.1 h
 | some i =>
   obtain ⟨hi,hp,_⟩:=Au.1 h;constructor
   · intro q;simp at q;omega
   · intro q;rw [q _ (Ap hi)] at hp;cases hp
def kRx {α:Type} {p:α->Bool} {x:Am α} {k:Nat} (h:idxOf p x=k):∃ hk:k < x.length,p x[k]=true/\∀ j (I:j < k),p (x[j]'(Nat.lt_trans I hk))=false:=by
 unfold idxOf at h;cases e:x.findIdx? p with
 | none=>rw [e] at h;simp at h
 | some i =>
   rw [e] at h;obtain rfl:i=k:=by simp only at h;omega
   obtain ⟨hi,hp,hq⟩:=Au.1 e;exact ⟨hi,hp,λj I=>by have:=hq j I;simpa using this⟩
end Go.Proofs.YtjhfdpopkkmigaaGreat
namespace Go.Proofs.YtjhfdpopkkmigaaGreat
open Go.RowKit _root_.Go.Proofs.Tryz
def okA (y x:jA):Bool:=!((!inR x.1 0 6 || !inR x.2.1 0 1000000) || decide (x.1<=y.1))
def okA0 (x:jA):Bool:=!(!inR x.1 0 6 || !inR x.2.1 0 1000000)
def kJu (l:Am jA) (k:Nat) (x:jA):Bool:=if 0 < k then okA (l.getD (k - 1) (0,0,0)) x else okA0 x
def vAsk (l:Am jA):Bool:=ym (λj=>kJu l j (l.getD j (0,0,0))) l.length && decide (0 < l.length)
def vAsk_bad {l:Am jA} {k:Nat} (h:k < l.length) (q:kJu l k l[k]=false):vAsk l=false:=by
 unfold vAsk;rw [kCu h qK];rfl
def kXw {l:Am jA} {k:Nat} (h:k < l.length) (q:kJu l k l[k]=true) (a:ym (λj=>kJu l j (l.getD j (0,0,0))) k=true):ym (λj=>kJu l j (l.getD j (0,0,0))) (k + 1)=true :=
  kAs a qK
def kXx {l:Am jA} {k:Nat} (q:ym (λj=>kJu l j (l.getD j (0,0,0))) k=true) (h:¬ k < l.length) (hk:k<=l.length):vAsk l=decide (0 < l.length):=by
 obtain rfl:k=l.length:=bD1;unfold vAsk;rw [q];rfl
def kVo {l:List jA} {k:Nat} {x:jA} (h:¬ 0 < k):kJu l k x=okA0 x:=by unfold kJu;rw [if_neg h]
def kYr {l:List jA} {k j:Nat} {x:jA} (h:0 < k) (e:k - 1=j) (I:j < l.length):kJu l k x=okA l[j] x:=by unfold kJu;rw [if_pos h,e,jZ I]
def kSi {w:Ay} {vl:Bc} {l:Am jA} (hl:(kD.slice 147 jN).raw w [vl] l) :
    Calls prog 152 #[vl] w (bQ w (.bool (vAsk l))):=by
 obtain ⟨al,pl,rfl,ll⟩:=kD.sl hl
 go_enter func152,ntmps152
 go_wp2
 go_loopw [3] (λi wr=>∃ k:Nat,k<=l.length/\i=.int .i64 k/\Hid (ym (λj=>kJu l j (l.getD j (0,0,0))) k=true)/\Qb w wr) (λi _=>l.length - (intOf i).toNat)
 case atStart=>exact ⟨0,Nat.zero_le _,rfl,yD rfl,bR⟩
 obtain ⟨k,hk,rfl,HN,o⟩:=hrel
 by_cases hlt:k < l.length
 · have bv:=Int.ofNat_lt.2 hlt;have bk:=Az k;obtain ⟨qb,qo,rfl,ae,af,ah,qr,ap,ar,ay⟩:=kD.zt (hl.below o) (i:=k) bD1 rfl;have hb:=λq=>vAsk_bad hlt q;have am:=λq=>kXw hlt q HN.out;by_cases h0:0 < k
   · obtain ⟨j,I⟩:∃ j,k - 1=j:=⟨_,rfl⟩;have a4:j < l.length:=bD1;have L:=yD (kYr (l:=l) (x:=l[k]) h0 I a4);have cm:(k:Int) - 1=(j:Int):=bD1;obtain ⟨yb,yo,yE,bc,bz,bq,yr,G,be,a1⟩:=kD.zt (hl.below o) a4 rfl;simp only [Option.some.injEq,Addr.mk.injEq,and_true] at yE;obtain ⟨rfl,rfl⟩:=yE;generalize l[j]=y at *;obtain ⟨aj,bl,a3,bx⟩:=yz yr;simp only [Ar,and_true] at aj;obtain ⟨rfl,rfl,rfl⟩:=aj;clear yr;have hw:IntKind.i64.wrap (j:Int)=j:=IntWalk.i64_in _ bD1;have b0:=Az j;have bn:=Int.ofNat_lt.2 a4;clear I;have hp:decide ((k:Int) > 0)=true:=bC6;have cf:decide (0 < k)=true:=bA7;have ck:(0:Int) < k:=bD1;generalize l[k]=x at *;have HB:=yD hb;have HX:=yD am;clear hb am;obtain ⟨ac,ag,ak,ao⟩:=yz qr;simp only [Ar,and_true] at ac;obtain ⟨rfl,rfl,rfl⟩:=ac;go_upto_region 4 with fail;have FX:=yD (λ(W:Ay) (hW:Qb wr W)=>kGr hW ap ar ay G);refine kM (λW=>Qb wr W) [Tt,Tt,Tt,Tt,Tt,Ff,Tt,Tt,Tt,Tt,Tt,Tt,Tt,Ff,Tt,Tt,Tt,Tt,Tt,Tt,Tt,Tt,Tt,Tt,Tt,Tt,Tt,Tt,Tt,Tt,Tt,Tt,Tt,Tt] bC5 bC5 pY (bR.drew) ?_;intro wS E;iterate 5
      all_goals refine kX ?_
     all_goals first | refine wkC (jw) ?_ | refine kX ?_
     all_goals refine kX ?_
     all_goals (refine jd λb X=>?_;cases b <;> try simp only [jc] at X)
     iterate 5
      all_goals refine kX ?_
     all_goals first | refine wkC (jw) ?_ | refine kX ?_
     all_goals refine kX ?_
     all_goals refine kX ?_
     all_goals (refine jd λb V=>?_;cases b <;> try simp only [jc] at V)
     all_goals refine kX ?_
     all_goals refine kX ?_
     all_goals (refine jd λb aa=>?_;cases b <;> try simp only [jc] at aa)
     iterate 13
      all_goals refine kX ?_
     all_goals (refine jd λb O=>?_;cases b <;> try simp only [jc] at O)
     all_goals refine kR ?_
     all_goals have F:=(tQ o E)
     all_goals first
       | (have U:=yD (HB.out (show _=false by rw [L.out];simp only [okA,Ad,Aa,Ae,Ag,Ab,Ac,Aj,Ak,Ah,Ai,Al,Aq,X,V,aa,O]));clear HB HX HN L;go_wp2;go_ret;exact ⟨kK U.out.symm,F⟩)
       | (have U:=yD (HX.out (show _=true by rw [L.out];simp only [okA,Ad,Aa,Ae,Ag,Ab,Ac,Aj,Ak,Ah,Ai,Al,Aq,X,V,aa,O]));clear HB HX HN L;go_wp2;go_roundw;(case rel=>exact ⟨k + 1,by omega,by go_num,U,F⟩);(case measure=>simp [intOf];omega))
   have L:=yD (kVo (l:=l) (x:=l[k]) h0);have hp:decide ((k:Int) > 0)=false:=bC6;have cf:decide (0 < k)=false:=bA7;have ck:¬ (0:Int) < k:=bD1;generalize l[k]=x at *;have HB:=yD hb;have HX:=yD am;clear hb am;obtain ⟨ac,ag,ak,ao⟩:=yz qr;simp only [Ar,and_true] at ac;obtain ⟨rfl,rfl,rfl⟩:=ac;go_upto_region 4 with fail;have FX:=yD (λ(W:Ay) (hW:Qb wr W)=>kKb hW ap ar ay);refine kM (λW=>Qb wr W) [Tt,Tt,Tt,Tt,Tt,Ff,Tt,Tt,Tt,Tt,Tt,Tt,Tt,Ff,Tt,Tt,Tt,Tt,Tt,Tt,Tt,Tt,Tt,Tt,Tt,Tt,Tt,Tt,Tt,Tt,Tt,Tt,Tt,Tt] bC5 bC5 pY (bR.drew) ?_;intro wS E;iterate 5
    all_goals refine kX ?_
   all_goals first | refine wkC (jw) ?_ | refine kX ?_
   all_goals refine kX ?_
   all_goals (refine jd λb X=>?_;cases b <;> try simp only [jc] at X)
   iterate 5
    all_goals refine kX ?_
   all_goals first | refine wkC (jw) ?_ | refine kX ?_
   all_goals refine kX ?_
   all_goals refine kX ?_
   all_goals (refine jd λb V=>?_;cases b <;> try simp only [jc] at V)
   all_goals refine kX ?_
   all_goals refine kX ?_
   all_goals (refine jd λb aa=>?_;cases b <;> try simp only [jc] at aa)
   iterate 13
    all_goals refine kX ?_
   all_goals (refine jd λb O=>?_;cases b <;> try simp only [jc] at O)
   all_goals refine kR ?_
   all_goals have F:=(tQ o E)
   all_goals first
     | (have U:=yD (HB.out (show _=false by rw [L.out];simp only [okA0,Ad,Aa,Ae,Ag,Ab,Ac,Aj,Ak,Ah,Ai,Al,Aq,X,V,aa,O]));clear HB HX HN L;go_wp2;go_ret;exact ⟨kK U.out.symm,F⟩)
     | (have U:=yD (HX.out (show _=true by rw [L.out];simp only [okA0,Ad,Aa,Ae,Ag,Ab,Ac,Aj,Ak,Ah,Ai,Al,Aq,X,V,aa,O]));clear HB HX HN L;go_wp2;go_roundw;(case rel=>exact ⟨k + 1,by omega,by go_num,U,F⟩);(case measure=>simp [intOf];omega))
 have U:=yD (kXx HN.out hlt hk)
 have b6:¬ (k:Int) < l.length:=bD1
 go_wp2
 go_ret
 exact ⟨kK (U.out.trans bD2).symm,o⟩
def kCx (l:Am kI) (k:Nat) (x:kI):Bool:=!((((!zf x.1 || ((x.1.length:Int)==0)) || !vAsk x.2.1) || !inR x.2.2 0 100000) || decide (idxOf (yP x.1) (l.take k) ≥ 0))
def kGe (l:Am kI):Bool:=ym (λj=>kCx l j (l.getD j ([],[],0))) l.length && decide (l.length<=12)
def kUf {l:Am kI} {k:Nat} (h:k < l.length) (q:kCx l k l[k]=false):kGe l=false:=by
 unfold kGe;rw [kCu h qK];rfl
def kRf {l:Am kI} {k:Nat} (h:k < l.length) (q:kCx l k l[k]=true) (a:ym (λj=>kCx l j (l.getD j ([],[],0))) k=true):ym (λj=>kCx l j (l.getD j ([],[],0))) (k + 1)=true :=
  kAs a qK
def kRg {l:Am kI} {k:Nat} (q:ym (λj=>kCx l j (l.getD j ([],[],0))) k=true) (h:¬ k < l.length) (hk:k<=l.length):kGe l=decide (l.length<=12):=by
 obtain rfl:k=l.length:=bD1;unfold kGe;rw [q];rfl
def kNd {w:Ay} {vl:Bc} {l:Am kI} (hl:(kD.slice 145 kJ).raw w [vl] l) :
    Calls prog 84 #[vl] w (bQ w (.bool (kGe l))):=by
 obtain ⟨al,pl,rfl,ll⟩:=kD.sl hl
 have Z:=kD.kBe hl
 go_enter func84,ntmps84
 go_wp2
 go_loopw [3] (λi wr=>∃ k:Nat,k<=l.length/\i=.int .i64 k/\Hid (ym (λj=>kCx l j (l.getD j ([],[],0))) k=true)/\Qb w wr) (λi _=>l.length - (intOf i).toNat)
 case atStart=>exact ⟨0,Nat.zero_le _,rfl,yD rfl,bR⟩
 obtain ⟨k,hk,rfl,HN,o⟩:=hrel
 by_cases hlt:k < l.length
 · obtain ⟨qb,qo,rfl,ae,af,ah,qr,ap,ar,ay⟩:=kD.zt (hl.below o) (i:=k) bD1 rfl;have az:=yD (kD.kBv (hl.below o) hk);have hb:=λq=>kUf hlt q;have hx:=λq=>kRf hlt q HN.out;generalize l[k]=x at *;have HB:=yD hb;have HX:=yD hx;clear hb hx;obtain ⟨x0,x1,x2⟩:=x;obtain ⟨bd,b5,ac,ag,ak,ao,ax⟩:=jT qr;simp only [Ar,and_true] at ac;obtain ⟨rfl,rfl,rfl⟩:=ac;obtain ⟨ad,aw,rfl,bf⟩:=kD.sl ak;obtain ⟨ai,bj,rfl,cg⟩:=kD.sl ao;obtain ⟨bv,bk,c5,a2⟩:=xX;go_upto_region 4 with fail;have FX:=yD (λ(W:Ay) (hW:Qb wr W)=>kKb hW ap ar ay);refine kM (λW=>Qb wr W) [Tt,Tt,Tt,Tt,Tt,Ff,Tt,Tt,Tt,Tt,Tt,Tt,Tt,Tt,Tt,Tt,Tt,Tt,Tt,Tt,Tt,Tt,Tt,Ff,Tt,Tt,Tt,Tt,Tt,Tt,Tt,Tt,Ff,Tt,Tt,Tt,Tt,Tt,Tt,Tt,Tt,Tt,Tt,Tt,Ff,Tt,Tt] bC5 bC5 pY (bR.drew) ?_;intro wS E;iterate 5
    all_goals refine kX ?_
   all_goals first | refine wkB (yZ (kD.raw.below ag E)) (λwS1 E=>?_) | refine kX ?_
   all_goals refine kX ?_
   all_goals (refine jd λb X=>?_;cases b <;> try simp only [jc] at X)
   iterate 9
    all_goals refine kX ?_
   all_goals (refine jd λb J=>?_;cases b <;> try simp only [jc] at J)
   iterate 5
    all_goals refine kX ?_
   all_goals first | refine wkB (kSi (kD.raw.below ao E)) (λwS1 E=>?_) | refine kX ?_
   all_goals refine kX ?_
   all_goals refine kX ?_
   all_goals (refine jd λb G=>?_;cases b <;> try simp only [jc] at G)
   iterate 5
    all_goals refine kX ?_
   all_goals first | refine wkC (jw) ?_ | refine kX ?_
   all_goals refine kX ?_
   all_goals refine kX ?_
   all_goals (refine jd λb L=>?_;cases b <;> try simp only [jc] at L)
   iterate 8
    all_goals refine kX ?_
   all_goals first | refine wkB (kHm (kD.raw.below az.out E) (kD.raw.below ag E)) (λwS1 E=>?_) | refine kX ?_
   all_goals refine kX ?_
   all_goals (refine jd λb D=>?_;cases b <;> try simp only [jc] at D)
   all_goals refine kR ?_
   all_goals have F:=o.trans (Below.mono E o.size)
   all_goals first
     | (have U:=yD (HB.out (show _=false by simp only [kCx,Ad,Aa,Ae,Ag,Ab,Ac,Aj,Ak,Ah,Ai,Al,Aq,X,J,G,L,D]));clear HB HX HN az;go_wp2;go_ret;exact ⟨kK U.out.symm,F⟩)
     | (have U:=yD (HX.out (show _=true by simp only [kCx,Ad,Aa,Ae,Ag,Ab,Ac,Aj,Ak,Ah,Ai,Al,Aq,X,J,G,L,D]));clear HB HX HN az;go_wp2;go_roundw;(case rel=>exact ⟨k + 1,by omega,by go_num,U,F⟩);(case measure=>simp [intOf];omega))
 have U:=yD (kRg HN.out hlt hk)
 exact uJ
def rising (l:Am jA):Prop:=l.Pairwise (λa b=>a.1 < b.1)
def kPz {f:Int} {l:Am jA} {r:jA} (h:r∈zI f l):r∈l/\r.1≠f:=by
 unfold zI at h;simpa using h
def putR_mem {a r:jA} {l:Am jA} (h:r∈kOv a l):r=a\/r∈l:=by
 obtain ⟨i,hi,e,_⟩:=putR_idx a l;rw [e] at h;rcases List.mem_append.1 h with h | h
 · exact .inr (kPz (List.mem_of_mem_take h)).1
 rcases List.mem_cons.1 h with h | h
 · exact .inl h
 exact .inr (kPz (List.mem_of_mem_drop h)).1
def putR_rising {a:jA} {l:Am jA} (h:rising l):rising (kOv a l):=by
 obtain ⟨i,hi,e,D⟩:=putR_idx a l;have h1:rising (zI a.1 l):=h.sublist List.filter_sublist;have d3:∀ r∈(zI a.1 l).take i,r.1 < a.1:=by
  intro r hr;obtain ⟨j,I,rfl⟩:=List.mem_take_iff_getElem.1 hr;rcases D with ⟨q,rfl⟩ | q
  · have:=kYv.1 (show idxOf (λr:jA=>decide (a.1<=r.1)) (zI a.1 l) < 0 by omega) _ (Ap (show j < (zI a.1 l).length by omega));simp at this;exact this
  obtain ⟨hk,_,hq⟩:=kRx q;have:=hq j bD1;simp at this;exact this
 have o:∀ r∈(zI a.1 l).drop i,a.1 < r.1:=by
  intro r hr;obtain ⟨j,I,rfl⟩:=List.mem_drop_iff_getElem.1 hr;rcases D with ⟨q,rfl⟩ | q
  · omega
  obtain ⟨hk,hp,_⟩:=kRx q;have hp:a.1<=((zI a.1 l)[i]).1:=bA4;have hne:=(kPz (Ap hk)).2;by_cases E:j=0
  · subst E;simp only [Nat.add_zero] at *;omega
  have:=List.pairwise_iff_getElem.1 h1 i (i + j) hk bD1 bD1;omega
 unfold rising;rw [e];refine List.pairwise_append.2 ⟨h1.sublist (List.take_sublist _ _),List.pairwise_cons.2 ⟨o,h1.sublist (List.drop_sublist _ _)⟩,λx hx y hy=>?_⟩;have h2:=d3 x hx;rcases List.mem_cons.1 hy with rfl | hy
 · exact h2
 have:=o y hy;omega
end Go.Proofs.YtjhfdpopkkmigaaGreat

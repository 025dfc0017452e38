/-
  The stable sort of a few elements.
-/
import Derived.Test.YthocbplmdjkifabGreatWoC
set_option linter.unusedVariables false
set_option linter.defProp false
set_option linter.unusedSimpArgs false
set_option linter.unnecessarySimpa false
set_option maxRecDepth 100000
set_option maxHeartbeats 4000000
open _root_ renaming List->Aa,of_decide_eq_true->Aq,Array->Bc
open Go renaming Value->Ab,World->Ad,Calls->Al,FuncId->Aw,frozen_of_row->Ba,TypeId->Be
open List renaming eq_nil_of_length_eq_zero->Ac,append_assoc->Ae,pairwise_append->Ag,filter_append->Ah,pairwise_cons->Ai,take_append_drop->Ak,length_append->Am,mem_or_eq_of_mem_set->Ap,filter_eq_nil_iff->Av,length_filter_le->Ay,set_append_right->Az,getElem_mem->Bd
open Int renaming natCast_nonneg->Aj
open Go.Value.slice renaming injEq->Ar
open Option.some renaming injEq->Au
open Go.Addr.mk renaming injEq->Bb
namespace Go.Proofs.YthocbplmdjkifabGreat
open Go.RowKit _root_.Go.Proofs.Tryz
variable {now:Int} {cs:Aa Ab} {w:Ad} {x:kr}
def evict (now:Int) (x:kr):kr:=(x.1,x.2.filter (λe:kW=>fresh now e.1))
def kVy (hx:kS.rd w cs x) :Al prog 70 #[.agg cs.toArray,.int .i64 now] w (kAm kS (evict now x) w):=by
 obtain ⟨hx,a3⟩:=hx;obtain ⟨sv,rfl,eo,hl⟩:=jM hx;obtain ⟨la,lp,rfl,_⟩:=kD.sl hl;obtain ⟨c,l⟩:=x;refine DI λHL bm=>?_;have ac:=yD eo;clear hx eo hl a3;go_enter func70,ntmps70;go_wp2;refine nA λZ V=>?_;refine uF λHZ EA XB H XO=>?_;clear V;go_loopw [6] (λi wr=>∃ (k:Nat) (v:Ab),k<=l.length/\i=.int .i64 k/\Hid (Qr wr (w.heap.size + 1 + 1) #[Qn c,v] 27)/\Hid (kD.ko 135 kz wr v ((l.take k).filter (λe:kW=>fresh now e.1)) (jW (w.heap.size + 3) wr))/\Below (w.heap.size + 1 + 1) Z wr/\w.heap.size + 3<=wr.heap.size) (λi _=>l.length - (intOf i).toNat);case atStart=>exact ⟨0,_,Nat.zero_le _,rfl,XO,yD kD.ko.nil,bR,by have:=HZ.out;omega⟩
 obtain ⟨k,v,hk,rfl,XV,F,D,bp⟩:=hrel;refine aH F λoa on oc ho ak=>?_;obtain rfl:=ho;have L0:=kE ((D.block _ (show w.heap.size < w.heap.size + 1 + 1 by omega)).trans XB.out) (j:=0) (v:=.int .i64 c) rfl;refine CP λL1 R b4=>?_;by_cases hlt:k < l.length
 · obtain ⟨qb,qo,rfl,ah,aj,ao,cc,cf,b9,qr,a2,a4,a5,be,bo,aq⟩:=kD.get6 (HL.1.below R) hlt rfl;have a3:=kD.zL HL.out hlt;have br:=λq=>kDp (p:=(λe:kW=>fresh now e.1)) hlt q;have bn:=λq=>kCh (p:=(λe:kW=>fresh now e.1)) hlt q;generalize l[k]=x at *;refine aN br bn λan aa=>?_;clear br bn;obtain ⟨rfl,rfl,rfl,au,az,aw,bi,bk,bq,b5,bj,bt⟩:=yM qr;obtain ⟨ai,a6,rfl,bb,ar,bd,rfl,b2,ax,b3,rfl,b8⟩:=kD.sx aw (kD.sx bi (kD.sl bq));have PX:jC.rd wr _ x.1:=⟨au,a3.1⟩;refine aN bt PX λHU gg=>?_;go_wp2_with fail;refine (kRx PX.1).mono ?_;refine fO λwr bv=>?_;have ag:=bv.size;replace XV:=yD (kC XV.out bv);replace F:=yD ((F.below bv).wide (T:=jW (w.heap.size + 3) wr) vD);refine aJ bv L0 L1 aq λL0 L1 aq=>?_;replace R:=(tQ R bv);replace D:=D.trans (bv.mono bJ5);replace bp:w.heap.size + 3<=wr.heap.size:=bJ5;replace PX:=PX.below bv;refine aJ bv a2 a4 a5 λa2 a4 a5=>?_;refine aL bv be bo λbe bo=>?_;clear bv gg;cases hq:fresh now x.1
   · have L:=yD (aa.out hq);clear an aa PX L0 L1 aq;refine Qg ?_;exact ⟨k + 1,_,by omega,by go_num,XV,yD (by rw [L.out];exact F.out),D,bp⟩
   have ch:=yD (an.out hq);clear an aa;go_wp2_with fail;refine (kBv PX).mono ?_;refine LV λwT ba a7 b7 ez bg c2 ew a8 cl eu OT ee=>?_;go_upto_region 7 with fail;refine OL λwD ED ay D0 D1 D2 D3 D4 af=>?_;have XS:=kC XV.out af;have M0:=kE XS (j:=0) (v:=.int .i64 c) rfl;have M1:=kE XS (j:=1) rfl;refine aJ af L0 L1 aq λL0 L1 aq=>?_;refine FO λFX wS I=>?_;all_goals ((first|(refine kI rfl I ?_)|(refine ku rfl (λK E=>?_);go_simp;refine E _ _ (I.alloc I.size _) ?_;clear E K));refine jD ?_;refine jq ?_)
   refine PV λgx X XW ab F=>?_;have eh:((l.take k).filter (λe:kW=>fresh now e.1)).length<=16777216:=Nat.le_trans (kAe hk) bJ5;refine xD λv2 w2 G O am=>?_;refine aH G λda bx dk a9 bf=>?_;exact oG
 obtain rfl:k=l.length:=bJ5;refine lD λM0 M1 R0 R1 av ap HF=>?_;have c8:Hid ((l.filter (λe:kW=>fresh now e.1)).length<=Big):=yD (Nat.le_trans (Ay _ _) bE7);go_wp2;refine bodyPost_ret (v:=.agg #[Qn c,.slice oa on oc]) (by simp [results,results70,go_sem,R0,R1,av,ap]) rfl ⟨[_,_],rfl,?_,?_⟩;exact kD.kCp (r:=kD.int) (q:=kD.slice 135 kz) (cs:=[_]) (kD.jB ac.out) ((((HF.own c8.out).setCell gM).setCell gM).wide mG);exact (R.setCell bJ6 _).setCell bJ6 _
def kUw {cy:Aa Ab} {y:kW} (hy:kz.raw w cy y) {E:Nat} (D:Qc w E 0 (Qn now)) :
    Al prog 130 (#[.agg cy.toArray]++#[.pointer (Qa E)]) w (bQ w (.bool (fresh now y.1))):=by
 have Hy:=yD hy;obtain ⟨a3,bn,bo,rfl,ae,ai,al,ao,ap,au,a1,a7,bc⟩:=kAs hy;obtain ⟨aw,av,rfl,a6,bq,br,rfl,bp,a9,ba,rfl,bm⟩:=kD.sx al (kD.sx ao (kD.sl au));show Al prog 130 #[_,_] w _;go_enter func130,ntmps130;go_upto_region 1 with fail;refine oM λX EB N=>?_;obtain ⟨ah,J,U,aa,ac,a4⟩:=kYd N;clear N;replace D:=cL EB D;have FX:=yD (λ(W:Ad) (hW:Qb X W)=>cLs7 hW ah J U aa ac a4 D);refine J7 ?_;refine uB λwS I=>?_;all_goals ((first | refine wkB (kSa (kD.raw.below ae (tQ EB I))) (λwS1 I=>?_) | refine kZ ?_);refine jo λb Z=>?_;cases b <;> try simp only [jm] at Z)
 all_goals (refine kR ?_;have G:=(tQ EB I))
 all_goals (obtain ⟨vq,qv⟩:∃ qc,(fresh now y.1)=qc:=⟨_,rfl⟩;have L:=yD qv;simp only [Q0,Z] at qv;subst qv;go_wp2;go_ret;exact ⟨kJ L.symm,G⟩)
def kKc:jL prog 130:=yK func130 bI9 bI9
def kWy (hx:kS.rd w cs x) :Al prog 66 #[.agg cs.toArray,.int .i64 now] w (kAm kS (evict now x) w):=by
 have HX:=yD hx;obtain ⟨hx,a3⟩:=hx;obtain ⟨sv,rfl,eo,hl⟩:=jM hx;obtain ⟨la,lp,rfl,_⟩:=kD.sl hl;obtain ⟨c,l⟩:=x;refine DI λHL bm=>?_;have ac:=yD eo;clear hx eo hl a3;go_enter func66,ntmps66;go_wp2_with fail;refine nA λX U=>?_;refine iD λEB=>?_;have H:Hid (Qr X (w.heap.size + 2) #[Qn 0,.slice none 0 0] 27):=yD vZ;have KN:Qc X (w.heap.size + 1) 0 (Qn now):=bA9;clear U;have cc:=EB.size;refine (kOj (λe:kW=>fresh now e.1) kKc (HX.below EB) (λwr bo y ds hy=>kUw hy (cL bo KN))).mono ?_;refine eD λw1 oc O1 O=>?_;have c8:=yD (show (l.filter (λe:kW=>fresh now e.1)).length<=16777216 from Nat.le_trans (Ay _ _) bm);simp only at O1;have E:Hid (evict now (c,l)=(c,l.filter (λe:kW=>fresh now e.1))):=yD rfl;generalize l.filter (λe:kW=>fresh now e.1)=f at *;obtain ⟨G,rfl,ab,D⟩:=jM O1.raw;obtain ⟨oa,op,rfl,_⟩:=kD.sl D;have X1:=kC H.out O;have M0:=kE (b:=w.heap.size + 2) X1 (j:=0) rfl;have M1:=kE (b:=w.heap.size + 2) X1 (j:=1) rfl;have F0:=Ba w1 (w.heap.size + 2) 0 _ _ X1;have F1:=Ba w1 (w.heap.size + 2) 1 _ _ X1;have R:=yD O1;have E1:=(tQ EB O);have F:w.heap.size + 3<=X.heap.size:=nE;clear ab D O1 O;go_wp2;refine bodyPost_ret (v:=.agg #[Qn c,Qs oa f op]) (by simp [results,results66,go_sem,M0,M1,F0,F1]) rfl ⟨[_,_],rfl,?_,?_⟩;rw [E.out];exact ((R.setCell gM).setCell gM).wide mG;exact (E1.setCell bJ0 _).setCell bJ0 _
end Go.Proofs.YthocbplmdjkifabGreat
namespace Go.Proofs.YthocbplmdjkifabGreat.Srt
section
variable {α:Type} (key:α->Int)
def Asc (l:Aa α):Prop:=l.Pairwise (λa b=>key a<=key b)
def Same (l I:Aa α):Prop:=∀ v,l.filter (λx=>decide (key x=v))=I.filter (λx=>decide (key x=v))
variable {key}
def Same.refl (l:Aa α):Same key l l:=λ_=>rfl
def Same.symm {l I:Aa α} (h:Same key l I):Same key I l:=λv=>(h v).symm
def Same.trans {a b c:Aa α} (h:Same key a b) (k:Same key b c):Same key a c:=λv=>(h v).trans (k v)
def Same.append {a a' b b':Aa α} (h:Same key a a') (k:Same key b b'):Same key (a++b) (a'++b'):=λv=>by
  rw [Ah,Ah,h v,k v]
def Same.mem {l I:Aa α} (h:Same key l I) {x:α} (hx:x∈l):x∈I:=by
 have h1:x∈l.filter (λy=>decide (key y=key x)):=by simp [hx]
 rw [h] at h1;exact (List.mem_filter.1 h1).1
def Same.nil {l:Aa α} (h:Same key [] l):l=[]:=by
 cases l with
 | nil=>rfl
 | cons y ys=>exact absurd (h.symm.mem (List.mem_cons_self)) bJ6
def Same.swap {a b:Aa α} (h:∀ x∈a,∀ y∈b,key x≠key y):Same key (a++b) (b++a):=λv=>by
  rw [Ah,Ah];by_cases hv:∃ x∈a,key x=v
  · obtain ⟨x,hx,rfl⟩:=hv;have:b.filter (λz=>decide (key z=key x))=[]:=by
      rw [Av];intro y hy q;exact h x hx y hy (by simpa using (Aq q).symm)
    rw [this];simp
  · have:a.filter (λz=>decide (key z=v))=[]:=by
      rw [Av];intro y hy q;exact hv ⟨y,hy,Aq q⟩
    rw [this];simp
def uniq:∀ {l I:Aa α},Asc key l->Asc key I->Same key l I->l=I
  | [],I,_,_,h=>h.nil.symm
  | l,[],_,_,h=>h.symm.nil
  | x :: xs,y :: ys,h1,h2,h=>by
    have hk:∀ {x y:α} {xs ys:Aa α},Asc key (y :: ys)->Same key (x :: xs) (y :: ys)->key y<=key x:=by
      intro x y xs ys h2 h;have hm:=h.mem (List.mem_cons_self (a:=x) (l:=xs));rcases List.mem_cons.1 hm with e | e;rw [e];exact Int.le_refl _
      · exact (Ai.1 h2).1 x e
    have e:key x=key y:=Int.le_antisymm (hk h1 h.symm) (hk h2 h);have hx:=h (key x);rw [List.filter_cons_of_pos bJ6,List.filter_cons_of_pos (by simp [e])] at hx;have D:x=y:=(List.cons.inj hx).1;subst D;congr 1;refine uniq (Ai.1 h1).2 (Ai.1 h2).2 (λv=>?_);have hv:=h v;by_cases q:key x=v
    · rw [List.filter_cons_of_pos (by simp [q]),List.filter_cons_of_pos (by simp [q])] at hv;exact (List.cons.inj hv).2
    · rw [List.filter_cons_of_neg (by simp [q]),List.filter_cons_of_neg (by simp [q])] at hv;exact hv
def Asc.append {a b:Aa α} (h:Asc key a) (k:Asc key b) (q:∀ x∈a,∀ y∈b,key x<=key y):Asc key (a++b):=Ag.2 ⟨h,k,q⟩
def Asc.left {a b:Aa α} (h:Asc key (a++b)):Asc key a:=(Ag.1 h).1
def Asc.right {a b:Aa α} (h:Asc key (a++b)):Asc key b:=(Ag.1 h).2.1
def Asc.cross {a b:Aa α} (h:Asc key (a++b)):∀ x∈a,∀ y∈b,key x<=key y:=(Ag.1 h).2.2
variable (key)
def kAt (xs:Aa α) (i:Nat):Int:=((xs[i]?).map key).getD 0
variable {key}
def kFc {xs:List α} {i:Nat} (h:i < xs.length):kAt key xs i=key xs[i]:=by simp [kAt,h]
def Asc.kAt_le {l:Aa α} (h:Asc key l) {i j:Nat} (E:i<=j) (J:j < l.length):kAt key l i<=kAt key l j:=by
 rw [kFc bJ5,kFc J];rcases Nat.lt_or_ge i j with q | q;exact List.pairwise_iff_getElem.1 h i j bJ5 J q;obtain rfl:i=j:=bJ5;exact Int.le_refl _
def jDb {l:Aa α} {x:α} (h:x∈l):∃ i,i < l.length/\kAt key l i=key x:=by
 obtain ⟨i,hi,rfl⟩:=List.getElem_of_mem h;exact ⟨i,hi,kFc hi⟩
def sw (xs:Aa α) (i j:Nat):Aa α:=match xs[i]?,xs[j]? with
  | some x,some y=>(xs.set i y).set j x
  | _,_=>xs
def jHq {xs:List α} {i j:Nat} (hi:i < xs.length) (J:j < xs.length):sw xs i j=(xs.set i xs[j]).set j xs[i]:=by simp [sw,hi,J]
def kQh (xs:Aa α) (i j:Nat):(sw xs i j).length=xs.length:=by
 unfold sw;split <;> simp
def sw_comm (xs:Aa α) (i j:Nat):sw xs i j=sw xs j i:=by
 by_cases hi:i < xs.length
 · by_cases J:j < xs.length
   · rw [jHq hi J,jHq J hi];by_cases e:i=j;subst e;rfl;exact List.set_comm _ _ e
   simp [sw,J,Nat.not_lt.1 J]
 simp [sw,hi,Nat.not_lt.1 hi]
def jBf (p m q:Aa α) (x y:α) {i j:Nat} (hi:i=p.length) (J:j=p.length + 1 + m.length):sw (p++x :: m++y :: q) i j=p++y :: m++x :: q:=by
 subst hi J;have h1:p.length < (p++x :: m++y :: q).length:=bJ6;have h2:p.length + 1 + m.length < (p++x :: m++y :: q).length:=bJ0;rw [jHq h1 h2];have e1:(p++x :: m++y :: q)[p.length]=x:=bJ6;have e2:(p++x :: m++y :: q)[p.length + 1 + m.length]=y:=by
  rw [List.getElem_append_right bJ0];simp [show p.length + 1 + m.length - (p.length + (m.length + 1))=0 by omega]
 rw [e1,e2];have U:(p++x :: m++y :: q).set p.length y=p++y :: m++y :: q:=by
  rw [Ae,Az _ _ nL];simp
 rw [U];rw [Az _ _ bJ0];simp [show p.length + 1 + m.length - (p.length + (m.length + 1))=0 by omega]
variable (key)
def inner (a:Nat):Nat->Aa α->Aa α
  | 0,xs=>xs
  | j + 1,xs=>if a < j + 1/\kAt key xs (j + 1) < kAt key xs j then inner a j (sw xs (j + 1) j) else xs
def outer (a:Nat):Nat->Nat->Aa α->Aa α
  | 0,_,xs=>xs
  | n + 1,i,xs=>outer a n (i + 1) (inner key a i xs)
def kHc (a b:Nat) (xs:Aa α):Aa α:=outer key a (b - (a + 1)) (a + 1) xs
variable {key}
def kNp:∀ (a j:Nat) (xs:Aa α),(inner key a j xs).length=xs.length
  | _,0,_=>rfl
  | a,j + 1,xs=>by
    unfold inner;split;rw [kNp,kQh]
    · rfl
def kUk:∀ (a n i:Nat) (xs:Aa α),(outer key a n i xs).length=xs.length
  | _,0,_,_=>rfl
  | a,n + 1,i,xs=>by
    unfold outer;rw [kUk,kNp]
def jEz (a b:Nat) (xs:Aa α):(kHc key a b xs).length=xs.length:=kUk _ _ _ _
def inner_spec:∀ (A:Aa α) (P Q:Aa α) (x:α) (a j:Nat),P.length=a->j=a + A.length->Asc key A ->
    ∃ M,inner key a j (P++A++x :: Q)=P++M++Q/\Asc key M/\Same key (A++[x]) M:=by
 intro A;induction hn:A.length generalizing A with
 | zero =>
   intro P Q x a j hP J hA;obtain rfl:A=[]:=Ac hn;refine ⟨[x],?_,by simp [Asc],Same.refl _⟩;have bj:j=a:=bH9;subst bj;cases j with
   | zero=>simp [inner]
   | succ j=>unfold inner;rw [if_neg bJ5];simp
 | succ n ih =>
   intro P Q x a j hP J hA;obtain ⟨B,y,rfl⟩:∃ B y,A=B++[y]:=⟨A.dropLast,A.getLast (by intro h;simp [h] at hn),(List.dropLast_concat_getLast _).symm⟩;have hB:B.length=n:=by simpa using hn
   obtain ⟨i,rfl⟩:∃ i,j=i + 1:=⟨j - 1,by omega⟩;have E:kAt key (P++(B++[y])++x :: Q) i=key y:=by
     rw [kFc bJ0];congr 1;rw [List.getElem_append_left bJ0,List.getElem_append_right bJ5];simp [show i - P.length=B.length by omega]
   have en:kAt key (P++(B++[y])++x :: Q) (i + 1)=key x:=by
     rw [kFc bJ0];congr 1;rw [List.getElem_append_right bJ0];simp [show i + 1 - (P.length + (B.length + 1))=0 by omega]
   unfold inner;rw [E,en];by_cases hlt:key x < key y
   · rw [if_pos ⟨by omega,hlt⟩];have F:sw (P++(B++[y])++x :: Q) (i + 1) i=P++B++x :: (y :: Q):=by
       rw [sw_comm];have:=jBf (P++B) [] Q y x (i:=i) (j:=i + 1) bJ0 bJ0;simpa using this
     rw [F];obtain ⟨M,h1,h2,h3⟩:=ih B hB P (y :: Q) x a i hP bJ5 hA.left;refine ⟨M++[y],by rw [h1];simp,?_,?_⟩
     · refine h2.append (by simp [Asc]) ?_;intro u hu v hv;obtain rfl:v=y:=bH4;have D:=h3.symm.mem hu;rcases List.mem_append.1 D with q | q;exact hA.cross u q v bJ6
       · obtain rfl:u=x:=bI0;omega
     · have s1:Same key (B++[y]++[x]) (B++[x]++[y]):=by
         rw [Ae,Ae];refine (Same.refl B).append (Same.swap ?_);intro u hu v hv;obtain rfl:u=y:=by simpa using hu
         obtain rfl:v=x:=bH4;omega
       exact s1.trans (h3.append (Same.refl [y]))
   · rw [if_neg (by rintro ⟨_,q⟩;exact hlt q)];refine ⟨B++[y]++[x],by simp,?_,Same.refl _⟩;refine hA.append (by simp [Asc]) ?_;intro u hu v hv;obtain rfl:v=x:=bH4;rcases List.mem_append.1 hu with q | q;have:=hA.cross u q y bJ6;omega
     · obtain rfl:u=y:=bI0;omega
def jCf:∀ (n:Nat) (A C P Q:Aa α) (a i:Nat),C.length=n->P.length=a->i=a + A.length->Asc key A ->
    ∃ M,outer key a n i (P++A++C++Q)=P++M++Q/\Asc key M/\Same key (A++C) M
  | 0,A,C,P,Q,a,i,hC,hP,hi,hA=>by
    obtain rfl:C=[]:=Ac hC;exact ⟨A,by simp [outer],hA,by simpa using Same.refl A⟩
  | n + 1,A,C,P,Q,a,i,hC,hP,hi,hA=>by
    obtain ⟨x,C,rfl⟩:∃ x D,C=x :: D:=by cases C with | nil=>simp at hC | cons x D=>exact ⟨x,D,rfl⟩
    obtain ⟨M,h1,h2,h3⟩:=inner_spec A P (C++Q) x a i hP hi hA;have hl:=congrArg List.length h1;rw [kNp] at hl;obtain ⟨M2,h4,h5,h6⟩:=jCf n M C P Q a (i + 1) (by simpa using hC) hP (by simp at hl;omega) h2;refine ⟨M2,?_,h5,?_⟩
    · unfold outer;rw [show P++A++x :: C++Q=P++A++x :: (C++Q) by simp,h1,show P++M++(C++Q)=P++M++C++Q by simp,h4]
    · refine Same.trans ?_ h6;rw [show A++x :: C=A++[x]++C by simp];exact h3.append (Same.refl C)
def insort_spec {M P Q:Aa α} {a b:Nat} (hP:P.length=a) (hb:b=a + M.length):∃ D,kHc key a b (P++M++Q)=P++D++Q/\Asc key D/\Same key M D:=by
 unfold kHc;cases M with
 | nil => 
   have:b - (a + 1)=0:=by simp at hb;omega
   rw [this];exact ⟨[],rfl,by simp [Asc],Same.refl _⟩
 | cons x C =>
   have:=jCf (key:=key) (b - (a + 1)) [x] C P Q a (a + 1) (by simp at hb;omega) hP bJ6 (by simp [Asc]);simpa using this
def swr:Nat->Nat->Nat->Aa α->Aa α
  | 0,_,_,xs=>xs
  | n + 1,a,b,xs=>swr n (a + 1) (b + 1) (sw xs a b)
def rot (m i j:Nat) (xs:Aa α):Aa α :=
  if i=j then swr i (m - i) m xs
  else if h:0 < i/\0 < j then
    if j < i then rot m (i - j) j (swr j (m - i) m xs) else rot m i (j - i) (swr i (m - i) (m + j - i) xs)
  else xs
  termination_by i + j
  decreasing_by all_goals omega
def bs (p:Nat->Bool) (i j:Nat):Nat :=
  if h:i < j then (if p ((i + j) / 2) then bs p ((i + j) / 2 + 1) j else bs p i ((i + j) / 2)) else i
  termination_by j - i
  decreasing_by all_goals omega
def up:Nat->Nat->Aa α->Aa α
  | 0,_,xs=>xs
  | n + 1,k,xs=>up n (k + 1) (sw xs k (k + 1))
def down (i:Nat):Nat->Aa α->Aa α
  | 0,xs=>xs
  | k + 1,xs=>if i < k + 1 then down i k (sw xs (k + 1) k) else xs
def take_lt {B:Aa α} (h:Asc key B) {t:Nat} (ht:t<=B.length) {k:Int} (q:0 < t->kAt key B (t - 1) < k):∀ y∈B.take t,key y < k:=by
 intro y hy;obtain ⟨i,hi,e⟩:=jDb (key:=key) hy;simp at hi;rw [<- e];have h1:=h.kAt_le (i:=i) (j:=t - 1) bJ5 bJ5;have h2:=q bJ5;have h3:kAt key (B.take t) i=kAt key B i:=by rw [kFc bJ0,kFc bJ5];simp
 omega
def take_le {B:Aa α} (h:Asc key B) {t:Nat} (ht:t<=B.length) {k:Int} (q:0 < t->kAt key B (t - 1)<=k):∀ y∈B.take t,key y<=k:=λy hy=>by
  have:=take_lt h ht (k:=k + 1) (λht=>by have:=q ht;omega) y hy;omega
def drop_ge {B:Aa α} (h:Asc key B) {t:Nat} {k:Int} (q:t < B.length->k<=kAt key B t):∀ y∈B.drop t,k<=key y:=by
 intro y hy;obtain ⟨i,hi,e⟩:=jDb (key:=key) hy;simp at hi;rw [<- e];have h1:=h.kAt_le (i:=t) (j:=t + i) bJ5 bJ5;have h2:=q bJ5;have h3:kAt key (B.drop t) i=kAt key B (t + i):=by simp [kAt]
 omega
def drop_gt {B:Aa α} (h:Asc key B) {t:Nat} {k:Int} (q:t < B.length->k < kAt key B t):∀ y∈B.drop t,k < key y:=λy hy=>by
  have:=drop_ge h (k:=k + 1) (λht=>by have:=q ht;omega) y hy;omega
variable (key)
def symm:Nat->Nat->Nat->Nat->Aa α->Aa α
  | 0,_,_,_,xs=>xs
  | f + 1,a,m,b,xs =>
    if m - a=1 then up (bs (λh=>decide (kAt key xs h < kAt key xs a)) m b - 1 - a) a xs
    else if b - m=1 then down (bs (λh=>!decide (kAt key xs m < kAt key xs h)) a m) m xs
    else
      let mid:=(a + b) / 2
      let n:=mid + m
      let s:=bs (λc=>!decide (kAt key xs (n - 1 - c) < kAt key xs c)) (if mid < m then n - b else a) (if mid < m then mid else m)
      let e:=n - s
      let y:=if s < m/\m < e then rot m (m - s) (e - m) xs else xs
      let z:=if a < s/\s < mid then symm f a s mid y else y
      if mid < e/\e < b then symm f mid e b z else z
variable {key}
def Runs (key:α->Int) (s:Nat) (l:Aa α):Prop:=∀ k,Asc key ((l.drop (k * s)).take s)
def Runs.cons {s:Nat} {A R:Aa α} (hA:A.length=s) (h:Asc key A) (hR:Runs key s R):Runs key s (A++R):=by
 intro k;cases k with
 | zero=>simp;rw [<- hA,List.take_append_of_le_length bJ5,List.take_length];exact h
 | succ k =>
   have:(A++R).drop ((k + 1) * s)=R.drop (k * s):=by
     rw [Nat.add_mul,Nat.one_mul,Nat.add_comm,<- List.drop_drop,<- hA,List.drop_left]
   rw [this];exact hR k
def Runs.one {s:Nat} {A:Aa α} (hA:A.length<=s) (h:Asc key A):Runs key s A:=by
 intro k;cases k with
 | zero=>simp;rw [List.take_of_length_le hA];exact h
 | succ k=>rw [List.drop_eq_nil_of_le (by rw [Nat.add_mul];omega)];simp [Asc]
variable (key)
variable {key}
variable (key)
def place:Nat->Aa α->α->Nat
  | 0,_,_=>0
  | k + 1,l,x=>if key x < kAt key l k then place k l x else k + 1
def put (l:Aa α) (x:α):Aa α:=l.take (place key l.length l x)++[x]++l.drop (place key l.length l x)
def sorted (l:Aa α):Aa α:=l.foldl (put key) []
variable {key}
def jCb (l:Aa α) (x:α):∀ k,k<=l.length->place key k l x<=k/\(0 < place key k l x->kAt key l (place key k l x - 1)<=key x)/\(place key k l x < k->key x < kAt key l (place key k l x))
  | 0,_=>by simp [place]
  | k + 1,h=>by
    unfold place;split
    · rename_i q
      obtain ⟨h1,h2,h3⟩:=jCb l x k bJ5;refine ⟨by omega,h2,λ_=>?_⟩;by_cases e:place key k l x < k;exact h3 e
      · rw [show place key k l x=k by omega];exact q
    · rename_i q
      exact ⟨Nat.le_refl _,λ_=>by simpa using q,λq=>absurd q bJ5⟩
def put_spec {l:Aa α} (h:Asc key l) (x:α):Asc key (put key l x)/\Same key (l++[x]) (put key l x):=by
 obtain ⟨h1,h2,h3⟩:=jCb (key:=key) l x l.length nL;unfold put;generalize place key l.length l x=p at *;have t1:=take_le h h1 h2;have t2:=drop_gt h h3;have G:=h;rw [<- Ak p l] at G;refine ⟨?_,?_⟩
 · rw [Ae];refine G.left.append (Ai.2 ⟨λy hy=>by have:=t2 y hy;omega,G.right⟩) ?_;intro u hu v hv;rcases List.mem_cons.1 hv with rfl | hv;exact t1 u hu;exact G.cross u hu v hv
 have s1:Same key (l.take p++(l.drop p++[x])) (l.take p++([x]++l.drop p)):=(Same.refl _).append (Same.swap (λu hu v hv=>by
   obtain rfl:v=x:=bH4;have:=t2 u hu;omega))
 rw [<- Ae,Ak] at s1;rwa [Ae]
def jDn:∀ (xs l:Aa α),Asc key l->Asc key (xs.foldl (put key) l)/\Same key (l++xs) (xs.foldl (put key) l)
  | [],l,h=>⟨h,by simpa using Same.refl l⟩
  | x :: xs,l,h=>by
    obtain ⟨h1,h2⟩:=put_spec h x;obtain ⟨h3,h4⟩:=jDn xs (put key l x) h1;refine ⟨h3,?_⟩;have:=(h2.append (Same.refl xs)).trans h4;simpa using this
def kGj (l:Aa α):Asc key (sorted key l)/\Same key l (sorted key l):=by
 have:=jDn (key:=key) l [] (by simp [Asc]);simpa [sorted] using this
def kWp (l:Aa α):kHc key 0 l.length l=sorted key l:=by
 obtain ⟨D,h,ha,hs⟩:=insort_spec (key:=key) (M:=l) (P:=[]) (Q:=[]) (a:=0) (b:=l.length) rfl bJ6;simp only [List.nil_append,List.append_nil] at h;rw [h];exact uniq ha (kGj l).1 (hs.symm.trans (kGj l).2)
def kRy (l:List α):(sorted key l).length=l.length:=by rw [<- kWp,jEz]
def Same.filter {l I:Aa α} (h:Same key l I) {p:α->Bool}:Same key (l.filter p) (I.filter p):=λv=>by
  have:=congrArg (λz=>z.filter p) (h v);simp only [List.filter_filter] at this ⊢;simpa [Bool.and_comm] using this
def Asc.filter {l:Aa α} (h:Asc key l) {p:α->Bool}:Asc key (l.filter p):=List.Pairwise.filter p h
def jEw (l:Aa α) (p:α->Bool):(sorted key l).filter p=sorted key (l.filter p) :=
  uniq (kGj l).1.filter (kGj _).1 ((kGj l).2.symm.filter.trans (kGj _).2)
end
end Go.Proofs.YthocbplmdjkifabGreat.Srt
namespace Go.Proofs.YthocbplmdjkifabGreat
open Go.RowKit _root_.Go.Proofs.Tryz
namespace kD
section
variable {α:Type} {r:kD α} {e:Be} {w w' u:Ad} {v:Ab} {b cap len n i j:Nat} {xs:Aa α} {x y:α} {S T:Nat->Prop}
def row_swap {cells:Aa Ab} {X1 X2 D:Aa α} (h:row r true w cells (X1++x :: (X2++y :: D)) S) :
    ∃ I cx N cy V,cells=I++(cx++(N++(cy++V)))/\I.length=X1.length * r.n/\cx.length=r.n/\N.length=X2.length * r.n/\cy.length=r.n /\
      row r true w (I++(cy++(N++(cx++V)))) (X1++y :: (X2++x :: D)) S:=by
 obtain ⟨I,e1,A1,B1,rfl,r1,⟨cx,e2,L,B2,rfl,Z,q2,J,F,O⟩,hA1,H,D1⟩:=kMl X1 h;obtain ⟨N,U,A2,B3,rfl,r2,⟨cy,V,W,A3,rfl,Y,R,E,X,dy⟩,hA2,G,D2⟩:=kMl X2 q2;refine ⟨I,cx,N,cy,V,rfl,zu r1,r.len Z,zu r2,r.len Y,?_⟩;have t3:row r true w (cx++V) (x :: D) (λk=>L k\/A3 k):=⟨cx,V,L,A3,rfl,Z,R,λ_=>.inl,λ_=>.inr,λ_ k h1 h2=>O rfl k h1 (G k (X k h2))⟩;have t2:row r true w (N++(cx++V)) (X2++x :: D) (λk=>A2 k\/(L k\/A3 k)):=kAy r2 t3 (λ_=>.inl) (λ_=>.inr) (λ_ k h1 h2=>h2.elim (λq=>O rfl k q (hA2 k h1)) (λq=>D2 rfl k h1 (X k q)));have t1:row r true w (cy++(N++(cx++V))) (y :: (X2++x :: D)) (λk=>W k\/(A2 k\/(L k\/A3 k))):=⟨cy,_,W,_,rfl,Y,t2,λ_=>.inl,λ_=>.inr,λ_ k h1 h2=>h2.elim (λq=>D2 rfl k q (E k h1)) (λh2=>h2.elim (λq=>O rfl k q (G k (E k h1))) (λq=>dy rfl k h1 q))⟩;refine kAy r1 t1 hA1 ?_ ?_
 · rintro k (q | q | q | q);exact H k (F k (G k (E k q)));exact H k (F k (hA2 k q));exact H k (J k q);exact H k (F k (G k (X k q)))
 rintro _ k h1 (q | q | q | q);exact D1 rfl k h1 (F k (G k (E k q)));exact D1 rfl k h1 (F k (hA2 k q));exact D1 rfl k h1 (J k q);exact D1 rfl k h1 (F k (G k (X k q)))
def jFr {l:Aa α} {i j:Nat} (E:i < j) (J:j < l.length):∃ X1 x X2 y D,l=X1++x :: (X2++y :: D)/\X1.length=i/\X2.length=j - i - 1:=by
 refine ⟨l.take i,l[i],(l.drop (i + 1)).take (j - i - 1),l[j],l.drop (j + 1),?_,by simp;omega,by simp;omega⟩;have e1:l=l.take i++l[i] :: l.drop (i + 1):=bJ6;have e2:l.drop (i + 1)=(l.drop (i + 1)).take (j - i - 1)++l[j] :: l.drop (j + 1):=by
  have h1:(l.drop (i + 1)).drop (j - i - 1)=l.drop j:=by rw [List.drop_drop];congr 1;omega
  have h2:l.drop j=l[j] :: l.drop (j + 1):=bJ6;rw [<- h2,<- h1,Ak]
 rw [<- e2,<- e1]
def kVh {cells mid pre H:Aa Ab} {o:Nat} {cs:Aa Ab} {e:Be} (hc:w.heap[b]?=some (.cells cells.toArray e (0,0))) (he:cells=pre++(mid++H)) (ho:pre.length=o) (hl:cs.length=mid.length)
    (h:∀ q u,cs[q]?=some u->Qc w b (o + q) u):cs=mid:=by
 apply List.ext_getElem hl;intro q h1 h2;have:=h q cs[q] (by simp [h1]);rw [cell_of_row w b _ _ e (0,0) hc] at this;simp only [List.getElem?_toArray] at this;rw [he,List.getElem?_append_right bJ5,List.getElem?_append_left bJ5,show o + q - pre.length=q by omega,List.getElem?_eq_getElem h2] at this;exact (Option.some.inj this).symm
def jGg (h:ko e r w (.slice (Qa b) len cap) xs S) (hi:i < xs.length) (J:j < xs.length) (E:i≠j) {ci cj:Aa Ab} (X:ci.length=r.n) (U:cj.length=r.n)
    (ak:∀ q u,ci[q]?=some u->w.cell? ⟨b,i * r.n + q,none⟩=some u) (a3:∀ q u,cj[q]?=some u->w.cell? ⟨b,j * r.n + q,none⟩=some u) {pi pj:Nat} (O:pi=i * r.n) (H:pj=j * r.n) :
    ko e r (setCells (setCells w b pi cj) b pj ci) (.slice (Qa b) len cap) (Srt.sw xs i j) S/\Touch (λk=>k=b) w (setCells (setCells w b pi cj) b pj ci):=by
 subst O H;refine ⟨?_,(kAc _ _ _ _).trans (kAc _ _ _ _)⟩;obtain ⟨hb,h⟩:=h;rcases h with ⟨⟨a,h0⟩,rfl⟩|⟨b',cap',cur,cs,tl,h0,h1,h2,h3,h4,h5,h6,h7⟩;simp at hi;simp only [Ar,Au,Bb,and_true] at h0;obtain ⟨rfl,rfl,rfl⟩:=h0;have L:cur=(cs++tl).toArray:=by rw [<- h4]
 subst L;have e6:∀ z∈Srt.sw xs i j,r.bdd Big z:=by
  intro z hz;rw [Srt.jHq hi J] at hz;rcases Ap hz with q | q
  · rcases Ap q with q | q;exact hb z q;rw [q];exact hb _ (Bd J)
  rw [q];exact hb _ (Bd hi)
 have hlen:=Srt.kQh xs i j;refine ⟨e6,.inr ⟨b,cap,?_⟩⟩;suffices hh:∃ cs',(setCells (setCells w b (i * r.n) cj) b (j * r.n) ci).heap[b]?=some (.cells (cs'++tl).toArray e (0,0))/\cs'.length=cs.length/\row r true w cs' (Srt.sw xs i j) (λk=>S k/\k≠b) by
   obtain ⟨cs',g1,g2,g3⟩:=hh;refine ⟨_,cs',tl,by rw [hlen],by rw [hlen];exact h1,h2,g1,by simp,?_,h6,?_⟩;rw [<- h5];simp [g2]
   · exact yu g3 (λk hk=>by rw [kBj _ _ _ _ _ hk.2,kBj _ _ _ _ _ hk.2])
 rcases Nat.lt_or_gt_of_ne E with q | q
 · obtain ⟨X1,x,X2,y,D,rfl,l1,l2⟩:=jFr q J;obtain ⟨I,cx,N,cy,V,rfl,m1,mx,m2,W,hr⟩:=row_swap h7;have e1:ci=cx:=kVh h3 (show _=I++(cx++((N++(cy++V))++tl)) by simp) (by rw [m1,l1]) bJ5 ak;have e2:cj=cy:=kVh h3 (show _=(I++(cx++N))++(cy++(V++tl)) by simp) (by
     simp only [Am];rw [m1,mx,m2,l1,l2];have:j=i + 1 + (j - i - 1):=by omega
     generalize j - i - 1=t at *;subst this;simp only [Nat.add_mul];omega) bJ5 a3
   subst e1 e2;have R:(I++(cj++N)).length=j * r.n:=by
    simp only [Am];rw [m1,U,m2,l1,l2];have:j=i + 1 + (j - i - 1):=by omega
    generalize j - i - 1=t at *;subst this;simp only [Nat.add_mul];omega
   refine ⟨I++(cj++(N++(ci++V))),?_,by simp;omega,?_⟩
   · have g1:=kBf (e:=e) cj ci I ((N++(cj++V))++tl) w b (i * r.n) (by rw [h3];simp) (by rw [m1,l1]) bJ5;have g2:=kBf (e:=e) ci cj (I++(cj++N)) (V++tl) _ b (j * r.n) (by rw [g1];simp) R bJ5;rw [g2];simp
   have F:=Srt.jBf X1 X2 D x y (i:=i) (j:=j) l1.symm bJ5;rw [show X1++x :: (X2++y :: D)=X1++x :: X2++y :: D by simp,F];simpa using hr
 obtain ⟨X1,y,X2,x,D,rfl,l1,l2⟩:=jFr q hi;obtain ⟨I,cy,N,cx,V,rfl,m1,W,m2,mx,hr⟩:=row_swap h7;have G:∀ z:Aa Ab,z.length=r.n->(I++(z++N)).length=i * r.n:=by
  intro z hz;simp only [Am];rw [m1,hz,m2,l1,l2];have:i=j + 1 + (i - j - 1):=by omega
  generalize i - j - 1=t at *;subst this;simp only [Nat.add_mul];omega
 have e1:cj=cy:=kVh h3 (show _=I++(cy++((N++(cx++V))++tl)) by simp) (by rw [m1,l1]) bJ5 a3;have e2:ci=cx:=kVh h3 (show _=(I++(cy++N))++(cx++(V++tl)) by simp) (G _ W) bJ5 ak;subst e1 e2;refine ⟨I++(ci++(N++(cj++V))),?_,by simp;omega,?_⟩
 · have g1:=kBf (e:=e) cj ci (I++(cj++N)) (V++tl) w b (i * r.n) (by rw [h3];simp) (G _ U) bJ5;have g2:=kBf (e:=e) ci cj I ((N++(cj++V))++tl) _ b (j * r.n) (by rw [g1];simp) (by rw [m1,l1]) bJ5;rw [g2];simp
 have F:=Srt.jBf X1 X2 D y x (i:=j) (j:=i) l1.symm bJ5;rw [Srt.sw_comm,show X1++y :: (X2++x :: D)=X1++y :: X2++x :: D by simp,F];simpa using hr
end
end kD
end Go.Proofs.YthocbplmdjkifabGreat
namespace Go.Proofs.YthocbplmdjkifabGreat
open Go.RowKit _root_.Go.Proofs.Tryz
variable {Q:Exit->Act->Ad->Prop} {P:Program} {op:Oper} {a:Act} {w:Ad}
def kWe (w:Ad) (b o:Nat) (ty:Be) (v:Ab) (cs:Aa Ab) (O:v.cells=cs.toArray) (ht:w.there b o cs.length) (hi:(P.info? ty).map (·.size)=some cs.length) (h1:∀ c∈cs,c.oneCell'=true) :
    (storeVar ty ⟨b,o,none⟩ v).run P w=.ok () (kD.setCells w b o cs):=by
 have:=run_storeCells_cells (P:=P) b o cs 0 w (λj J=>by simpa using (ht j bH9).1) (λj J=>by simpa using (ht j bH9).2) h1;cases hq:P.info? ty with
 | none=>simp [hq] at hi
 | some i =>
   have hs:cs.length=i.size:=by simp [hq] at hi;omega
   simp only [Nat.add_zero] at this;rw [<- kD.kJb];simp [storeVar,sizeOf,typeInfo,hq,O,hs,this]
def wp_storeV {K:Act->Ad->Prop} (ty:Be) (x y:Operand) (ho:op.op=.store ty x y)
    (b o:Nat) (v:Ab) (cs:Aa Ab) (O:v.cells=cs.toArray) (hx:a.eval x=.pointer (some ⟨b,o,none⟩)) (hy:a.eval y=v)
    (ht:w.there b o cs.length) (hi:(P.info? ty).map (·.size)=some cs.length) (h1:∀ c∈cs,c.oneCell'=true)
    (h:∀ w',w'=kD.setCells w b o cs->K (a.put op.dst undef) w'):op.wp P a w K Q:=by
 unfold Oper.wp execOp;simp only [ho,hx,hy,Instr.storeAt,Instr.sureAddr,Sem.run_bind,Sem.run_pure,Result.andThen_ok,kWe w b o ty v cs O ht hi h1];exact h _ rfl
def kHv {ops:Bc Oper} {rest:Aa Oper} (D:op.guard=none) (ty:Be) (x y:Operand) (ho:op.op=.store ty x y)
    (b o:Nat) (v:Ab) (cs:Aa Ab) (O:v.cells=cs.toArray) (hx:a.eval x=.pointer (some ⟨b,o,none⟩)) (hy:a.eval y=v)
    (ht:w.there b o cs.length) (hi:(P.info? ty).map (·.size)=some cs.length) (h1:∀ c∈cs,c.oneCell'=true)
    (h:∀ w',w'=kD.setCells w b o cs->wpList P ops Q rest (a.put op.dst undef) w'):wpList P ops Q (op :: rest) a w :=
  wpList_plain D λ_ E=>wp_storeV ty x y ho b o v cs O hx hy ht hi h1 (λw' hw=>E _ _ (h w' hw))
namespace kD
section
variable {α:Type} {r:kD α} {e:Be} {w w' u:Ad} {v:Ab} {b cap len n i j:Nat} {xs:Aa α} {x y:α} {S T:Nat->Prop}
def jFp {m o p:Nat} {cs:Aa Ab} (h:w.there b o m):(setCells w b p cs).there b o m:=by
 rw [<- kJb];exact World.there_setCells h b p cs
def kNo (h:ko e r w (.slice (Qa b) len cap) xs S) (hi:i < xs.length):w.there b (i * r.n) r.n:=by
 obtain ⟨hb,h⟩:=h;rcases h with ⟨⟨a,h0⟩,rfl⟩|⟨b',cap',cur,cs,tl,h0,h1,h2,h3,h4,h5,h6,h7⟩;simp at hi;simp only [Ar,Au,Bb,and_true] at h0;obtain ⟨rfl,rfl,rfl⟩:=h0;intro j J;have hlt:i * r.n + j < cur.size:=by
  rw [h5];have:(i + 1) * r.n<=cap * r.n:=Nat.mul_le_mul_right _ bJ5;rw [Nat.add_mul] at this;omega
 refine ⟨?_,Ba w b _ _ _ h3⟩;rw [cell_of_row w b _ _ e (0,0) h3,Array.getElem?_eq_getElem hlt];rfl
def jCe (h:ko e r w (.slice (Qa b) len cap) xs S) (hi:i < xs.length):S b/\b < w.heap.size:=by
 obtain ⟨b',cap',h0,h1,h2,_⟩:=kAp h hi;simp only [Ar,Au,Bb,and_true] at h0;obtain ⟨rfl,_,_⟩:=h0;exact ⟨h1,h2⟩
end
end kD
def jFm {S:Nat->Prop} {b:Nat} {w':Ad} (h:Touch (λk=>k=b) w w') (hb:S b):Touch S w w':=h.wide (λk hk=>hk ▸ hb)
end Go.Proofs.YthocbplmdjkifabGreat
namespace Go.Proofs.YthocbplmdjkifabGreat
open Go.RowKit _root_.Go.Proofs.Tryz
variable {α:Type} {w:Ad} {S:Nat->Prop} {cp:Bc Ab} {a:Nat} {g:Aw} {key:α->Int} {cu:Aa α}
namespace kD
def cells1 {b o:Nat} {c0:Ab} (h0:Qc w b o c0):∀ q u,([c0]:Aa Ab)[q]?=some u->Qc w b (o + q) u:=by
 intro q u hq
 match q with
 | 0=>simp at hq;subst hq;exact h0
 | q + 1=>simp at hq
def cells3 {b o:Nat} {c0 c1 c2:Ab} (h0:Qc w b o c0) (h1:Qc w b (o + 1) c1) (h2:Qc w b (o + 2) c2):∀ q u,([c0,c1,c2]:Aa Ab)[q]?=some u->Qc w b (o + q) u:=by
 intro q u hq
 match q with
 | 0=>simp at hq;subst hq;exact h0
 | 1=>simp at hq;subst hq;exact h1
 | 2=>simp at hq;subst hq;exact h2
 | q + 3=>simp at hq
end kD
def jGs {j k:Nat} (hk:k + 1=j) (ha:a < j) (J:j < cu.length) (Z:k < cu.length) (h:decide (key cu[j] < key cu[k])=true):Srt.inner key a j cu=Srt.inner key a k (Srt.sw cu j k):=by
 subst hk;have h:=Aq h;rw [Srt.inner,if_pos ⟨ha,by rw [Srt.kFc J,Srt.kFc Z];exact h⟩]
def inner_no {j k:Nat} (hk:k + 1=j) (J:j < cu.length) (Z:k < cu.length) (h:decide (key cu[j] < key cu[k])=false):Srt.inner key a j cu=cu:=by
 subst hk;have h:=of_decide_eq_false h;rw [Srt.inner,if_neg (by rintro ⟨_,q⟩;rw [Srt.kFc J,Srt.kFc Z] at q;exact h q)]
def jDf {j:Nat} (ha:¬ a < j):Srt.inner key a j cu=cu:=by
 cases j with
 | zero=>rfl
 | succ j=>rw [Srt.inner,if_neg (by rintro ⟨q,_⟩;exact ha q)]
def jCg {z i:Nat} (h:i < z):Srt.outer key a (z - i) i cu=Srt.outer key a (z - (i + 1)) (i + 1) (Srt.inner key a i cu):=by
 rw [show z - i=(z - (i + 1)) + 1 by omega,Srt.outer]
def jGi {z i:Nat} (h:¬ i < z):Srt.outer key a (z - i) i cu=cu:=by
 rw [show z - i=0 by omega,Srt.outer]
def jJa (key:Int->Int) (g:Aw) (cp:Bc Ab) (S:Nat->Prop) (w0:Ad):Prop :=
  ∀ wr,Touch S w0 wr->∀ x y c d,kD.int.raw wr [c] x->kD.int.raw wr [d] y->Al prog g (#[c,d]++cp) wr (λe w'=>∃ k:Int,e=.returned (.int .i64 k)/\decide (k < 0)=decide (key x < key y)/\Qb wr w')
def jIn {b n cap z:Nat} {xs:Aa Int} (key:Int->Int) (hg:jL prog g) (ag:jJa key g cp S w) (h:kD.ko 3 kD.int w (.slice (Qa b) n cap) xs S) (hn:n=xs.length) (hlen:xs.length<=16777216) (cc:a<=z) (hz:z<=xs.length) :
    Al prog 278 #[.slice (Qa b) n cap,.int .i64 (a:Nat),.int .i64 (z:Nat),.func (.func g) #[] cp] w λe w'=>e=.returned (.tuple #[])/\kD.ko 3 kD.int w' (.slice (Qa b) n cap) (Srt.kHc key a z xs) S/\Touch S w w':=by
 have al:=yD ag;unfold jL at hg;have D:=yD h;have b0:=yD hn;have b6:z<=16777216:=bJ5;have am:z<=n:=bJ5;clear ag h hn hlen hz;go_enter func278,ntmps278;go_wp2;go_loopw [8] (λi wr=>∃ (m:Nat) (cur:Aa Int),i=.int .i64 m/\a + 1<=m/\(m<=z\/m=a + 1)/\Hid (Srt.outer key a (z - m) m cur=Srt.kHc key a z xs)/\Hid (cur.length=n)/\Hid (kD.ko 3 kD.int wr (.slice (Qa b) n cap) cur S)/\Hid (Touch S w wr)) (λi _=>z - (intOf i).toNat);case atStart=>exact ⟨a + 1,xs,by go_num,Nat.le_refl _,.inr rfl,yD rfl,yD b0.symm,D,yD (Touch.refl _ _)⟩
 obtain ⟨i,cur,rfl,bu,Y,HF,b2,F,L⟩:=hrel;by_cases hlt:i < z
 · have b7:(i:Int) < z:=bJ5;have bg:=yD (jCg (key:=key) (a:=a) (cu:=cur) hlt);go_wp2;go_loopw [9] (λj wr=>∃ (m:Nat) (cu:Aa Int),j=.int .i64 m/\a<=m/\m<=i/\Hid (Srt.inner key a m cu=Srt.inner key a i cur)/\Hid (cu.length=n)/\Hid (kD.ko 3 kD.int wr (.slice (Qa b) n cap) cu S)/\Hid (Touch S w wr)) (λj _=>(intOf j).toNat);case atStart=>exact ⟨i,cur,rfl,by omega,Nat.le_refl _,yD rfl,b2,F,L⟩
   obtain ⟨j,cu,rfl,b8,a7,ba,an,ae,b1⟩:=hrel;have dh:=Aj j;have b9:(j:Int) < z:=bJ5;by_cases bj:a < j
   · refine uZ λk hk aq Z X ek br dt bh hw hp bv HY ax=>?_;obtain ⟨bl,pr,J⟩:=kD.at1 ae.kMm aq rfl;obtain ⟨aj,ap⟩:=kD.yX pr;obtain rfl:bl=_:=by simpa using aj
     clear aj ap;obtain ⟨ah,qr,G⟩:=kD.at1 ae.kMm Z rfl;obtain ⟨ai,ao⟩:=kD.yX qr;obtain rfl:ah=_:=by simpa using ai
     clear ai ao;generalize cu[j]=x at *;generalize cu[k]=y at *;go_upto_region 4 with fail;have FX:=yD (λ(W:Ad) (hW:Qb wr W)=>kNa hW J G);refine y5 ?_;refine uB λwS I=>?_;all_goals (refine jo λb a1=>?_;cases b <;> try simp only [jm] at a1)
     all_goals ((iterate 10 refine kZ ?_);(first|(refine kI rfl I ?_)|(refine ku rfl (λK E=>?_);go_simp;refine (al.out _ (b1.trans (Touch.of_below I)) _ _ _ _ (kD.raw.below pr I) (kD.raw.below qr I)).mono ?_;rintro e wS1 ⟨kk,rfl,ab,af⟩;replace I:=(tQ I af);refine E _ _ I ?_;clear E K af));refine jD ?_;refine kZ ?_;refine jo λb V=>?_;cases b <;> try simp only [jm] at V)
     all_goals (refine kR ?_;have H:=yD (b1.trans (Touch.of_below I));replace ae:=yD (ae.below I))
     all_goals first
       | (have HV:=yD (show decide (key x < key y)=false by first|(exact V)|(simpa using V)|(rw [<- ab];simpa using V));have a5:Hid (cu=Srt.inner key a i cur):=yD (ax.out HV.out);clear ax HY ab V;have bp:=ae;have aa:Hid (Srt.outer key a (z - (i + 1)) (i + 1) cu=Srt.kHc key a z xs):=yD tC;refine Qg ?_;exact ⟨i + 1,cu,by go_num,by omega,.inl bJ5,aa,an,bp,H⟩)
       | have HV:=yD (show decide (key x < key y)=true by first|(exact V)|(simpa using V)|(rw [<- ab];simpa using V))
     have b3:=yD (HY.out HV.out);clear HY ax ab V HV;refine aL I J G λJ G=>?_;clear I;generalize wS1=bm at *;go_upto_region 6 with fail;have FX:=yD (λ(W:Ad) (hW:Qb bm W)=>kNa hW J G);refine uT λwS I H ae=>?_;refine aL I J G λJ G=>?_;have BK:=kD.jCe ae.out aq;have ar:j * kD.int.n=j:=Nat.mul_one _;have U:k * kD.int.n=k:=Nat.mul_one _;have bt:wS.there b (j) 1:=pO;have bw:wS.there b (k) 1:=qM;have ak:∀ q u,([.int .i64 x]:Aa Ab)[q]?=some u->wS.cell? ⟨b,j * kD.int.n + q,none⟩=some u:=by rw [ar];exact kD.cells1 J
     have a3:∀ q u,([.int .i64 y]:Aa Ab)[q]?=some u->wS.cell? ⟨b,k * kD.int.n + q,none⟩=some u:=by rw [U];exact kD.cells1 G
     obtain ⟨s1,s2⟩:=kD.jGg (ci:=[.int .i64 x]) (cj:=[.int .i64 y]) ae.out aq Z bJ5 rfl rfl ak a3 (pi:=j) (pj:=k) ar.symm U.symm;refine aN s1 s2 λbe a2=>?_;clear s1 s2 ak a3 ar U;have bn:(prog.info? 3).map (·.size)=some 1:=by simpa using congrArg (λo=>o.map (λz=>z.2.1)) zk
     have R:∀ c∈([.int .i64 x]:Aa Ab),c.oneCell'=true:=dL;have O:∀ c∈([.int .i64 y]:Aa Ab),c.oneCell'=true:=dL;refine kHv rfl 3 _ _ rfl b (j) (Qn y) [.int .i64 y] rfl bJ7 bJ7 bt bn O ?_;intro w5 ac;have av:w5.there b (k) 1:=by rw [ac];exact kD.jFp bw
     have bo:=yD ac;clear ac;go_wp2_with (refine kHv rfl 3 _ _ rfl b (k) (Qn x) [.int .i64 x] rfl bJ7 bJ7 av bn R ?_);rw [<- bo.out] at be a2;generalize bq:kD.setCells w5 b (k) [.int .i64 x]=w6 at *;exact F9
   exact lW
 exact IG
def kXn (key:jH->Int) (g:Aw) (cp:Bc Ab) (S:Nat->Prop) (w0:Ad):Prop :=
  ∀ wr,Touch S w0 wr->∀ x y cs ds,jA.raw wr cs x->jA.raw wr ds y->Al prog g (#[.agg cs.toArray,.agg ds.toArray]++cp) wr (λe w'=>∃ k:Int,e=.returned (.int .i64 k)/\decide (k < 0)=decide (key x < key y)/\Qb wr w')
def jDe {b n cap z:Nat} {xs:Aa jH} (key:jH->Int) (hg:jL prog g) (ag:kXn key g cp S w) (h:kD.ko 139 jA w (.slice (Qa b) n cap) xs S) (hn:n=xs.length) (hlen:xs.length<=16777216) (cc:a<=z) (hz:z<=xs.length) :
    Al prog 276 #[.slice (Qa b) n cap,.int .i64 (a:Nat),.int .i64 (z:Nat),.func (.func g) #[] cp] w λe w'=>e=.returned (.tuple #[])/\kD.ko 139 jA w' (.slice (Qa b) n cap) (Srt.kHc key a z xs) S/\Touch S w w':=by
 have al:=yD ag;unfold jL at hg;have D:=yD h;have b0:=yD hn;have b6:z<=16777216:=bJ5;have am:z<=n:=bJ5;clear ag h hn hlen hz;go_enter func276,ntmps276;go_wp2;go_loopw [8] (λi wr=>∃ (m:Nat) (cur:Aa jH),i=.int .i64 m/\a + 1<=m/\(m<=z\/m=a + 1)/\Hid (Srt.outer key a (z - m) m cur=Srt.kHc key a z xs)/\Hid (cur.length=n)/\Hid (kD.ko 139 jA wr (.slice (Qa b) n cap) cur S)/\Hid (Touch S w wr)) (λi _=>z - (intOf i).toNat);case atStart=>exact ⟨a + 1,xs,by go_num,Nat.le_refl _,.inr rfl,yD rfl,yD b0.symm,D,yD (Touch.refl _ _)⟩
 obtain ⟨i,cur,rfl,bu,Y,HF,b2,F,L⟩:=hrel;by_cases hlt:i < z
 · have b7:(i:Int) < z:=bJ5;have bg:=yD (jCg (key:=key) (a:=a) (cu:=cur) hlt);go_wp2;go_loopw [9] (λj wr=>∃ (m:Nat) (cu:Aa jH),j=.int .i64 m/\a<=m/\m<=i/\Hid (Srt.inner key a m cu=Srt.inner key a i cur)/\Hid (cu.length=n)/\Hid (kD.ko 139 jA wr (.slice (Qa b) n cap) cu S)/\Hid (Touch S w wr)) (λj _=>(intOf j).toNat);case atStart=>exact ⟨i,cur,rfl,by omega,Nat.le_refl _,yD rfl,b2,F,L⟩
   obtain ⟨j,cu,rfl,b8,a7,ba,an,ae,b1⟩:=hrel;have dh:=Aj j;have b9:(j:Int) < z:=bJ5;by_cases bj:a < j
   · refine uZ λk hk aq Z X ek br dt bh hw hp bv HY ax=>?_;obtain ⟨bl,ce,ch,pr,J,c6,a4⟩:=kD.at3 ae.kMm aq rfl;obtain ⟨rfl,rfl,ay,ap,a8,bc⟩:=yS pr;obtain ⟨bx,bz,rfl,bf⟩:=kD.sl ap;clear ay ap a8 bc;obtain ⟨ah,aj,ao,qr,G,bd,bk⟩:=kD.at3 ae.kMm Z rfl;obtain ⟨rfl,rfl,au,az,aw,bi⟩:=yS qr;obtain ⟨ai,a6,rfl,bb⟩:=kD.sl az;clear au az aw bi;generalize cu[j]=x at *;generalize cu[k]=y at *;go_upto_region 4 with fail;have FX:=yD (λ(W:Ad) (hW:Qb wr W)=>kPa hW J c6 a4 G bd bk);refine y5 ?_;refine uB λwS I=>?_;all_goals (refine jo λb a1=>?_;cases b <;> try simp only [jm] at a1)
     all_goals ((iterate 10 refine kZ ?_);(first|(refine kI rfl I ?_)|(refine ku rfl (λK E=>?_);go_simp;refine (al.out _ (b1.trans (Touch.of_below I)) _ _ _ _ (kD.raw.below pr I) (kD.raw.below qr I)).mono ?_;rintro e wS1 ⟨kk,rfl,ab,af⟩;replace I:=(tQ I af);refine E _ _ I ?_;clear E K af));refine jD ?_;refine kZ ?_;refine jo λb V=>?_;cases b <;> try simp only [jm] at V)
     all_goals (refine kR ?_;have H:=yD (b1.trans (Touch.of_below I));replace ae:=yD (ae.below I))
     all_goals first
       | (have HV:=yD (show decide (key x < key y)=false by first|(exact V)|(simpa using V)|(rw [<- ab];simpa using V));have a5:Hid (cu=Srt.inner key a i cur):=yD (ax.out HV.out);clear ax HY ab V;have bp:=ae;have aa:Hid (Srt.outer key a (z - (i + 1)) (i + 1) cu=Srt.kHc key a z xs):=yD tC;refine Qg ?_;exact ⟨i + 1,cu,by go_num,by omega,.inl bJ5,aa,an,bp,H⟩)
       | have HV:=yD (show decide (key x < key y)=true by first|(exact V)|(simpa using V)|(rw [<- ab];simpa using V))
     have b3:=yD (HY.out HV.out);clear HY ax ab V HV;refine aJ I J c6 a4 λJ c6 a4=>?_;refine aJ I G bd bk λG bd bk=>?_;clear I;generalize wS1=bm at *;go_upto_region 6 with fail;have FX:=yD (λ(W:Ad) (hW:Qb bm W)=>kPa hW J c6 a4 G bd bk);refine uT λwS I H ae=>?_;refine aJ I J c6 a4 λJ c6 a4=>?_;refine aJ I G bd bk λG bd bk=>?_;have BK:=kD.jCe ae.out aq;have ar:j * jA.n=j * 3:=rfl;have U:k * jA.n=k * 3:=rfl;have bt:wS.there b (j * 3) 3:=pO;have bw:wS.there b (k * 3) 3:=qM;have ak:∀ q u,([.slice bx x.1.length bz,.int .i64 x.2.1,.int .i64 x.2.2]:Aa Ab)[q]?=some u->wS.cell? ⟨b,j * jA.n + q,none⟩=some u:=by rw [ar];exact kD.cells3 J c6 a4
     have a3:∀ q u,([.slice ai y.1.length a6,.int .i64 y.2.1,.int .i64 y.2.2]:Aa Ab)[q]?=some u->wS.cell? ⟨b,k * jA.n + q,none⟩=some u:=by rw [U];exact kD.cells3 G bd bk
     obtain ⟨s1,s2⟩:=kD.jGg (ci:=[.slice bx x.1.length bz,.int .i64 x.2.1,.int .i64 x.2.2]) (cj:=[.slice ai y.1.length a6,.int .i64 y.2.1,.int .i64 y.2.2]) ae.out aq Z bJ5 rfl rfl ak a3 (pi:=j * 3) (pj:=k * 3) ar.symm U.symm;refine aN s1 s2 λbe a2=>?_;clear s1 s2 ak a3 ar U;have bn:(prog.info? 139).map (·.size)=some 3:=by simpa using congrArg (λo=>o.map (λz=>z.2.1)) kIk
     have R:∀ c∈([.slice bx x.1.length bz,.int .i64 x.2.1,.int .i64 x.2.2]:Aa Ab),c.oneCell'=true:=dB;have O:∀ c∈([.slice ai y.1.length a6,.int .i64 y.2.1,.int .i64 y.2.2]:Aa Ab),c.oneCell'=true:=dB;refine kHv rfl 139 _ _ rfl b (j * 3) (.agg #[Qs ai y.1 a6,Qn y.2.1,Qn y.2.2]) [.slice ai y.1.length a6,.int .i64 y.2.1,.int .i64 y.2.2] rfl bJ7 bJ7 bt bn O ?_;intro w5 ac;have av:w5.there b (k * 3) 3:=by rw [ac];exact kD.jFp bw
     have bo:=yD ac;clear ac;go_wp2_with (refine kHv rfl 139 _ _ rfl b (k * 3) (.agg #[Qs bx x.1 bz,Qn x.2.1,Qn x.2.2]) [.slice bx x.1.length bz,.int .i64 x.2.1,.int .i64 x.2.2] rfl bJ7 bJ7 av bn R ?_);rw [<- bo.out] at be a2;generalize bq:kD.setCells w5 b (k * 3) [.slice bx x.1.length bz,.int .i64 x.2.1,.int .i64 x.2.2]=w6 at *;exact F9
   exact lW
 exact IG
end Go.Proofs.YthocbplmdjkifabGreat
namespace Go.Proofs.YthocbplmdjkifabGreat
open Go.RowKit _root_.Go.Proofs.Tryz
variable {cp:Bc Ab} {w:Ad} {v:Ab} {g:Aw} {S:Nat->Prop} {Q:Ad->Prop} {n:Nat}
def kZg:Al prog 278 #[v,.int .i64 (0:Nat),.int .i64 (0:Nat),.func (.func g) #[] cp] w λe w'=>e=.returned (.tuple #[])/\w'=w:=by
 go_enter func278,ntmps278;exact IJ
def jHr (hn:n<=19) (H:Al prog 278 #[v,.int .i64 (0:Nat),.int .i64 n,.func (.func g) #[] cp] w λe w'=>e=.returned (.tuple #[])/\Q w') :
    Al prog 246 #[v,.int .i64 n,.func (.func g) #[] cp] w λe w'=>e=.returned (.tuple #[])/\Q w':=by
 have HX:=yD H;have a1:(n:Int)<=19:=bJ5;have V:=Aj n;clear H hn;go_enter func246,ntmps246;exact PL
def kXg {xs:Aa Int} (key:Int->Int) (hg:jL prog g) (ag:jJa key g cp S w) (h:kD.ko 3 kD.int w v xs S) (hlen:xs.length<=19) :
    Al prog 192 #[v,.func (.func g) #[] cp] w λe w'=>e=.returned (.tuple #[])/\kD.ko 3 kD.int w' v (Srt.sorted key xs) S/\Touch S w w':=by
 obtain ⟨a,cap,rfl⟩:∃ a cap,v=.slice a xs.length cap:=by
  exact J3
 have HC:=yD (jHr (w:=w) (v:=Qs a xs cap) (g:=g) (cp:=cp) (Q:=λw'=>kD.ko 3 kD.int w' (Qs a xs cap) (Srt.sorted key xs) S/\Touch S w w') hlen (by
   rcases Nat.eq_zero_or_pos xs.length with h0 | h0
   · obtain rfl:xs=[]:=Ac h0;refine kZg.mono ?_;rintro e w2 ⟨rfl,hw⟩;obtain rfl:=hw.symm;exact ⟨rfl,h,Touch.refl _ _⟩
   · obtain ⟨b,c,hv,_⟩:=kD.kAp h h0;rw [hv] at h ⊢;rw [<- Srt.kWp];exact jIn key hg ag h rfl bJ5 (Nat.zero_le _) nL))
 clear h ag hg;go_enter func192,ntmps192;exact QU
def kUr:Al prog 276 #[v,.int .i64 (0:Nat),.int .i64 (0:Nat),.func (.func g) #[] cp] w λe w'=>e=.returned (.tuple #[])/\w'=w:=by
 go_enter func276,ntmps276;exact IJ
def jBg (hn:n<=19) (H:Al prog 276 #[v,.int .i64 (0:Nat),.int .i64 n,.func (.func g) #[] cp] w λe w'=>e=.returned (.tuple #[])/\Q w') :
    Al prog 244 #[v,.int .i64 n,.func (.func g) #[] cp] w λe w'=>e=.returned (.tuple #[])/\Q w':=by
 have HX:=yD H;have a1:(n:Int)<=19:=bJ5;have V:=Aj n;clear H hn;go_enter func244,ntmps244;exact PL
def kTj {xs:Aa jH} (key:jH->Int) (hg:jL prog g) (ag:kXn key g cp S w) (h:kD.ko 139 jA w v xs S) (hlen:xs.length<=19) :
    Al prog 187 #[v,.func (.func g) #[] cp] w λe w'=>e=.returned (.tuple #[])/\kD.ko 139 jA w' v (Srt.sorted key xs) S/\Touch S w w':=by
 obtain ⟨a,cap,rfl⟩:∃ a cap,v=.slice a xs.length cap:=by
  exact J3
 have HC:=yD (jBg (w:=w) (v:=Qs a xs cap) (g:=g) (cp:=cp) (Q:=λw'=>kD.ko 139 jA w' (Qs a xs cap) (Srt.sorted key xs) S/\Touch S w w') hlen (by
   rcases Nat.eq_zero_or_pos xs.length with h0 | h0
   · obtain rfl:xs=[]:=Ac h0;refine kUr.mono ?_;rintro e w2 ⟨rfl,hw⟩;obtain rfl:=hw.symm;exact ⟨rfl,h,Touch.refl _ _⟩
   · obtain ⟨b,c,hv,_⟩:=kD.kAp h h0;rw [hv] at h ⊢;rw [<- Srt.kWp];exact jDe key hg ag h rfl bJ5 (Nat.zero_le _) nL))
 clear h ag hg;go_enter func187,ntmps187;exact QU
end Go.Proofs.YthocbplmdjkifabGreat

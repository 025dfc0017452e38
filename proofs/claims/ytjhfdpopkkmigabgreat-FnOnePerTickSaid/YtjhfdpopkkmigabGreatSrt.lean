/-
  The stable sort as Go has it (blocks of twenty, merges in place by rotation) and the insertion sort: the same list. No program in sight.
-/
import Derived.Test.YtjhfdpopkkmigabGreatAli
set_option linter.unusedVariables false
set_option linter.defProp false
set_option linter.unusedSimpArgs false
set_option linter.unnecessarySimpa false
open List renaming take_append_drop->Aa,append_assoc->Ab,eq_nil_of_length_eq_zero->Ac,length_pos_iff->Ad,pairwise_cons->Ag,take_of_length_le->Ah,pairwise_append->Ai,filter_append->Aj,length->Am,mem_append->Ap,append_nil->Aq,nil_append->Ar,mem_cons->Au,filter_eq_nil_iff->Ay,length_eq_one_iff->Az,set_append_right->Ba,drop_drop->Bb
open _root_ renaming List->Ae,if_neg->Ak,if_pos->Al,congrArg->Av,decide_eq_false_iff_not->Aw,absurd->Be
open Bool renaming not_eq_false'->Bc,not_eq_true'->Bd
namespace Go.Proofs.YtjhfdpopkkmigabGreat.Srt
section
variable {α:Type} (key:α->Int)
def Asc (l:Ae α):Prop:=l.Pairwise (λa b=>key a<=key b)
def Same (l o:Ae α):Prop:=∀ v,l.filter (λx=>decide (key x=v))=o.filter (λx=>decide (key x=v))
variable {key}
def Same.refl (l:Ae α):Same key l l:=λ_=>rfl
def Same.symm {l o:Ae α} (h:Same key l o):Same key o l:=λv=>(h v).symm
def Same.trans {a b c:Ae α} (h:Same key a b) (k:Same key b c):Same key a c:=λv=>(h v).trans (k v)
def Same.append {a a' b b':Ae α} (h:Same key a a') (k:Same key b b'):Same key (a++b) (a'++b'):=λv=>by
  rw [Aj,Aj,h v,k v]
def Same.mem {l o:Ae α} (h:Same key l o) {x:α} (hx:x∈l):x∈o:=by
 have h1:x∈l.filter (λy=>decide (key y=key x)):=by simp [hx]
 rw [h] at h1;exact (List.mem_filter.1 h1).1
def Same.nil {l:Ae α} (h:Same key [] l):l=[]:=by
 cases l with
 | nil=>rfl
 | cons y ys=>exact Be (h.symm.mem (List.mem_cons_self)) bH4
def Same.swap {a b:Ae α} (h:∀ x∈a,∀ y∈b,key x≠key y):Same key (a++b) (b++a):=λv=>by
  rw [Aj,Aj];by_cases hv:∃ x∈a,key x=v
  · obtain ⟨x,hx,rfl⟩:=hv;have:b.filter (λz=>decide (key z=key x))=[]:=by
      rw [Ay];intro y hy q;exact h x hx y hy (by simpa using (of_decide_eq_true q).symm)
    rw [this];simp
  · have:a.filter (λz=>decide (key z=v))=[]:=by
      rw [Ay];intro y hy q;exact hv ⟨y,hy,of_decide_eq_true q⟩
    rw [this];simp
def uniq:∀ {l o:Ae α},Asc key l->Asc key o->Same key l o->l=o
  | [],o,_,_,h=>h.nil.symm
  | l,[],_,_,h=>h.symm.nil
  | x :: xs,y :: ys,h1,h2,h=>by
    have hk:∀ {x y:α} {xs ys:Ae α},Asc key (y :: ys)->Same key (x :: xs) (y :: ys)->key y<=key x:=by
      intro x y xs ys h2 h;have hm:=h.mem (List.mem_cons_self (a:=x) (l:=xs));rcases Au.1 hm with e | e
      · rw [e];exact Int.le_refl _
      · exact (Ag.1 h2).1 x e
    have e:key x=key y:=Int.le_antisymm (hk h1 h.symm) (hk h2 h);have hx:=h (key x);rw [List.filter_cons_of_pos bH4,List.filter_cons_of_pos (by simp [e])] at hx;have D:x=y:=(List.cons.inj hx).1;subst D;congr 1;refine uniq (Ag.1 h1).2 (Ag.1 h2).2 (λv=>?_);have hv:=h v;by_cases q:key x=v
    · rw [List.filter_cons_of_pos (by simp [q]),List.filter_cons_of_pos (by simp [q])] at hv;exact (List.cons.inj hv).2
    · rw [List.filter_cons_of_neg (by simp [q]),List.filter_cons_of_neg (by simp [q])] at hv;exact hv
def Asc.append {a b:Ae α} (h:Asc key a) (k:Asc key b) (q:∀ x∈a,∀ y∈b,key x<=key y):Asc key (a++b):=Ai.2 ⟨h,k,q⟩
def Asc.left {a b:Ae α} (h:Asc key (a++b)):Asc key a:=(Ai.1 h).1
def Asc.right {a b:Ae α} (h:Asc key (a++b)):Asc key b:=(Ai.1 h).2.1
def Asc.cross {a b:Ae α} (h:Asc key (a++b)):∀ x∈a,∀ y∈b,key x<=key y:=(Ai.1 h).2.2
variable (key)
def zJ (xs:Ae α) (i:Nat):Int:=((xs[i]?).map key).getD 0
variable {key}
def zZ {xs:List α} {i:Nat} (h:i < xs.length):zJ key xs i=key xs[i]:=by simp [zJ,h]
def kAt_left {a b:List α} {i:Nat} (h:i < a.length):zJ key (a++b) i=zJ key a i:=by simp [zJ,List.getElem?_append_left h]
def kZx {a b:Ae α} {i j:Nat} (h:j=a.length + i):zJ key (a++b) j=zJ key b i:=by
 subst h;simp [zJ,List.getElem?_append_right]
def Asc.kAt_le {l:Ae α} (h:Asc key l) {i j:Nat} (D:i<=j) (hj:j < l.length):zJ key l i<=zJ key l j:=by
 rw [zZ bH3,zZ hj];rcases Nat.lt_or_ge i j with q | q
 · exact List.pairwise_iff_getElem.1 h i j bH3 hj q
 obtain rfl:i=j:=bH3;exact Int.le_refl _
def kXb {l:Ae α} {x:α} (h:x∈l):∃ i,i < l.length/\zJ key l i=key x:=by
 obtain ⟨i,hi,rfl⟩:=List.getElem_of_mem h;exact ⟨i,hi,zZ hi⟩
def sw (xs:Ae α) (i j:Nat):Ae α:=match xs[i]?,xs[j]? with
  | some x,some y=>(xs.set i y).set j x
  | _,_=>xs
def jAv {xs:List α} {i j:Nat} (hi:i < xs.length) (hj:j < xs.length):sw xs i j=(xs.set i xs[j]).set j xs[i]:=by simp [sw,hi,hj]
def kAw (xs:Ae α) (i j:Nat):(sw xs i j).length=xs.length:=by
 unfold sw;split <;> simp
def jAw (xs:Ae α) (i j:Nat):sw xs i j=sw xs j i:=by
 by_cases hi:i < xs.length
 · by_cases hj:j < xs.length
   · rw [jAv hi hj,jAv hj hi];by_cases e:i=j
     · subst e;rfl
     exact List.set_comm _ _ e
   simp [sw,hj,Nat.not_lt.1 hj]
 simp [sw,hi,Nat.not_lt.1 hi]
def kJf (p m q:Ae α) (x y:α) {i j:Nat} (hi:i=p.length) (hj:j=p.length + 1 + m.length):sw (p++x :: m++y :: q) i j=p++y :: m++x :: q:=by
 subst hi hj;have h1:p.length < (p++x :: m++y :: q).length:=bH4;have h2:p.length + 1 + m.length < (p++x :: m++y :: q).length:=bG7;rw [jAv h1 h2];have e1:(p++x :: m++y :: q)[p.length]=x:=bH4;have e2:(p++x :: m++y :: q)[p.length + 1 + m.length]=y:=by
  rw [List.getElem_append_right bG7];simp [show p.length + 1 + m.length - (p.length + (m.length + 1))=0 by omega]
 rw [e1,e2];have e3:(p++x :: m++y :: q).set p.length y=p++y :: m++y :: q:=by
  rw [Ab,Ba _ _ nL];simp
 rw [e3];rw [Ba _ _ bG7];simp [show p.length + 1 + m.length - (p.length + (m.length + 1))=0 by omega]
variable (key)
def inner (a:Nat):Nat->Ae α->Ae α
  | 0,xs=>xs
  | j + 1,xs=>if a < j + 1/\zJ key xs (j + 1) < zJ key xs j then inner a j (sw xs (j + 1) j) else xs
def outer (a:Nat):Nat->Nat->Ae α->Ae α
  | 0,_,xs=>xs
  | n + 1,i,xs=>outer a n (i + 1) (inner key a i xs)
def kCb (a b:Nat) (xs:Ae α):Ae α:=outer key a (b - (a + 1)) (a + 1) xs
variable {key}
def kKo:∀ (a j:Nat) (xs:Ae α),(inner key a j xs).length=xs.length
  | _,0,_=>rfl
  | a,j + 1,xs=>by
    unfold inner;split
    · rw [kKo,kAw]
    · rfl
def kQj:∀ (a n i:Nat) (xs:Ae α),(outer key a n i xs).length=xs.length
  | _,0,_,_=>rfl
  | a,n + 1,i,xs=>by
    unfold outer;rw [kQj,kKo]
def kCj (a b:Nat) (xs:Ae α):(kCb key a b xs).length=xs.length:=kQj _ _ _ _
def inner_spec:∀ (A:Ae α) (P Q:Ae α) (x:α) (a j:Nat),P.length=a->j=a + A.length->Asc key A ->
    ∃ M,inner key a j (P++A++x :: Q)=P++M++Q/\Asc key M/\Same key (A++[x]) M:=by
 intro A
 induction hn:A.length generalizing A with
 | zero =>
   intro P Q x a j hP hj hA;obtain rfl:A=[]:=Ac hn;refine ⟨[x],?_,by simp [Asc],Same.refl _⟩;have D:j=a:=bD9;subst D;cases j with
   | zero=>simp [inner]
   | succ j=>unfold inner;rw [Ak bH3];simp
 | succ n ih =>
   intro P Q x a j hP hj hA;obtain ⟨B,y,rfl⟩:∃ B y,A=B++[y]:=⟨A.dropLast,A.getLast (by intro h;simp [h] at hn),(List.dropLast_concat_getLast _).symm⟩;have hB:B.length=n:=by simpa using hn
   obtain ⟨i,rfl⟩:∃ i,j=i + 1:=⟨j - 1,by omega⟩;have hi:i=a + B.length:=bH3;have F:zJ key (P++(B++[y])++x :: Q) i=key y:=by
     rw [zZ bG7];congr 1;rw [List.getElem_append_left bG7,List.getElem_append_right bH3];simp [show i - P.length=B.length by omega]
   have o:zJ key (P++(B++[y])++x :: Q) (i + 1)=key x:=by
     rw [zZ bG7];congr 1;rw [List.getElem_append_right bG7];simp [show i + 1 - (P.length + (B.length + 1))=0 by omega]
   unfold inner;rw [F,o];by_cases hlt:key x < key y
   · rw [Al ⟨by omega,hlt⟩];have E:sw (P++(B++[y])++x :: Q) (i + 1) i=P++B++x :: (y :: Q):=by
       rw [jAw];have:=kJf (P++B) [] Q y x (i:=i) (j:=i + 1) bG7 bG7;simpa using this
     rw [E];obtain ⟨M,h1,h2,h3⟩:=ih B hB P (y :: Q) x a i hP bH3 hA.left;refine ⟨M++[y],by rw [h1];simp,?_,?_⟩
     · refine h2.append (by simp [Asc]) ?_;intro u hu v hv;obtain rfl:v=y:=bF1;have V:=h3.symm.mem hu;rcases Ap.1 V with q | q
       · exact hA.cross u q v bH4
       · obtain rfl:u=x:=bF8;omega
     · have s1:Same key (B++[y]++[x]) (B++[x]++[y]):=by
         rw [Ab,Ab];refine (Same.refl B).append (Same.swap ?_);intro u hu v hv;obtain rfl:u=y:=by simpa using hu
         obtain rfl:v=x:=bF1;omega
       exact s1.trans (h3.append (Same.refl [y]))
   · rw [Ak (by rintro ⟨_,q⟩;exact hlt q)];refine ⟨B++[y]++[x],by simp,?_,Same.refl _⟩;refine hA.append (by simp [Asc]) ?_;intro u hu v hv;obtain rfl:v=x:=bF1;rcases Ap.1 hu with q | q
     · have:=hA.cross u q y bH4;omega
     · obtain rfl:u=y:=bF8;omega
def kWm:∀ (n:Nat) (A C P Q:Ae α) (a i:Nat),C.length=n->P.length=a->i=a + A.length->Asc key A ->
    ∃ M,outer key a n i (P++A++C++Q)=P++M++Q/\Asc key M/\Same key (A++C) M
  | 0,A,C,P,Q,a,i,hC,hP,hi,hA=>by
    obtain rfl:C=[]:=Ac hC;exact ⟨A,by simp [outer],hA,by simpa using Same.refl A⟩
  | n + 1,A,C,P,Q,a,i,hC,hP,hi,hA=>by
    obtain ⟨x,C,rfl⟩:∃ x D,C=x :: D:=by cases C with | nil=>simp at hC | cons x D=>exact ⟨x,D,rfl⟩
    obtain ⟨M,h1,h2,h3⟩:=inner_spec A P (C++Q) x a i hP hi hA;have hl:=Av Am h1;rw [kKo] at hl;obtain ⟨M2,h4,h5,h6⟩:=kWm n M C P Q a (i + 1) (by simpa using hC) hP (by simp at hl;omega) h2;refine ⟨M2,?_,h5,?_⟩
    · unfold outer;rw [show P++A++x :: C++Q=P++A++x :: (C++Q) by simp,h1,show P++M++(C++Q)=P++M++C++Q by simp,h4]
    · refine Same.trans ?_ h6;rw [show A++x :: C=A++[x]++C by simp];exact h3.append (Same.refl C)
def kTm {M P Q:Ae α} {a b:Nat} (hP:P.length=a) (hb:b=a + M.length):∃ o,kCb key a b (P++M++Q)=P++o++Q/\Asc key o/\Same key M o:=by
 unfold kCb;cases M with
 | nil => 
   have:b - (a + 1)=0:=by simp at hb;omega
   rw [this];exact ⟨[],rfl,by simp [Asc],Same.refl _⟩
 | cons x C =>
   have:=kWm (key:=key) (b - (a + 1)) [x] C P Q a (a + 1) (by simp at hb;omega) hP bH4 (by simp [Asc]);simpa using this
def swr:Nat->Nat->Nat->Ae α->Ae α
  | 0,_,_,xs=>xs
  | n + 1,a,b,xs=>swr n (a + 1) (b + 1) (sw xs a b)
def kCv:∀ (n a b:Nat) (xs:Ae α),(swr n a b xs).length=xs.length
  | 0,_,_,_=>rfl
  | n + 1,a,b,xs=>by unfold swr;rw [kCv,kAw]
def kPx:∀ (X Y P M Q:Ae α) (n a b:Nat),X.length=n->Y.length=n->a=P.length->b=P.length + n + M.length->swr n a b (P++X++M++Y++Q)=P++Y++M++X++Q
  | [],Y,P,M,Q,n,a,b,hX,hY,ha,hb=>by
    obtain rfl:n=0:=by simpa using hX.symm
    obtain rfl:Y=[]:=Ac hY;simp [swr]
  | x :: X,Y,P,M,Q,n,a,b,hX,hY,ha,hb=>by
    obtain ⟨k,rfl⟩:∃ k,n=k + 1:=⟨X.length,by simpa using hX.symm⟩;obtain ⟨y,Y,rfl⟩:∃ y Z,Y=y :: Z:=by cases Y with | nil=>simp at hY | cons y Z=>exact ⟨y,Z,rfl⟩
    have hx:X.length=k:=by simpa using hX
    have hy:Y.length=k:=by simpa using hY
    unfold swr;have e:=kJf P (X++M) (Y++Q) x y (i:=a) (j:=b) ha bG7;rw [show P++x :: X++M++y :: Y++Q=P++x :: (X++M)++y :: (Y++Q) by simp,e];have ih:=kPx X Y (P++[y]) (M++[x]) Q k (a + 1) (b + 1) hx hy bG7 bG7;rw [show P++y :: (X++M)++x :: (Y++Q)=P++[y]++X++(M++[x])++Y++Q by simp,ih];simp
def rot (m i j:Nat) (xs:Ae α):Ae α :=
  if i=j then swr i (m - i) m xs
  else if h:0 < i/\0 < j then
    if j < i then rot m (i - j) j (swr j (m - i) m xs) else rot m i (j - i) (swr i (m - i) (m + j - i) xs)
  else xs
  termination_by i + j
  decreasing_by all_goals omega
def kPc (m i j:Nat) (xs:Ae α):(rot m i j xs).length=xs.length:=by
 induction hk:i + j using Nat.strongRecOn generalizing i j xs with
 | _ k ih =>
   unfold rot;split
   · exact kCv _ _ _ _
   · split
     · split
       · rw [ih _ bH3 _ _ _ rfl,kCv]
       · rw [ih _ bH3 _ _ _ rfl,kCv]
     · rfl
def rot_spec:∀ (k:Nat) (X Y P Q:Ae α) (m i j:Nat),i + j=k->X.length=i->Y.length=j->0 < i->0 < j->m=P.length + i->rot m i j (P++X++Y++Q)=P++Y++X++Q:=by
 intro k;induction k using Nat.strongRecOn with
 | _ k ih =>
   intro X Y P Q m i j hk hX hY hi hj hm;unfold rot;by_cases e:i=j
   · rw [Al e];have:=kPx X Y P [] Q i (m - i) m hX bH3 bH3 bG7;simpa using this
   · rw [Ak e,dif_pos ⟨hi,hj⟩];by_cases hlt:j < i
     · rw [Al hlt];have h1:=kPx (X.take j) Y P (X.drop j) Q j (m - i) m bG7 hY bH3 bG7;have e1:P++X.take j++X.drop j++Y++Q=P++X++Y++Q:=by rw [Ab P,Aa]
       rw [e1] at h1;rw [h1];have h2:=ih (i - j + j) bH3 (X.drop j) (X.take j) (P++Y) Q m (i - j) j rfl bG7 bG7 bH3 hj bG7;rw [h2];have:X.take j++X.drop j=X:=Aa j X;rw [Ab (P++Y),this]
     · rw [Ak hlt];have h1:=kPx X (Y.drop (j - i)) P (Y.take (j - i)) Q i (m - i) (m + j - i) hX bG7 bH3 bG7;have e1:P++X++Y.take (j - i)++Y.drop (j - i)++Q=P++X++Y++Q:=by rw [Ab (P++X),Aa]
       rw [e1] at h1;rw [h1];have h2:=ih (i + (j - i)) bH3 (Y.drop (j - i)) (Y.take (j - i)) P (X++Q) m i (j - i) rfl bG7 bG7 hi bH3 hm;rw [show P++Y.drop (j - i)++Y.take (j - i)++X++Q=P++Y.drop (j - i)++Y.take (j - i)++(X++Q) by simp,h2];have:Y.take (j - i)++Y.drop (j - i)=Y:=Aa _ Y;rw [Ab P,this];simp
def bs (p:Nat->Bool) (i j:Nat):Nat :=
  if h:i < j then (if p ((i + j) / 2) then bs p ((i + j) / 2 + 1) j else bs p i ((i + j) / 2)) else i
  termination_by j - i
  decreasing_by all_goals omega
def jBz (p:Nat->Bool):∀ (k i j:Nat),j - i=k->i<=j->i<=bs p i j/\bs p i j<=j/\(i < bs p i j->p (bs p i j - 1)=true)/\(bs p i j < j->p (bs p i j)=false):=by
 intro k;induction k using Nat.strongRecOn with
 | _ k ih =>
   intro i j hk D;unfold bs;by_cases h:i < j
   · rw [dif_pos h];cases q:p ((i + j) / 2)
     · rw [Ak bH4];obtain ⟨h1,h2,h3,h4⟩:=ih ((i + j) / 2 - i) bH3 i ((i + j) / 2) rfl bH3;refine ⟨h1,by omega,h3,λ_=>?_⟩;by_cases e:bs p i ((i + j) / 2) < (i + j) / 2
       · exact h4 e
       · rw [show bs p i ((i + j) / 2)=(i + j) / 2 by omega];exact q
     · rw [Al rfl];obtain ⟨h1,h2,h3,h4⟩:=ih (j - ((i + j) / 2 + 1)) bH3 ((i + j) / 2 + 1) j rfl bH3;refine ⟨by omega,h2,λ_=>?_,h4⟩;by_cases e:(i + j) / 2 + 1 < bs p ((i + j) / 2 + 1) j
       · exact h3 e
       · rw [show bs p ((i + j) / 2 + 1) j=(i + j) / 2 + 1 by omega];exact q
   · rw [dif_neg h];exact ⟨Nat.le_refl _,D,λq=>Be q (Nat.lt_irrefl _),λq=>Be q h⟩
def up:Nat->Nat->Ae α->Ae α
  | 0,_,xs=>xs
  | n + 1,k,xs=>up n (k + 1) (sw xs k (k + 1))
def kZa:∀ (n k:Nat) (xs:Ae α),(up n k xs).length=xs.length
  | 0,_,_=>rfl
  | n + 1,k,xs=>by unfold up;rw [kZa,kAw]
def up_spec:∀ (B P R:Ae α) (x:α) (n k:Nat),n=B.length->k=P.length->up n k (P++x :: B++R)=P++B++x :: R
  | [],P,R,x,n,k,hn,hk=>by subst hn;simp [up]
  | y :: B,P,R,x,n,k,hn,hk=>by
    subst hn;show up (B.length) (k + 1) (sw _ k (k + 1))=_;have e:=kJf P [] (B++R) x y (i:=k) (j:=k + 1) hk bG7;rw [show P++x :: y :: B++R=P++[x]++y :: (B++R) by simp,e];have:=up_spec B (P++[y]) R x B.length (k + 1) rfl bG7;rw [show P++[y]++x :: (B++R)=P++[y]++x :: B++R by simp,this];simp
def down (i:Nat):Nat->Ae α->Ae α
  | 0,xs=>xs
  | k + 1,xs=>if i < k + 1 then down i k (sw xs (k + 1) k) else xs
def kTo:∀ (i k:Nat) (xs:Ae α),(down i k xs).length=xs.length
  | _,0,_=>rfl
  | i,k + 1,xs=>by
    unfold down;split
    · rw [kTo,kAw]
    · rfl
def jAh:∀ (n:Nat) (B P R:Ae α) (x:α) (i k:Nat),B.length=n->i=P.length->k=i + n->down i k (P++B++x :: R)=P++x :: B++R
  | 0,B,P,R,x,i,k,hn,hi,hk=>by
    obtain rfl:B=[]:=Ac hn;cases k with
    | zero=>simp [down]
    | succ k=>unfold down;rw [Ak bH3];simp
  | n + 1,B,P,R,x,i,k,hn,hi,hk=>by
    obtain ⟨C,y,rfl⟩:∃ C y,B=C++[y]:=⟨B.dropLast,B.getLast (by intro h;simp [h] at hn),(List.dropLast_concat_getLast _).symm⟩;obtain ⟨k,rfl⟩:∃ q,k=q + 1:=⟨k - 1,by omega⟩;have hC:C.length=n:=by simpa using hn
    unfold down;rw [Al bH3];have e:=kJf (P++C) [] R y x (i:=k) (j:=k + 1) bG7 bG7;rw [jAw,show P++(C++[y])++x :: R=P++C++[y]++x :: R by simp,e];have:=jAh n C P (y :: R) x i k hC hi bH3;rw [show P++C++[x]++y :: R=P++C++x :: (y :: R) by simp,this];simp
def take_lt {B:Ae α} (h:Asc key B) {t:Nat} (ht:t<=B.length) {k:Int} (q:0 < t->zJ key B (t - 1) < k):∀ y∈B.take t,key y < k:=by
 intro y hy;obtain ⟨i,hi,e⟩:=kXb (key:=key) hy;simp at hi;rw [<- e];have h1:=h.kAt_le (i:=i) (j:=t - 1) bH3 bH3;have h2:=q bH3;have h3:zJ key (B.take t) i=zJ key B i:=by rw [zZ bG7,zZ bH3];simp
 omega
def kUz {B:Ae α} (h:Asc key B) {t:Nat} (ht:t<=B.length) {k:Int} (q:0 < t->zJ key B (t - 1)<=k):∀ y∈B.take t,key y<=k:=λy hy=>by
  have:=take_lt h ht (k:=k + 1) (λht=>by have:=q ht;omega) y hy;omega
def kVe {B:Ae α} (h:Asc key B) {t:Nat} {k:Int} (q:t < B.length->k<=zJ key B t):∀ y∈B.drop t,k<=key y:=by
 intro y hy;obtain ⟨i,hi,e⟩:=kXb (key:=key) hy;simp at hi;rw [<- e];have h1:=h.kAt_le (i:=t) (j:=t + i) bH3 bH3;have h2:=q bH3;have h3:zJ key (B.drop t) i=zJ key B (t + i):=by simp [zJ]
 omega
def drop_gt {B:Ae α} (h:Asc key B) {t:Nat} {k:Int} (q:t < B.length->k < zJ key B t):∀ y∈B.drop t,k < key y:=λy hy=>by
  have:=kVe h (k:=k + 1) (λht=>by have:=q ht;omega) y hy;omega
variable (key)
def symm:Nat->Nat->Nat->Nat->Ae α->Ae α
  | 0,_,_,_,xs=>xs
  | f + 1,a,m,b,xs =>
    if m - a=1 then up (bs (λh=>decide (zJ key xs h < zJ key xs a)) m b - 1 - a) a xs
    else if b - m=1 then down (bs (λh=>!decide (zJ key xs m < zJ key xs h)) a m) m xs
    else
      let mid:=(a + b) / 2
      let n:=mid + m
      let s:=bs (λc=>!decide (zJ key xs (n - 1 - c) < zJ key xs c)) (if mid < m then n - b else a) (if mid < m then mid else m)
      let e:=n - s
      let y:=if s < m/\m < e then rot m (m - s) (e - m) xs else xs
      let z:=if a < s/\s < mid then symm f a s mid y else y
      if mid < e/\e < b then symm f mid e b z else z
variable {key}
def jBs {c:Prop} [Decidable c] {A B:List α} {n:Nat} (h:A.length=n) (k:B.length=n):(if c then A else B).length=n:=by split <;> assumption
def kAc:∀ (f a m b:Nat) (xs:Ae α),(symm key f a m b xs).length=xs.length
  | 0,_,_,_,_=>rfl
  | f + 1,a,m,b,xs=>by
    unfold symm;split
    · exact kZa _ _ _
    · split
      · exact kTo _ _ _
      · have y:=λ(c:Prop) [Decidable c] (p i j:Nat)=>jBs (c:=c) (kPc p i j xs) rfl;have z:=λ(c d:Prop) [Decidable c] [Decidable d] (p i j k m n:Nat)=>jBs (c:=d) ((kAc f k m n _).trans (y c p i j)) (y c p i j);exact jBs ((kAc f _ _ _ _).trans (z _ _ _ _ _ _ _ _)) (z _ _ _ _ _ _ _ _)
def kNc:∀ (f a m b:Nat) (P A B Q:Ae α),b - a<=f->P.length=a->A≠[]->B≠[]->m=a + A.length->b=m + B.length->Asc key A->Asc key B ->
    ∃ M,symm key f a m b (P++A++B++Q)=P++M++Q/\Asc key M/\Same key (A++B) M
  | 0,a,m,b,P,A,B,Q,hf,hP,hA,hB,hm,hb,sA,sB=>by
    have:=Ad.2 hA;omega
  | f + 1,a,m,b,P,A,B,Q,hf,hP,hA,hB,hm,hb,sA,sB=>by
    have lA:=Ad.2 hA;have lB:=Ad.2 hB;have W:∀ i,i < A.length->zJ key (P++A++B++Q) (a + i)=zJ key A i:=λi hi=>by
      rw [show P++A++B++Q=P++(A++(B++Q)) by simp,kZx (i:=i) bH3,kAt_left hi]
    have Y:∀ i,i < B.length->zJ key (P++A++B++Q) (m + i)=zJ key B i:=λi hi=>by
      rw [show P++A++B++Q=(P++A)++(B++Q) by simp,kZx (i:=i) bG7,kAt_left hi]
    generalize O:P++A++B++Q=xs at W Y;unfold symm;by_cases c1:m - a=1
    · rw [Al c1];obtain ⟨x,rfl⟩:∃ x,A=[x]:=Az.1 bH3;have hx:zJ key xs a=key x:=by have:=W 0 bH4;simpa [zJ] using this
      obtain ⟨J,U,H,E⟩:=jBz (λh=>decide (zJ key xs h < zJ key xs a)) _ m b rfl bH3;generalize bs (λh=>decide (zJ key xs h < zJ key xs a)) m b=i at J U H E ⊢;have t1:∀ y∈B.take (i - m),key y < key x:=take_lt sB bH3 (λht=>by
        have h:=of_decide_eq_true (H bH3);rw [show i - 1=m + (i - m - 1) by omega,Y _ bH3] at h;omega)
      have t2:∀ y∈B.drop (i - m),key x<=key y:=kVe sB (λht=>by
        have h:=of_decide_eq_false (E bH3);rw [show i=m + (i - m) by omega,Y _ ht] at h;omega)
      have e:xs=P++x :: B.take (i - m)++(B.drop (i - m)++Q):=by rw [<- O];simp;rw [<- Ab,Aa]
      refine ⟨B.take (i - m)++x :: B.drop (i - m),?_,?_,?_⟩
      · rw [e,up_spec (B.take (i - m)) P (B.drop (i - m)++Q) x _ a (by simp at hm ⊢;omega) hP.symm];simp
      · have D:=sB;rw [<- Aa (i - m) B] at D;refine D.left.append (Ag.2 ⟨t2,D.right⟩) ?_;intro u hu v hv;rcases Au.1 hv with rfl | hv
        · have:=t1 u hu;omega
        · exact D.cross u hu v hv
      · have s1:Same key ([x]++B.take (i - m)++B.drop (i - m)) (B.take (i - m)++[x]++B.drop (i - m)):=by
          refine (Same.swap ?_).append (Same.refl _);intro u hu v hv;obtain rfl:u=x:=by simpa using hu
          have:=t1 v hv;omega
        simpa using s1
    rw [Ak c1];by_cases c2:b - m=1
    · rw [Al c2];obtain ⟨x,rfl⟩:∃ x,B=[x]:=Az.1 bH3;have hx:zJ key xs m=key x:=by have:=Y 0 bH4;simpa [zJ] using this
      obtain ⟨J,U,H,E⟩:=jBz (λh=>!decide (zJ key xs m < zJ key xs h)) _ a m rfl bH3;generalize bs (λh=>!decide (zJ key xs m < zJ key xs h)) a m=i at J U H E ⊢;have t1:∀ y∈A.take (i - a),key y<=key x:=kUz sA bH3 (λht=>by
        have h:=H bH3;simp only [Bd,Aw] at h;rw [show i - 1=a + (i - a - 1) by omega,W _ bH3] at h;omega)
      have t2:∀ y∈A.drop (i - a),key x < key y:=drop_gt sA (λht=>by
        have h:=E bH3;simp only [Bc,decide_eq_true_eq] at h;rw [show i=a + (i - a) by omega,W _ ht] at h;omega)
      have e:xs=(P++A.take (i - a))++A.drop (i - a)++x :: Q:=by
        rw [<- O,Ab P (A.take (i - a)),Aa];simp
      refine ⟨A.take (i - a)++x :: A.drop (i - a),?_,?_,?_⟩
      · rw [e,jAh (A.drop (i - a)).length (A.drop (i - a)) (P++A.take (i - a)) Q x i m rfl bG7 bG7];simp
      · have o:=sA;rw [<- Aa (i - a) A] at o;refine o.left.append (Ag.2 ⟨λy hy=>by have:=t2 y hy;omega,o.right⟩) ?_;intro u hu v hv;rcases Au.1 hv with rfl | hv
        · exact t1 u hu
        · exact o.cross u hu v hv
      · have s1:Same key (A.take (i - a)++(A.drop (i - a)++[x])) (A.take (i - a)++([x]++A.drop (i - a))):=by
          refine (Same.refl _).append (Same.swap ?_);intro u hu v hv;obtain rfl:v=x:=bF1;have:=t2 u hu;omega
        rw [<- Ab,Aa] at s1;simpa using s1
    rw [Ak c2];simp only;generalize al:(a + b) / 2=mid;have G:(if mid < m then mid + m - b else a)<=(if mid < m then mid else m):=by split <;> omega
    obtain ⟨J,U,H,E⟩:=jBz (λc=>!decide (zJ key xs (mid + m - 1 - c) < zJ key xs c)) _ (if mid < m then mid + m - b else a) (if mid < m then mid else m) rfl G;generalize bs (λc=>!decide (zJ key xs (mid + m - 1 - c) < zJ key xs c)) (if mid < m then mid + m - b else a) (if mid < m then mid else m)=s at J U H E ⊢;have a3:s<=m:=by split at U <;> omega
    have af:a<=s:=by split at J <;> omega
    obtain ⟨e,he⟩:∃ e,mid + m - s=e:=⟨_,rfl⟩;rw [he];have d3:m<=e:=by split at U <;> omega
    have ai:e<=b:=by split at J <;> omega
    have eA:A=A.take (s - a)++A.drop (s - a):=(Aa _ _).symm;have eB:B=B.take (e - m)++B.drop (e - m):=(Aa _ _).symm;have q1:∀ y∈B.take (e - m),∀ x∈A.drop (s - a),key y < key x:=by
      intro y hy x hx;have ny:0 < e - m:=by
        rcases Nat.eq_zero_or_pos (e - m) with h | h
        · rw [h] at hy;simp at hy
        · exact h
      have F:s - a < A.length:=by
        rcases Nat.lt_or_ge (s - a) A.length with h | h
        · exact h
        · rw [List.drop_eq_nil_of_le h] at hx;simp at hx
      have hs:s < (if mid < m then mid else m):=by split <;> (split at U <;> omega)
      have h:=E hs;simp only [Bc,decide_eq_true_eq] at h;rw [show mid + m - 1 - s=m + (e - m - 1) by omega,show s=a + (s - a) by omega,W _ F,Y _ bH3] at h;have h1:=kUz sB (t:=e - m) bH3 (k:=zJ key B (e - m - 1)) (λ_=>Int.le_refl _) y hy;have h2:=kVe sA (t:=s - a) (k:=zJ key A (s - a)) (λ_=>Int.le_refl _) x hx;omega
    have q2:∀ x∈A.take (s - a),∀ y∈B.drop (e - m),key x<=key y:=by
      intro x hx y hy;have F:0 < s - a:=by
        rcases Nat.eq_zero_or_pos (s - a) with h | h
        · rw [h] at hx;simp at hx
        · exact h
      have ny:e - m < B.length:=by
        rcases Nat.lt_or_ge (e - m) B.length with h | h
        · exact h
        · rw [List.drop_eq_nil_of_le h] at hy;simp at hy
      have hs:(if mid < m then mid + m - b else a) < s:=by split <;> (split at J <;> omega)
      have h:=H hs;simp only [Bd,Aw] at h;rw [show mid + m - 1 - (s - 1)=m + (e - m) by omega,show s - 1=a + (s - a - 1) by omega,W _ bH3,Y _ ny] at h;have h1:=kUz sA (t:=s - a) bH3 (k:=zJ key A (s - a - 1)) (λ_=>Int.le_refl _) x hx;have h2:=kVe sB (t:=e - m) (k:=zJ key B (e - m)) (λ_=>Int.le_refl _) y hy;omega
    have aj:(A.take (s - a)).length=s - a:=bG7;have lL:(A.drop (s - a)).length=m - s:=bG7;have Z:(B.take (e - m)).length=e - m:=bG7;have ag:(B.drop (e - m)).length=b - e:=bG7;have N:xs=P++A.take (s - a)++A.drop (s - a)++(B.take (e - m)++B.drop (e - m))++Q:=by
      rw [<- O,Ab P (A.take (s - a)),Aa,Aa]
    have o:=sA;have D:=sB;rw [eA] at o;rw [eB] at D;have ac:Same key (A++B) (A.take (s - a)++B.take (e - m)++(A.drop (s - a)++B.drop (e - m))):=by
      have s1:Same key (A.take (s - a)++(A.drop (s - a)++B.take (e - m))++B.drop (e - m)) (A.take (s - a)++(B.take (e - m)++A.drop (s - a))++B.drop (e - m)) :=
        ((Same.refl _).append (Same.swap (λx hx y hy=>by have:=q1 y hy x hx;omega))).append (Same.refl _)
      have e1:A.take (s - a)++(A.drop (s - a)++B.take (e - m))++B.drop (e - m)=A++B:=by
        rw [<- Ab (A.take (s - a)),Aa,Ab,Aa]
      rw [e1] at s1;simpa using s1
    generalize A.take (s - a)=A1 at *;generalize A.drop (s - a)=L at *;generalize B.take (e - m)=R at *;generalize B.drop (e - m)=X at *;clear W Y H E;have hy:(if s < m/\m < e then rot m (m - s) (e - m) xs else xs)=P++A1++R++(L++X++Q):=by
      by_cases c:s < m/\m < e
      · rw [Al c,N];have:=rot_spec _ L R (P++A1) (X++Q) m (m - s) (e - m) rfl lL Z bH3 bH3 bG7;simpa using this
      · rw [Ak c,N];have:L=[]\/R=[]:=by
          by_cases c':s < m
          · right;exact Ac bH3
          · left;exact Ac bH3
        rcases this with rfl | rfl <;> simp
    rw [hy];obtain ⟨M1,hz,ae,aa⟩:∃ M1,(if a < s/\s < mid then symm key f a s mid (P++A1++R++(L++X++Q)) else P++A1++R++(L++X++Q))=P++M1++(L++X++Q)/\Asc key M1/\Same key (A1++R) M1:=by
      by_cases c:a < s/\s < mid
      · rw [Al c];exact kNc f a s mid P A1 R (L++X++Q) bH3 hP (Ad.1 bH3) (Ad.1 bH3) bH3 bH3 o.left D.left
      · rw [Ak c];have:A1=[]\/R=[]:=by
          by_cases c':a < s
          · right;exact Ac bH3
          · left;exact Ac bH3
        rcases this with rfl | rfl
        · exact ⟨R,by simp,D.left,Same.refl _⟩
        · exact ⟨A1,by simp,o.left,by simpa using Same.refl A1⟩
    rw [hz];have ah:M1.length=mid - a:=by
      have:=Av Am hz;have l0:(if a < s/\s < mid then symm key f a s mid (P++A1++R++(L++X++Q)) else P++A1++R++(L++X++Q)).length=(P++A1++R++(L++X++Q)).length:=by
        split
        · exact kAc _ _ _ _ _
        · rfl
      rw [l0] at this;simp at this;omega
    obtain ⟨M2,hw,ad,ab⟩:∃ M2,(if mid < e/\e < b then symm key f mid e b (P++M1++(L++X++Q)) else P++M1++(L++X++Q))=P++M1++M2++Q/\Asc key M2/\Same key (L++X) M2:=by
      by_cases c:mid < e/\e < b
      · rw [Al c];have:=kNc f mid e b (P++M1) L X Q bH3 bG7 (Ad.1 bH3) (Ad.1 bH3) bH3 bH3 o.right D.right;simpa using this
      · rw [Ak c];have:L=[]\/X=[]:=by
          by_cases c':mid < e
          · right;exact Ac bH3
          · left;exact Ac bH3
        rcases this with rfl | rfl
        · exact ⟨X,by simp,D.right,Same.refl _⟩
        · exact ⟨L,by simp,o.right,by simpa using Same.refl L⟩
    rw [hw];refine ⟨M1++M2,by simp,ae.append ad ?_,ac.trans (aa.append ab)⟩;intro u hu v hv;have V:=aa.symm.mem hu;have I:=ab.symm.mem hv;rcases Ap.1 V with h1 | h1 <;> rcases Ap.1 I with h2 | h2
    · exact o.cross u h1 v h2
    · exact q2 u h1 v h2
    · have:=q1 u h1 v h2;omega
    · exact D.cross u h1 v h2
def kPp (key:α->Int) (s:Nat) (l:Ae α):Prop:=∀ k,Asc key ((l.drop (k * s)).take s)
def kPp.cons {s:Nat} {A R:Ae α} (hA:A.length=s) (h:Asc key A) (hR:kPp key s R):kPp key s (A++R):=by
 intro k;cases k with
 | zero=>simp;rw [<- hA,List.take_append_of_le_length bH3,List.take_length];exact h
 | succ k =>
   have:(A++R).drop ((k + 1) * s)=R.drop (k * s):=by
     rw [Nat.add_mul,Nat.one_mul,Nat.add_comm,<- Bb,<- hA,List.drop_left]
   rw [this];exact hR k
def kPp.one {s:Nat} {A:Ae α} (hA:A.length<=s) (h:Asc key A):kPp key s A:=by
 intro k;cases k with
 | zero=>simp;rw [Ah hA];exact h
 | succ k=>rw [List.drop_eq_nil_of_le (by rw [Nat.add_mul];omega)];simp [Asc]
def kPp.whole {s:Nat} {l:Ae α} (h:kPp key s l) (hl:l.length<=s):Asc key l:=by
 have:=h 0;simp at this;rwa [Ah hl] at this
variable (key)
def blocks (n:Nat):Nat->Nat->Ae α->Ae α
  | 0,_,xs=>xs
  | f + 1,a,xs=>if a + 20<=n then blocks n f (a + 20) (kCb key a (a + 20) xs) else kCb key a n xs
def pass (n s:Nat):Nat->Nat->Ae α->Ae α
  | 0,_,xs=>xs
  | f + 1,a,xs=>if a + 2 * s<=n then pass n s f (a + 2 * s) (symm key (2 * s) a (a + s) (a + 2 * s) xs) else if a + s < n then symm key (n - a) a (a + s) n xs else xs
def passes (n:Nat):Nat->Nat->Ae α->Ae α
  | 0,_,xs=>xs
  | f + 1,s,xs=>if s < n then passes n f (2 * s) (pass key n s (n + 1) 0 xs) else xs
def stable (xs:Ae α):Ae α:=passes key xs.length (xs.length + 1) 20 (blocks key xs.length (xs.length + 1) 0 xs)
variable {key}
def kDt:∀ (n f a:Nat) (xs:Ae α),(blocks key n f a xs).length=xs.length
  | _,0,_,_=>rfl
  | n,f + 1,a,xs=>by
    unfold blocks;split
    · rw [kDt,kCj]
    · exact kCj _ _ _
def kCy:∀ (n s f a:Nat) (xs:Ae α),(pass key n s f a xs).length=xs.length
  | _,_,0,_,_=>rfl
  | n,s,f + 1,a,xs=>by
    unfold pass;split
    · rw [kCy,kAc]
    · split
      · exact kAc _ _ _ _ _
      · rfl
def kOt:∀ (n f s:Nat) (xs:Ae α),(passes key n f s xs).length=xs.length
  | _,0,_,_=>rfl
  | n,f + 1,s,xs=>by
    unfold passes;split
    · rw [kOt,kCy]
    · rfl
def kFs (xs:List α):(stable key xs).length=xs.length:=by unfold stable;rw [kOt,kDt]
def kTt:∀ (f:Nat) (P R:Ae α) (n a:Nat),R.length < f->P.length=a->n=a + R.length->∃ o,blocks key n f a (P++R)=P++o/\kPp key 20 o/\Same key R o
  | 0,P,R,n,a,hf,hP,hn=>Be hf bH3
  | f + 1,P,R,n,a,hf,hP,hn=>by
    unfold blocks;by_cases c:a + 20<=n
    · rw [Al c];have E:R.take 20++R.drop 20=R:=Aa _ _;have F:(R.take 20).length=20:=bG7;obtain ⟨M,h1,h2,h3⟩:=kTm (key:=key) (M:=R.take 20) (P:=P) (Q:=R.drop 20) (a:=a) (b:=a + 20) hP bH3;rw [Ab,E] at h1;rw [h1];have D:M.length=20:=by
        have:=Av Am h1;rw [kCj] at this;simp at this;omega
      obtain ⟨o,h4,h5,h6⟩:=kTt f (P++M) (R.drop 20) n (a + 20) bG7 bG7 bG7;refine ⟨M++o,by rw [h4];simp,h5.cons D h2,?_⟩;have:=h3.append h6;rwa [E] at this
    · rw [Ak c];obtain ⟨M,h1,h2,h3⟩:=kTm (key:=key) (M:=R) (P:=P) (Q:=[]) (a:=a) (b:=n) hP hn;rw [Aq,Aq] at h1;have D:M.length=R.length:=by
        have:=Av Am h1;rw [kCj] at this;simp at this;omega
      exact ⟨M,h1,kPp.one bH3 h2,h3⟩
def kZr {s:Nat} (hs:0 < s):∀ (f:Nat) (P R:Ae α) (n a:Nat),R.length < f->P.length=a->n=a + R.length->kPp key s R->∃ o,pass key n s f a (P++R)=P++o/\kPp key (2 * s) o/\Same key R o
  | 0,P,R,n,a,hf,hP,hn,hr=>Be hf bH3
  | f + 1,P,R,n,a,hf,hP,hn,hr=>by
    unfold pass;have r0:=hr 0;have r1:=hr 1;simp at r0 r1;have e1:R.take s++R.drop s=R:=Aa _ _;by_cases c:a + 2 * s<=n
    · rw [Al c];have e2:(R.drop s).take s++R.drop (s + s)=R.drop s:=by rw [<- Bb,Aa]
      have G:(R.take s).length=s:=bG7;have O:((R.drop s).take s).length=s:=bG7;obtain ⟨M,h1,h2,h3⟩:=kNc (key:=key) (2 * s) a (a + s) (a + 2 * s) P (R.take s) ((R.drop s).take s) (R.drop (s + s)) bH3 hP (Ad.1 bH3) (Ad.1 bH3) bH3 bH3 r0 r1;rw [Ab (P++R.take s),e2,Ab P (R.take s),e1] at h1;rw [h1];have D:M.length=2 * s:=by
        have:=Av Am h1;rw [kAc] at this;simp at this;omega
      have I:kPp key s (R.drop (s + s)):=by
        intro k;have:=hr (k + 2);rw [Bb,show s + s + k * s=(k + 2) * s by rw [Nat.add_mul];omega];exact this
      obtain ⟨o,h4,h5,h6⟩:=kZr hs f (P++M) (R.drop (s + s)) n (a + 2 * s) bG7 bG7 bG7 I;refine ⟨M++o,by rw [h4];simp,h5.cons D h2,?_⟩;have:=h3.append h6;rwa [Ab,e2,e1] at this
    · rw [Ak c];by_cases c2:a + s < n
      · rw [Al c2];rw [Ah bG7] at r1;have G:(R.take s).length=s:=bG7;have O:(R.drop s).length=n - a - s:=bG7;obtain ⟨M,h1,h2,h3⟩:=kNc (key:=key) (n - a) a (a + s) n P (R.take s) (R.drop s) [] bH3 hP (Ad.1 bH3) (Ad.1 bH3) bH3 bH3 r0 r1;rw [Aq,Aq,Ab,e1] at h1;rw [e1] at h3;have D:M.length=R.length:=by
          have:=Av Am h1;rw [kAc] at this;simp at this;omega
        exact ⟨M,h1,kPp.one bH3 h2,h3⟩
      · rw [Ak c2];rw [Ah bH3] at r0;exact ⟨R,rfl,kPp.one bH3 r0,Same.refl _⟩
def kTi:∀ (f s:Nat) (l:Ae α),0 < s->l.length < f + s->kPp key s l->Asc key (passes key l.length f s l)/\Same key l (passes key l.length f s l)
  | 0,s,l,hs,hf,hr=>⟨hr.whole bH3,Same.refl _⟩
  | f + 1,s,l,hs,hf,hr=>by
    unfold passes;by_cases c:s < l.length
    · rw [Al c];obtain ⟨o,h1,h2,h3⟩:=kZr hs (l.length + 1) [] l l.length 0 bH3 rfl bH3 hr;rw [Ar,Ar] at h1;have Z:o.length=l.length:=by rw [<- h1,kCy]
      rw [h1,<- Z];obtain ⟨h4,h5⟩:=kTi f (2 * s) o bH3 bH3 h2;exact ⟨h4,h3.trans h5⟩
    · rw [Ak c];exact ⟨hr.whole bH3,Same.refl _⟩
def kTe (l:Ae α):Asc key (stable key l)/\Same key l (stable key l):=by
 unfold stable;obtain ⟨R,h1,h2,h3⟩:=kTt (key:=key) (l.length + 1) [] l l.length 0 bH3 rfl bH3;rw [Ar,Ar] at h1;have Z:R.length=l.length:=by rw [<- h1,kDt]
 rw [h1,<- Z];obtain ⟨h4,h5⟩:=kTi (key:=key) (R.length + 1) 20 R bH3 bH3 h2;exact ⟨h4,h3.trans h5⟩
variable (key)
def place:Nat->Ae α->α->Nat
  | 0,_,_=>0
  | k + 1,l,x=>if key x < zJ key l k then place k l x else k + 1
def put (l:Ae α) (x:α):Ae α:=l.take (place key l.length l x)++[x]++l.drop (place key l.length l x)
def sorted (l:Ae α):Ae α:=l.foldl (put key) []
variable {key}
def kWh (l:Ae α) (x:α):∀ k,k<=l.length->place key k l x<=k/\(0 < place key k l x->zJ key l (place key k l x - 1)<=key x)/\(place key k l x < k->key x < zJ key l (place key k l x))
  | 0,_=>by simp [place]
  | k + 1,h=>by
    unfold place;split
    · rename_i q
      obtain ⟨h1,h2,h3⟩:=kWh l x k bH3;refine ⟨by omega,h2,λ_=>?_⟩;by_cases e:place key k l x < k
      · exact h3 e
      · rw [show place key k l x=k by omega];exact q
    · rename_i q
      exact ⟨Nat.le_refl _,λ_=>by simpa using q,λq=>Be q bH3⟩
def put_spec {l:Ae α} (h:Asc key l) (x:α):Asc key (put key l x)/\Same key (l++[x]) (put key l x):=by
 obtain ⟨h1,h2,h3⟩:=kWh (key:=key) l x l.length nL;unfold put;generalize place key l.length l x=p at *;have t1:=kUz h h1 h2;have t2:=drop_gt h h3;have G:=h;rw [<- Aa p l] at G;refine ⟨?_,?_⟩
 · rw [Ab];refine G.left.append (Ag.2 ⟨λy hy=>by have:=t2 y hy;omega,G.right⟩) ?_;intro u hu v hv;rcases Au.1 hv with rfl | hv
   · exact t1 u hu
   exact G.cross u hu v hv
 have s1:Same key (l.take p++(l.drop p++[x])) (l.take p++([x]++l.drop p)):=(Same.refl _).append (Same.swap (λu hu v hv=>by
   obtain rfl:v=x:=bF1;have:=t2 u hu;omega))
 rw [<- Ab,Aa] at s1;rwa [Ab]
def kXj:∀ (xs l:Ae α),Asc key l->Asc key (xs.foldl (put key) l)/\Same key (l++xs) (xs.foldl (put key) l)
  | [],l,h=>⟨h,by simpa using Same.refl l⟩
  | x :: xs,l,h=>by
    obtain ⟨h1,h2⟩:=put_spec h x;obtain ⟨h3,h4⟩:=kXj xs (put key l x) h1;refine ⟨h3,?_⟩;have:=(h2.append (Same.refl xs)).trans h4;simpa using this
def kEh (l:Ae α):Asc key (sorted key l)/\Same key l (sorted key l):=by
 have:=kXj (key:=key) l [] (by simp [Asc]);simpa [sorted] using this
def kNd (l:Ae α):stable key l=sorted key l:=uniq (kTe l).1 (kEh l).1 ((kTe l).2.symm.trans (kEh l).2)
def Same.filter {l o:Ae α} (h:Same key l o) {p:α->Bool}:Same key (l.filter p) (o.filter p):=λv=>by
  have:=Av (λz=>z.filter p) (h v);simp only [List.filter_filter] at this ⊢;simpa [Bool.and_comm] using this
def Asc.filter {l:Ae α} (h:Asc key l) {p:α->Bool}:Asc key (l.filter p):=List.Pairwise.filter p h
def kYm (l:Ae α) (p:α->Bool):(sorted key l).filter p=sorted key (l.filter p) :=
  uniq (kEh l).1.filter (kEh _).1 ((kEh l).2.symm.filter.trans (kEh _).2)
end
end Go.Proofs.YtjhfdpopkkmigabGreat.Srt

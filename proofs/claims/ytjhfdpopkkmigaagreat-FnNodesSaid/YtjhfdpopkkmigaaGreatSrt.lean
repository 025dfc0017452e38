/-
  The stable sort as Go has it (blocks of twenty, merges in place by rotation) and the insertion sort: the same list. No program in sight.
-/
import Derived.Test.YtjhfdpopkkmigaaGreatAli
set_option linter.unusedVariables false
set_option linter.defProp false
set_option linter.unusedSimpArgs false
set_option linter.unnecessarySimpa false
open List renaming take_append_drop->Aa,append_assoc->Ab,eq_nil_of_length_eq_zero->Ac,length_pos_iff->Ad,pairwise_cons->Ag,take_of_length_le->Ah,pairwise_append->Ai,filter_append->Aj,length->Am,mem_append->Ap,append_nil->Aq,nil_append->Ar,mem_cons->Au,filter_eq_nil_iff->Ay,length_eq_one_iff->Az,set_append_right->Ba,drop_drop->Bb
open _root_ renaming List->Ae,if_neg->Ak,if_pos->Al,congrArg->Av,decide_eq_false_iff_not->Aw,absurd->Be
open Bool renaming not_eq_false'->Bc,not_eq_true'->Bd
namespace Go.Proofs.YtjhfdpopkkmigaaGreat.Srt
section
variable {α:Type} (key:α->Int)
def Asc (l:Ae α):Prop:=l.Pairwise (λa b=>key a<=key b)
def Same (l o:Ae α):Prop:=∀ v,l.filter (λx=>decide (key x=v))=o.filter (λx=>decide (key x=v))
variable {key}
def Same.refl (l:Ae α):Same key l l:=λ_=>rfl
def Same.symm {l o:Ae α} (h:Same key l o):Same key o l:=λv=>(h v).symm
def Same.trans {a b c:Ae α} (h:Same key a b) (k:Same key b c):Same key a c:=λv=>(h v).trans (k v)
def Same.append {a a' b b':Ae α} (h:Same key a a') (k:Same key b b'):Same key (a++b) (a'++b'):=λv=>by
  rw [Aj,Aj,h v,k v]
def Same.mem {l o:Ae α} (h:Same key l o) {x:α} (hx:x∈l):x∈o:=by
 have h1:x∈l.filter (λy=>decide (key y=key x)):=by simp [hx]
 rw [h] at h1;exact (List.mem_filter.1 h1).1
def Same.nil {l:Ae α} (h:Same key [] l):l=[]:=by
 cases l with
 | nil=>rfl
 | cons y ys=>exact Be (h.symm.mem (List.mem_cons_self)) bD2
def Same.swap {a b:Ae α} (h:∀ x∈a,∀ y∈b,key x≠key y):Same key (a++b) (b++a):=λv=>by
  rw [Aj,Aj];by_cases hv:∃ x∈a,key x=v
  · obtain ⟨x,hx,rfl⟩:=hv;have:b.filter (λz=>decide (key z=key x))=[]:=by
      rw [Ay];intro y hy q;exact h x hx y hy (by simpa using (of_decide_eq_true q).symm)
    rw [this];simp
  · have:a.filter (λz=>decide (key z=v))=[]:=by
      rw [Ay];intro y hy q;exact hv ⟨y,hy,of_decide_eq_true q⟩
    rw [this];simp
def uniq:∀ {l o:Ae α},Asc key l->Asc key o->Same key l o->l=o
  | [],o,_,_,h=>h.nil.symm
  | l,[],_,_,h=>h.symm.nil
  | x :: xs,y :: ys,h1,h2,h=>by
    have hk:∀ {x y:α} {xs ys:Ae α},Asc key (y :: ys)->Same key (x :: xs) (y :: ys)->key y<=key x:=by
      intro x y xs ys h2 h;have hm:=h.mem (List.mem_cons_self (a:=x) (l:=xs));rcases Au.1 hm with e | e
      · rw [e];exact Int.le_refl _
      · exact (Ag.1 h2).1 x e
    have e:key x=key y:=Int.le_antisymm (hk h1 h.symm) (hk h2 h);have hx:=h (key x);rw [List.filter_cons_of_pos bD2,List.filter_cons_of_pos (by simp [e])] at hx;have D:x=y:=(List.cons.inj hx).1;subst D;congr 1;refine uniq (Ag.1 h1).2 (Ag.1 h2).2 (λv=>?_);have hv:=h v;by_cases q:key x=v
    · rw [List.filter_cons_of_pos (by simp [q]),List.filter_cons_of_pos (by simp [q])] at hv;exact (List.cons.inj hv).2
    · rw [List.filter_cons_of_neg (by simp [q]),List.filter_cons_of_neg (by simp [q])] at hv;exact hv
def Asc.append {a b:Ae α} (h:Asc key a) (k:Asc key b) (q:∀ x∈a,∀ y∈b,key x<=key y):Asc key (a++b):=Ai.2 ⟨h,k,q⟩
def Asc.left {a b:Ae α} (h:Asc key (a++b)):Asc key a:=(Ai.1 h).1
def Asc.right {a b:Ae α} (h:Asc key (a++b)):Asc key b:=(Ai.1 h).2.1
def Asc.cross {a b:Ae α} (h:Asc key (a++b)):∀ x∈a,∀ y∈b,key x<=key y:=(Ai.1 h).2.2
variable (key)
def zG (xs:Ae α) (i:Nat):Int:=((xs[i]?).map key).getD 0
variable {key}
def zM {xs:List α} {i:Nat} (h:i < xs.length):zG key xs i=key xs[i]:=by simp [zG,h]
def kAt_left {a b:List α} {i:Nat} (h:i < a.length):zG key (a++b) i=zG key a i:=by simp [zG,List.getElem?_append_left h]
def kYt {a b:Ae α} {i j:Nat} (h:j=a.length + i):zG key (a++b) j=zG key b i:=by
 subst h;simp [zG,List.getElem?_append_right]
def Asc.kAt_le {l:Ae α} (h:Asc key l) {i j:Nat} (D:i<=j) (I:j < l.length):zG key l i<=zG key l j:=by
 rw [zM bD1,zM I];rcases Nat.lt_or_ge i j with q | q
 · exact List.pairwise_iff_getElem.1 h i j bD1 I q
 obtain rfl:i=j:=bD1;exact Int.le_refl _
def kVz {l:Ae α} {x:α} (h:x∈l):∃ i,i < l.length/\zG key l i=key x:=by
 obtain ⟨i,hi,rfl⟩:=List.getElem_of_mem h;exact ⟨i,hi,zM hi⟩
def sw (xs:Ae α) (i j:Nat):Ae α:=match xs[i]?,xs[j]? with
  | some x,some y=>(xs.set i y).set j x
  | _,_=>xs
def kZn {xs:List α} {i j:Nat} (hi:i < xs.length) (I:j < xs.length):sw xs i j=(xs.set i xs[j]).set j xs[i]:=by simp [sw,hi,I]
def kAm (xs:Ae α) (i j:Nat):(sw xs i j).length=xs.length:=by
 unfold sw;split <;> simp
def kZo (xs:Ae α) (i j:Nat):sw xs i j=sw xs j i:=by
 by_cases hi:i < xs.length
 · by_cases I:j < xs.length
   · rw [kZn hi I,kZn I hi];by_cases e:i=j
     · subst e;rfl
     exact List.set_comm _ _ e
   simp [sw,I,Nat.not_lt.1 I]
 simp [sw,hi,Nat.not_lt.1 hi]
def kHz (p m q:Ae α) (x y:α) {i j:Nat} (hi:i=p.length) (I:j=p.length + 1 + m.length):sw (p++x :: m++y :: q) i j=p++y :: m++x :: q:=by
 subst hi I;have h1:p.length < (p++x :: m++y :: q).length:=bD2;have h2:p.length + 1 + m.length < (p++x :: m++y :: q).length:=bC6;rw [kZn h1 h2];have e1:(p++x :: m++y :: q)[p.length]=x:=bD2;have e2:(p++x :: m++y :: q)[p.length + 1 + m.length]=y:=by
  rw [List.getElem_append_right bC6];simp [show p.length + 1 + m.length - (p.length + (m.length + 1))=0 by omega]
 rw [e1,e2];have e3:(p++x :: m++y :: q).set p.length y=p++y :: m++y :: q:=by
  rw [Ab,Ba _ _ nL];simp
 rw [e3];rw [Ba _ _ bC6];simp [show p.length + 1 + m.length - (p.length + (m.length + 1))=0 by omega]
variable (key)
def inner (a:Nat):Nat->Ae α->Ae α
  | 0,xs=>xs
  | j + 1,xs=>if a < j + 1/\zG key xs (j + 1) < zG key xs j then inner a j (sw xs (j + 1) j) else xs
def outer (a:Nat):Nat->Nat->Ae α->Ae α
  | 0,_,xs=>xs
  | n + 1,i,xs=>outer a n (i + 1) (inner key a i xs)
def kBs (a b:Nat) (xs:Ae α):Ae α:=outer key a (b - (a + 1)) (a + 1) xs
variable {key}
def kJc:∀ (a j:Nat) (xs:Ae α),(inner key a j xs).length=xs.length
  | _,0,_=>rfl
  | a,j + 1,xs=>by
    unfold inner;split
    · rw [kJc,kAm]
    · rfl
def kOy:∀ (a n i:Nat) (xs:Ae α),(outer key a n i xs).length=xs.length
  | _,0,_,_=>rfl
  | a,n + 1,i,xs=>by
    unfold outer;rw [kOy,kJc]
def kCd (a b:Nat) (xs:Ae α):(kBs key a b xs).length=xs.length:=kOy _ _ _ _
def inner_spec:∀ (A:Ae α) (P Q:Ae α) (x:α) (a j:Nat),P.length=a->j=a + A.length->Asc key A ->
    ∃ M,inner key a j (P++A++x :: Q)=P++M++Q/\Asc key M/\Same key (A++[x]) M:=by
 intro A
 induction hn:A.length generalizing A with
 | zero =>
   intro P Q x a j hP I hA;obtain rfl:A=[]:=Ac hn;refine ⟨[x],?_,by simp [Asc],Same.refl _⟩;have O:j=a:=bB6;subst O;cases j with
   | zero=>simp [inner]
   | succ j=>unfold inner;rw [Ak bD1];simp
 | succ n ih =>
   intro P Q x a j hP I hA;obtain ⟨B,y,rfl⟩:∃ B y,A=B++[y]:=⟨A.dropLast,A.getLast (by intro h;simp [h] at hn),(List.dropLast_concat_getLast _).symm⟩;have hB:B.length=n:=by simpa using hn
   obtain ⟨i,rfl⟩:∃ i,j=i + 1:=⟨j - 1,by omega⟩;have hi:i=a + B.length:=bD1;have o:zG key (P++(B++[y])++x :: Q) i=key y:=by
     rw [zM bC6];congr 1;rw [List.getElem_append_left bC6,List.getElem_append_right bD1];simp [show i - P.length=B.length by omega]
   have hf:zG key (P++(B++[y])++x :: Q) (i + 1)=key x:=by
     rw [zM bC6];congr 1;rw [List.getElem_append_right bC6];simp [show i + 1 - (P.length + (B.length + 1))=0 by omega]
   unfold inner;rw [o,hf];by_cases hlt:key x < key y
   · rw [Al ⟨by omega,hlt⟩];have E:sw (P++(B++[y])++x :: Q) (i + 1) i=P++B++x :: (y :: Q):=by
       rw [kZo];have:=kHz (P++B) [] Q y x (i:=i) (j:=i + 1) bC6 bC6;simpa using this
     rw [E];obtain ⟨M,h1,h2,h3⟩:=ih B hB P (y :: Q) x a i hP bD1 hA.left;refine ⟨M++[y],by rw [h1];simp,?_,?_⟩
     · refine h2.append (by simp [Asc]) ?_;intro u hu v hv;obtain rfl:v=y:=bB2;have V:=h3.symm.mem hu;rcases Ap.1 V with q | q
       · exact hA.cross u q v bD2
       · obtain rfl:u=x:=bB7;omega
     · have s1:Same key (B++[y]++[x]) (B++[x]++[y]):=by
         rw [Ab,Ab];refine (Same.refl B).append (Same.swap ?_);intro u hu v hv;obtain rfl:u=y:=by simpa using hu
         obtain rfl:v=x:=bB2;omega
       exact s1.trans (h3.append (Same.refl [y]))
   · rw [Ak (by rintro ⟨_,q⟩;exact hlt q)];refine ⟨B++[y]++[x],by simp,?_,Same.refl _⟩;refine hA.append (by simp [Asc]) ?_;intro u hu v hv;obtain rfl:v=x:=bB2;rcases Ap.1 hu with q | q
     · have:=hA.cross u q y bD2;omega
     · obtain rfl:u=y:=bB7;omega
def kVl:∀ (n:Nat) (A C P Q:Ae α) (a i:Nat),C.length=n->P.length=a->i=a + A.length->Asc key A ->
    ∃ M,outer key a n i (P++A++C++Q)=P++M++Q/\Asc key M/\Same key (A++C) M
  | 0,A,C,P,Q,a,i,hC,hP,hi,hA=>by
    obtain rfl:C=[]:=Ac hC;exact ⟨A,by simp [outer],hA,by simpa using Same.refl A⟩
  | n + 1,A,C,P,Q,a,i,hC,hP,hi,hA=>by
    obtain ⟨x,C,rfl⟩:∃ x D,C=x :: D:=by cases C with | nil=>simp at hC | cons x D=>exact ⟨x,D,rfl⟩
    obtain ⟨M,h1,h2,h3⟩:=inner_spec A P (C++Q) x a i hP hi hA;have hl:=Av Am h1;rw [kJc] at hl;obtain ⟨M2,h4,h5,h6⟩:=kVl n M C P Q a (i + 1) (by simpa using hC) hP (by simp at hl;omega) h2;refine ⟨M2,?_,h5,?_⟩
    · unfold outer;rw [show P++A++x :: C++Q=P++A++x :: (C++Q) by simp,h1,show P++M++(C++Q)=P++M++C++Q by simp,h4]
    · refine Same.trans ?_ h6;rw [show A++x :: C=A++[x]++C by simp];exact h3.append (Same.refl C)
def kRw {M P Q:Ae α} {a b:Nat} (hP:P.length=a) (hb:b=a + M.length):∃ o,kBs key a b (P++M++Q)=P++o++Q/\Asc key o/\Same key M o:=by
 unfold kBs;cases M with
 | nil => 
   have:b - (a + 1)=0:=by simp at hb;omega
   rw [this];exact ⟨[],rfl,by simp [Asc],Same.refl _⟩
 | cons x C =>
   have:=kVl (key:=key) (b - (a + 1)) [x] C P Q a (a + 1) (by simp at hb;omega) hP bD2 (by simp [Asc]);simpa using this
def swr:Nat->Nat->Nat->Ae α->Ae α
  | 0,_,_,xs=>xs
  | n + 1,a,b,xs=>swr n (a + 1) (b + 1) (sw xs a b)
def kCn:∀ (n a b:Nat) (xs:Ae α),(swr n a b xs).length=xs.length
  | 0,_,_,_=>rfl
  | n + 1,a,b,xs=>by unfold swr;rw [kCn,kAm]
def kOj:∀ (X Y P M Q:Ae α) (n a b:Nat),X.length=n->Y.length=n->a=P.length->b=P.length + n + M.length->swr n a b (P++X++M++Y++Q)=P++Y++M++X++Q
  | [],Y,P,M,Q,n,a,b,hX,hY,ha,hb=>by
    obtain rfl:n=0:=by simpa using hX.symm
    obtain rfl:Y=[]:=Ac hY;simp [swr]
  | x :: X,Y,P,M,Q,n,a,b,hX,hY,ha,hb=>by
    obtain ⟨k,rfl⟩:∃ k,n=k + 1:=⟨X.length,by simpa using hX.symm⟩;obtain ⟨y,Y,rfl⟩:∃ y Z,Y=y :: Z:=by cases Y with | nil=>simp at hY | cons y Z=>exact ⟨y,Z,rfl⟩
    have hx:X.length=k:=by simpa using hX
    have hy:Y.length=k:=by simpa using hY
    unfold swr;have e:=kHz P (X++M) (Y++Q) x y (i:=a) (j:=b) ha bC6;rw [show P++x :: X++M++y :: Y++Q=P++x :: (X++M)++y :: (Y++Q) by simp,e];have ih:=kOj X Y (P++[y]) (M++[x]) Q k (a + 1) (b + 1) hx hy bC6 bC6;rw [show P++y :: (X++M)++x :: (Y++Q)=P++[y]++X++(M++[x])++Y++Q by simp,ih];simp
def rot (m i j:Nat) (xs:Ae α):Ae α :=
  if i=j then swr i (m - i) m xs
  else if h:0 < i/\0 < j then
    if j < i then rot m (i - j) j (swr j (m - i) m xs) else rot m i (j - i) (swr i (m - i) (m + j - i) xs)
  else xs
  termination_by i + j
  decreasing_by all_goals omega
def kNk (m i j:Nat) (xs:Ae α):(rot m i j xs).length=xs.length:=by
 induction hk:i + j using Nat.strongRecOn generalizing i j xs with
 | _ k ih =>
   unfold rot;split
   · exact kCn _ _ _ _
   · split
     · split
       · rw [ih _ bD1 _ _ _ rfl,kCn]
       · rw [ih _ bD1 _ _ _ rfl,kCn]
     · rfl
def rot_spec:∀ (k:Nat) (X Y P Q:Ae α) (m i j:Nat),i + j=k->X.length=i->Y.length=j->0 < i->0 < j->m=P.length + i->rot m i j (P++X++Y++Q)=P++Y++X++Q:=by
 intro k;induction k using Nat.strongRecOn with
 | _ k ih =>
   intro X Y P Q m i j hk hX hY hi I hm;unfold rot;by_cases e:i=j
   · rw [Al e];have:=kOj X Y P [] Q i (m - i) m hX bD1 bD1 bC6;simpa using this
   · rw [Ak e,dif_pos ⟨hi,I⟩];by_cases hlt:j < i
     · rw [Al hlt];have h1:=kOj (X.take j) Y P (X.drop j) Q j (m - i) m bC6 hY bD1 bC6;have e1:P++X.take j++X.drop j++Y++Q=P++X++Y++Q:=by rw [Ab P,Aa]
       rw [e1] at h1;rw [h1];have h2:=ih (i - j + j) bD1 (X.drop j) (X.take j) (P++Y) Q m (i - j) j rfl bC6 bC6 bD1 I bC6;rw [h2];have:X.take j++X.drop j=X:=Aa j X;rw [Ab (P++Y),this]
     · rw [Ak hlt];have h1:=kOj X (Y.drop (j - i)) P (Y.take (j - i)) Q i (m - i) (m + j - i) hX bC6 bD1 bC6;have e1:P++X++Y.take (j - i)++Y.drop (j - i)++Q=P++X++Y++Q:=by rw [Ab (P++X),Aa]
       rw [e1] at h1;rw [h1];have h2:=ih (i + (j - i)) bD1 (Y.drop (j - i)) (Y.take (j - i)) P (X++Q) m i (j - i) rfl bC6 bC6 hi bD1 hm;rw [show P++Y.drop (j - i)++Y.take (j - i)++X++Q=P++Y.drop (j - i)++Y.take (j - i)++(X++Q) by simp,h2];have:Y.take (j - i)++Y.drop (j - i)=Y:=Aa _ Y;rw [Ab P,this];simp
def bs (p:Nat->Bool) (i j:Nat):Nat :=
  if h:i < j then (if p ((i + j) / 2) then bs p ((i + j) / 2 + 1) j else bs p i ((i + j) / 2)) else i
  termination_by j - i
  decreasing_by all_goals omega
def jAs (p:Nat->Bool):∀ (k i j:Nat),j - i=k->i<=j->i<=bs p i j/\bs p i j<=j/\(i < bs p i j->p (bs p i j - 1)=true)/\(bs p i j < j->p (bs p i j)=false):=by
 intro k;induction k using Nat.strongRecOn with
 | _ k ih =>
   intro i j hk D;unfold bs;by_cases h:i < j
   · rw [dif_pos h];cases q:p ((i + j) / 2)
     · rw [Ak bD2];obtain ⟨h1,h2,h3,h4⟩:=ih ((i + j) / 2 - i) bD1 i ((i + j) / 2) rfl bD1;refine ⟨h1,by omega,h3,λ_=>?_⟩;by_cases e:bs p i ((i + j) / 2) < (i + j) / 2
       · exact h4 e
       · rw [show bs p i ((i + j) / 2)=(i + j) / 2 by omega];exact q
     · rw [Al rfl];obtain ⟨h1,h2,h3,h4⟩:=ih (j - ((i + j) / 2 + 1)) bD1 ((i + j) / 2 + 1) j rfl bD1;refine ⟨by omega,h2,λ_=>?_,h4⟩;by_cases e:(i + j) / 2 + 1 < bs p ((i + j) / 2 + 1) j
       · exact h3 e
       · rw [show bs p ((i + j) / 2 + 1) j=(i + j) / 2 + 1 by omega];exact q
   · rw [dif_neg h];exact ⟨Nat.le_refl _,D,λq=>Be q (Nat.lt_irrefl _),λq=>Be q h⟩
def up:Nat->Nat->Ae α->Ae α
  | 0,_,xs=>xs
  | n + 1,k,xs=>up n (k + 1) (sw xs k (k + 1))
def kXy:∀ (n k:Nat) (xs:Ae α),(up n k xs).length=xs.length
  | 0,_,_=>rfl
  | n + 1,k,xs=>by unfold up;rw [kXy,kAm]
def up_spec:∀ (B P R:Ae α) (x:α) (n k:Nat),n=B.length->k=P.length->up n k (P++x :: B++R)=P++B++x :: R
  | [],P,R,x,n,k,hn,hk=>by subst hn;simp [up]
  | y :: B,P,R,x,n,k,hn,hk=>by
    subst hn;show up (B.length) (k + 1) (sw _ k (k + 1))=_;have e:=kHz P [] (B++R) x y (i:=k) (j:=k + 1) hk bC6;rw [show P++x :: y :: B++R=P++[x]++y :: (B++R) by simp,e];have:=up_spec B (P++[y]) R x B.length (k + 1) rfl bC6;rw [show P++[y]++x :: (B++R)=P++[y]++x :: B++R by simp,this];simp
def down (i:Nat):Nat->Ae α->Ae α
  | 0,xs=>xs
  | k + 1,xs=>if i < k + 1 then down i k (sw xs (k + 1) k) else xs
def kSc:∀ (i k:Nat) (xs:Ae α),(down i k xs).length=xs.length
  | _,0,_=>rfl
  | i,k + 1,xs=>by
    unfold down;split
    · rw [kSc,kAm]
    · rfl
def kZa:∀ (n:Nat) (B P R:Ae α) (x:α) (i k:Nat),B.length=n->i=P.length->k=i + n->down i k (P++B++x :: R)=P++x :: B++R
  | 0,B,P,R,x,i,k,hn,hi,hk=>by
    obtain rfl:B=[]:=Ac hn;cases k with
    | zero=>simp [down]
    | succ k=>unfold down;rw [Ak bD1];simp
  | n + 1,B,P,R,x,i,k,hn,hi,hk=>by
    obtain ⟨C,y,rfl⟩:∃ C y,B=C++[y]:=⟨B.dropLast,B.getLast (by intro h;simp [h] at hn),(List.dropLast_concat_getLast _).symm⟩;obtain ⟨k,rfl⟩:∃ q,k=q + 1:=⟨k - 1,by omega⟩;have hC:C.length=n:=by simpa using hn
    unfold down;rw [Al bD1];have e:=kHz (P++C) [] R y x (i:=k) (j:=k + 1) bC6 bC6;rw [kZo,show P++(C++[y])++x :: R=P++C++[y]++x :: R by simp,e];have:=kZa n C P (y :: R) x i k hC hi bD1;rw [show P++C++[x]++y :: R=P++C++x :: (y :: R) by simp,this];simp
def take_lt {B:Ae α} (h:Asc key B) {t:Nat} (ht:t<=B.length) {k:Int} (q:0 < t->zG key B (t - 1) < k):∀ y∈B.take t,key y < k:=by
 intro y hy;obtain ⟨i,hi,e⟩:=kVz (key:=key) hy;simp at hi;rw [<- e];have h1:=h.kAt_le (i:=i) (j:=t - 1) bD1 bD1;have h2:=q bD1;have h3:zG key (B.take t) i=zG key B i:=by rw [zM bC6,zM bD1];simp
 omega
def kTn {B:Ae α} (h:Asc key B) {t:Nat} (ht:t<=B.length) {k:Int} (q:0 < t->zG key B (t - 1)<=k):∀ y∈B.take t,key y<=k:=λy hy=>by
  have:=take_lt h ht (k:=k + 1) (λht=>by have:=q ht;omega) y hy;omega
def kTt {B:Ae α} (h:Asc key B) {t:Nat} {k:Int} (q:t < B.length->k<=zG key B t):∀ y∈B.drop t,k<=key y:=by
 intro y hy;obtain ⟨i,hi,e⟩:=kVz (key:=key) hy;simp at hi;rw [<- e];have h1:=h.kAt_le (i:=t) (j:=t + i) bD1 bD1;have h2:=q bD1;have h3:zG key (B.drop t) i=zG key B (t + i):=by simp [zG]
 omega
def drop_gt {B:Ae α} (h:Asc key B) {t:Nat} {k:Int} (q:t < B.length->k < zG key B t):∀ y∈B.drop t,k < key y:=λy hy=>by
  have:=kTt h (k:=k + 1) (λht=>by have:=q ht;omega) y hy;omega
variable (key)
def symm:Nat->Nat->Nat->Nat->Ae α->Ae α
  | 0,_,_,_,xs=>xs
  | f + 1,a,m,b,xs =>
    if m - a=1 then up (bs (λh=>decide (zG key xs h < zG key xs a)) m b - 1 - a) a xs
    else if b - m=1 then down (bs (λh=>!decide (zG key xs m < zG key xs h)) a m) m xs
    else
      let mid:=(a + b) / 2
      let n:=mid + m
      let s:=bs (λc=>!decide (zG key xs (n - 1 - c) < zG key xs c)) (if mid < m then n - b else a) (if mid < m then mid else m)
      let e:=n - s
      let y:=if s < m/\m < e then rot m (m - s) (e - m) xs else xs
      let z:=if a < s/\s < mid then symm f a s mid y else y
      if mid < e/\e < b then symm f mid e b z else z
variable {key}
def jAn {c:Prop} [Decidable c] {A B:List α} {n:Nat} (h:A.length=n) (k:B.length=n):(if c then A else B).length=n:=by split <;> assumption
def zu:∀ (f a m b:Nat) (xs:Ae α),(symm key f a m b xs).length=xs.length
  | 0,_,_,_,_=>rfl
  | f + 1,a,m,b,xs=>by
    unfold symm;split
    · exact kXy _ _ _
    · split
      · exact kSc _ _ _
      · have y:=λ(c:Prop) [Decidable c] (p i j:Nat)=>jAn (c:=c) (kNk p i j xs) rfl;have z:=λ(c d:Prop) [Decidable c] [Decidable d] (p i j k m n:Nat)=>jAn (c:=d) ((zu f k m n _).trans (y c p i j)) (y c p i j);exact jAn ((zu f _ _ _ _).trans (z _ _ _ _ _ _ _ _)) (z _ _ _ _ _ _ _ _)
def kLh:∀ (f a m b:Nat) (P A B Q:Ae α),b - a<=f->P.length=a->A≠[]->B≠[]->m=a + A.length->b=m + B.length->Asc key A->Asc key B ->
    ∃ M,symm key f a m b (P++A++B++Q)=P++M++Q/\Asc key M/\Same key (A++B) M
  | 0,a,m,b,P,A,B,Q,hf,hP,hA,hB,hm,hb,sA,sB=>by
    have:=Ad.2 hA;omega
  | f + 1,a,m,b,P,A,B,Q,hf,hP,hA,hB,hm,hb,sA,sB=>by
    have lA:=Ad.2 hA;have lB:=Ad.2 hB;have W:∀ i,i < A.length->zG key (P++A++B++Q) (a + i)=zG key A i:=λi hi=>by
      rw [show P++A++B++Q=P++(A++(B++Q)) by simp,kYt (i:=i) bD1,kAt_left hi]
    have X:∀ i,i < B.length->zG key (P++A++B++Q) (m + i)=zG key B i:=λi hi=>by
      rw [show P++A++B++Q=(P++A)++(B++Q) by simp,kYt (i:=i) bC6,kAt_left hi]
    generalize U:P++A++B++Q=xs at W X;unfold symm;by_cases c1:m - a=1
    · rw [Al c1];obtain ⟨x,rfl⟩:∃ x,A=[x]:=Az.1 bD1;have hx:zG key xs a=key x:=by have:=W 0 bD2;simpa [zG] using this
      obtain ⟨I,O,G,F⟩:=jAs (λh=>decide (zG key xs h < zG key xs a)) _ m b rfl bD1;generalize bs (λh=>decide (zG key xs h < zG key xs a)) m b=i at I O G F ⊢;have t1:∀ y∈B.take (i - m),key y < key x:=take_lt sB bD1 (λht=>by
        have h:=of_decide_eq_true (G bD1);rw [show i - 1=m + (i - m - 1) by omega,X _ bD1] at h;omega)
      have t2:∀ y∈B.drop (i - m),key x<=key y:=kTt sB (λht=>by
        have h:=of_decide_eq_false (F bD1);rw [show i=m + (i - m) by omega,X _ ht] at h;omega)
      have e:xs=P++x :: B.take (i - m)++(B.drop (i - m)++Q):=by rw [<- U];simp;rw [<- Ab,Aa]
      refine ⟨B.take (i - m)++x :: B.drop (i - m),?_,?_,?_⟩
      · rw [e,up_spec (B.take (i - m)) P (B.drop (i - m)++Q) x _ a (by simp at hm ⊢;omega) hP.symm];simp
      · have E:=sB;rw [<- Aa (i - m) B] at E;refine E.left.append (Ag.2 ⟨t2,E.right⟩) ?_;intro u hu v hv;rcases Au.1 hv with rfl | hv
        · have:=t1 u hu;omega
        · exact E.cross u hu v hv
      · have s1:Same key ([x]++B.take (i - m)++B.drop (i - m)) (B.take (i - m)++[x]++B.drop (i - m)):=by
          refine (Same.swap ?_).append (Same.refl _);intro u hu v hv;obtain rfl:u=x:=by simpa using hu
          have:=t1 v hv;omega
        simpa using s1
    rw [Ak c1];by_cases c2:b - m=1
    · rw [Al c2];obtain ⟨x,rfl⟩:∃ x,B=[x]:=Az.1 bD1;have hx:zG key xs m=key x:=by have:=X 0 bD2;simpa [zG] using this
      obtain ⟨I,O,G,F⟩:=jAs (λh=>!decide (zG key xs m < zG key xs h)) _ a m rfl bD1;generalize bs (λh=>!decide (zG key xs m < zG key xs h)) a m=i at I O G F ⊢;have t1:∀ y∈A.take (i - a),key y<=key x:=kTn sA bD1 (λht=>by
        have h:=G bD1;simp only [Bd,Aw] at h;rw [show i - 1=a + (i - a - 1) by omega,W _ bD1] at h;omega)
      have t2:∀ y∈A.drop (i - a),key x < key y:=drop_gt sA (λht=>by
        have h:=F bD1;simp only [Bc,decide_eq_true_eq] at h;rw [show i=a + (i - a) by omega,W _ ht] at h;omega)
      have e:xs=(P++A.take (i - a))++A.drop (i - a)++x :: Q:=by
        rw [<- U,Ab P (A.take (i - a)),Aa];simp
      refine ⟨A.take (i - a)++x :: A.drop (i - a),?_,?_,?_⟩
      · rw [e,kZa (A.drop (i - a)).length (A.drop (i - a)) (P++A.take (i - a)) Q x i m rfl bC6 bC6];simp
      · have o:=sA;rw [<- Aa (i - a) A] at o;refine o.left.append (Ag.2 ⟨λy hy=>by have:=t2 y hy;omega,o.right⟩) ?_;intro u hu v hv;rcases Au.1 hv with rfl | hv
        · exact t1 u hu
        · exact o.cross u hu v hv
      · have s1:Same key (A.take (i - a)++(A.drop (i - a)++[x])) (A.take (i - a)++([x]++A.drop (i - a))):=by
          refine (Same.refl _).append (Same.swap ?_);intro u hu v hv;obtain rfl:v=x:=bB2;have:=t2 u hu;omega
        rw [<- Ab,Aa] at s1;simpa using s1
    rw [Ak c2];simp only;generalize D:(a + b) / 2=mid;have J:(if mid < m then mid + m - b else a)<=(if mid < m then mid else m):=by split <;> omega
    obtain ⟨I,O,G,F⟩:=jAs (λc=>!decide (zG key xs (mid + m - 1 - c) < zG key xs c)) _ (if mid < m then mid + m - b else a) (if mid < m then mid else m) rfl J;generalize bs (λc=>!decide (zG key xs (mid + m - 1 - c) < zG key xs c)) (if mid < m then mid + m - b else a) (if mid < m then mid else m)=s at I O G F ⊢;have a6:s<=m:=by split at O <;> omega
    have ae:a<=s:=by split at I <;> omega
    obtain ⟨e,he⟩:∃ e,mid + m - s=e:=⟨_,rfl⟩;rw [he];have dx:m<=e:=by split at O <;> omega
    have ah:e<=b:=by split at I <;> omega
    have eA:A=A.take (s - a)++A.drop (s - a):=(Aa _ _).symm;have eB:B=B.take (e - m)++B.drop (e - m):=(Aa _ _).symm;have q1:∀ y∈B.take (e - m),∀ x∈A.drop (s - a),key y < key x:=by
      intro y hy x hx;have ny:0 < e - m:=by
        rcases Nat.eq_zero_or_pos (e - m) with h | h
        · rw [h] at hy;simp at hy
        · exact h
      have nx:s - a < A.length:=by
        rcases Nat.lt_or_ge (s - a) A.length with h | h
        · exact h
        · rw [List.drop_eq_nil_of_le h] at hx;simp at hx
      have hs:s < (if mid < m then mid else m):=by split <;> (split at O <;> omega)
      have h:=F hs;simp only [Bc,decide_eq_true_eq] at h;rw [show mid + m - 1 - s=m + (e - m - 1) by omega,show s=a + (s - a) by omega,W _ nx,X _ bD1] at h;have h1:=kTn sB (t:=e - m) bD1 (k:=zG key B (e - m - 1)) (λ_=>Int.le_refl _) y hy;have h2:=kTt sA (t:=s - a) (k:=zG key A (s - a)) (λ_=>Int.le_refl _) x hx;omega
    have q2:∀ x∈A.take (s - a),∀ y∈B.drop (e - m),key x<=key y:=by
      intro x hx y hy;have nx:0 < s - a:=by
        rcases Nat.eq_zero_or_pos (s - a) with h | h
        · rw [h] at hx;simp at hx
        · exact h
      have ny:e - m < B.length:=by
        rcases Nat.lt_or_ge (e - m) B.length with h | h
        · exact h
        · rw [List.drop_eq_nil_of_le h] at hy;simp at hy
      have hs:(if mid < m then mid + m - b else a) < s:=by split <;> (split at I <;> omega)
      have h:=G hs;simp only [Bd,Aw] at h;rw [show mid + m - 1 - (s - 1)=m + (e - m) by omega,show s - 1=a + (s - a - 1) by omega,W _ bD1,X _ ny] at h;have h1:=kTn sA (t:=s - a) bD1 (k:=zG key A (s - a - 1)) (λ_=>Int.le_refl _) x hx;have h2:=kTt sB (t:=e - m) (k:=zG key B (e - m)) (λ_=>Int.le_refl _) y hy;omega
    have ai:(A.take (s - a)).length=s - a:=bC6;have lL:(A.drop (s - a)).length=m - s:=bC6;have Y:(B.take (e - m)).length=e - m:=bC6;have af:(B.drop (e - m)).length=b - e:=bC6;have N:xs=P++A.take (s - a)++A.drop (s - a)++(B.take (e - m)++B.drop (e - m))++Q:=by
      rw [<- U,Ab P (A.take (s - a)),Aa,Aa]
    have o:=sA;have E:=sB;rw [eA] at o;rw [eB] at E;have ab:Same key (A++B) (A.take (s - a)++B.take (e - m)++(A.drop (s - a)++B.drop (e - m))):=by
      have s1:Same key (A.take (s - a)++(A.drop (s - a)++B.take (e - m))++B.drop (e - m)) (A.take (s - a)++(B.take (e - m)++A.drop (s - a))++B.drop (e - m)) :=
        ((Same.refl _).append (Same.swap (λx hx y hy=>by have:=q1 y hy x hx;omega))).append (Same.refl _)
      have e1:A.take (s - a)++(A.drop (s - a)++B.take (e - m))++B.drop (e - m)=A++B:=by
        rw [<- Ab (A.take (s - a)),Aa,Ab,Aa]
      rw [e1] at s1;simpa using s1
    generalize A.take (s - a)=A1 at *;generalize A.drop (s - a)=L at *;generalize B.take (e - m)=R at *;generalize B.drop (e - m)=B2 at *;clear W X G F;have hy:(if s < m/\m < e then rot m (m - s) (e - m) xs else xs)=P++A1++R++(L++B2++Q):=by
      by_cases c:s < m/\m < e
      · rw [Al c,N];have:=rot_spec _ L R (P++A1) (B2++Q) m (m - s) (e - m) rfl lL Y bD1 bD1 bC6;simpa using this
      · rw [Ak c,N];have:L=[]\/R=[]:=by
          by_cases c':s < m
          · right;exact Ac bD1
          · left;exact Ac bD1
        rcases this with rfl | rfl <;> simp
    rw [hy];obtain ⟨M1,hz,ad,Z⟩:∃ M1,(if a < s/\s < mid then symm key f a s mid (P++A1++R++(L++B2++Q)) else P++A1++R++(L++B2++Q))=P++M1++(L++B2++Q)/\Asc key M1/\Same key (A1++R) M1:=by
      by_cases c:a < s/\s < mid
      · rw [Al c];exact kLh f a s mid P A1 R (L++B2++Q) bD1 hP (Ad.1 bD1) (Ad.1 bD1) bD1 bD1 o.left E.left
      · rw [Ak c];have:A1=[]\/R=[]:=by
          by_cases c':a < s
          · right;exact Ac bD1
          · left;exact Ac bD1
        rcases this with rfl | rfl
        · exact ⟨R,by simp,E.left,Same.refl _⟩
        · exact ⟨A1,by simp,o.left,by simpa using Same.refl A1⟩
    rw [hz];have ag:M1.length=mid - a:=by
      have:=Av Am hz;have l0:(if a < s/\s < mid then symm key f a s mid (P++A1++R++(L++B2++Q)) else P++A1++R++(L++B2++Q)).length=(P++A1++R++(L++B2++Q)).length:=by
        split
        · exact zu _ _ _ _ _
        · rfl
      rw [l0] at this;simp at this;omega
    obtain ⟨M2,hw,ac,aa⟩:∃ M2,(if mid < e/\e < b then symm key f mid e b (P++M1++(L++B2++Q)) else P++M1++(L++B2++Q))=P++M1++M2++Q/\Asc key M2/\Same key (L++B2) M2:=by
      by_cases c:mid < e/\e < b
      · rw [Al c];have:=kLh f mid e b (P++M1) L B2 Q bD1 bC6 (Ad.1 bD1) (Ad.1 bD1) bD1 bD1 o.right E.right;simpa using this
      · rw [Ak c];have:L=[]\/B2=[]:=by
          by_cases c':mid < e
          · right;exact Ac bD1
          · left;exact Ac bD1
        rcases this with rfl | rfl
        · exact ⟨B2,by simp,E.right,Same.refl _⟩
        · exact ⟨L,by simp,o.right,by simpa using Same.refl L⟩
    rw [hw];refine ⟨M1++M2,by simp,ad.append ac ?_,ab.trans (Z.append aa)⟩;intro u hu v hv;have V:=Z.symm.mem hu;have H:=aa.symm.mem hv;rcases Ap.1 V with h1 | h1 <;> rcases Ap.1 H with h2 | h2
    · exact o.cross u h1 v h2
    · exact q2 u h1 v h2
    · have:=q1 u h1 v h2;omega
    · exact E.cross u h1 v h2
def kNz (key:α->Int) (s:Nat) (l:Ae α):Prop:=∀ k,Asc key ((l.drop (k * s)).take s)
def kNz.cons {s:Nat} {A R:Ae α} (hA:A.length=s) (h:Asc key A) (hR:kNz key s R):kNz key s (A++R):=by
 intro k;cases k with
 | zero=>simp;rw [<- hA,List.take_append_of_le_length bD1,List.take_length];exact h
 | succ k =>
   have:(A++R).drop ((k + 1) * s)=R.drop (k * s):=by
     rw [Nat.add_mul,Nat.one_mul,Nat.add_comm,<- Bb,<- hA,List.drop_left]
   rw [this];exact hR k
def kNz.one {s:Nat} {A:Ae α} (hA:A.length<=s) (h:Asc key A):kNz key s A:=by
 intro k;cases k with
 | zero=>simp;rw [Ah hA];exact h
 | succ k=>rw [List.drop_eq_nil_of_le (by rw [Nat.add_mul];omega)];simp [Asc]
def kNz.whole {s:Nat} {l:Ae α} (h:kNz key s l) (hl:l.length<=s):Asc key l:=by
 have:=h 0;simp at this;rwa [Ah hl] at this
variable (key)
def blocks (n:Nat):Nat->Nat->Ae α->Ae α
  | 0,_,xs=>xs
  | f + 1,a,xs=>if a + 20<=n then blocks n f (a + 20) (kBs key a (a + 20) xs) else kBs key a n xs
def pass (n s:Nat):Nat->Nat->Ae α->Ae α
  | 0,_,xs=>xs
  | f + 1,a,xs=>if a + 2 * s<=n then pass n s f (a + 2 * s) (symm key (2 * s) a (a + s) (a + 2 * s) xs) else if a + s < n then symm key (n - a) a (a + s) n xs else xs
def passes (n:Nat):Nat->Nat->Ae α->Ae α
  | 0,_,xs=>xs
  | f + 1,s,xs=>if s < n then passes n f (2 * s) (pass key n s (n + 1) 0 xs) else xs
def stable (xs:Ae α):Ae α:=passes key xs.length (xs.length + 1) 20 (blocks key xs.length (xs.length + 1) 0 xs)
variable {key}
def kDb:∀ (n f a:Nat) (xs:Ae α),(blocks key n f a xs).length=xs.length
  | _,0,_,_=>rfl
  | n,f + 1,a,xs=>by
    unfold blocks;split
    · rw [kDb,kCd]
    · exact kCd _ _ _
def kCp:∀ (n s f a:Nat) (xs:Ae α),(pass key n s f a xs).length=xs.length
  | _,_,0,_,_=>rfl
  | n,s,f + 1,a,xs=>by
    unfold pass;split
    · rw [kCp,zu]
    · split
      · exact zu _ _ _ _ _
      · rfl
def kMv:∀ (n f s:Nat) (xs:Ae α),(passes key n f s xs).length=xs.length
  | _,0,_,_=>rfl
  | n,f + 1,s,xs=>by
    unfold passes;split
    · rw [kMv,kCp]
    · rfl
def kEr (xs:List α):(stable key xs).length=xs.length:=by unfold stable;rw [kMv,kDb]
def kSf:∀ (f:Nat) (P R:Ae α) (n a:Nat),R.length < f->P.length=a->n=a + R.length->∃ o,blocks key n f a (P++R)=P++o/\kNz key 20 o/\Same key R o
  | 0,P,R,n,a,hf,hP,hn=>Be hf bD1
  | f + 1,P,R,n,a,hf,hP,hn=>by
    unfold blocks;by_cases c:a + 20<=n
    · rw [Al c];have E:R.take 20++R.drop 20=R:=Aa _ _;have F:(R.take 20).length=20:=bC6;obtain ⟨M,h1,h2,h3⟩:=kRw (key:=key) (M:=R.take 20) (P:=P) (Q:=R.drop 20) (a:=a) (b:=a + 20) hP bD1;rw [Ab,E] at h1;rw [h1];have D:M.length=20:=by
        have:=Av Am h1;rw [kCd] at this;simp at this;omega
      obtain ⟨o,h4,h5,h6⟩:=kSf f (P++M) (R.drop 20) n (a + 20) bC6 bC6 bC6;refine ⟨M++o,by rw [h4];simp,h5.cons D h2,?_⟩;have:=h3.append h6;rwa [E] at this
    · rw [Ak c];obtain ⟨M,h1,h2,h3⟩:=kRw (key:=key) (M:=R) (P:=P) (Q:=[]) (a:=a) (b:=n) hP hn;rw [Aq,Aq] at h1;have D:M.length=R.length:=by
        have:=Av Am h1;rw [kCd] at this;simp at this;omega
      exact ⟨M,h1,kNz.one bD1 h2,h3⟩
def kYm {s:Nat} (hs:0 < s):∀ (f:Nat) (P R:Ae α) (n a:Nat),R.length < f->P.length=a->n=a + R.length->kNz key s R->∃ o,pass key n s f a (P++R)=P++o/\kNz key (2 * s) o/\Same key R o
  | 0,P,R,n,a,hf,hP,hn,hr=>Be hf bD1
  | f + 1,P,R,n,a,hf,hP,hn,hr=>by
    unfold pass;have r0:=hr 0;have W:=hr 1;simp at r0 W;have e1:R.take s++R.drop s=R:=Aa _ _;by_cases c:a + 2 * s<=n
    · rw [Al c];have e2:(R.drop s).take s++R.drop (s + s)=R.drop s:=by rw [<- Bb,Aa]
      have l1:(R.take s).length=s:=bC6;have l2:((R.drop s).take s).length=s:=bC6;obtain ⟨M,h1,h2,h3⟩:=kLh (key:=key) (2 * s) a (a + s) (a + 2 * s) P (R.take s) ((R.drop s).take s) (R.drop (s + s)) bD1 hP (Ad.1 bD1) (Ad.1 bD1) bD1 bD1 r0 W;rw [Ab (P++R.take s),e2,Ab P (R.take s),e1] at h1;rw [h1];have D:M.length=2 * s:=by
        have:=Av Am h1;rw [zu] at this;simp at this;omega
      have I:kNz key s (R.drop (s + s)):=by
        intro k;have:=hr (k + 2);rw [Bb,show s + s + k * s=(k + 2) * s by rw [Nat.add_mul];omega];exact this
      obtain ⟨o,h4,h5,h6⟩:=kYm hs f (P++M) (R.drop (s + s)) n (a + 2 * s) bC6 bC6 bC6 I;refine ⟨M++o,by rw [h4];simp,h5.cons D h2,?_⟩;have:=h3.append h6;rwa [Ab,e2,e1] at this
    · rw [Ak c];by_cases c2:a + s < n
      · rw [Al c2];rw [Ah bC6] at W;have l1:(R.take s).length=s:=bC6;have l2:(R.drop s).length=n - a - s:=bC6;obtain ⟨M,h1,h2,h3⟩:=kLh (key:=key) (n - a) a (a + s) n P (R.take s) (R.drop s) [] bD1 hP (Ad.1 bD1) (Ad.1 bD1) bD1 bD1 r0 W;rw [Aq,Aq,Ab,e1] at h1;rw [e1] at h3;have D:M.length=R.length:=by
          have:=Av Am h1;rw [zu] at this;simp at this;omega
        exact ⟨M,h1,kNz.one bD1 h2,h3⟩
      · rw [Ak c2];rw [Ah bD1] at r0;exact ⟨R,rfl,kNz.one bD1 r0,Same.refl _⟩
def kRq:∀ (f s:Nat) (l:Ae α),0 < s->l.length < f + s->kNz key s l->Asc key (passes key l.length f s l)/\Same key l (passes key l.length f s l)
  | 0,s,l,hs,hf,hr=>⟨hr.whole bD1,Same.refl _⟩
  | f + 1,s,l,hs,hf,hr=>by
    unfold passes;by_cases c:s < l.length
    · rw [Al c];obtain ⟨o,h1,h2,h3⟩:=kYm hs (l.length + 1) [] l l.length 0 bD1 rfl bD1 hr;rw [Ar,Ar] at h1;have Y:o.length=l.length:=by rw [<- h1,kCp]
      rw [h1,<- Y];obtain ⟨h4,h5⟩:=kRq f (2 * s) o bD1 bD1 h2;exact ⟨h4,h3.trans h5⟩
    · rw [Ak c];exact ⟨hr.whole bD1,Same.refl _⟩
def kRm (l:Ae α):Asc key (stable key l)/\Same key l (stable key l):=by
 unfold stable;obtain ⟨R,h1,h2,h3⟩:=kSf (key:=key) (l.length + 1) [] l l.length 0 bD1 rfl bD1;rw [Ar,Ar] at h1;have Y:R.length=l.length:=by rw [<- h1,kDb]
 rw [h1,<- Y];obtain ⟨h4,h5⟩:=kRq (key:=key) (R.length + 1) 20 R bD1 bD1 h2;exact ⟨h4,h3.trans h5⟩
variable (key)
def place:Nat->Ae α->α->Nat
  | 0,_,_=>0
  | k + 1,l,x=>if key x < zG key l k then place k l x else k + 1
def put (l:Ae α) (x:α):Ae α:=l.take (place key l.length l x)++[x]++l.drop (place key l.length l x)
def sorted (l:Ae α):Ae α:=l.foldl (put key) []
variable {key}
def kVh (l:Ae α) (x:α):∀ k,k<=l.length->place key k l x<=k/\(0 < place key k l x->zG key l (place key k l x - 1)<=key x)/\(place key k l x < k->key x < zG key l (place key k l x))
  | 0,_=>by simp [place]
  | k + 1,h=>by
    unfold place;split
    · rename_i q
      obtain ⟨h1,h2,h3⟩:=kVh l x k bD1;refine ⟨by omega,h2,λ_=>?_⟩;by_cases e:place key k l x < k
      · exact h3 e
      · rw [show place key k l x=k by omega];exact q
    · rename_i q
      exact ⟨Nat.le_refl _,λ_=>by simpa using q,λq=>Be q bD1⟩
def put_spec {l:Ae α} (h:Asc key l) (x:α):Asc key (put key l x)/\Same key (l++[x]) (put key l x):=by
 obtain ⟨h1,h2,h3⟩:=kVh (key:=key) l x l.length nL;unfold put;generalize place key l.length l x=p at *;have t1:=kTn h h1 h2;have t2:=drop_gt h h3;have E:=h;rw [<- Aa p l] at E;refine ⟨?_,?_⟩
 · rw [Ab];refine E.left.append (Ag.2 ⟨λy hy=>by have:=t2 y hy;omega,E.right⟩) ?_;intro u hu v hv;rcases Au.1 hv with rfl | hv
   · exact t1 u hu
   exact E.cross u hu v hv
 have s1:Same key (l.take p++(l.drop p++[x])) (l.take p++([x]++l.drop p)):=(Same.refl _).append (Same.swap (λu hu v hv=>by
   obtain rfl:v=x:=bB2;have:=t2 u hu;omega))
 rw [<- Ab,Aa] at s1;rwa [Ab]
def kWh:∀ (xs l:Ae α),Asc key l->Asc key (xs.foldl (put key) l)/\Same key (l++xs) (xs.foldl (put key) l)
  | [],l,h=>⟨h,by simpa using Same.refl l⟩
  | x :: xs,l,h=>by
    obtain ⟨h1,h2⟩:=put_spec h x;obtain ⟨h3,h4⟩:=kWh xs (put key l x) h1;refine ⟨h3,?_⟩;have:=(h2.append (Same.refl xs)).trans h4;simpa using this
def kDn (l:Ae α):Asc key (sorted key l)/\Same key l (sorted key l):=by
 have:=kWh (key:=key) l [] (by simp [Asc]);simpa [sorted] using this
def kLi (l:Ae α):stable key l=sorted key l:=uniq (kRm l).1 (kDn l).1 ((kRm l).2.symm.trans (kDn l).2)
def Same.filter {l o:Ae α} (h:Same key l o) {p:α->Bool}:Same key (l.filter p) (o.filter p):=λv=>by
  have:=Av (λz=>z.filter p) (h v);simp only [List.filter_filter] at this ⊢;simpa [Bool.and_comm] using this
def Asc.filter {l:Ae α} (h:Asc key l) {p:α->Bool}:Asc key (l.filter p):=List.Pairwise.filter p h
def kXk (l:Ae α) (p:α->Bool):(sorted key l).filter p=sorted key (l.filter p) :=
  uniq (kDn l).1.filter (kDn _).1 ((kDn l).2.symm.filter.trans (kDn _).2)
end
end Go.Proofs.YtjhfdpopkkmigaaGreat.Srt

/-
  The stable sort as Go has it (blocks of twenty, merges in place by rotation) and the insertion sort: the same list. No program in sight.
-/
import Derived.Test.YthpgoddjglnoiaaGreatDoorAli
set_option linter.unusedVariables false
set_option linter.unusedSimpArgs false
set_option linter.unnecessarySimpa false
namespace Go.Proofs.YthpgoddjglnoiaaGreatDoor.Srt
section
variable {α:Type} (key:α→Int)
def Asc (l:List α):Prop:=l.Pairwise (fun a b=>key a≤key b)
def Same (l l':List α):Prop:=∀ v,l.filter (fun x=>decide (key x=v))=l'.filter (fun x=>decide (key x=v))
variable {key}
theorem Same.refl (l:List α):Same key l l:=fun _=>rfl
theorem Same.symm {l l':List α} (h:Same key l l'):Same key l' l:=fun v=>(h v).symm
theorem Same.trans {a b c:List α} (h:Same key a b) (k:Same key b c):Same key a c:=fun v=>(h v).trans (k v)
theorem Same.append {a a' b b':List α} (h:Same key a a') (k:Same key b b'):Same key (a++b) (a'++b'):=fun v=>by
  rw [List.filter_append,List.filter_append,h v,k v]
theorem Same.mem {l l':List α} (h:Same key l l') {x:α} (hx:x∈l):x∈l':=by
 have h1:x∈l.filter (fun y=>decide (key y=key x)):=by simp [hx]
 rw [h] at h1
 exact (List.mem_filter.1 h1).1
theorem Same.nil {l:List α} (h:Same key [] l):l=[]:=by
 cases l with
 | nil=>rfl
 | cons y ys=>exact absurd (h.symm.mem (List.mem_cons_self)) fZ
theorem Same.swap {a b:List α} (h:∀ x∈a,∀ y∈b,key x≠key y):Same key (a++b) (b++a):=fun v=>by
  rw [List.filter_append,List.filter_append]
  by_cases hv:∃ x∈a,key x=v
  · obtain ⟨x,hx,rfl⟩:=hv
    have:b.filter (fun z=>decide (key z=key x))=[]:=by
      rw [List.filter_eq_nil_iff]
      intro y hy q
      exact h x hx y hy (by simpa using (of_decide_eq_true q).symm)
    rw [this];simp
  · have:a.filter (fun z=>decide (key z=v))=[]:=by
      rw [List.filter_eq_nil_iff]
      intro y hy q
      exact hv ⟨y,hy,of_decide_eq_true q⟩
    rw [this];simp
theorem uniq:∀ {l l':List α},Asc key l→Asc key l'→Same key l l'→l=l'
  | [],l',_,_,h=>h.nil.symm
  | l,[],_,_,h=>h.symm.nil
  | x :: xs,y :: ys,h1,h2,h=>by
    have hk:∀ {x y:α} {xs ys:List α},Asc key (y :: ys)→Same key (x :: xs) (y :: ys)→key y≤key x:=by
      intro x y xs ys h2 h
      have hm:=h.mem (List.mem_cons_self (a:=x) (l:=xs))
      rcases List.mem_cons.1 hm with e | e
      · rw [e];exact Int.le_refl _
      · exact (List.pairwise_cons.1 h2).1 x e
    have e:key x=key y:=Int.le_antisymm (hk h1 h.symm) (hk h2 h)
    have hx:=h (key x)
    rw [List.filter_cons_of_pos fZ,List.filter_cons_of_pos (by simp [e])] at hx
    have exy:x=y:=(List.cons.inj hx).1
    subst exy
    congr 1
    refine uniq (List.pairwise_cons.1 h1).2 (List.pairwise_cons.1 h2).2 (fun v=>?_)
    have hv:=h v
    by_cases q:key x=v
    · rw [List.filter_cons_of_pos (by simp [q]),List.filter_cons_of_pos (by simp [q])] at hv
      exact (List.cons.inj hv).2
    · rw [List.filter_cons_of_neg (by simp [q]),List.filter_cons_of_neg (by simp [q])] at hv
      exact hv
theorem Asc.append {a b:List α} (h:Asc key a) (k:Asc key b) (q:∀ x∈a,∀ y∈b,key x≤key y):Asc key (a++b):=List.pairwise_append.2 ⟨h,k,q⟩
theorem Asc.left {a b:List α} (h:Asc key (a++b)):Asc key a:=(List.pairwise_append.1 h).1
theorem Asc.right {a b:List α} (h:Asc key (a++b)):Asc key b:=(List.pairwise_append.1 h).2.1
theorem Asc.cross {a b:List α} (h:Asc key (a++b)):∀ x∈a,∀ y∈b,key x≤key y:=(List.pairwise_append.1 h).2.2
variable (key)
def kAt (xs:List α) (i:Nat):Int:=((xs[i]?).map key).getD 0
variable {key}
theorem jG {xs:List α} {i:Nat} (h:i < xs.length):kAt key xs i=key xs[i]:=by simp [kAt,h]
theorem kAt_left {a b:List α} {i:Nat} (h:i < a.length):kAt key (a++b) i=kAt key a i:=by simp [kAt,List.getElem?_append_left h]
theorem kIf {a b:List α} {i j:Nat} (h:j=a.length + i):kAt key (a++b) j=kAt key b i:=by
 subst h;simp [kAt,List.getElem?_append_right]
theorem Asc.kAt_le {l:List α} (h:Asc key l) {i j:Nat} (hij:i≤j) (hj:j < l.length):kAt key l i≤kAt key l j:=by
 rw [jG fV,jG hj]
 rcases Nat.lt_or_ge i j with q | q
 · exact List.pairwise_iff_getElem.1 h i j fV hj q
 obtain rfl:i=j:=fV
 exact Int.le_refl _
theorem kGu {l:List α} {x:α} (h:x∈l):∃ i,i < l.length∧kAt key l i=key x:=by
 obtain ⟨i,hi,rfl⟩:=List.getElem_of_mem h
 exact ⟨i,hi,jG hi⟩
def sw (xs:List α) (i j:Nat):List α:=match xs[i]?,xs[j]? with
  | some x,some y=>(xs.set i y).set j x
  | _,_=>xs
theorem kIp {xs:List α} {i j:Nat} (hi:i < xs.length) (hj:j < xs.length):sw xs i j=(xs.set i xs[j]).set j xs[i]:=by simp [sw,hi,hj]
theorem jr (xs:List α) (i j:Nat):(sw xs i j).length=xs.length:=by
 unfold sw;split <;> simp
theorem kIq (xs:List α) (i j:Nat):sw xs i j=sw xs j i:=by
 by_cases hi:i < xs.length
 · by_cases hj:j < xs.length
   · rw [kIp hi hj,kIp hj hi]
     by_cases e:i=j
     · subst e;rfl
     exact List.set_comm _ _ e
   simp [sw,hj,Nat.not_lt.1 hj]
 simp [sw,hi,Nat.not_lt.1 hi]
theorem kAi (p m q:List α) (x y:α) {i j:Nat} (hi:i=p.length) (hj:j=p.length + 1 + m.length):sw (p++x :: m++y :: q) i j=p++y :: m++x :: q:=by
 subst hi hj
 have h1:p.length < (p++x :: m++y :: q).length:=fZ
 have h2:p.length + 1 + m.length < (p++x :: m++y :: q).length:=fQ
 rw [kIp h1 h2]
 have e1:(p++x :: m++y :: q)[p.length]=x:=fZ
 have e2:(p++x :: m++y :: q)[p.length + 1 + m.length]=y:=by
  rw [List.getElem_append_right fQ]
  simp [show p.length + 1 + m.length - (p.length + (m.length + 1))=0 by omega]
 rw [e1,e2]
 have e3:(p++x :: m++y :: q).set p.length y=p++y :: m++y :: q:=by
  rw [List.append_assoc,List.set_append_right _ _ nL];simp
 rw [e3]
 rw [List.set_append_right _ _ fQ]
 simp [show p.length + 1 + m.length - (p.length + (m.length + 1))=0 by omega]
variable (key)
def inner (a:Nat):Nat→List α→List α
  | 0,xs=>xs
  | j + 1,xs=>if a < j + 1∧kAt key xs (j + 1) < kAt key xs j then inner a j (sw xs (j + 1) j) else xs
def outer (a:Nat):Nat→Nat→List α→List α
  | 0,_,xs=>xs
  | n + 1,i,xs=>outer a n (i + 1) (inner key a i xs)
def yf (a b:Nat) (xs:List α):List α:=outer key a (b - (a + 1)) (a + 1) xs
variable {key}
theorem kBg:∀ (a j:Nat) (xs:List α),(inner key a j xs).length=xs.length
  | _,0,_=>rfl
  | a,j + 1,xs=>by
    unfold inner
    split
    · rw [kBg,jr]
    · rfl
theorem kDt:∀ (a n i:Nat) (xs:List α),(outer key a n i xs).length=xs.length
  | _,0,_,_=>rfl
  | a,n + 1,i,xs=>by
    unfold outer
    rw [kDt,kBg]
theorem yF (a b:Nat) (xs:List α):(yf key a b xs).length=xs.length:=kDt _ _ _ _
theorem inner_spec:∀ (A:List α) (P Q:List α) (x:α) (a j:Nat),P.length=a→j=a + A.length→Asc key A →
    ∃ M,inner key a j (P++A++x :: Q)=P++M++Q∧Asc key M∧Same key (A++[x]) M:=by
 intro A
 induction hn:A.length generalizing A with
 | zero =>
   intro P Q x a j hP hj hA
   obtain rfl:A=[]:=List.eq_nil_of_length_eq_zero hn
   refine ⟨[x],?_,by simp [Asc],Same.refl _⟩
   have hja:j=a:=fD
   subst hja
   cases j with
   | zero=>simp [inner]
   | succ j=>unfold inner;rw [if_neg fV];simp
 | succ n ih =>
   intro P Q x a j hP hj hA
   obtain ⟨B,y,rfl⟩:∃ B y,A=B++[y]:=⟨A.dropLast,A.getLast (by intro h;simp [h] at hn),(List.dropLast_concat_getLast _).symm⟩
   have hB:B.length=n:=by simpa using hn
   obtain ⟨i,rfl⟩:∃ i,j=i + 1:=⟨j - 1,by omega⟩
   have hi:i=a + B.length:=fV
   have hky:kAt key (P++(B++[y])++x :: Q) i=key y:=by
     rw [jG fQ]
     congr 1
     rw [List.getElem_append_left fQ,List.getElem_append_right fV]
     simp [show i - P.length=B.length by omega]
   have hkx:kAt key (P++(B++[y])++x :: Q) (i + 1)=key x:=by
     rw [jG fQ]
     congr 1
     rw [List.getElem_append_right fQ]
     simp [show i + 1 - (P.length + (B.length + 1))=0 by omega]
   unfold inner
   rw [hky,hkx]
   by_cases hlt:key x < key y
   · rw [if_pos ⟨by omega,hlt⟩]
     have es:sw (P++(B++[y])++x :: Q) (i + 1) i=P++B++x :: (y :: Q):=by
       rw [kIq]
       have:=kAi (P++B) [] Q y x (i:=i) (j:=i + 1) fQ fQ
       simpa using this
     rw [es]
     obtain ⟨M,h1,h2,h3⟩:=ih B hB P (y :: Q) x a i hP fV hA.left
     refine ⟨M++[y],by rw [h1];simp,?_,?_⟩
     · refine h2.append (by simp [Asc]) ?_
       intro u hu v hv
       obtain rfl:v=y:=fK
       have hu':=h3.symm.mem hu
       rcases List.mem_append.1 hu' with q | q
       · exact hA.cross u q v fZ
       · obtain rfl:u=x:=by simpa using q
         omega
     · have s1:Same key (B++[y]++[x]) (B++[x]++[y]):=by
         rw [List.append_assoc,List.append_assoc]
         refine (Same.refl B).append (Same.swap ?_)
         intro u hu v hv
         obtain rfl:u=y:=by simpa using hu
         obtain rfl:v=x:=fK
         omega
       exact s1.trans (h3.append (Same.refl [y]))
   · rw [if_neg (by rintro ⟨_,q⟩;exact hlt q)]
     refine ⟨B++[y]++[x],by simp,?_,Same.refl _⟩
     refine hA.append (by simp [Asc]) ?_
     intro u hu v hv
     obtain rfl:v=x:=fK
     rcases List.mem_append.1 hu with q | q
     · have:=hA.cross u q y fZ;omega
     · obtain rfl:u=y:=by simpa using q
       omega
theorem kGq:∀ (n:Nat) (A C P Q:List α) (a i:Nat),C.length=n→P.length=a→i=a + A.length→Asc key A →
    ∃ M,outer key a n i (P++A++C++Q)=P++M++Q∧Asc key M∧Same key (A++C) M
  | 0,A,C,P,Q,a,i,hC,hP,hi,hA=>by
    obtain rfl:C=[]:=List.eq_nil_of_length_eq_zero hC
    exact ⟨A,by simp [outer],hA,by simpa using Same.refl A⟩
  | n + 1,A,C,P,Q,a,i,hC,hP,hi,hA=>by
    obtain ⟨x,C,rfl⟩:∃ x D,C=x :: D:=by cases C with | nil=>simp at hC | cons x D=>exact ⟨x,D,rfl⟩
    obtain ⟨M,h1,h2,h3⟩:=inner_spec A P (C++Q) x a i hP hi hA
    have hl:=congrArg List.length h1
    rw [kBg] at hl
    obtain ⟨M2,h4,h5,h6⟩:=kGq n M C P Q a (i + 1) (by simpa using hC) hP (by simp at hl;omega) h2
    refine ⟨M2,?_,h5,?_⟩
    · unfold outer
      rw [show P++A++x :: C++Q=P++A++x :: (C++Q) by simp,h1,show P++M++(C++Q)=P++M++C++Q by simp,h4]
    · refine Same.trans ?_ h6
      rw [show A++x :: C=A++[x]++C by simp]
      exact h3.append (Same.refl C)
theorem kFl {M P Q:List α} {a b:Nat} (hP:P.length=a) (hb:b=a + M.length):∃ M',yf key a b (P++M++Q)=P++M'++Q∧Asc key M'∧Same key M M':=by
 unfold yf
 cases M with
 | nil => 
   have:b - (a + 1)=0:=by simp at hb;omega
   rw [this]
   exact ⟨[],rfl,by simp [Asc],Same.refl _⟩
 | cons x C =>
   have:=kGq (key:=key) (b - (a + 1)) [x] C P Q a (a + 1) (by simp at hb;omega) hP fZ (by simp [Asc])
   simpa using this
def swr:Nat→Nat→Nat→List α→List α
  | 0,_,_,xs=>xs
  | n + 1,a,b,xs=>swr n (a + 1) (b + 1) (sw xs a b)
theorem yX:∀ (n a b:Nat) (xs:List α),(swr n a b xs).length=xs.length
  | 0,_,_,_=>rfl
  | n + 1,a,b,xs=>by unfold swr;rw [yX,jr]
theorem kDk:∀ (X Y P M Q:List α) (n a b:Nat),X.length=n→Y.length=n→a=P.length→b=P.length + n + M.length→swr n a b (P++X++M++Y++Q)=P++Y++M++X++Q
  | [],Y,P,M,Q,n,a,b,hX,hY,ha,hb=>by
    obtain rfl:n=0:=by simpa using hX.symm
    obtain rfl:Y=[]:=List.eq_nil_of_length_eq_zero hY
    simp [swr]
  | x :: X,Y,P,M,Q,n,a,b,hX,hY,ha,hb=>by
    obtain ⟨k,rfl⟩:∃ k,n=k + 1:=⟨X.length,by simpa using hX.symm⟩
    obtain ⟨y,Y,rfl⟩:∃ y Z,Y=y :: Z:=by cases Y with | nil=>simp at hY | cons y Z=>exact ⟨y,Z,rfl⟩
    have hx:X.length=k:=by simpa using hX
    have hy:Y.length=k:=by simpa using hY
    unfold swr
    have e:=kAi P (X++M) (Y++Q) x y (i:=a) (j:=b) ha fQ
    rw [show P++x :: X++M++y :: Y++Q=P++x :: (X++M)++y :: (Y++Q) by simp,e]
    have ih:=kDk X Y (P++[y]) (M++[x]) Q k (a + 1) (b + 1) hx hy fQ fQ
    rw [show P++y :: (X++M)++x :: (Y++Q)=P++[y]++X++(M++[x])++Y++Q by simp,ih]
    simp
def rot (m i j:Nat) (xs:List α):List α :=
  if i=j then swr i (m - i) m xs
  else if h:0 < i∧0 < j then
    if j < i then rot m (i - j) j (swr j (m - i) m xs) else rot m i (j - i) (swr i (m - i) (m + j - i) xs)
  else xs
  termination_by i + j
  decreasing_by all_goals omega
theorem kGn (m i j:Nat) (xs:List α):(rot m i j xs).length=xs.length:=by
 induction hk:i + j using Nat.strongRecOn generalizing i j xs with
 | _ k ih =>
   unfold rot
   split
   · exact yX _ _ _ _
   · split
     · split
       · rw [ih _ fV _ _ _ rfl,yX]
       · rw [ih _ fV _ _ _ rfl,yX]
     · rfl
theorem rot_spec:∀ (k:Nat) (X Y P Q:List α) (m i j:Nat),i + j=k→X.length=i→Y.length=j→0 < i→0 < j→m=P.length + i→rot m i j (P++X++Y++Q)=P++Y++X++Q:=by
 intro k
 induction k using Nat.strongRecOn with
 | _ k ih =>
   intro X Y P Q m i j hk hX hY hi hj hm
   unfold rot
   by_cases e:i=j
   · rw [if_pos e]
     have:=kDk X Y P [] Q i (m - i) m hX fV fV fQ
     simpa using this
   · rw [if_neg e,dif_pos ⟨hi,hj⟩]
     by_cases hlt:j < i
     · rw [if_pos hlt]
       have h1:=kDk (X.take j) Y P (X.drop j) Q j (m - i) m fQ hY fV fQ
       have e1:P++X.take j++X.drop j++Y++Q=P++X++Y++Q:=by rw [List.append_assoc P,List.take_append_drop]
       rw [e1] at h1
       rw [h1]
       have h2:=ih (i - j + j) fV (X.drop j) (X.take j) (P++Y) Q m (i - j) j rfl fQ fQ fV hj fQ
       rw [h2]
       have:X.take j++X.drop j=X:=List.take_append_drop j X
       rw [List.append_assoc (P++Y),this]
     · rw [if_neg hlt]
       have h1:=kDk X (Y.drop (j - i)) P (Y.take (j - i)) Q i (m - i) (m + j - i) hX fQ fV fQ
       have e1:P++X++Y.take (j - i)++Y.drop (j - i)++Q=P++X++Y++Q:=by rw [List.append_assoc (P++X),List.take_append_drop]
       rw [e1] at h1
       rw [h1]
       have h2:=ih (i + (j - i)) fV (Y.drop (j - i)) (Y.take (j - i)) P (X++Q) m i (j - i) rfl fQ fQ hi fV hm
       rw [show P++Y.drop (j - i)++Y.take (j - i)++X++Q=P++Y.drop (j - i)++Y.take (j - i)++(X++Q) by simp,h2]
       have:Y.take (j - i)++Y.drop (j - i)=Y:=List.take_append_drop _ Y
       rw [List.append_assoc P,this];simp
def bs (p:Nat→Bool) (i j:Nat):Nat :=
  if h:i < j then (if p ((i + j) / 2) then bs p ((i + j) / 2 + 1) j else bs p i ((i + j) / 2)) else i
  termination_by j - i
  decreasing_by all_goals omega
theorem kJh (p:Nat→Bool):∀ (k i j:Nat),j - i=k→i≤j→i≤bs p i j∧bs p i j≤j∧(i < bs p i j→p (bs p i j - 1)=true)∧(bs p i j < j→p (bs p i j)=false):=by
 intro k
 induction k using Nat.strongRecOn with
 | _ k ih =>
   intro i j hk hij
   unfold bs
   by_cases h:i < j
   · rw [dif_pos h]
     cases q:p ((i + j) / 2)
     · rw [if_neg fZ]
       obtain ⟨h1,h2,h3,h4⟩:=ih ((i + j) / 2 - i) fV i ((i + j) / 2) rfl fV
       refine ⟨h1,by omega,h3,fun _=>?_⟩
       by_cases e:bs p i ((i + j) / 2) < (i + j) / 2
       · exact h4 e
       · rw [show bs p i ((i + j) / 2)=(i + j) / 2 by omega];exact q
     · rw [if_pos rfl]
       obtain ⟨h1,h2,h3,h4⟩:=ih (j - ((i + j) / 2 + 1)) fV ((i + j) / 2 + 1) j rfl fV
       refine ⟨by omega,h2,fun _=>?_,h4⟩
       by_cases e:(i + j) / 2 + 1 < bs p ((i + j) / 2 + 1) j
       · exact h3 e
       · rw [show bs p ((i + j) / 2 + 1) j=(i + j) / 2 + 1 by omega];exact q
   · rw [dif_neg h]
     exact ⟨Nat.le_refl _,hij,fun q=>absurd q (Nat.lt_irrefl _),fun q=>absurd q h⟩
def up:Nat→Nat→List α→List α
  | 0,_,xs=>xs
  | n + 1,k,xs=>up n (k + 1) (sw xs k (k + 1))
theorem kHr:∀ (n k:Nat) (xs:List α),(up n k xs).length=xs.length
  | 0,_,_=>rfl
  | n + 1,k,xs=>by unfold up;rw [kHr,jr]
theorem up_spec:∀ (B P R:List α) (x:α) (n k:Nat),n=B.length→k=P.length→up n k (P++x :: B++R)=P++B++x :: R
  | [],P,R,x,n,k,hn,hk=>by subst hn;simp [up]
  | y :: B,P,R,x,n,k,hn,hk=>by
    subst hn
    show up (B.length) (k + 1) (sw _ k (k + 1))=_
    have e:=kAi P [] (B++R) x y (i:=k) (j:=k + 1) hk fQ
    rw [show P++x :: y :: B++R=P++[x]++y :: (B++R) by simp,e]
    have:=up_spec B (P++[y]) R x B.length (k + 1) rfl fQ
    rw [show P++[y]++x :: (B++R)=P++[y]++x :: B++R by simp,this]
    simp
def down (i:Nat):Nat→List α→List α
  | 0,xs=>xs
  | k + 1,xs=>if i < k + 1 then down i k (sw xs (k + 1) k) else xs
theorem kFm:∀ (i k:Nat) (xs:List α),(down i k xs).length=xs.length
  | _,0,_=>rfl
  | i,k + 1,xs=>by
    unfold down
    split
    · rw [kFm,jr]
    · rfl
theorem kIi:∀ (n:Nat) (B P R:List α) (x:α) (i k:Nat),B.length=n→i=P.length→k=i + n→down i k (P++B++x :: R)=P++x :: B++R
  | 0,B,P,R,x,i,k,hn,hi,hk=>by
    obtain rfl:B=[]:=List.eq_nil_of_length_eq_zero hn
    cases k with
    | zero=>simp [down]
    | succ k=>unfold down;rw [if_neg fV];simp
  | n + 1,B,P,R,x,i,k,hn,hi,hk=>by
    obtain ⟨C,y,rfl⟩:∃ C y,B=C++[y]:=⟨B.dropLast,B.getLast (by intro h;simp [h] at hn),(List.dropLast_concat_getLast _).symm⟩
    obtain ⟨k,rfl⟩:∃ q,k=q + 1:=⟨k - 1,by omega⟩
    have hC:C.length=n:=by simpa using hn
    unfold down
    rw [if_pos fV]
    have e:=kAi (P++C) [] R y x (i:=k) (j:=k + 1) fQ fQ
    rw [kIq,show P++(C++[y])++x :: R=P++C++[y]++x :: R by simp,e]
    have:=kIi n C P (y :: R) x i k hC hi fV
    rw [show P++C++[x]++y :: R=P++C++x :: (y :: R) by simp,this]
    simp
theorem take_lt {B:List α} (h:Asc key B) {t:Nat} (ht:t≤B.length) {k:Int} (q:0 < t→kAt key B (t - 1) < k):∀ y∈B.take t,key y < k:=by
 intro y hy
 obtain ⟨i,hi,e⟩:=kGu (key:=key) hy
 simp at hi
 rw [← e]
 have h1:=h.kAt_le (i:=i) (j:=t - 1) fV fV
 have h2:=q fV
 have h3:kAt key (B.take t) i=kAt key B i:=by rw [jG fQ,jG fV];simp
 omega
theorem kGa {B:List α} (h:Asc key B) {t:Nat} (ht:t≤B.length) {k:Int} (q:0 < t→kAt key B (t - 1)≤k):∀ y∈B.take t,key y≤k:=fun y hy=>by
  have:=take_lt h ht (k:=k + 1) (fun ht=>by have:=q ht;omega) y hy;omega
theorem kGc {B:List α} (h:Asc key B) {t:Nat} {k:Int} (q:t < B.length→k≤kAt key B t):∀ y∈B.drop t,k≤key y:=by
 intro y hy
 obtain ⟨i,hi,e⟩:=kGu (key:=key) hy
 simp at hi
 rw [← e]
 have h1:=h.kAt_le (i:=t) (j:=t + i) fV fV
 have h2:=q fV
 have h3:kAt key (B.drop t) i=kAt key B (t + i):=by simp [kAt]
 omega
theorem drop_gt {B:List α} (h:Asc key B) {t:Nat} {k:Int} (q:t < B.length→k < kAt key B t):∀ y∈B.drop t,k < key y:=fun y hy=>by
  have:=kGc h (k:=k + 1) (fun ht=>by have:=q ht;omega) y hy;omega
variable (key)
def symm:Nat→Nat→Nat→Nat→List α→List α
  | 0,_,_,_,xs=>xs
  | f + 1,a,m,b,xs =>
    if m - a=1 then up (bs (fun h=>decide (kAt key xs h < kAt key xs a)) m b - 1 - a) a xs
    else if b - m=1 then down (bs (fun h=>!decide (kAt key xs m < kAt key xs h)) a m) m xs
    else
      let mid:=(a + b) / 2
      let n:=mid + m
      let s:=bs (fun c=>!decide (kAt key xs (n - 1 - c) < kAt key xs c)) (if mid < m then n - b else a) (if mid < m then mid else m)
      let e:=n - s
      let y:=if s < m∧m < e then rot m (m - s) (e - m) xs else xs
      let z:=if a < s∧s < mid then symm f a s mid y else y
      if mid < e∧e < b then symm f mid e b z else z
variable {key}
theorem kJc {c:Prop} [Decidable c] {A B:List α} {n:Nat} (h:A.length=n) (k:B.length=n):(if c then A else B).length=n:=by split <;> assumption
theorem jO:∀ (f a m b:Nat) (xs:List α),(symm key f a m b xs).length=xs.length
  | 0,_,_,_,_=>rfl
  | f + 1,a,m,b,xs=>by
    unfold symm
    split
    · exact kHr _ _ _
    · split
      · exact kFm _ _ _
      · have y:=fun (c:Prop) [Decidable c] (p i j:Nat)=>kJc (c:=c) (kGn p i j xs) rfl
        have z:=fun (c d:Prop) [Decidable c] [Decidable d] (p i j k m n:Nat)=>kJc (c:=d) ((jO f k m n _).trans (y c p i j)) (y c p i j)
        exact kJc ((jO f _ _ _ _).trans (z _ _ _ _ _ _ _ _)) (z _ _ _ _ _ _ _ _)
theorem kCd:∀ (f a m b:Nat) (P A B Q:List α),b - a≤f→P.length=a→A≠[]→B≠[]→m=a + A.length→b=m + B.length→Asc key A→Asc key B →
    ∃ M,symm key f a m b (P++A++B++Q)=P++M++Q∧Asc key M∧Same key (A++B) M
  | 0,a,m,b,P,A,B,Q,hf,hP,hA,hB,hm,hb,sA,sB=>by
    have:=List.length_pos_iff.2 hA;omega
  | f + 1,a,m,b,P,A,B,Q,hf,hP,hA,hB,hm,hb,sA,sB=>by
    have lA:=List.length_pos_iff.2 hA
    have lB:=List.length_pos_iff.2 hB
    have kA:∀ i,i < A.length→kAt key (P++A++B++Q) (a + i)=kAt key A i:=fun i hi=>by
      rw [show P++A++B++Q=P++(A++(B++Q)) by simp,kIf (i:=i) fV,kAt_left hi]
    have kB:∀ i,i < B.length→kAt key (P++A++B++Q) (m + i)=kAt key B i:=fun i hi=>by
      rw [show P++A++B++Q=(P++A)++(B++Q) by simp,kIf (i:=i) fQ,kAt_left hi]
    generalize hxs:P++A++B++Q=xs at kA kB
    unfold symm
    by_cases c1:m - a=1
    · rw [if_pos c1]
      obtain ⟨x,rfl⟩:∃ x,A=[x]:=List.length_eq_one_iff.1 fV
      have hx:kAt key xs a=key x:=by have:=kA 0 fZ;simpa [kAt] using this
      obtain ⟨i1,i2,i3,i4⟩:=kJh (fun h=>decide (kAt key xs h < kAt key xs a)) _ m b rfl fV
      generalize bs (fun h=>decide (kAt key xs h < kAt key xs a)) m b=i at i1 i2 i3 i4 ⊢
      have t1:∀ y∈B.take (i - m),key y < key x:=take_lt sB fV (fun ht=>by
        have h:=of_decide_eq_true (i3 fV)
        rw [show i - 1=m + (i - m - 1) by omega,kB _ fV] at h;omega)
      have t2:∀ y∈B.drop (i - m),key x≤key y:=kGc sB (fun ht=>by
        have h:=of_decide_eq_false (i4 fV)
        rw [show i=m + (i - m) by omega,kB _ ht] at h;omega)
      have e:xs=P++x :: B.take (i - m)++(B.drop (i - m)++Q):=by rw [← hxs];simp;rw [← List.append_assoc,List.take_append_drop]
      refine ⟨B.take (i - m)++x :: B.drop (i - m),?_,?_,?_⟩
      · rw [e,up_spec (B.take (i - m)) P (B.drop (i - m)++Q) x _ a (by simp at hm ⊢;omega) hP.symm];simp
      · have sB':=sB
        rw [← List.take_append_drop (i - m) B] at sB'
        refine sB'.left.append (List.pairwise_cons.2 ⟨t2,sB'.right⟩) ?_
        intro u hu v hv
        rcases List.mem_cons.1 hv with rfl | hv
        · have:=t1 u hu;omega
        · exact sB'.cross u hu v hv
      · have s1:Same key ([x]++B.take (i - m)++B.drop (i - m)) (B.take (i - m)++[x]++B.drop (i - m)):=by
          refine (Same.swap ?_).append (Same.refl _)
          intro u hu v hv
          obtain rfl:u=x:=by simpa using hu
          have:=t1 v hv;omega
        simpa using s1
    rw [if_neg c1]
    by_cases c2:b - m=1
    · rw [if_pos c2]
      obtain ⟨x,rfl⟩:∃ x,B=[x]:=List.length_eq_one_iff.1 fV
      have hx:kAt key xs m=key x:=by have:=kB 0 fZ;simpa [kAt] using this
      obtain ⟨i1,i2,i3,i4⟩:=kJh (fun h=>!decide (kAt key xs m < kAt key xs h)) _ a m rfl fV
      generalize bs (fun h=>!decide (kAt key xs m < kAt key xs h)) a m=i at i1 i2 i3 i4 ⊢
      have t1:∀ y∈A.take (i - a),key y≤key x:=kGa sA fV (fun ht=>by
        have h:=i3 fV
        simp only [Bool.not_eq_true',decide_eq_false_iff_not] at h
        rw [show i - 1=a + (i - a - 1) by omega,kA _ fV] at h;omega)
      have t2:∀ y∈A.drop (i - a),key x < key y:=drop_gt sA (fun ht=>by
        have h:=i4 fV
        simp only [Bool.not_eq_false',decide_eq_true_eq] at h
        rw [show i=a + (i - a) by omega,kA _ ht] at h;omega)
      have e:xs=(P++A.take (i - a))++A.drop (i - a)++x :: Q:=by
        rw [← hxs,List.append_assoc P (A.take (i - a)),List.take_append_drop];simp
      refine ⟨A.take (i - a)++x :: A.drop (i - a),?_,?_,?_⟩
      · rw [e,kIi (A.drop (i - a)).length (A.drop (i - a)) (P++A.take (i - a)) Q x i m rfl fQ fQ];simp
      · have sA':=sA
        rw [← List.take_append_drop (i - a) A] at sA'
        refine sA'.left.append (List.pairwise_cons.2 ⟨fun y hy=>by have:=t2 y hy;omega,sA'.right⟩) ?_
        intro u hu v hv
        rcases List.mem_cons.1 hv with rfl | hv
        · exact t1 u hu
        · exact sA'.cross u hu v hv
      · have s1:Same key (A.take (i - a)++(A.drop (i - a)++[x])) (A.take (i - a)++([x]++A.drop (i - a))):=by
          refine (Same.refl _).append (Same.swap ?_)
          intro u hu v hv
          obtain rfl:v=x:=fK
          have:=t2 u hu;omega
        rw [← List.append_assoc,List.take_append_drop] at s1
        simpa using s1
    rw [if_neg c2]
    simp only
    generalize hmid:(a + b) / 2=mid
    have i0:(if mid < m then mid + m - b else a)≤(if mid < m then mid else m):=by split <;> omega
    obtain ⟨i1,i2,i3,i4⟩:=kJh (fun c=>!decide (kAt key xs (mid + m - 1 - c) < kAt key xs c)) _ (if mid < m then mid + m - b else a) (if mid < m then mid else m) rfl i0
    generalize bs (fun c=>!decide (kAt key xs (mid + m - 1 - c) < kAt key xs c)) (if mid < m then mid + m - b else a) (if mid < m then mid else m)=s at i1 i2 i3 i4 ⊢
    have hsm:s≤m:=by split at i2 <;> omega
    have hsa:a≤s:=by split at i1 <;> omega
    obtain ⟨e,he⟩:∃ e,mid + m - s=e:=⟨_,rfl⟩
    rw [he]
    have hem:m≤e:=by split at i2 <;> omega
    have heb:e≤b:=by split at i1 <;> omega
    have eA:A=A.take (s - a)++A.drop (s - a):=(List.take_append_drop _ _).symm
    have eB:B=B.take (e - m)++B.drop (e - m):=(List.take_append_drop _ _).symm
    have q1:∀ y∈B.take (e - m),∀ x∈A.drop (s - a),key y < key x:=by
      intro y hy x hx
      have ny:0 < e - m:=by
        rcases Nat.eq_zero_or_pos (e - m) with h | h
        · rw [h] at hy;simp at hy
        · exact h
      have nx:s - a < A.length:=by
        rcases Nat.lt_or_ge (s - a) A.length with h | h
        · exact h
        · rw [List.drop_eq_nil_of_le h] at hx;simp at hx
      have hs:s < (if mid < m then mid else m):=by split <;> (split at i2 <;> omega)
      have h:=i4 hs
      simp only [Bool.not_eq_false',decide_eq_true_eq] at h
      rw [show mid + m - 1 - s=m + (e - m - 1) by omega,show s=a + (s - a) by omega,kA _ nx,kB _ fV] at h
      have h1:=kGa sB (t:=e - m) fV (k:=kAt key B (e - m - 1)) (fun _=>Int.le_refl _) y hy
      have h2:=kGc sA (t:=s - a) (k:=kAt key A (s - a)) (fun _=>Int.le_refl _) x hx
      omega
    have q2:∀ x∈A.take (s - a),∀ y∈B.drop (e - m),key x≤key y:=by
      intro x hx y hy
      have nx:0 < s - a:=by
        rcases Nat.eq_zero_or_pos (s - a) with h | h
        · rw [h] at hx;simp at hx
        · exact h
      have ny:e - m < B.length:=by
        rcases Nat.lt_or_ge (e - m) B.length with h | h
        · exact h
        · rw [List.drop_eq_nil_of_le h] at hy;simp at hy
      have hs:(if mid < m then mid + m - b else a) < s:=by split <;> (split at i1 <;> omega)
      have h:=i3 hs
      simp only [Bool.not_eq_true',decide_eq_false_iff_not] at h
      rw [show mid + m - 1 - (s - 1)=m + (e - m) by omega,show s - 1=a + (s - a - 1) by omega,kA _ fV,kB _ ny] at h
      have h1:=kGa sA (t:=s - a) fV (k:=kAt key A (s - a - 1)) (fun _=>Int.le_refl _) x hx
      have h2:=kGc sB (t:=e - m) (k:=kAt key B (e - m)) (fun _=>Int.le_refl _) y hy
      omega
    have lA1:(A.take (s - a)).length=s - a:=fQ
    have lL:(A.drop (s - a)).length=m - s:=fQ
    have lR:(B.take (e - m)).length=e - m:=fQ
    have lB2:(B.drop (e - m)).length=b - e:=fQ
    have hxs':xs=P++A.take (s - a)++A.drop (s - a)++(B.take (e - m)++B.drop (e - m))++Q:=by
      rw [← hxs,List.append_assoc P (A.take (s - a)),List.take_append_drop,List.take_append_drop]
    have sA':=sA;have sB':=sB
    rw [eA] at sA'
    rw [eB] at sB'
    have sAB:Same key (A++B) (A.take (s - a)++B.take (e - m)++(A.drop (s - a)++B.drop (e - m))):=by
      have s1:Same key (A.take (s - a)++(A.drop (s - a)++B.take (e - m))++B.drop (e - m)) (A.take (s - a)++(B.take (e - m)++A.drop (s - a))++B.drop (e - m)) :=
        ((Same.refl _).append (Same.swap (fun x hx y hy=>by have:=q1 y hy x hx;omega))).append (Same.refl _)
      have e1:A.take (s - a)++(A.drop (s - a)++B.take (e - m))++B.drop (e - m)=A++B:=by
        rw [← List.append_assoc (A.take (s - a)),List.take_append_drop,List.append_assoc,List.take_append_drop]
      rw [e1] at s1
      simpa using s1
    generalize A.take (s - a)=A1 at *
    generalize A.drop (s - a)=L at *
    generalize B.take (e - m)=R at *
    generalize B.drop (e - m)=B2 at *
    clear kA kB i3 i4
    have hy:(if s < m∧m < e then rot m (m - s) (e - m) xs else xs)=P++A1++R++(L++B2++Q):=by
      by_cases c:s < m∧m < e
      · rw [if_pos c,hxs']
        have:=rot_spec _ L R (P++A1) (B2++Q) m (m - s) (e - m) rfl lL lR fV fV fQ
        simpa using this
      · rw [if_neg c,hxs']
        have:L=[]∨R=[]:=by
          by_cases c':s < m
          · right;exact List.eq_nil_of_length_eq_zero fV
          · left;exact List.eq_nil_of_length_eq_zero fV
        rcases this with rfl | rfl <;> simp
    rw [hy]
    obtain ⟨M1,hz,sM1,tM1⟩:∃ M1,(if a < s∧s < mid then symm key f a s mid (P++A1++R++(L++B2++Q)) else P++A1++R++(L++B2++Q))=P++M1++(L++B2++Q)∧Asc key M1∧Same key (A1++R) M1:=by
      by_cases c:a < s∧s < mid
      · rw [if_pos c]
        exact kCd f a s mid P A1 R (L++B2++Q) fV hP (List.length_pos_iff.1 fV) (List.length_pos_iff.1 fV) fV fV sA'.left sB'.left
      · rw [if_neg c]
        have:A1=[]∨R=[]:=by
          by_cases c':a < s
          · right;exact List.eq_nil_of_length_eq_zero fV
          · left;exact List.eq_nil_of_length_eq_zero fV
        rcases this with rfl | rfl
        · exact ⟨R,by simp,sB'.left,Same.refl _⟩
        · exact ⟨A1,by simp,sA'.left,by simpa using Same.refl A1⟩
    rw [hz]
    have lM1:M1.length=mid - a:=by
      have:=congrArg List.length hz
      have l0:(if a < s∧s < mid then symm key f a s mid (P++A1++R++(L++B2++Q)) else P++A1++R++(L++B2++Q)).length=(P++A1++R++(L++B2++Q)).length:=by
        split
        · exact jO _ _ _ _ _
        · rfl
      rw [l0] at this
      simp at this;omega
    obtain ⟨M2,hw,sM2,tM2⟩:∃ M2,(if mid < e∧e < b then symm key f mid e b (P++M1++(L++B2++Q)) else P++M1++(L++B2++Q))=P++M1++M2++Q∧Asc key M2∧Same key (L++B2) M2:=by
      by_cases c:mid < e∧e < b
      · rw [if_pos c]
        have:=kCd f mid e b (P++M1) L B2 Q fV fQ (List.length_pos_iff.1 fV) (List.length_pos_iff.1 fV) fV fV sA'.right sB'.right
        simpa using this
      · rw [if_neg c]
        have:L=[]∨B2=[]:=by
          by_cases c':mid < e
          · right;exact List.eq_nil_of_length_eq_zero fV
          · left;exact List.eq_nil_of_length_eq_zero fV
        rcases this with rfl | rfl
        · exact ⟨B2,by simp,sB'.right,Same.refl _⟩
        · exact ⟨L,by simp,sA'.right,by simpa using Same.refl L⟩
    rw [hw]
    refine ⟨M1++M2,by simp,sM1.append sM2 ?_,sAB.trans (tM1.append tM2)⟩
    intro u hu v hv
    have hu':=tM1.symm.mem hu
    have hv':=tM2.symm.mem hv
    rcases List.mem_append.1 hu' with h1 | h1 <;> rcases List.mem_append.1 hv' with h2 | h2
    · exact sA'.cross u h1 v h2
    · exact q2 u h1 v h2
    · have:=q1 u h1 v h2;omega
    · exact sB'.cross u h1 v h2
def kDd (key:α→Int) (s:Nat) (l:List α):Prop:=∀ k,Asc key ((l.drop (k * s)).take s)
theorem kDd.cons {s:Nat} {A R:List α} (hA:A.length=s) (h:Asc key A) (hR:kDd key s R):kDd key s (A++R):=by
 intro k
 cases k with
 | zero=>simp;rw [← hA,List.take_append_of_le_length fV,List.take_length];exact h
 | succ k =>
   have:(A++R).drop ((k + 1) * s)=R.drop (k * s):=by
     rw [Nat.add_mul,Nat.one_mul,Nat.add_comm,← List.drop_drop,← hA,List.drop_left]
   rw [this];exact hR k
theorem kDd.one {s:Nat} {A:List α} (hA:A.length≤s) (h:Asc key A):kDd key s A:=by
 intro k
 cases k with
 | zero=>simp;rw [List.take_of_length_le hA];exact h
 | succ k=>rw [List.drop_eq_nil_of_le (by rw [Nat.add_mul];omega)];simp [Asc]
theorem kDd.whole {s:Nat} {l:List α} (h:kDd key s l) (hl:l.length≤s):Asc key l:=by
 have:=h 0
 simp at this
 rwa [List.take_of_length_le hl] at this
variable (key)
def blocks (n:Nat):Nat→Nat→List α→List α
  | 0,_,xs=>xs
  | f + 1,a,xs=>if a + 20≤n then blocks n f (a + 20) (yf key a (a + 20) xs) else yf key a n xs
def pass (n s:Nat):Nat→Nat→List α→List α
  | 0,_,xs=>xs
  | f + 1,a,xs=>if a + 2 * s≤n then pass n s f (a + 2 * s) (symm key (2 * s) a (a + s) (a + 2 * s) xs) else if a + s < n then symm key (n - a) a (a + s) n xs else xs
def passes (n:Nat):Nat→Nat→List α→List α
  | 0,_,xs=>xs
  | f + 1,s,xs=>if s < n then passes n f (2 * s) (pass key n s (n + 1) 0 xs) else xs
def stable (xs:List α):List α:=passes key xs.length (xs.length + 1) 20 (blocks key xs.length (xs.length + 1) 0 xs)
variable {key}
theorem ym:∀ (n f a:Nat) (xs:List α),(blocks key n f a xs).length=xs.length
  | _,0,_,_=>rfl
  | n,f + 1,a,xs=>by
    unfold blocks
    split
    · rw [ym,yF]
    · exact yF _ _ _
theorem zF:∀ (n s f a:Nat) (xs:List α),(pass key n s f a xs).length=xs.length
  | _,_,0,_,_=>rfl
  | n,s,f + 1,a,xs=>by
    unfold pass
    split
    · rw [zF,jO]
    · split
      · exact jO _ _ _ _ _
      · rfl
theorem kCo:∀ (n f s:Nat) (xs:List α),(passes key n f s xs).length=xs.length
  | _,0,_,_=>rfl
  | n,f + 1,s,xs=>by
    unfold passes
    split
    · rw [kCo,zF]
    · rfl
theorem kCl (xs:List α):(stable key xs).length=xs.length:=by unfold stable;rw [kCo,ym]
theorem kFo:∀ (f:Nat) (P R:List α) (n a:Nat),R.length < f→P.length=a→n=a + R.length→∃ R',blocks key n f a (P++R)=P++R'∧kDd key 20 R'∧Same key R R'
  | 0,P,R,n,a,hf,hP,hn=>absurd hf fV
  | f + 1,P,R,n,a,hf,hP,hn=>by
    unfold blocks
    by_cases c:a + 20≤n
    · rw [if_pos c]
      have eR:R.take 20++R.drop 20=R:=List.take_append_drop _ _
      have lT:(R.take 20).length=20:=fQ
      obtain ⟨M,h1,h2,h3⟩:=kFl (key:=key) (M:=R.take 20) (P:=P) (Q:=R.drop 20) (a:=a) (b:=a + 20) hP fV
      rw [List.append_assoc,eR] at h1
      rw [h1]
      have lM:M.length=20:=by
        have:=congrArg List.length h1
        rw [yF] at this
        simp at this;omega
      obtain ⟨R',h4,h5,h6⟩:=kFo f (P++M) (R.drop 20) n (a + 20) fQ fQ fQ
      refine ⟨M++R',by rw [h4];simp,h5.cons lM h2,?_⟩
      have:=h3.append h6
      rwa [eR] at this
    · rw [if_neg c]
      obtain ⟨M,h1,h2,h3⟩:=kFl (key:=key) (M:=R) (P:=P) (Q:=[]) (a:=a) (b:=n) hP hn
      rw [List.append_nil,List.append_nil] at h1
      have lM:M.length=R.length:=by
        have:=congrArg List.length h1
        rw [yF] at this
        simp at this;omega
      exact ⟨M,h1,kDd.one fV h2,h3⟩
theorem kIb {s:Nat} (hs:0 < s):∀ (f:Nat) (P R:List α) (n a:Nat),R.length < f→P.length=a→n=a + R.length→kDd key s R→∃ R',pass key n s f a (P++R)=P++R'∧kDd key (2 * s) R'∧Same key R R'
  | 0,P,R,n,a,hf,hP,hn,hr=>absurd hf fV
  | f + 1,P,R,n,a,hf,hP,hn,hr=>by
    unfold pass
    have r0:=hr 0
    have r1:=hr 1
    simp at r0 r1
    have e1:R.take s++R.drop s=R:=List.take_append_drop _ _
    by_cases c:a + 2 * s≤n
    · rw [if_pos c]
      have e2:(R.drop s).take s++R.drop (s + s)=R.drop s:=by rw [← List.drop_drop,List.take_append_drop]
      have l1:(R.take s).length=s:=fQ
      have l2:((R.drop s).take s).length=s:=fQ
      obtain ⟨M,h1,h2,h3⟩:=kCd (key:=key) (2 * s) a (a + s) (a + 2 * s) P (R.take s) ((R.drop s).take s) (R.drop (s + s)) fV hP (List.length_pos_iff.1 fV) (List.length_pos_iff.1 fV) fV fV r0 r1
      rw [List.append_assoc (P++R.take s),e2,List.append_assoc P (R.take s),e1] at h1
      rw [h1]
      have lM:M.length=2 * s:=by
        have:=congrArg List.length h1
        rw [jO] at this
        simp at this;omega
      have hr2:kDd key s (R.drop (s + s)):=by
        intro k
        have:=hr (k + 2)
        rw [List.drop_drop,show s + s + k * s=(k + 2) * s by rw [Nat.add_mul];omega]
        exact this
      obtain ⟨R',h4,h5,h6⟩:=kIb hs f (P++M) (R.drop (s + s)) n (a + 2 * s) fQ fQ fQ hr2
      refine ⟨M++R',by rw [h4];simp,h5.cons lM h2,?_⟩
      have:=h3.append h6
      rwa [List.append_assoc,e2,e1] at this
    · rw [if_neg c]
      by_cases c2:a + s < n
      · rw [if_pos c2]
        rw [List.take_of_length_le fQ] at r1
        have l1:(R.take s).length=s:=fQ
        have l2:(R.drop s).length=n - a - s:=fQ
        obtain ⟨M,h1,h2,h3⟩:=kCd (key:=key) (n - a) a (a + s) n P (R.take s) (R.drop s) [] fV hP (List.length_pos_iff.1 fV) (List.length_pos_iff.1 fV) fV fV r0 r1
        rw [List.append_nil,List.append_nil,List.append_assoc,e1] at h1
        rw [e1] at h3
        have lM:M.length=R.length:=by
          have:=congrArg List.length h1
          rw [jO] at this
          simp at this;omega
        exact ⟨M,h1,kDd.one fV h2,h3⟩
      · rw [if_neg c2]
        rw [List.take_of_length_le fV] at r0
        exact ⟨R,rfl,kDd.one fV r0,Same.refl _⟩
theorem kFf:∀ (f s:Nat) (l:List α),0 < s→l.length < f + s→kDd key s l→Asc key (passes key l.length f s l)∧Same key l (passes key l.length f s l)
  | 0,s,l,hs,hf,hr=>⟨hr.whole fV,Same.refl _⟩
  | f + 1,s,l,hs,hf,hr=>by
    unfold passes
    by_cases c:s < l.length
    · rw [if_pos c]
      obtain ⟨R',h1,h2,h3⟩:=kIb hs (l.length + 1) [] l l.length 0 fV rfl fV hr
      rw [List.nil_append,List.nil_append] at h1
      have lR:R'.length=l.length:=by rw [← h1,zF]
      rw [h1,← lR]
      obtain ⟨h4,h5⟩:=kFf f (2 * s) R' fV fV h2
      exact ⟨h4,h3.trans h5⟩
    · rw [if_neg c]
      exact ⟨hr.whole fV,Same.refl _⟩
theorem kFc (l:List α):Asc key (stable key l)∧Same key l (stable key l):=by
 unfold stable
 obtain ⟨R,h1,h2,h3⟩:=kFo (key:=key) (l.length + 1) [] l l.length 0 fV rfl fV
 rw [List.nil_append,List.nil_append] at h1
 have lR:R.length=l.length:=by rw [← h1,ym]
 rw [h1,← lR]
 obtain ⟨h4,h5⟩:=kFf (key:=key) (R.length + 1) 20 R fV fV h2
 exact ⟨h4,h3.trans h5⟩
variable (key)
def place:Nat→List α→α→Nat
  | 0,_,_=>0
  | k + 1,l,x=>if key x < kAt key l k then place k l x else k + 1
def put (l:List α) (x:α):List α:=l.take (place key l.length l x)++[x]++l.drop (place key l.length l x)
def sorted (l:List α):List α:=l.foldl (put key) []
variable {key}
theorem kGo (l:List α) (x:α):∀ k,k≤l.length→place key k l x≤k∧(0 < place key k l x→kAt key l (place key k l x - 1)≤key x)∧(place key k l x < k→key x < kAt key l (place key k l x))
  | 0,_=>by simp [place]
  | k + 1,h=>by
    unfold place
    split
    · rename_i q
      obtain ⟨h1,h2,h3⟩:=kGo l x k fV
      refine ⟨by omega,h2,fun _=>?_⟩
      by_cases e:place key k l x < k
      · exact h3 e
      · rw [show place key k l x=k by omega];exact q
    · rename_i q
      exact ⟨Nat.le_refl _,fun _=>by simpa using q,fun q=>absurd q fV⟩
theorem put_spec {l:List α} (h:Asc key l) (x:α):Asc key (put key l x)∧Same key (l++[x]) (put key l x):=by
 obtain ⟨h1,h2,h3⟩:=kGo (key:=key) l x l.length nL
 unfold put
 generalize place key l.length l x=p at *
 have t1:=kGa h h1 h2
 have t2:=drop_gt h h3
 have h':=h
 rw [← List.take_append_drop p l] at h'
 refine ⟨?_,?_⟩
 · rw [List.append_assoc]
   refine h'.left.append (List.pairwise_cons.2 ⟨fun y hy=>by have:=t2 y hy;omega,h'.right⟩) ?_
   intro u hu v hv
   rcases List.mem_cons.1 hv with rfl | hv
   · exact t1 u hu
   exact h'.cross u hu v hv
 have s1:Same key (l.take p++(l.drop p++[x])) (l.take p++([x]++l.drop p)):=(Same.refl _).append (Same.swap (fun u hu v hv=>by
   obtain rfl:v=x:=fK
   have:=t2 u hu;omega))
 rw [← List.append_assoc,List.take_append_drop] at s1
 rwa [List.append_assoc]
theorem kGz:∀ (xs l:List α),Asc key l→Asc key (xs.foldl (put key) l)∧Same key (l++xs) (xs.foldl (put key) l)
  | [],l,h=>⟨h,by simpa using Same.refl l⟩
  | x :: xs,l,h=>by
    obtain ⟨h1,h2⟩:=put_spec h x
    obtain ⟨h3,h4⟩:=kGz xs (put key l x) h1
    refine ⟨h3,?_⟩
    have:=(h2.append (Same.refl xs)).trans h4
    simpa using this
theorem zt (l:List α):Asc key (sorted key l)∧Same key l (sorted key l):=by
 have:=kGz (key:=key) l [] (by simp [Asc])
 simpa [sorted] using this
theorem kHu (l:List α):stable key l=sorted key l:=uniq (kFc l).1 (zt l).1 ((kFc l).2.symm.trans (zt l).2)
theorem Same.filter {l l':List α} (h:Same key l l') {p:α→Bool}:Same key (l.filter p) (l'.filter p):=fun v=>by
  have:=congrArg (fun z=>z.filter p) (h v)
  simp only [List.filter_filter] at this ⊢
  simpa [Bool.and_comm] using this
theorem Asc.filter {l:List α} (h:Asc key l) {p:α→Bool}:Asc key (l.filter p):=List.Pairwise.filter p h
end
end Go.Proofs.YthpgoddjglnoiaaGreatDoor.Srt

/-
  The stable sort as Go has it (blocks of twenty, merges in place by rotation) and the insertion sort: the same list. No program in sight.
  An owned slice, two of whose elements change places. No program in sight.
  A store of a value of any number of cells into a row; what a comparing function must answer. No program in sight.
  Regions with a head and a tail, some of whose head's operations (which look at no memory) may come up after the tail has begun. No program in sight.
-/
import Derived.Test.YtomdenfcfbkfbaaGreatDelF
import Derived.Deep.MidRow
set_option linter.unusedVariables false
set_option linter.unusedSimpArgs false
set_option linter.unnecessarySimpa false
namespace Go.Proofs.YtomdenfcfbkfbaaGreat.Srt
section
variable {α:Type} (key:α→Int)
def Asc (l:List α):Prop:=l.Pairwise (fun a b=>key a≤key b)
def Same (l l':List α):Prop:=∀ v,l.filter (fun x=>decide (key x=v))=l'.filter (fun x=>decide (key x=v))
variable {key}
theorem Same.refl (l:List α):Same key l l:=fun _=>rfl
theorem Same.symm {l l':List α} (h:Same key l l'):Same key l' l:=fun v=>(h v).symm
theorem Same.trans {a b c:List α} (h:Same key a b) (k:Same key b c):Same key a c:=fun v=>(h v).trans (k v)
theorem Same.append {a a' b b':List α} (h:Same key a a') (k:Same key b b'):Same key (a++b) (a'++b'):=fun v=>by
  rw [List.filter_append,List.filter_append,h v,k v]
theorem Same.mem {l l':List α} (h:Same key l l') {x:α} (hx:x∈l):x∈l':=by
 have h1:x∈l.filter (fun y=>decide (key y=key x)):=by simp [hx]
 rw [h] at h1
 exact (List.mem_filter.1 h1).1
theorem Same.nil {l:List α} (h:Same key [] l):l=[]:=by
 cases l with
 | nil=>rfl
 | cons y ys=>exact absurd (h.symm.mem (List.mem_cons_self)) rM
theorem Same.swap {a b:List α} (h:∀ x∈a,∀ y∈b,key x≠key y):Same key (a++b) (b++a):=fun v=>by
  rw [List.filter_append,List.filter_append]
  by_cases hv:∃ x∈a,key x=v
  · obtain ⟨x,hx,rfl⟩:=hv
    have:b.filter (fun z=>decide (key z=key x))=[]:=by
      rw [List.filter_eq_nil_iff]
      intro y hy q
      exact h x hx y hy (by simpa using (of_decide_eq_true q).symm)
    rw [this];simp
  · have:a.filter (fun z=>decide (key z=v))=[]:=by
      rw [List.filter_eq_nil_iff]
      intro y hy q
      exact hv ⟨y,hy,of_decide_eq_true q⟩
    rw [this];simp
theorem uniq:∀ {l l':List α},Asc key l→Asc key l'→Same key l l'→l=l'
  | [],l',_,_,h=>h.nil.symm
  | l,[],_,_,h=>h.symm.nil
  | x :: xs,y :: ys,h1,h2,h=>by
    have hk:∀ {x y:α} {xs ys:List α},Asc key (y :: ys)→Same key (x :: xs) (y :: ys)→key y≤key x:=by
      intro x y xs ys h2 h
      have hm:=h.mem (List.mem_cons_self (a:=x) (l:=xs))
      rcases List.mem_cons.1 hm with e | e
      · rw [e];exact Int.le_refl _
      · exact (List.pairwise_cons.1 h2).1 x e
    have e:key x=key y:=Int.le_antisymm (hk h1 h.symm) (hk h2 h)
    have hx:=h (key x)
    rw [List.filter_cons_of_pos rM,List.filter_cons_of_pos (by simp [e])] at hx
    have exy:x=y:=(List.cons.inj hx).1
    subst exy
    congr 1
    refine uniq (List.pairwise_cons.1 h1).2 (List.pairwise_cons.1 h2).2 (fun v=>?_)
    have hv:=h v
    by_cases q:key x=v
    · rw [List.filter_cons_of_pos (by simp [q]),List.filter_cons_of_pos (by simp [q])] at hv
      exact (List.cons.inj hv).2
    · rw [List.filter_cons_of_neg (by simp [q]),List.filter_cons_of_neg (by simp [q])] at hv
      exact hv
theorem Asc.append {a b:List α} (h:Asc key a) (k:Asc key b) (q:∀ x∈a,∀ y∈b,key x≤key y):Asc key (a++b):=List.pairwise_append.2 ⟨h,k,q⟩
theorem Asc.left {a b:List α} (h:Asc key (a++b)):Asc key a:=(List.pairwise_append.1 h).1
theorem Asc.right {a b:List α} (h:Asc key (a++b)):Asc key b:=(List.pairwise_append.1 h).2.1
theorem Asc.cross {a b:List α} (h:Asc key (a++b)):∀ x∈a,∀ y∈b,key x≤key y:=(List.pairwise_append.1 h).2.2
variable (key)
def kAt (xs:List α) (i:Nat):Int:=((xs[i]?).map key).getD 0
variable {key}
theorem yu {xs:List α} {i:Nat} (h:i < xs.length):kAt key xs i=key xs[i]:=by simp [kAt,h]
theorem kAt_left {a b:List α} {i:Nat} (h:i < a.length):kAt key (a++b) i=kAt key a i:=by simp [kAt,List.getElem?_append_left h]
theorem kVa {a b:List α} {i j:Nat} (h:j=a.length + i):kAt key (a++b) j=kAt key b i:=by
 subst h;simp [kAt,List.getElem?_append_right]
theorem Asc.kAt_le {l:List α} (h:Asc key l) {i j:Nat} (hij:i≤j) (hj:j < l.length):kAt key l i≤kAt key l j:=by
 rw [yu rJ,yu hj]
 rcases Nat.lt_or_ge i j with q | q
 · exact List.pairwise_iff_getElem.1 h i j rJ hj q
 obtain rfl:i=j:=rJ
 exact Int.le_refl _
theorem kSa {l:List α} {x:α} (h:x∈l):∃ i,i < l.length∧kAt key l i=key x:=by
 obtain ⟨i,hi,rfl⟩:=List.getElem_of_mem h
 exact ⟨i,hi,yu hi⟩
def sw (xs:List α) (i j:Nat):List α:=match xs[i]?,xs[j]? with
  | some x,some y=>(xs.set i y).set j x
  | _,_=>xs
theorem kVu {xs:List α} {i j:Nat} (hi:i < xs.length) (hj:j < xs.length):sw xs i j=(xs.set i xs[j]).set j xs[i]:=by simp [sw,hi,hj]
theorem zq (xs:List α) (i j:Nat):(sw xs i j).length=xs.length:=by
 unfold sw;split <;> simp
theorem kVv (xs:List α) (i j:Nat):sw xs i j=sw xs j i:=by
 by_cases hi:i < xs.length
 · by_cases hj:j < xs.length
   · rw [kVu hi hj,kVu hj hi]
     by_cases e:i=j
     · subst e;rfl
     exact List.set_comm _ _ e
   simp [sw,hj,Nat.not_lt.1 hj]
 simp [sw,hi,Nat.not_lt.1 hi]
theorem kFo (p m q:List α) (x y:α) {i j:Nat} (hi:i=p.length) (hj:j=p.length + 1 + m.length):sw (p++x :: m++y :: q) i j=p++y :: m++x :: q:=by
 subst hi hj
 have h1:p.length < (p++x :: m++y :: q).length:=rM
 have h2:p.length + 1 + m.length < (p++x :: m++y :: q).length:=rC
 rw [kVu h1 h2]
 have e1:(p++x :: m++y :: q)[p.length]=x:=rM
 have e2:(p++x :: m++y :: q)[p.length + 1 + m.length]=y:=by
  rw [List.getElem_append_right rC]
  simp [show p.length + 1 + m.length - (p.length + (m.length + 1))=0 by omega]
 rw [e1,e2]
 have e3:(p++x :: m++y :: q).set p.length y=p++y :: m++y :: q:=by
  rw [List.append_assoc,List.set_append_right _ _ nL];simp
 rw [e3]
 rw [List.set_append_right _ _ rC]
 simp [show p.length + 1 + m.length - (p.length + (m.length + 1))=0 by omega]
variable (key)
def inner (a:Nat):Nat→List α→List α
  | 0,xs=>xs
  | j + 1,xs=>if a < j + 1∧kAt key xs (j + 1) < kAt key xs j then inner a j (sw xs (j + 1) j) else xs
def outer (a:Nat):Nat→Nat→List α→List α
  | 0,_,xs=>xs
  | n + 1,i,xs=>outer a n (i + 1) (inner key a i xs)
def kAr (a b:Nat) (xs:List α):List α:=outer key a (b - (a + 1)) (a + 1) xs
variable {key}
theorem kGi:∀ (a j:Nat) (xs:List α),(inner key a j xs).length=xs.length
  | _,0,_=>rfl
  | a,j + 1,xs=>by
    unfold inner
    split
    · rw [kGi,zq]
    · rfl
theorem kLw:∀ (a n i:Nat) (xs:List α),(outer key a n i xs).length=xs.length
  | _,0,_,_=>rfl
  | a,n + 1,i,xs=>by
    unfold outer
    rw [kLw,kGi]
theorem kAz (a b:Nat) (xs:List α):(kAr key a b xs).length=xs.length:=kLw _ _ _ _
theorem inner_spec:∀ (A:List α) (P Q:List α) (x:α) (a j:Nat),P.length=a→j=a + A.length→Asc key A →
    ∃ M,inner key a j (P++A++x :: Q)=P++M++Q∧Asc key M∧Same key (A++[x]) M:=by
 intro A
 induction hn:A.length generalizing A with
 | zero =>
   intro P Q x a j hP hj hA
   obtain rfl:A=[]:=List.eq_nil_of_length_eq_zero hn
   refine ⟨[x],?_,by simp [Asc],Same.refl _⟩
   have hja:j=a:=qK
   subst hja
   cases j with
   | zero=>simp [inner]
   | succ j=>unfold inner;rw [if_neg rJ];simp
 | succ n ih =>
   intro P Q x a j hP hj hA
   obtain ⟨B,y,rfl⟩:∃ B y,A=B++[y]:=⟨A.dropLast,A.getLast (by intro h;simp [h] at hn),(List.dropLast_concat_getLast _).symm⟩
   have hB:B.length=n:=by simpa using hn
   obtain ⟨i,rfl⟩:∃ i,j=i + 1:=⟨j - 1,by omega⟩
   have hi:i=a + B.length:=rJ
   have hky:kAt key (P++(B++[y])++x :: Q) i=key y:=by
     rw [yu rC]
     congr 1
     rw [List.getElem_append_left rC,List.getElem_append_right rJ]
     simp [show i - P.length=B.length by omega]
   have hkx:kAt key (P++(B++[y])++x :: Q) (i + 1)=key x:=by
     rw [yu rC]
     congr 1
     rw [List.getElem_append_right rC]
     simp [show i + 1 - (P.length + (B.length + 1))=0 by omega]
   unfold inner
   rw [hky,hkx]
   by_cases hlt:key x < key y
   · rw [if_pos ⟨by omega,hlt⟩]
     have es:sw (P++(B++[y])++x :: Q) (i + 1) i=P++B++x :: (y :: Q):=by
       rw [kVv]
       have:=kFo (P++B) [] Q y x (i:=i) (j:=i + 1) rC rC
       simpa using this
     rw [es]
     obtain ⟨M,h1,h2,h3⟩:=ih B hB P (y :: Q) x a i hP rJ hA.left
     refine ⟨M++[y],by rw [h1];simp,?_,?_⟩
     · refine h2.append (by simp [Asc]) ?_
       intro u hu v hv
       obtain rfl:v=y:=qV
       have hu':=h3.symm.mem hu
       rcases List.mem_append.1 hu' with q | q
       · exact hA.cross u q v rM
       · obtain rfl:u=x:=by simpa using q
         omega
     · have s1:Same key (B++[y]++[x]) (B++[x]++[y]):=by
         rw [List.append_assoc,List.append_assoc]
         refine (Same.refl B).append (Same.swap ?_)
         intro u hu v hv
         obtain rfl:u=y:=by simpa using hu
         obtain rfl:v=x:=qV
         omega
       exact s1.trans (h3.append (Same.refl [y]))
   · rw [if_neg (by rintro ⟨_,q⟩;exact hlt q)]
     refine ⟨B++[y]++[x],by simp,?_,Same.refl _⟩
     refine hA.append (by simp [Asc]) ?_
     intro u hu v hv
     obtain rfl:v=x:=qV
     rcases List.mem_append.1 hu with q | q
     · have:=hA.cross u q y rM;omega
     · obtain rfl:u=y:=by simpa using q
       omega
theorem kRq:∀ (n:Nat) (A C P Q:List α) (a i:Nat),C.length=n→P.length=a→i=a + A.length→Asc key A →
    ∃ M,outer key a n i (P++A++C++Q)=P++M++Q∧Asc key M∧Same key (A++C) M
  | 0,A,C,P,Q,a,i,hC,hP,hi,hA=>by
    obtain rfl:C=[]:=List.eq_nil_of_length_eq_zero hC
    exact ⟨A,by simp [outer],hA,by simpa using Same.refl A⟩
  | n + 1,A,C,P,Q,a,i,hC,hP,hi,hA=>by
    obtain ⟨x,C,rfl⟩:∃ x D,C=x :: D:=by cases C with | nil=>simp at hC | cons x D=>exact ⟨x,D,rfl⟩
    obtain ⟨M,h1,h2,h3⟩:=inner_spec A P (C++Q) x a i hP hi hA
    have hl:=congrArg List.length h1
    rw [kGi] at hl
    obtain ⟨M2,h4,h5,h6⟩:=kRq n M C P Q a (i + 1) (by simpa using hC) hP (by simp at hl;omega) h2
    refine ⟨M2,?_,h5,?_⟩
    · unfold outer
      rw [show P++A++x :: C++Q=P++A++x :: (C++Q) by simp,h1,show P++M++(C++Q)=P++M++C++Q by simp,h4]
    · refine Same.trans ?_ h6
      rw [show A++x :: C=A++[x]++C by simp]
      exact h3.append (Same.refl C)
theorem kOt {M P Q:List α} {a b:Nat} (hP:P.length=a) (hb:b=a + M.length):∃ M',kAr key a b (P++M++Q)=P++M'++Q∧Asc key M'∧Same key M M':=by
 unfold kAr
 cases M with
 | nil => 
   have:b - (a + 1)=0:=by simp at hb;omega
   rw [this]
   exact ⟨[],rfl,by simp [Asc],Same.refl _⟩
 | cons x C =>
   have:=kRq (key:=key) (b - (a + 1)) [x] C P Q a (a + 1) (by simp at hb;omega) hP rM (by simp [Asc])
   simpa using this
def swr:Nat→Nat→Nat→List α→List α
  | 0,_,_,xs=>xs
  | n + 1,a,b,xs=>swr n (a + 1) (b + 1) (sw xs a b)
theorem kBi:∀ (n a b:Nat) (xs:List α),(swr n a b xs).length=xs.length
  | 0,_,_,_=>rfl
  | n + 1,a,b,xs=>by unfold swr;rw [kBi,zq]
theorem kLn:∀ (X Y P M Q:List α) (n a b:Nat),X.length=n→Y.length=n→a=P.length→b=P.length + n + M.length→swr n a b (P++X++M++Y++Q)=P++Y++M++X++Q
  | [],Y,P,M,Q,n,a,b,hX,hY,ha,hb=>by
    obtain rfl:n=0:=by simpa using hX.symm
    obtain rfl:Y=[]:=List.eq_nil_of_length_eq_zero hY
    simp [swr]
  | x :: X,Y,P,M,Q,n,a,b,hX,hY,ha,hb=>by
    obtain ⟨k,rfl⟩:∃ k,n=k + 1:=⟨X.length,by simpa using hX.symm⟩
    obtain ⟨y,Y,rfl⟩:∃ y Z,Y=y :: Z:=by cases Y with | nil=>simp at hY | cons y Z=>exact ⟨y,Z,rfl⟩
    have hx:X.length=k:=by simpa using hX
    have hy:Y.length=k:=by simpa using hY
    unfold swr
    have e:=kFo P (X++M) (Y++Q) x y (i:=a) (j:=b) ha rC
    rw [show P++x :: X++M++y :: Y++Q=P++x :: (X++M)++y :: (Y++Q) by simp,e]
    have ih:=kLn X Y (P++[y]) (M++[x]) Q k (a + 1) (b + 1) hx hy rC rC
    rw [show P++y :: (X++M)++x :: (Y++Q)=P++[y]++X++(M++[x])++Y++Q by simp,ih]
    simp
def rot (m i j:Nat) (xs:List α):List α :=
  if i=j then swr i (m - i) m xs
  else if h:0 < i∧0 < j then
    if j < i then rot m (i - j) j (swr j (m - i) m xs) else rot m i (j - i) (swr i (m - i) (m + j - i) xs)
  else xs
  termination_by i + j
  decreasing_by all_goals omega
theorem kKn (m i j:Nat) (xs:List α):(rot m i j xs).length=xs.length:=by
 induction hk:i + j using Nat.strongRecOn generalizing i j xs with
 | _ k ih =>
   unfold rot
   split
   · exact kBi _ _ _ _
   · split
     · split
       · rw [ih _ rJ _ _ _ rfl,kBi]
       · rw [ih _ rJ _ _ _ rfl,kBi]
     · rfl
theorem rot_spec:∀ (k:Nat) (X Y P Q:List α) (m i j:Nat),i + j=k→X.length=i→Y.length=j→0 < i→0 < j→m=P.length + i→rot m i j (P++X++Y++Q)=P++Y++X++Q:=by
 intro k
 induction k using Nat.strongRecOn with
 | _ k ih =>
   intro X Y P Q m i j hk hX hY hi hj hm
   unfold rot
   by_cases e:i=j
   · rw [if_pos e]
     have:=kLn X Y P [] Q i (m - i) m hX rJ rJ rC
     simpa using this
   · rw [if_neg e,dif_pos ⟨hi,hj⟩]
     by_cases hlt:j < i
     · rw [if_pos hlt]
       have h1:=kLn (X.take j) Y P (X.drop j) Q j (m - i) m rC hY rJ rC
       have e1:P++X.take j++X.drop j++Y++Q=P++X++Y++Q:=by rw [List.append_assoc P,List.take_append_drop]
       rw [e1] at h1
       rw [h1]
       have h2:=ih (i - j + j) rJ (X.drop j) (X.take j) (P++Y) Q m (i - j) j rfl rC rC rJ hj rC
       rw [h2]
       have:X.take j++X.drop j=X:=List.take_append_drop j X
       rw [List.append_assoc (P++Y),this]
     · rw [if_neg hlt]
       have h1:=kLn X (Y.drop (j - i)) P (Y.take (j - i)) Q i (m - i) (m + j - i) hX rC rJ rC
       have e1:P++X++Y.take (j - i)++Y.drop (j - i)++Q=P++X++Y++Q:=by rw [List.append_assoc (P++X),List.take_append_drop]
       rw [e1] at h1
       rw [h1]
       have h2:=ih (i + (j - i)) rJ (Y.drop (j - i)) (Y.take (j - i)) P (X++Q) m i (j - i) rfl rC rC hi rJ hm
       rw [show P++Y.drop (j - i)++Y.take (j - i)++X++Q=P++Y.drop (j - i)++Y.take (j - i)++(X++Q) by simp,h2]
       have:Y.take (j - i)++Y.drop (j - i)=Y:=List.take_append_drop _ Y
       rw [List.append_assoc P,this];simp
def bs (p:Nat→Bool) (i j:Nat):Nat :=
  if h:i < j then (if p ((i + j) / 2) then bs p ((i + j) / 2 + 1) j else bs p i ((i + j) / 2)) else i
  termination_by j - i
  decreasing_by all_goals omega
theorem kWl (p:Nat→Bool):∀ (k i j:Nat),j - i=k→i≤j→i≤bs p i j∧bs p i j≤j∧(i < bs p i j→p (bs p i j - 1)=true)∧(bs p i j < j→p (bs p i j)=false):=by
 intro k
 induction k using Nat.strongRecOn with
 | _ k ih =>
   intro i j hk hij
   unfold bs
   by_cases h:i < j
   · rw [dif_pos h]
     cases q:p ((i + j) / 2)
     · rw [if_neg rM]
       obtain ⟨h1,h2,h3,h4⟩:=ih ((i + j) / 2 - i) rJ i ((i + j) / 2) rfl rJ
       refine ⟨h1,by omega,h3,fun _=>?_⟩
       by_cases e:bs p i ((i + j) / 2) < (i + j) / 2
       · exact h4 e
       · rw [show bs p i ((i + j) / 2)=(i + j) / 2 by omega];exact q
     · rw [if_pos rfl]
       obtain ⟨h1,h2,h3,h4⟩:=ih (j - ((i + j) / 2 + 1)) rJ ((i + j) / 2 + 1) j rfl rJ
       refine ⟨by omega,h2,fun _=>?_,h4⟩
       by_cases e:(i + j) / 2 + 1 < bs p ((i + j) / 2 + 1) j
       · exact h3 e
       · rw [show bs p ((i + j) / 2 + 1) j=(i + j) / 2 + 1 by omega];exact q
   · rw [dif_neg h]
     exact ⟨Nat.le_refl _,hij,fun q=>absurd q (Nat.lt_irrefl _),fun q=>absurd q h⟩
def up:Nat→Nat→List α→List α
  | 0,_,xs=>xs
  | n + 1,k,xs=>up n (k + 1) (sw xs k (k + 1))
theorem kUh:∀ (n k:Nat) (xs:List α),(up n k xs).length=xs.length
  | 0,_,_=>rfl
  | n + 1,k,xs=>by unfold up;rw [kUh,zq]
theorem up_spec:∀ (B P R:List α) (x:α) (n k:Nat),n=B.length→k=P.length→up n k (P++x :: B++R)=P++B++x :: R
  | [],P,R,x,n,k,hn,hk=>by subst hn;simp [up]
  | y :: B,P,R,x,n,k,hn,hk=>by
    subst hn
    show up (B.length) (k + 1) (sw _ k (k + 1))=_
    have e:=kFo P [] (B++R) x y (i:=k) (j:=k + 1) hk rC
    rw [show P++x :: y :: B++R=P++[x]++y :: (B++R) by simp,e]
    have:=up_spec B (P++[y]) R x B.length (k + 1) rfl rC
    rw [show P++[y]++x :: (B++R)=P++[y]++x :: B++R by simp,this]
    simp
def down (i:Nat):Nat→List α→List α
  | 0,xs=>xs
  | k + 1,xs=>if i < k + 1 then down i k (sw xs (k + 1) k) else xs
theorem kOv:∀ (i k:Nat) (xs:List α),(down i k xs).length=xs.length
  | _,0,_=>rfl
  | i,k + 1,xs=>by
    unfold down
    split
    · rw [kOv,zq]
    · rfl
theorem kVn:∀ (n:Nat) (B P R:List α) (x:α) (i k:Nat),B.length=n→i=P.length→k=i + n→down i k (P++B++x :: R)=P++x :: B++R
  | 0,B,P,R,x,i,k,hn,hi,hk=>by
    obtain rfl:B=[]:=List.eq_nil_of_length_eq_zero hn
    cases k with
    | zero=>simp [down]
    | succ k=>unfold down;rw [if_neg rJ];simp
  | n + 1,B,P,R,x,i,k,hn,hi,hk=>by
    obtain ⟨C,y,rfl⟩:∃ C y,B=C++[y]:=⟨B.dropLast,B.getLast (by intro h;simp [h] at hn),(List.dropLast_concat_getLast _).symm⟩
    obtain ⟨k,rfl⟩:∃ q,k=q + 1:=⟨k - 1,by omega⟩
    have hC:C.length=n:=by simpa using hn
    unfold down
    rw [if_pos rJ]
    have e:=kFo (P++C) [] R y x (i:=k) (j:=k + 1) rC rC
    rw [kVv,show P++(C++[y])++x :: R=P++C++[y]++x :: R by simp,e]
    have:=kVn n C P (y :: R) x i k hC hi rJ
    rw [show P++C++[x]++y :: R=P++C++x :: (y :: R) by simp,this]
    simp
theorem take_lt {B:List α} (h:Asc key B) {t:Nat} (ht:t≤B.length) {k:Int} (q:0 < t→kAt key B (t - 1) < k):∀ y∈B.take t,key y < k:=by
 intro y hy
 obtain ⟨i,hi,e⟩:=kSa (key:=key) hy
 simp at hi
 rw [← e]
 have h1:=h.kAt_le (i:=i) (j:=t - 1) rJ rJ
 have h2:=q rJ
 have h3:kAt key (B.take t) i=kAt key B i:=by rw [yu rC,yu rJ];simp
 omega
theorem kQi {B:List α} (h:Asc key B) {t:Nat} (ht:t≤B.length) {k:Int} (q:0 < t→kAt key B (t - 1)≤k):∀ y∈B.take t,key y≤k:=fun y hy=>by
  have:=take_lt h ht (k:=k + 1) (fun ht=>by have:=q ht;omega) y hy;omega
theorem kQk {B:List α} (h:Asc key B) {t:Nat} {k:Int} (q:t < B.length→k≤kAt key B t):∀ y∈B.drop t,k≤key y:=by
 intro y hy
 obtain ⟨i,hi,e⟩:=kSa (key:=key) hy
 simp at hi
 rw [← e]
 have h1:=h.kAt_le (i:=t) (j:=t + i) rJ rJ
 have h2:=q rJ
 have h3:kAt key (B.drop t) i=kAt key B (t + i):=by simp [kAt]
 omega
theorem drop_gt {B:List α} (h:Asc key B) {t:Nat} {k:Int} (q:t < B.length→k < kAt key B t):∀ y∈B.drop t,k < key y:=fun y hy=>by
  have:=kQk h (k:=k + 1) (fun ht=>by have:=q ht;omega) y hy;omega
variable (key)
def symm:Nat→Nat→Nat→Nat→List α→List α
  | 0,_,_,_,xs=>xs
  | f + 1,a,m,b,xs =>
    if m - a=1 then up (bs (fun h=>decide (kAt key xs h < kAt key xs a)) m b - 1 - a) a xs
    else if b - m=1 then down (bs (fun h=>!decide (kAt key xs m < kAt key xs h)) a m) m xs
    else
      let mid:=(a + b) / 2
      let n:=mid + m
      let s:=bs (fun c=>!decide (kAt key xs (n - 1 - c) < kAt key xs c)) (if mid < m then n - b else a) (if mid < m then mid else m)
      let e:=n - s
      let y:=if s < m∧m < e then rot m (m - s) (e - m) xs else xs
      let z:=if a < s∧s < mid then symm f a s mid y else y
      if mid < e∧e < b then symm f mid e b z else z
variable {key}
theorem kWi {c:Prop} [Decidable c] {A B:List α} {n:Nat} (h:A.length=n) (k:B.length=n):(if c then A else B).length=n:=by split <;> assumption
theorem zY:∀ (f a m b:Nat) (xs:List α),(symm key f a m b xs).length=xs.length
  | 0,_,_,_,_=>rfl
  | f + 1,a,m,b,xs=>by
    unfold symm
    split
    · exact kUh _ _ _
    · split
      · exact kOv _ _ _
      · have y:=fun (c:Prop) [Decidable c] (p i j:Nat)=>kWi (c:=c) (kKn p i j xs) rfl
        have z:=fun (c d:Prop) [Decidable c] [Decidable d] (p i j k m n:Nat)=>kWi (c:=d) ((zY f k m n _).trans (y c p i j)) (y c p i j)
        exact kWi ((zY f _ _ _ _).trans (z _ _ _ _ _ _ _ _)) (z _ _ _ _ _ _ _ _)
theorem kIq:∀ (f a m b:Nat) (P A B Q:List α),b - a≤f→P.length=a→A≠[]→B≠[]→m=a + A.length→b=m + B.length→Asc key A→Asc key B →
    ∃ M,symm key f a m b (P++A++B++Q)=P++M++Q∧Asc key M∧Same key (A++B) M
  | 0,a,m,b,P,A,B,Q,hf,hP,hA,hB,hm,hb,sA,sB=>by
    have:=List.length_pos_iff.2 hA;omega
  | f + 1,a,m,b,P,A,B,Q,hf,hP,hA,hB,hm,hb,sA,sB=>by
    have lA:=List.length_pos_iff.2 hA
    have lB:=List.length_pos_iff.2 hB
    have kA:∀ i,i < A.length→kAt key (P++A++B++Q) (a + i)=kAt key A i:=fun i hi=>by
      rw [show P++A++B++Q=P++(A++(B++Q)) by simp,kVa (i:=i) rJ,kAt_left hi]
    have kB:∀ i,i < B.length→kAt key (P++A++B++Q) (m + i)=kAt key B i:=fun i hi=>by
      rw [show P++A++B++Q=(P++A)++(B++Q) by simp,kVa (i:=i) rC,kAt_left hi]
    generalize hxs:P++A++B++Q=xs at kA kB
    unfold symm
    by_cases c1:m - a=1
    · rw [if_pos c1]
      obtain ⟨x,rfl⟩:∃ x,A=[x]:=List.length_eq_one_iff.1 rJ
      have hx:kAt key xs a=key x:=by have:=kA 0 rM;simpa [kAt] using this
      obtain ⟨i1,i2,i3,i4⟩:=kWl (fun h=>decide (kAt key xs h < kAt key xs a)) _ m b rfl rJ
      generalize bs (fun h=>decide (kAt key xs h < kAt key xs a)) m b=i at i1 i2 i3 i4 ⊢
      have t1:∀ y∈B.take (i - m),key y < key x:=take_lt sB rJ (fun ht=>by
        have h:=of_decide_eq_true (i3 rJ)
        rw [show i - 1=m + (i - m - 1) by omega,kB _ rJ] at h;omega)
      have t2:∀ y∈B.drop (i - m),key x≤key y:=kQk sB (fun ht=>by
        have h:=of_decide_eq_false (i4 rJ)
        rw [show i=m + (i - m) by omega,kB _ ht] at h;omega)
      have e:xs=P++x :: B.take (i - m)++(B.drop (i - m)++Q):=by rw [← hxs];simp;rw [← List.append_assoc,List.take_append_drop]
      refine ⟨B.take (i - m)++x :: B.drop (i - m),?_,?_,?_⟩
      · rw [e,up_spec (B.take (i - m)) P (B.drop (i - m)++Q) x _ a (by simp at hm ⊢;omega) hP.symm];simp
      · have sB':=sB
        rw [← List.take_append_drop (i - m) B] at sB'
        refine sB'.left.append (List.pairwise_cons.2 ⟨t2,sB'.right⟩) ?_
        intro u hu v hv
        rcases List.mem_cons.1 hv with rfl | hv
        · have:=t1 u hu;omega
        · exact sB'.cross u hu v hv
      · have s1:Same key ([x]++B.take (i - m)++B.drop (i - m)) (B.take (i - m)++[x]++B.drop (i - m)):=by
          refine (Same.swap ?_).append (Same.refl _)
          intro u hu v hv
          obtain rfl:u=x:=by simpa using hu
          have:=t1 v hv;omega
        simpa using s1
    rw [if_neg c1]
    by_cases c2:b - m=1
    · rw [if_pos c2]
      obtain ⟨x,rfl⟩:∃ x,B=[x]:=List.length_eq_one_iff.1 rJ
      have hx:kAt key xs m=key x:=by have:=kB 0 rM;simpa [kAt] using this
      obtain ⟨i1,i2,i3,i4⟩:=kWl (fun h=>!decide (kAt key xs m < kAt key xs h)) _ a m rfl rJ
      generalize bs (fun h=>!decide (kAt key xs m < kAt key xs h)) a m=i at i1 i2 i3 i4 ⊢
      have t1:∀ y∈A.take (i - a),key y≤key x:=kQi sA rJ (fun ht=>by
        have h:=i3 rJ
        simp only [Bool.not_eq_true',decide_eq_false_iff_not] at h
        rw [show i - 1=a + (i - a - 1) by omega,kA _ rJ] at h;omega)
      have t2:∀ y∈A.drop (i - a),key x < key y:=drop_gt sA (fun ht=>by
        have h:=i4 rJ
        simp only [Bool.not_eq_false',decide_eq_true_eq] at h
        rw [show i=a + (i - a) by omega,kA _ ht] at h;omega)
      have e:xs=(P++A.take (i - a))++A.drop (i - a)++x :: Q:=by
        rw [← hxs,List.append_assoc P (A.take (i - a)),List.take_append_drop];simp
      refine ⟨A.take (i - a)++x :: A.drop (i - a),?_,?_,?_⟩
      · rw [e,kVn (A.drop (i - a)).length (A.drop (i - a)) (P++A.take (i - a)) Q x i m rfl rC rC];simp
      · have sA':=sA
        rw [← List.take_append_drop (i - a) A] at sA'
        refine sA'.left.append (List.pairwise_cons.2 ⟨fun y hy=>by have:=t2 y hy;omega,sA'.right⟩) ?_
        intro u hu v hv
        rcases List.mem_cons.1 hv with rfl | hv
        · exact t1 u hu
        · exact sA'.cross u hu v hv
      · have s1:Same key (A.take (i - a)++(A.drop (i - a)++[x])) (A.take (i - a)++([x]++A.drop (i - a))):=by
          refine (Same.refl _).append (Same.swap ?_)
          intro u hu v hv
          obtain rfl:v=x:=qV
          have:=t2 u hu;omega
        rw [← List.append_assoc,List.take_append_drop] at s1
        simpa using s1
    rw [if_neg c2]
    simp only
    generalize hmid:(a + b) / 2=mid
    have i0:(if mid < m then mid + m - b else a)≤(if mid < m then mid else m):=by split <;> omega
    obtain ⟨i1,i2,i3,i4⟩:=kWl (fun c=>!decide (kAt key xs (mid + m - 1 - c) < kAt key xs c)) _ (if mid < m then mid + m - b else a) (if mid < m then mid else m) rfl i0
    generalize bs (fun c=>!decide (kAt key xs (mid + m - 1 - c) < kAt key xs c)) (if mid < m then mid + m - b else a) (if mid < m then mid else m)=s at i1 i2 i3 i4 ⊢
    have hsm:s≤m:=by split at i2 <;> omega
    have hsa:a≤s:=by split at i1 <;> omega
    obtain ⟨e,he⟩:∃ e,mid + m - s=e:=⟨_,rfl⟩
    rw [he]
    have hem:m≤e:=by split at i2 <;> omega
    have heb:e≤b:=by split at i1 <;> omega
    have eA:A=A.take (s - a)++A.drop (s - a):=(List.take_append_drop _ _).symm
    have eB:B=B.take (e - m)++B.drop (e - m):=(List.take_append_drop _ _).symm
    have q1:∀ y∈B.take (e - m),∀ x∈A.drop (s - a),key y < key x:=by
      intro y hy x hx
      have ny:0 < e - m:=by
        rcases Nat.eq_zero_or_pos (e - m) with h | h
        · rw [h] at hy;simp at hy
        · exact h
      have nx:s - a < A.length:=by
        rcases Nat.lt_or_ge (s - a) A.length with h | h
        · exact h
        · rw [List.drop_eq_nil_of_le h] at hx;simp at hx
      have hs:s < (if mid < m then mid else m):=by split <;> (split at i2 <;> omega)
      have h:=i4 hs
      simp only [Bool.not_eq_false',decide_eq_true_eq] at h
      rw [show mid + m - 1 - s=m + (e - m - 1) by omega,show s=a + (s - a) by omega,kA _ nx,kB _ rJ] at h
      have h1:=kQi sB (t:=e - m) rJ (k:=kAt key B (e - m - 1)) (fun _=>Int.le_refl _) y hy
      have h2:=kQk sA (t:=s - a) (k:=kAt key A (s - a)) (fun _=>Int.le_refl _) x hx
      omega
    have q2:∀ x∈A.take (s - a),∀ y∈B.drop (e - m),key x≤key y:=by
      intro x hx y hy
      have nx:0 < s - a:=by
        rcases Nat.eq_zero_or_pos (s - a) with h | h
        · rw [h] at hx;simp at hx
        · exact h
      have ny:e - m < B.length:=by
        rcases Nat.lt_or_ge (e - m) B.length with h | h
        · exact h
        · rw [List.drop_eq_nil_of_le h] at hy;simp at hy
      have hs:(if mid < m then mid + m - b else a) < s:=by split <;> (split at i1 <;> omega)
      have h:=i3 hs
      simp only [Bool.not_eq_true',decide_eq_false_iff_not] at h
      rw [show mid + m - 1 - (s - 1)=m + (e - m) by omega,show s - 1=a + (s - a - 1) by omega,kA _ rJ,kB _ ny] at h
      have h1:=kQi sA (t:=s - a) rJ (k:=kAt key A (s - a - 1)) (fun _=>Int.le_refl _) x hx
      have h2:=kQk sB (t:=e - m) (k:=kAt key B (e - m)) (fun _=>Int.le_refl _) y hy
      omega
    have lA1:(A.take (s - a)).length=s - a:=rC
    have lL:(A.drop (s - a)).length=m - s:=rC
    have lR:(B.take (e - m)).length=e - m:=rC
    have lB2:(B.drop (e - m)).length=b - e:=rC
    have hxs':xs=P++A.take (s - a)++A.drop (s - a)++(B.take (e - m)++B.drop (e - m))++Q:=by
      rw [← hxs,List.append_assoc P (A.take (s - a)),List.take_append_drop,List.take_append_drop]
    have sA':=sA;have sB':=sB
    rw [eA] at sA'
    rw [eB] at sB'
    have sAB:Same key (A++B) (A.take (s - a)++B.take (e - m)++(A.drop (s - a)++B.drop (e - m))):=by
      have s1:Same key (A.take (s - a)++(A.drop (s - a)++B.take (e - m))++B.drop (e - m)) (A.take (s - a)++(B.take (e - m)++A.drop (s - a))++B.drop (e - m)) :=
        ((Same.refl _).append (Same.swap (fun x hx y hy=>by have:=q1 y hy x hx;omega))).append (Same.refl _)
      have e1:A.take (s - a)++(A.drop (s - a)++B.take (e - m))++B.drop (e - m)=A++B:=by
        rw [← List.append_assoc (A.take (s - a)),List.take_append_drop,List.append_assoc,List.take_append_drop]
      rw [e1] at s1
      simpa using s1
    generalize A.take (s - a)=A1 at *
    generalize A.drop (s - a)=L at *
    generalize B.take (e - m)=R at *
    generalize B.drop (e - m)=B2 at *
    clear kA kB i3 i4
    have hy:(if s < m∧m < e then rot m (m - s) (e - m) xs else xs)=P++A1++R++(L++B2++Q):=by
      by_cases c:s < m∧m < e
      · rw [if_pos c,hxs']
        have:=rot_spec _ L R (P++A1) (B2++Q) m (m - s) (e - m) rfl lL lR rJ rJ rC
        simpa using this
      · rw [if_neg c,hxs']
        have:L=[]∨R=[]:=by
          by_cases c':s < m
          · right;exact List.eq_nil_of_length_eq_zero rJ
          · left;exact List.eq_nil_of_length_eq_zero rJ
        rcases this with rfl | rfl <;> simp
    rw [hy]
    obtain ⟨M1,hz,sM1,tM1⟩:∃ M1,(if a < s∧s < mid then symm key f a s mid (P++A1++R++(L++B2++Q)) else P++A1++R++(L++B2++Q))=P++M1++(L++B2++Q)∧Asc key M1∧Same key (A1++R) M1:=by
      by_cases c:a < s∧s < mid
      · rw [if_pos c]
        exact kIq f a s mid P A1 R (L++B2++Q) rJ hP (List.length_pos_iff.1 rJ) (List.length_pos_iff.1 rJ) rJ rJ sA'.left sB'.left
      · rw [if_neg c]
        have:A1=[]∨R=[]:=by
          by_cases c':a < s
          · right;exact List.eq_nil_of_length_eq_zero rJ
          · left;exact List.eq_nil_of_length_eq_zero rJ
        rcases this with rfl | rfl
        · exact ⟨R,by simp,sB'.left,Same.refl _⟩
        · exact ⟨A1,by simp,sA'.left,by simpa using Same.refl A1⟩
    rw [hz]
    have lM1:M1.length=mid - a:=by
      have:=congrArg List.length hz
      have l0:(if a < s∧s < mid then symm key f a s mid (P++A1++R++(L++B2++Q)) else P++A1++R++(L++B2++Q)).length=(P++A1++R++(L++B2++Q)).length:=by
        split
        · exact zY _ _ _ _ _
        · rfl
      rw [l0] at this
      simp at this;omega
    obtain ⟨M2,hw,sM2,tM2⟩:∃ M2,(if mid < e∧e < b then symm key f mid e b (P++M1++(L++B2++Q)) else P++M1++(L++B2++Q))=P++M1++M2++Q∧Asc key M2∧Same key (L++B2) M2:=by
      by_cases c:mid < e∧e < b
      · rw [if_pos c]
        have:=kIq f mid e b (P++M1) L B2 Q rJ rC (List.length_pos_iff.1 rJ) (List.length_pos_iff.1 rJ) rJ rJ sA'.right sB'.right
        simpa using this
      · rw [if_neg c]
        have:L=[]∨B2=[]:=by
          by_cases c':mid < e
          · right;exact List.eq_nil_of_length_eq_zero rJ
          · left;exact List.eq_nil_of_length_eq_zero rJ
        rcases this with rfl | rfl
        · exact ⟨B2,by simp,sB'.right,Same.refl _⟩
        · exact ⟨L,by simp,sA'.right,by simpa using Same.refl L⟩
    rw [hw]
    refine ⟨M1++M2,by simp,sM1.append sM2 ?_,sAB.trans (tM1.append tM2)⟩
    intro u hu v hv
    have hu':=tM1.symm.mem hu
    have hv':=tM2.symm.mem hv
    rcases List.mem_append.1 hu' with h1 | h1 <;> rcases List.mem_append.1 hv' with h2 | h2
    · exact sA'.cross u h1 v h2
    · exact q2 u h1 v h2
    · have:=q1 u h1 v h2;omega
    · exact sB'.cross u h1 v h2
def kLg (key:α→Int) (s:Nat) (l:List α):Prop:=∀ k,Asc key ((l.drop (k * s)).take s)
theorem kLg.cons {s:Nat} {A R:List α} (hA:A.length=s) (h:Asc key A) (hR:kLg key s R):kLg key s (A++R):=by
 intro k
 cases k with
 | zero=>simp;rw [← hA,List.take_append_of_le_length rJ,List.take_length];exact h
 | succ k =>
   have:(A++R).drop ((k + 1) * s)=R.drop (k * s):=by
     rw [Nat.add_mul,Nat.one_mul,Nat.add_comm,← List.drop_drop,← hA,List.drop_left]
   rw [this];exact hR k
theorem kLg.one {s:Nat} {A:List α} (hA:A.length≤s) (h:Asc key A):kLg key s A:=by
 intro k
 cases k with
 | zero=>simp;rw [List.take_of_length_le hA];exact h
 | succ k=>rw [List.drop_eq_nil_of_le (by rw [Nat.add_mul];omega)];simp [Asc]
theorem kLg.whole {s:Nat} {l:List α} (h:kLg key s l) (hl:l.length≤s):Asc key l:=by
 have:=h 0
 simp at this
 rwa [List.take_of_length_le hl] at this
variable (key)
def blocks (n:Nat):Nat→Nat→List α→List α
  | 0,_,xs=>xs
  | f + 1,a,xs=>if a + 20≤n then blocks n f (a + 20) (kAr key a (a + 20) xs) else kAr key a n xs
def pass (n s:Nat):Nat→Nat→List α→List α
  | 0,_,xs=>xs
  | f + 1,a,xs=>if a + 2 * s≤n then pass n s f (a + 2 * s) (symm key (2 * s) a (a + s) (a + 2 * s) xs) else if a + s < n then symm key (n - a) a (a + s) n xs else xs
def passes (n:Nat):Nat→Nat→List α→List α
  | 0,_,xs=>xs
  | f + 1,s,xs=>if s < n then passes n f (2 * s) (pass key n s (n + 1) 0 xs) else xs
def stable (xs:List α):List α:=passes key xs.length (xs.length + 1) 20 (blocks key xs.length (xs.length + 1) 0 xs)
variable {key}
theorem kBy:∀ (n f a:Nat) (xs:List α),(blocks key n f a xs).length=xs.length
  | _,0,_,_=>rfl
  | n,f + 1,a,xs=>by
    unfold blocks
    split
    · rw [kBy,kAz]
    · exact kAz _ _ _
theorem kBk:∀ (n s f a:Nat) (xs:List α),(pass key n s f a xs).length=xs.length
  | _,_,0,_,_=>rfl
  | n,s,f + 1,a,xs=>by
    unfold pass
    split
    · rw [kBk,zY]
    · split
      · exact zY _ _ _ _ _
      · rfl
theorem kJz:∀ (n f s:Nat) (xs:List α),(passes key n f s xs).length=xs.length
  | _,0,_,_=>rfl
  | n,f + 1,s,xs=>by
    unfold passes
    split
    · rw [kJz,kBk]
    · rfl
theorem kDh (xs:List α):(stable key xs).length=xs.length:=by unfold stable;rw [kJz,kBy]
theorem kOx:∀ (f:Nat) (P R:List α) (n a:Nat),R.length < f→P.length=a→n=a + R.length→∃ R',blocks key n f a (P++R)=P++R'∧kLg key 20 R'∧Same key R R'
  | 0,P,R,n,a,hf,hP,hn=>absurd hf rJ
  | f + 1,P,R,n,a,hf,hP,hn=>by
    unfold blocks
    by_cases c:a + 20≤n
    · rw [if_pos c]
      have eR:R.take 20++R.drop 20=R:=List.take_append_drop _ _
      have lT:(R.take 20).length=20:=rC
      obtain ⟨M,h1,h2,h3⟩:=kOt (key:=key) (M:=R.take 20) (P:=P) (Q:=R.drop 20) (a:=a) (b:=a + 20) hP rJ
      rw [List.append_assoc,eR] at h1
      rw [h1]
      have lM:M.length=20:=by
        have:=congrArg List.length h1
        rw [kAz] at this
        simp at this;omega
      obtain ⟨R',h4,h5,h6⟩:=kOx f (P++M) (R.drop 20) n (a + 20) rC rC rC
      refine ⟨M++R',by rw [h4];simp,h5.cons lM h2,?_⟩
      have:=h3.append h6
      rwa [eR] at this
    · rw [if_neg c]
      obtain ⟨M,h1,h2,h3⟩:=kOt (key:=key) (M:=R) (P:=P) (Q:=[]) (a:=a) (b:=n) hP hn
      rw [List.append_nil,List.append_nil] at h1
      have lM:M.length=R.length:=by
        have:=congrArg List.length h1
        rw [kAz] at this
        simp at this;omega
      exact ⟨M,h1,kLg.one rJ h2,h3⟩
theorem kUu {s:Nat} (hs:0 < s):∀ (f:Nat) (P R:List α) (n a:Nat),R.length < f→P.length=a→n=a + R.length→kLg key s R→∃ R',pass key n s f a (P++R)=P++R'∧kLg key (2 * s) R'∧Same key R R'
  | 0,P,R,n,a,hf,hP,hn,hr=>absurd hf rJ
  | f + 1,P,R,n,a,hf,hP,hn,hr=>by
    unfold pass
    have r0:=hr 0
    have r1:=hr 1
    simp at r0 r1
    have e1:R.take s++R.drop s=R:=List.take_append_drop _ _
    by_cases c:a + 2 * s≤n
    · rw [if_pos c]
      have e2:(R.drop s).take s++R.drop (s + s)=R.drop s:=by rw [← List.drop_drop,List.take_append_drop]
      have l1:(R.take s).length=s:=rC
      have l2:((R.drop s).take s).length=s:=rC
      obtain ⟨M,h1,h2,h3⟩:=kIq (key:=key) (2 * s) a (a + s) (a + 2 * s) P (R.take s) ((R.drop s).take s) (R.drop (s + s)) rJ hP (List.length_pos_iff.1 rJ) (List.length_pos_iff.1 rJ) rJ rJ r0 r1
      rw [List.append_assoc (P++R.take s),e2,List.append_assoc P (R.take s),e1] at h1
      rw [h1]
      have lM:M.length=2 * s:=by
        have:=congrArg List.length h1
        rw [zY] at this
        simp at this;omega
      have hr2:kLg key s (R.drop (s + s)):=by
        intro k
        have:=hr (k + 2)
        rw [List.drop_drop,show s + s + k * s=(k + 2) * s by rw [Nat.add_mul];omega]
        exact this
      obtain ⟨R',h4,h5,h6⟩:=kUu hs f (P++M) (R.drop (s + s)) n (a + 2 * s) rC rC rC hr2
      refine ⟨M++R',by rw [h4];simp,h5.cons lM h2,?_⟩
      have:=h3.append h6
      rwa [List.append_assoc,e2,e1] at this
    · rw [if_neg c]
      by_cases c2:a + s < n
      · rw [if_pos c2]
        rw [List.take_of_length_le rC] at r1
        have l1:(R.take s).length=s:=rC
        have l2:(R.drop s).length=n - a - s:=rC
        obtain ⟨M,h1,h2,h3⟩:=kIq (key:=key) (n - a) a (a + s) n P (R.take s) (R.drop s) [] rJ hP (List.length_pos_iff.1 rJ) (List.length_pos_iff.1 rJ) rJ rJ r0 r1
        rw [List.append_nil,List.append_nil,List.append_assoc,e1] at h1
        rw [e1] at h3
        have lM:M.length=R.length:=by
          have:=congrArg List.length h1
          rw [zY] at this
          simp at this;omega
        exact ⟨M,h1,kLg.one rJ h2,h3⟩
      · rw [if_neg c2]
        rw [List.take_of_length_le rJ] at r0
        exact ⟨R,rfl,kLg.one rJ r0,Same.refl _⟩
theorem kOp:∀ (f s:Nat) (l:List α),0 < s→l.length < f + s→kLg key s l→Asc key (passes key l.length f s l)∧Same key l (passes key l.length f s l)
  | 0,s,l,hs,hf,hr=>⟨hr.whole rJ,Same.refl _⟩
  | f + 1,s,l,hs,hf,hr=>by
    unfold passes
    by_cases c:s < l.length
    · rw [if_pos c]
      obtain ⟨R',h1,h2,h3⟩:=kUu hs (l.length + 1) [] l l.length 0 rJ rfl rJ hr
      rw [List.nil_append,List.nil_append] at h1
      have lR:R'.length=l.length:=by rw [← h1,kBk]
      rw [h1,← lR]
      obtain ⟨h4,h5⟩:=kOp f (2 * s) R' rJ rJ h2
      exact ⟨h4,h3.trans h5⟩
    · rw [if_neg c]
      exact ⟨hr.whole rJ,Same.refl _⟩
theorem kOn (l:List α):Asc key (stable key l)∧Same key l (stable key l):=by
 unfold stable
 obtain ⟨R,h1,h2,h3⟩:=kOx (key:=key) (l.length + 1) [] l l.length 0 rJ rfl rJ
 rw [List.nil_append,List.nil_append] at h1
 have lR:R.length=l.length:=by rw [← h1,kBy]
 rw [h1,← lR]
 obtain ⟨h4,h5⟩:=kOp (key:=key) (R.length + 1) 20 R rJ rJ h2
 exact ⟨h4,h3.trans h5⟩
variable (key)
def place:Nat→List α→α→Nat
  | 0,_,_=>0
  | k + 1,l,x=>if key x < kAt key l k then place k l x else k + 1
def put (l:List α) (x:α):List α:=l.take (place key l.length l x)++[x]++l.drop (place key l.length l x)
def sorted (l:List α):List α:=l.foldl (put key) []
variable {key}
theorem kRl (l:List α) (x:α):∀ k,k≤l.length→place key k l x≤k∧(0 < place key k l x→kAt key l (place key k l x - 1)≤key x)∧(place key k l x < k→key x < kAt key l (place key k l x))
  | 0,_=>by simp [place]
  | k + 1,h=>by
    unfold place
    split
    · rename_i q
      obtain ⟨h1,h2,h3⟩:=kRl l x k rJ
      refine ⟨by omega,h2,fun _=>?_⟩
      by_cases e:place key k l x < k
      · exact h3 e
      · rw [show place key k l x=k by omega];exact q
    · rename_i q
      exact ⟨Nat.le_refl _,fun _=>by simpa using q,fun q=>absurd q rJ⟩
theorem put_spec {l:List α} (h:Asc key l) (x:α):Asc key (put key l x)∧Same key (l++[x]) (put key l x):=by
 obtain ⟨h1,h2,h3⟩:=kRl (key:=key) l x l.length nL
 unfold put
 generalize place key l.length l x=p at *
 have t1:=kQi h h1 h2
 have t2:=drop_gt h h3
 have h':=h
 rw [← List.take_append_drop p l] at h'
 refine ⟨?_,?_⟩
 · rw [List.append_assoc]
   refine h'.left.append (List.pairwise_cons.2 ⟨fun y hy=>by have:=t2 y hy;omega,h'.right⟩) ?_
   intro u hu v hv
   rcases List.mem_cons.1 hv with rfl | hv
   · exact t1 u hu
   exact h'.cross u hu v hv
 have s1:Same key (l.take p++(l.drop p++[x])) (l.take p++([x]++l.drop p)):=(Same.refl _).append (Same.swap (fun u hu v hv=>by
   obtain rfl:v=x:=qV
   have:=t2 u hu;omega))
 rw [← List.append_assoc,List.take_append_drop] at s1
 rwa [List.append_assoc]
theorem kSj:∀ (xs l:List α),Asc key l→Asc key (xs.foldl (put key) l)∧Same key (l++xs) (xs.foldl (put key) l)
  | [],l,h=>⟨h,by simpa using Same.refl l⟩
  | x :: xs,l,h=>by
    obtain ⟨h1,h2⟩:=put_spec h x
    obtain ⟨h3,h4⟩:=kSj xs (put key l x) h1
    refine ⟨h3,?_⟩
    have:=(h2.append (Same.refl xs)).trans h4
    simpa using this
theorem kCf (l:List α):Asc key (sorted key l)∧Same key l (sorted key l):=by
 have:=kSj (key:=key) l [] (by simp [Asc])
 simpa [sorted] using this
theorem kIr (l:List α):stable key l=sorted key l:=uniq (kOn l).1 (kCf l).1 ((kOn l).2.symm.trans (kCf l).2)
theorem Same.filter {l l':List α} (h:Same key l l') {p:α→Bool}:Same key (l.filter p) (l'.filter p):=fun v=>by
  have:=congrArg (fun z=>z.filter p) (h v)
  simp only [List.filter_filter] at this ⊢
  simpa [Bool.and_comm] using this
theorem Asc.filter {l:List α} (h:Asc key l) {p:α→Bool}:Asc key (l.filter p):=List.Pairwise.filter p h
theorem kTr (l:List α) (p:α→Bool):(sorted key l).filter p=sorted key (l.filter p) :=
  uniq (kCf l).1.filter (kCf _).1 ((kCf l).2.symm.filter.trans (kCf _).2)
end
end Go.Proofs.YtomdenfcfbkfbaaGreat.Srt
namespace Go.Proofs.YtomdenfcfbkfbaaGreat
open Go.RowKit
namespace Rep
section
variable {α:Type} {r:Rep α} {e:TypeId} {w w' u:World} {v:Value} {b cap len n i j:Nat} {xs:List α} {x y:α} {S T:Nat→Prop}
theorem row_swap {cells:List Value} {X1 X2 X3:List α} (h:row r true w cells (X1++x :: (X2++y :: X3)) S) :
    ∃ d1 cx d2 cy d3,cells=d1++(cx++(d2++(cy++d3)))∧d1.length=X1.length * r.n∧cx.length=r.n∧d2.length=X2.length * r.n∧cy.length=r.n ∧
      row r true w (d1++(cy++(d2++(cx++d3)))) (X1++y :: (X2++x :: X3)) S:=by
 obtain ⟨d1,e1,A1,B1,rfl,r1,⟨cx,e2,Ax,B2,rfl,rx,q2,hAx,hB2,dx⟩,hA1,hB1,D1⟩:=kEe X1 h
 obtain ⟨d2,e3,A2,B3,rfl,r2,⟨cy,d3,Ay,A3,rfl,ry,r3,hAy,hA3,dy⟩,hA2,hB3,D2⟩:=kEe X2 q2
 refine ⟨d1,cx,d2,cy,d3,rfl,zl r1,r.len rx,zl r2,r.len ry,?_⟩
 have t3:row r true w (cx++d3) (x :: X3) (fun k=>Ax k∨A3 k):=⟨cx,d3,Ax,A3,rfl,rx,r3,fun _=>.inl,fun _=>.inr,fun _ k h1 h2=>dx rfl k h1 (hB3 k (hA3 k h2))⟩
 have t2:row r true w (d2++(cx++d3)) (X2++x :: X3) (fun k=>A2 k∨(Ax k∨A3 k)):=zu r2 t3 (fun _=>.inl) (fun _=>.inr) (fun _ k h1 h2=>h2.elim (fun q=>dx rfl k q (hA2 k h1)) (fun q=>D2 rfl k h1 (hA3 k q)))
 have t1:row r true w (cy++(d2++(cx++d3))) (y :: (X2++x :: X3)) (fun k=>Ay k∨(A2 k∨(Ax k∨A3 k))):=⟨cy,_,Ay,_,rfl,ry,t2,fun _=>.inl,fun _=>.inr,fun _ k h1 h2=>h2.elim (fun q=>D2 rfl k q (hAy k h1)) (fun h2=>h2.elim (fun q=>dx rfl k q (hB3 k (hAy k h1))) (fun q=>dy rfl k h1 q))⟩
 refine zu r1 t1 hA1 ?_ ?_
 · rintro k (q | q | q | q)
   · exact hB1 k (hB2 k (hB3 k (hAy k q)))
   · exact hB1 k (hB2 k (hA2 k q))
   · exact hB1 k (hAx k q)
   exact hB1 k (hB2 k (hB3 k (hA3 k q)))
 rintro _ k h1 (q | q | q | q)
 · exact D1 rfl k h1 (hB2 k (hB3 k (hAy k q)))
 · exact D1 rfl k h1 (hB2 k (hA2 k q))
 · exact D1 rfl k h1 (hAx k q)
 exact D1 rfl k h1 (hB2 k (hB3 k (hA3 k q)))
theorem kUl {l:List α} {i j:Nat} (hij:i < j) (hj:j < l.length):∃ X1 x X2 y X3,l=X1++x :: (X2++y :: X3)∧X1.length=i∧X2.length=j - i - 1:=by
 refine ⟨l.take i,l[i],(l.drop (i + 1)).take (j - i - 1),l[j],l.drop (j + 1),?_,by simp;omega,by simp;omega⟩
 have e1:l=l.take i++l[i] :: l.drop (i + 1):=rM
 have e2:l.drop (i + 1)=(l.drop (i + 1)).take (j - i - 1)++l[j] :: l.drop (j + 1):=by
  have h1:(l.drop (i + 1)).drop (j - i - 1)=l.drop j:=by rw [List.drop_drop];congr 1;omega
  have h2:l.drop j=l[j] :: l.drop (j + 1):=rM
  rw [← h2,← h1,List.take_append_drop]
 rw [← e2,← e1]
theorem kMo {cells mid pre suf:List Value} {o:Nat} {cs:List Value} {e:TypeId} (hc:w.heap[b]?=some (.cells cells.toArray e (0,0))) (he:cells=pre++(mid++suf)) (ho:pre.length=o) (hl:cs.length=mid.length)
    (h:∀ q u,cs[q]?=some u→w.cell? ⟨b,o + q,none⟩=some u):cs=mid:=by
 apply List.ext_getElem hl
 intro q h1 h2
 have:=h q cs[q] (by simp [h1])
 rw [cell_of_row w b _ _ e (0,0) hc] at this
 simp only [List.getElem?_toArray] at this
 rw [he,List.getElem?_append_right rJ,List.getElem?_append_left rJ,show o + q - pre.length=q by omega,List.getElem?_eq_getElem h2] at this
 exact (Option.some.inj this).symm
theorem kCi (h:kQ e r w (.slice (some ⟨b,0,none⟩) len cap) xs S) (hi:i < xs.length) (hj:j < xs.length) (hij:i≠j) {ci cj:List Value} (li:ci.length=r.n) (lj:cj.length=r.n)
    (hci:∀ q u,ci[q]?=some u→w.cell? ⟨b,i * r.n + q,none⟩=some u) (hcj:∀ q u,cj[q]?=some u→w.cell? ⟨b,j * r.n + q,none⟩=some u) {pi pj:Nat} (hpi:pi=i * r.n) (hpj:pj=j * r.n) :
    kQ e r (setCells (setCells w b pi cj) b pj ci) (.slice (some ⟨b,0,none⟩) len cap) (Srt.sw xs i j) S∧Touch (fun k=>k=b) w (setCells (setCells w b pi cj) b pj ci):=by
 subst hpi hpj
 refine ⟨?_,(jg _ _ _ _).trans (jg _ _ _ _)⟩
 obtain ⟨hb,h⟩:=h
 rcases h with ⟨⟨a,h0⟩,rfl⟩|⟨b',cap',cur,cs,tl,h0,h1,h2,h3,h4,h5,h6,h7⟩
 · simp at hi
 simp only [Value.slice.injEq,Option.some.injEq,Addr.mk.injEq,and_true] at h0
 obtain ⟨rfl,rfl,rfl⟩:=h0
 have hcur:cur=(cs++tl).toArray:=by rw [← h4]
 subst hcur
 have hbs:∀ z∈Srt.sw xs i j,r.bdd Big z:=by
  intro z hz
  rw [Srt.kVu hi hj] at hz
  rcases List.mem_or_eq_of_mem_set hz with q | q
  · rcases List.mem_or_eq_of_mem_set q with q | q
    · exact hb z q
    rw [q];exact hb _ (List.getElem_mem hj)
  rw [q];exact hb _ (List.getElem_mem hi)
 have hlen:=Srt.zq xs i j
 refine ⟨hbs,.inr ⟨b,cap,?_⟩⟩
 suffices hh:∃ cs',(setCells (setCells w b (i * r.n) cj) b (j * r.n) ci).heap[b]?=some (.cells (cs'++tl).toArray e (0,0))∧cs'.length=cs.length∧row r true w cs' (Srt.sw xs i j) (fun k=>S k∧k≠b) by
   obtain ⟨cs',g1,g2,g3⟩:=hh
   refine ⟨_,cs',tl,by rw [hlen],by rw [hlen];exact h1,h2,g1,by simp,?_,h6,?_⟩
   · rw [← h5];simp [g2]
   · exact yB g3 (fun k hk=>by rw [zZ _ _ _ _ _ hk.2,zZ _ _ _ _ _ hk.2])
 rcases Nat.lt_or_gt_of_ne hij with q | q
 · obtain ⟨X1,x,X2,y,X3,rfl,l1,l2⟩:=kUl q hj
   obtain ⟨d1,cx,d2,cy,d3,rfl,m1,mx,m2,my,hr⟩:=row_swap h7
   have e1:ci=cx:=kMo h3 (show _=d1++(cx++((d2++(cy++d3))++tl)) by simp) (by rw [m1,l1]) rJ hci
   have e2:cj=cy:=kMo h3 (show _=(d1++(cx++d2))++(cy++(d3++tl)) by simp) (by
     simp only [List.length_append];rw [m1,mx,m2,l1,l2]
     have:j=i + 1 + (j - i - 1):=by omega
     generalize j - i - 1=t at *
     subst this
     simp only [Nat.add_mul];omega) rJ hcj
   subst e1 e2
   have hj':(d1++(cj++d2)).length=j * r.n:=by
    simp only [List.length_append];rw [m1,lj,m2,l1,l2]
    have:j=i + 1 + (j - i - 1):=by omega
    generalize j - i - 1=t at *
    subst this
    simp only [Nat.add_mul];omega
   refine ⟨d1++(cj++(d2++(ci++d3))),?_,by simp;omega,?_⟩
   · have g1:=jl (e:=e) cj ci d1 ((d2++(cj++d3))++tl) w b (i * r.n) (by rw [h3];simp) (by rw [m1,l1]) rJ
     have g2:=jl (e:=e) ci cj (d1++(cj++d2)) (d3++tl) _ b (j * r.n) (by rw [g1];simp) hj' rJ
     rw [g2];simp
   have es:=Srt.kFo X1 X2 X3 x y (i:=i) (j:=j) l1.symm rJ
   rw [show X1++x :: (X2++y :: X3)=X1++x :: X2++y :: X3 by simp,es]
   simpa using hr
 obtain ⟨X1,y,X2,x,X3,rfl,l1,l2⟩:=kUl q hi
 obtain ⟨d1,cy,d2,cx,d3,rfl,m1,my,m2,mx,hr⟩:=row_swap h7
 have hi':∀ z:List Value,z.length=r.n→(d1++(z++d2)).length=i * r.n:=by
  intro z hz
  simp only [List.length_append];rw [m1,hz,m2,l1,l2]
  have:i=j + 1 + (i - j - 1):=by omega
  generalize i - j - 1=t at *
  subst this
  simp only [Nat.add_mul];omega
 have e1:cj=cy:=kMo h3 (show _=d1++(cy++((d2++(cx++d3))++tl)) by simp) (by rw [m1,l1]) rJ hcj
 have e2:ci=cx:=kMo h3 (show _=(d1++(cy++d2))++(cx++(d3++tl)) by simp) (hi' _ my) rJ hci
 subst e1 e2
 refine ⟨d1++(ci++(d2++(cj++d3))),?_,by simp;omega,?_⟩
 · have g1:=jl (e:=e) cj ci (d1++(cj++d2)) (d3++tl) w b (i * r.n) (by rw [h3];simp) (hi' _ lj) rJ
   have g2:=jl (e:=e) ci cj d1 ((d2++(cj++d3))++tl) _ b (j * r.n) (by rw [g1];simp) (by rw [m1,l1]) rJ
   rw [g2];simp
 have es:=Srt.kFo X1 X2 X3 y x (i:=j) (j:=i) l1.symm rJ
 rw [Srt.kVv,show X1++y :: (X2++x :: X3)=X1++y :: X2++x :: X3 by simp,es]
 simpa using hr
end
end Rep
end Go.Proofs.YtomdenfcfbkfbaaGreat
namespace Go.Proofs.YtomdenfcfbkfbaaGreat
open Go.RowKit
theorem kNj {P:Program} (w:World) (b o:Nat) (ty:TypeId) (v:Value) (cs:List Value) (hcs:v.cells=cs.toArray) (ht:w.there b o cs.length) (hi:(P.info? ty).map (·.size)=some cs.length) (h1:∀ c∈cs,c.oneCell'=true) :
    (storeVar ty ⟨b,o,none⟩ v).run P w=.ok () (Rep.setCells w b o cs):=by
 have:=run_storeCells_cells (P:=P) b o cs 0 w (fun j hj=>by simpa using (ht j qK).1) (fun j hj=>by simpa using (ht j qK).2) h1
 cases hq:P.info? ty with
 | none=>simp [hq] at hi
 | some i =>
   have hs:cs.length=i.size:=by simp [hq] at hi;omega
   simp only [Nat.add_zero] at this
   rw [← Rep.kDx]
   simp [storeVar,sizeOf,typeInfo,hq,hcs,hs,this]
theorem wp_storeV {P:Program} {op:Oper} {a:Act} {w:World} {K:Act→World→Prop} {Q:Exit→Act→World→Prop} (ty:TypeId) (x y:Operand) (ho:op.op=.store ty x y)
    (b o:Nat) (v:Value) (cs:List Value) (hcs:v.cells=cs.toArray) (hx:a.eval x=.pointer (some ⟨b,o,none⟩)) (hy:a.eval y=v)
    (ht:w.there b o cs.length) (hi:(P.info? ty).map (·.size)=some cs.length) (h1:∀ c∈cs,c.oneCell'=true)
    (h:∀ w',w'=Rep.setCells w b o cs→K (a.put op.dst undef) w'):op.wp P a w K Q:=by
 unfold Oper.wp execOp
 simp only [ho,hx,hy,Instr.storeAt,Instr.sureAddr,Sem.run_bind,Sem.run_pure,Result.andThen_ok,kNj w b o ty v cs hcs ht hi h1]
 exact h _ rfl
theorem jr {P:Program} {ops:Array Oper} {rest:List Oper} {op:Oper} {a:Act} {w:World} {Q:Exit→Act→World→Prop} (hgd:op.guard=none) (ty:TypeId) (x y:Operand) (ho:op.op=.store ty x y)
    (b o:Nat) (v:Value) (cs:List Value) (hcs:v.cells=cs.toArray) (hx:a.eval x=.pointer (some ⟨b,o,none⟩)) (hy:a.eval y=v)
    (ht:w.there b o cs.length) (hi:(P.info? ty).map (·.size)=some cs.length) (h1:∀ c∈cs,c.oneCell'=true)
    (h:∀ w',w'=Rep.setCells w b o cs→wpList P ops Q rest (a.put op.dst undef) w'):wpList P ops Q (op :: rest) a w :=
  wpList_plain hgd fun _ hK=>wp_storeV ty x y ho b o v cs hcs hx hy ht hi h1 (fun w' hw=>hK _ _ (h w' hw))
namespace Rep
section
variable {α:Type} {r:Rep α} {e:TypeId} {w w' u:World} {v:Value} {b cap len n i j:Nat} {xs:List α} {x y:α} {S T:Nat→Prop}
theorem kCe {m o p:Nat} {cs:List Value} (h:w.there b o m):(setCells w b p cs).there b o m:=by
 rw [← kDx];exact World.there_setCells h b p cs
theorem yg (h:kQ e r w (.slice (some ⟨b,0,none⟩) len cap) xs S) (hi:i < xs.length):w.there b (i * r.n) r.n:=by
 obtain ⟨hb,h⟩:=h
 rcases h with ⟨⟨a,h0⟩,rfl⟩|⟨b',cap',cur,cs,tl,h0,h1,h2,h3,h4,h5,h6,h7⟩
 · simp at hi
 simp only [Value.slice.injEq,Option.some.injEq,Addr.mk.injEq,and_true] at h0
 obtain ⟨rfl,rfl,rfl⟩:=h0
 intro j hj
 have hlt:i * r.n + j < cur.size:=by
  rw [h5]
  have:(i + 1) * r.n≤cap * r.n:=Nat.mul_le_mul_right _ rJ
  rw [Nat.add_mul] at this;omega
 refine ⟨?_,frozen_of_row w b _ _ _ h3⟩
 rw [cell_of_row w b _ _ e (0,0) h3,Array.getElem?_eq_getElem hlt]
 rfl
theorem kBl (h:kQ e r w (.slice (some ⟨b,0,none⟩) len cap) xs S) (hi:i < xs.length):S b∧b < w.heap.size:=by
 obtain ⟨b',cap',h0,h1,h2,_⟩:=kCj h hi
 simp only [Value.slice.injEq,Option.some.injEq,Addr.mk.injEq,and_true] at h0
 obtain ⟨rfl,_,_⟩:=h0
 exact ⟨h1,h2⟩
end
end Rep
theorem kCd {S:Nat→Prop} {b:Nat} {w w':World} (h:Touch (fun k=>k=b) w w') (hb:S b):Touch S w w':=h.wide (fun k hk=>hk ▸ hb)
end Go.Proofs.YtomdenfcfbkfbaaGreat
namespace Go.Proofs.YtomdenfcfbkfbaaGreat
open Go
section
variable {P:Program} {ops:Array Oper} {S:World→Prop} {Q:Exit→Act→World→Prop}
def sinkS (md:Region.Mode) (ops:Array Oper) (n:Nat) (sk:List Nat):Bool :=
  (List.range n).all fun i=>sk.contains i || (List.range (n + 1)).any fun j=>decide (i < j) && (!sk.contains j && Region.waitsFor md ops j i)
theorem kOm {md:Region.Mode} {n:Nat} {sk:List Nat} {listed:Array Bool} (hs:sinkS md ops n sk=true) (hc:Region.chainB md ops n=true) (hn:n < ops.size) (inv:HeadInv md ops n listed) :
    ∀ (d i:Nat),n - i=d→i < n→sk.contains i=false→listed.getD i true=false→∀ t,n≤t→t ∉ Region.ready md ops listed:=by
 intro d
 induction d using Nat.strongRecOn with
 | _ d ih =>
   intro i hd hi hsk hun t ht hr
   obtain ⟨_,ot,hot,hall⟩:=mem_ready.1 hr
   have htlt:t < ops.size:=(Array.getElem?_eq_some_iff.1 hot).1
   by_cases htn:t=n
   · subst htn
     have h1:=List.all_eq_true.1 hs i (List.mem_range.2 hi)
     rw [hsk,Bool.false_or] at h1
     obtain ⟨j,hj,hj2⟩:=List.any_eq_true.1 h1
     simp only [Bool.and_eq_true,decide_eq_true_eq,Bool.not_eq_true'] at hj2
     obtain ⟨oj,hoj,e,he,hb,hon⟩:=Region.waitsFor_spec hj2.2.2
     have hjle:j≤t:=by have:=List.mem_range.1 hj;omega
     by_cases hjt:j=t
     · subst hjt
       have:oj=ot:=Option.some.inj (hoj.symm.trans hot)
       subst this
       have h2:=hall e he hb
       rw [hon,getD_both hun] at h2
       cases h2
     · cases hl:listed.getD j false with
       | true =>
         have h2:=inv.closed j oj hoj hl e he hb
         rw [hon,getD_both hun] at h2
         cases h2
       | false =>
         have hjs:j < listed.size:=by rw [inv.size];omega
         exact ih (t - j) rJ j rfl rJ hj2.2.1 (getD_in hjs hl) t nL hr
   · have h1:=List.all_eq_true.1 hc t (List.mem_range.2 htlt)
     simp only [Bool.or_eq_true,decide_eq_true_eq] at h1
     rcases h1 with h1 | h1
     · omega
     · obtain ⟨o',ho',e,he,hb,hon⟩:=Region.waitsFor_spec h1
       have:o'=ot:=Option.some.inj (ho'.symm.trans hot)
       subst this
       have h2:=hall e he hb
       rw [hon,getD_both (inv.tail (t - 1) rJ rJ)] at h2
       cases h2
theorem kQo {md:Region.Mode} {n i:Nat} {sk:List Nat} {oi:Oper} {v:Value} {L:Array Bool→Act→World→Prop} (hi:ops[i]?=some oi) (hsel:∀ (j:Nat) (o:Oper) cs b,ops[j]?=some o→o.op≠.select cs b)
    (hQ:∀ c a w,Q (.panic c) (a.put oi.dst v) w→Q (.panic c) a w) (hs:sinkS md ops n sk=true) (hc:Region.chainB md ops n=true) (hn:n < ops.size) (hin:i < n) (hsk:sk.contains i=false)
    (hdone:∀ listed a w,L listed a w→∀ j∈Region.ready md ops listed,n≤j) :
    ∀ (f:Nat) (listed:Array Bool) (a:Act) (w:World),HeadInv md ops n listed →
      (∀ j oj,ops[j]?=some oj→j≠i→listed.getD j true=false→(∀ e∈oj.after,Region.binds md e=true→e.on≠i)→oi.apart ops oj=true) →
      i∈Region.ready md ops listed→YieldsIf P ops S oi v a→S w →
      kDg P md ops Q S n L f (listed.setIfInBounds i true) (a.put oi.dst v) w→kDg P md ops Q S n L (f + 1) listed a w:=by
 intro f
 induction f with
 | zero =>
   intro listed a w inv _ hr hy hS H
   have hun:=(mem_ready.1 hr).1
   refine ⟨fun h=>pG,fun j hj=>?_⟩
   have hjn:j < n:=by
     rcases Nat.lt_or_ge j n with h | h
     · exact h
     · exact absurd hj (kOm hs hc hn inv _ i rfl hin hsk hun j h)
   refine ⟨hjn,?_⟩
   by_cases hji:j=i
   · subst hji;exact hy.wpOp hi hS ⟨hS,H⟩
   · have:=hdone _ _ _ H j (ready_mono hj hji)
     omega
 | succ f ih =>
   intro listed a w inv hfree hr hy hS H
   have hun:=(mem_ready.1 hr).1
   refine ⟨fun h=>pG,fun j hj=>?_⟩
   have hjn:j < n:=by
     rcases Nat.lt_or_ge j n with h | h
     · exact h
     · exact absurd hj (kOm hs hc hn inv _ i rfl hin hsk hun j h)
   refine ⟨hjn,?_⟩
   by_cases hji:j=i
   · subst hji;exact hy.wpOp hi hS ⟨hS,H⟩
   · have h1:=(H.2 j (ready_mono hj hji)).2
     obtain ⟨hjun,oj,hoj,hall⟩:=mem_ready.1 hj
     have hnot:∀ e∈oj.after,Region.binds md e=true→e.on≠i:=fun e he hb heq=>by
       have h1:=hall e he hb
       rw [heq,getD_both hun] at h1
       cases h1
     have h2:=wpOp_putIf hoj (hfree j oj hoj hji hjun hnot) (fun cs b=>hsel i oi cs b hi) (fun cs b=>hsel j oj cs b hoj) hQ hy h1
     have hfree':∀ k ok,ops[k]?=some ok→k≠i→(listed.setIfInBounds j true).getD k true=false →
         (∀ e∈ok.after,Region.binds md e=true→e.on≠i)→oi.apart ops ok=true:=fun k ok hk hki hun hno=>by
       refine hfree k ok hk hki ?_ hno
       by_cases hjk:j=k
       · subst hjk;exact hjun
       · rw [getD_set_ne true hjk] at hun;exact hun
     refine wpOp_mono (fun a' w' h3=>⟨h3.2.1,ih (listed.setIfInBounds j true) a' w' (inv.set hj hjn) hfree' (ready_mono hr (Ne.symm hji)) h3.1 h3.2.1 ?_⟩) h2
     rw [Array.setIfInBounds_comm _ _ hji]
     exact h3.2.2
theorem kFc {l:List Oper} {n g:Nat} {sk:List Nat} (hsel:Region.noSelect l.toArray=true) (hQ:∀ c a d v w,Q (.panic c) (Act.put a d v) w→Q (.panic c) a w)
    (hs:sinkS .any l.toArray n sk=true) (hc:Region.chainB .any l.toArray n=true) (hn:n < l.toArray.size) (hg:n + g=l.length):∀ (q:List (Nat × Bool)) (k:Nat) (listed:Array Bool) (a:Act) (w:World),
    q.all (fun x=>decide (x.1 < n) && !sk.contains x.1)=true→HeadInv .any l.toArray n listed→kCa .any l.toArray n g q listed=true→S w→kCo P l.toArray S Q k (jO l q++l.drop n) (q.map (·.2)) a w →
    kDg P .any l.toArray Q S n (fun listed a w=>Region.seqB .any l.toArray g n listed=true∧∃ r,(∀ j,r[j]?=l.toArray[n + j]?)∧r.length=g∧wpList P l.toArray Q r a w) q.length listed a w
  | [],k,listed,a,w,_,inv,hB,hS,h=>by
    refine ⟨by simpa [kCa] using hB,l.drop n,fun j=>by simp [List.getElem?_drop],by simp;omega,?_⟩
    simp only [jO,List.nil_append,List.map_nil] at h
    generalize l.drop n=r at h ⊢
    cases r <;> exact h
  | (i,true) :: q,k,listed,a,w,hi,inv,hB,hS,h=>by
    simp only [List.all_cons,Bool.and_eq_true,decide_eq_true_eq,Bool.not_eq_true'] at hi
    have hil:i < l.toArray.size:=Nat.lt_trans hi.1.1 hn
    have h0:l.toArray[i]?=some l.toArray[i]:=Array.getElem?_eq_getElem hil
    have hp:jO l ((i,true) :: q)=l.toArray[i] :: jO l q:=by
      have:l[i]?=some l.toArray[i]:=by simp
      simp only [jO,this]
    rw [hp] at h
    obtain ⟨v,hy,h⟩:=h
    simp only [kCa,Bool.and_eq_true] at hB
    have hr:i∈Region.ready .any l.toArray listed:=by simpa using hB.1.1
    have hi2:q.all (fun x=>decide (x.1 < n) && !sk.contains x.1)=true:=by simpa only [Bool.and_eq_true,decide_eq_true_eq,Bool.not_eq_true'] using hi.2
    exact kQo h0 (Region.noSelect_spec hsel) (fun c a w=>hQ c a _ _ w) hs hc hn hi.1.1 hi.1.2 (fun listed' a' w' hL=>seqB_ready hL.1) q.length listed a w inv (Region.free_spec h0 hB.1.2) hr hy hS
      (kFc hsel hQ hs hc hn hg q (k + 1) _ _ _ hi2 (inv.set hr hi.1.1) hB.2 hS h)
  | (i,false) :: q,k,listed,a,w,hi,inv,hB,hS,h=>by
    simp only [List.all_cons,Bool.and_eq_true,decide_eq_true_eq,Bool.not_eq_true'] at hi
    have hi2:q.all (fun x=>decide (x.1 < n) && !sk.contains x.1)=true:=by simpa only [Bool.and_eq_true,decide_eq_true_eq,Bool.not_eq_true'] using hi.2
    have hil:i < l.toArray.size:=Nat.lt_trans hi.1.1 hn
    have h0:l.toArray[i]?=some l.toArray[i]:=Array.getElem?_eq_getElem hil
    have hp:jO l ((i,false) :: q)=l.toArray[i] :: jO l q:=by
      have:l[i]?=some l.toArray[i]:=by simp
      simp only [jO,this]
    rw [hp] at h
    simp only [kCa,Bool.and_eq_true,beq_iff_eq] at hB
    have hr:i∈Region.ready .any l.toArray listed:=by rw [hB.1];simp
    refine ⟨by rw [hB.1];simp,fun j hj=>?_⟩
    rw [hB.1] at hj
    obtain rfl:j=i:=qK
    refine ⟨hi.1.1,?_⟩
    refine wpOp_mono (fun a' w' h'=>⟨h'.1,kFc hsel hQ hs hc hn hg q (k + 1) _ _ _ hi2 (inv.set hr hi.1.1) hB.2 h'.1 h'.2⟩) (K:=fun a' w'=>S w'∧kCo P l.toArray S Q (k + 1) (jO l q++l.drop n) (q.map (·.2)) a' w') ?_
    unfold wpOp
    simp only [h0]
    exact h
def preB (md:Region.Mode) (ops:Array Oper):List Nat→Array Bool→Bool
  | [],_=>true
  | k :: p,listed=>(Region.ready md ops listed).contains k && Region.free md ops listed k && preB md ops p (listed.setIfInBounds k true)
def kMa:List Nat→Array Bool→Array Bool
  | [],b=>b
  | k :: p,b=>kMa p (b.setIfInBounds k true)
def kBg (l:List Oper):List Nat→List Oper
  | []=>[]
  | k :: q=>match l[k]? with
    | some o=>o :: kBg l q
    | none=>[]
def preR (P:Program) (ops:Array Oper) (K:Act→Prop):List Oper→Act→Prop
  | [],a=>K a
  | o :: l,a=>∃ v,Yields P ops o v a∧preR P ops K l (a.put o.dst v)
@[irreducible] def pre (P:Program) (ops:Array Oper) (K:Act→Prop) (l:List Oper) (a:Act):Prop:=preR P ops K l a
theorem kUf {l:List Oper} {n f:Nat} (hsel:Region.noSelect l.toArray=true) (hQ:∀ c a d v w,Q (.panic c) (Act.put a d v) w→Q (.panic c) a w) {w:World} (hn:n < l.toArray.size):∀ (sk:List Nat) (listed:Array Bool) (a:Act),
    sk.all (fun x=>decide (x < n))=true→HeadInv .any l.toArray n listed→preB .any l.toArray sk listed=true→preR P l.toArray (fun a'=>HeadInv .any l.toArray n (kMa sk listed)→wpAny P .any l.toArray Q f (kMa sk listed) a' w) (kBg l sk) a→wpAny P .any l.toArray Q (sk.length + f) listed a w
  | [],listed,a,_,inv,_,h=>by
    simp only [List.length_nil,Nat.zero_add]
    exact h inv
  | i :: sk,listed,a,hi,inv,hB,h=>by
    simp only [List.all_cons,Bool.and_eq_true,decide_eq_true_eq] at hi
    have hil:i < l.toArray.size:=Nat.lt_trans hi.1 hn
    have h0:l.toArray[i]?=some l.toArray[i]:=Array.getElem?_eq_getElem hil
    have hp:kBg l (i :: sk)=l.toArray[i] :: kBg l sk:=by
      have:l[i]?=some l.toArray[i]:=by simp
      simp only [kBg,this]
    rw [hp] at h
    obtain ⟨v,hy,h⟩:=h
    simp only [preB,Bool.and_eq_true] at hB
    have hr:i∈Region.ready .any l.toArray listed:=by simpa using hB.1.1
    rw [show (i :: sk).length + f=(sk.length + f) + 1 by simp;omega]
    exact wpAny_take h0 hsel hB.1.2 hB.1.1 (fun c a w=>hQ c a _ _ w) hy (kUf hsel hQ hn sk _ _ (by simpa using hi.2) (inv.set hr hi.1) hB.2 h)
def skipOk (md:Region.Mode) (ops:Array Oper) (sk:List Nat) (q:List (Nat × Bool)):Bool :=
  Region.noSelect ops && (decide (sk.length + q.length < ops.size) && (sk.all (fun x=>decide (x < sk.length + q.length)) && (q.all (fun x=>decide (x.1 < sk.length + q.length) && !sk.contains x.1) && (sinkS md ops (sk.length + q.length) sk && (Region.chainB md ops (sk.length + q.length) &&
    (preB md ops sk (Array.replicate ops.size false) && kCa md ops (sk.length + q.length) (ops.size - (sk.length + q.length)) q (kMa sk (Array.replicate ops.size false))))))))
theorem kUt {K K':Act→Prop} (h:∀ a,K a→K' a):∀ (l:List Oper) (a:Act),preR P ops K l a→preR P ops K' l a
  | [],a,q=>h a q
  | o :: l,a,⟨v,hy,q⟩=>⟨v,hy,kUt h l _ q⟩
theorem yL {id:Nat} {a:Act} {w:World} {l:List Oper} (S:World→Prop) (sk:List Nat) (q:List (Nat × Bool)) (hm:P.follows .mixedOrders=true) (hB:skipOk .any l.toArray sk q=true)
    (hQ:∀ c a d v w,Q (.panic c) (Act.put a d v) w→Q (.panic c) a w) (hS:S { w with drawn:=w.drawn + 1 })
    (h:∀ w',S w'→pre P l.toArray (fun a'=>soft P l.toArray S Q 0 (jO l q++l.drop (sk.length + q.length)) (q.map (·.2)) a' w') (kBg l sk) a):(Code.region id l.toArray true).wp P Q a w:=by
 simp only [skipOk,Bool.and_eq_true,decide_eq_true_eq] at hB
 have h:=h _ hS
 unfold pre at h
 unfold soft at h
 have hsz:l.toArray.size=l.length:=rM
 have inv0:HeadInv .any l.toArray (sk.length + q.length) (Array.replicate l.toArray.size false) :=
   ⟨by simp,fun j oj _ hl=>fK,fun t _ ht=>getD_in (by simpa using ht) (getD_replicate_false _ _)⟩
 refine wp_region_any hm ?_
 have hn:=hB.2.1
 have hq2:q.all (fun x=>decide (x.1 < sk.length + q.length) && !sk.contains x.1)=true:=by simpa only [Bool.and_eq_true,decide_eq_true_eq,Bool.not_eq_true'] using hB.2.2.2.1
 rw [show l.toArray.size=sk.length + (q.length + (l.toArray.size - (sk.length + q.length))) by omega]
 rw [show sk.length + (q.length + (l.toArray.size - (sk.length + q.length)))=l.toArray.size by omega] 
 have key:=kUf (f:=q.length + (l.toArray.size - (sk.length + q.length))) hB.1 hQ hn sk (Array.replicate l.toArray.size false) a (by simpa using hB.2.2.1) inv0 hB.2.2.2.2.2.2.1 (kUt (fun a' hk=>by
   intro inv1
   have H:=kFc (g:=l.toArray.size - (sk.length + q.length)) hB.1 hQ hB.2.2.2.2.1 hB.2.2.2.2.2.1 hn rJ q 0 _ a' _ hq2 inv1 hB.2.2.2.2.2.2.2 hS hk
   exact kCm (Q:=Q) (g:=l.toArray.size - (sk.length + q.length)) (fun listed a' w' hL=>by
     obtain ⟨hq,l',ho,hl',hw⟩:=hL
     have:=wpAny_of_seq (md:=.any) (Q':=Q) l' (sk.length + q.length) listed a' w' ho (by rw [hl'];exact hq) hw
     rwa [hl'] at this) _ _ _ _ H) _ _ h)
 rw [show sk.length + (q.length + (l.toArray.size - (sk.length + q.length)))=l.toArray.size by omega] at key
 exact key
theorem pre_nil {K:Act→Prop} {a:Act} (h:K a):pre P ops K [] a:=by unfold pre;exact h
theorem kDk {K:Act→Prop} {o:Oper} {l:List Oper} {a:Act} {v:Value} (hg:Region.wanted o (yielded ops a.tmps)=true) (hv:∀ w,(execOp a.eval o).run P w=.ok (.value v) w) (h:pre P ops K l (a.put o.dst v)):pre P ops K (o :: l) a:=by
 unfold pre at h ⊢
 exact ⟨v,.inl ⟨hg,hv⟩,h⟩
end
end Go.Proofs.YtomdenfcfbkfbaaGreat

/-
  The check of a region's order by bit masks: what the kernel has to count through is short.
-/
import Derived.Test.YtpgnbablhdknnaaSoft
set_option linter.unusedVariables false
set_option linter.unusedSimpArgs false
set_option linter.unnecessarySimpa false
namespace Go.Proofs.Ytpgnbablhdknnaa
open Go.RowKit
def kGq (o:Oper):Nat:=o.after.toList.foldr (fun e m=>if Region.binds .any e then m ||| 2 ^ e.on else m) 0
theorem kEy (o:Oper) (j:Nat):(kGq o).testBit j=true↔∃ e∈o.after,Region.binds .any e=true∧e.on=j:=by
 have key:∀ l:List Edge,(l.foldr (fun e m=>if Region.binds .any e then m ||| 2 ^ e.on else m) 0).testBit j=true↔∃ e∈l,Region.binds .any e=true∧e.on=j:=by
  intro l
  induction l with
  | nil=>simp
  | cons a l ih =>
    rw [List.foldr_cons]
    cases h:Region.binds .any a
    · simp only [Bool.false_eq_true,if_false,ih,List.mem_cons,exists_eq_or_imp,h,false_and,false_or]
    · simp only [if_true,Nat.testBit_or,Bool.or_eq_true,ih,Nat.testBit_two_pow,decide_eq_true_eq,List.mem_cons,exists_eq_or_imp,h,true_and]
      exact ⟨fun q=>q.symm,fun q=>q.symm⟩
 unfold kGq
 rw [key]
 simp only [Array.mem_toList_iff]
def rdyF (L j:Nat) (o:Oper):Bool:=!L.testBit j && (kGq o &&& L==kGq o)
def kHr (f:Nat→Oper→Bool):List Oper→Nat→Bool
  | [],_=>true
  | o :: l,i=>f i o && kHr f l (i + 1)
theorem kDa {f:Nat→Oper→Bool}:∀ {l:List Oper} {i:Nat},kHr f l i=true→∀ (j:Nat) (o:Oper),l[j]?=some o→f (i + j) o=true
  | [],_,_,j,o,h=>by simp at h
  | a :: l,i,h,0,o,ho=>by
    simp only [kHr,Bool.and_eq_true] at h
    simp only [List.getElem?_cons_zero,Option.some.injEq] at ho
    subst ho;exact h.1
  | a :: l,i,h,j + 1,o,ho=>by
    simp only [kHr,Bool.and_eq_true] at h
    simp only [List.getElem?_cons_succ] at ho
    have:=kDa h.2 j o ho
    rw [Nat.add_assoc,Nat.add_comm 1 j] at this
    exact this
def kGx (l:List Oper):List (Nat × Bool)→Nat→Bool
  | [],L=>kHr (fun j o=>!rdyF L j o) l 0
  | (k,true) :: p,L=>(match l[k]? with | some o=>rdyF L k o && kHr (fun j oj=>L.testBit j || (j==k || ((kGq oj).testBit k || o.apart l.toArray oj))) l 0 | none=>false) && kGx l p (L ||| 2 ^ k)
  | (k,false) :: p,L=>(match l[k]? with | some o=>rdyF L k o && kHr (fun j oj=>L.testBit j || (j==k || !rdyF L j oj)) l 0 | none=>false) && kGx l p (L ||| 2 ^ k)
def softPF (l:List Oper) (q:List (Nat × Bool)):Bool:=Region.noSelect l.toArray && (decide (q.length≤l.length) && (q.all (fun x=>decide (x.1 < l.length)) && kGx l q 0))
structure Bits (listed:Array Bool) (L n:Nat):Prop where
  size:listed.size=n
  bit:∀ i,i < n→listed.getD i false=L.testBit i
  big:∀ i,n≤i→L.testBit i=false
theorem Bits.tr {listed:Array Bool} {L n:Nat} (h:Bits listed L n) {i:Nat} (hi:i < n):listed.getD i true=L.testBit i:=by
 rw [← h.bit i hi]
 have:=h.size
 simp [Array.getD,show i < listed.size by omega]
theorem Bits.fa {listed:Array Bool} {L n:Nat} (h:Bits listed L n) (i:Nat):listed.getD i false=L.testBit i:=by
 by_cases hi:i < n
 · exact h.bit i hi
 rw [h.big i gV]
 have:=h.size
 simp [Array.getD,show ¬ i < listed.size by omega]
theorem Bits.set {listed:Array Bool} {L n k:Nat} (h:Bits listed L n) (hk:k < n):Bits (listed.setIfInBounds k true) (L ||| 2 ^ k) n:=by
 refine ⟨by simp [h.size],fun i hi=>?_,fun i hi=>?_⟩
 · rw [Nat.testBit_or,Nat.testBit_two_pow,← h.bit i hi]
   by_cases e:k=i
   · subst e
     simp [Array.getD,h.size,hk]
   simp [Array.getD,h.size,hi,Array.getElem_setIfInBounds,e]
 rw [Nat.testBit_or,Nat.testBit_two_pow,h.big i hi]
 simp;omega
theorem Bits.zero (n:Nat):Bits (Array.replicate n false) 0 n:=⟨by simp,fun i hi=>by simp [Array.getD,hi],fun i _=>by simp⟩
theorem kGk {l:List Oper} {listed:Array Bool} {L j:Nat} {o:Oper} (h:Bits listed L l.length) (ho:l[j]?=some o):j∈Region.ready .any l.toArray listed↔rdyF L j o=true:=by
 have hj:j < l.length:=(List.getElem?_eq_some_iff.1 ho).1
 rw [mem_ready,h.tr hj]
 unfold rdyF
 simp only [List.getElem?_toArray,ho,Option.some.injEq,exists_eq_left',Bool.and_eq_true,Bool.not_eq_true',beq_iff_eq]
 refine and_congr_right (fun _=>⟨fun q=>Nat.eq_of_testBit_eq fun i=>?_,fun q e he hb=>?_⟩)
 · rw [Nat.testBit_and]
   cases hw:(kGq o).testBit i
   · rfl
   obtain ⟨e,he,hb,rfl⟩:=(kEy o i).1 hw
   have:=q e he hb
   rw [h.fa] at this
   rw [this];rfl
 rw [h.fa]
 have hw:(kGq o).testBit e.on=true:=(kEy o e.on).2 ⟨e,he,hb,rfl⟩
 rw [← q,Nat.testBit_and,Bool.and_eq_true] at hw
 exact hw.2
theorem ready_lt {l:List Oper} {listed:Array Bool} {j:Nat} (h:j∈Region.ready .any l.toArray listed):∃ o,l[j]?=some o:=by
 obtain ⟨_,o,ho,_⟩:=mem_ready.1 h
 exact ⟨o,by simpa using ho⟩
theorem only_one {k:Nat}:∀ {l:List Nat},l.Nodup→k∈l→(∀ x∈l,x=k)→l=[k]
  | [],_,h,_=>by simp at h
  | [a],_,_,h=>by rw [h a gW]
  | a :: b :: l,hn,_,h=>by
    have h1:=h a gW;have h2:=h b gW
    subst h1;subst h2
    simp at hn
theorem ready_nodup {l:List Oper} {listed:Array Bool}:(Region.ready .any l.toArray listed).Nodup:=by
 unfold Region.ready
 exact List.nodup_range.sublist List.filter_sublist
theorem kGw {l:List Oper}:∀ {q:List (Nat × Bool)} {listed:Array Bool} {L:Nat},Bits listed L l.length→kGx l q L=true→yw .any l.toArray q listed=true
  | [],listed,L,hB,h=>by
    simp only [kGx] at h
    simp only [yw,List.isEmpty_iff]
    refine List.eq_nil_iff_forall_not_mem.2 fun j hj=>?_
    obtain ⟨o,ho⟩:=ready_lt hj
    have h1:=kDa h j o ho
    rw [Nat.zero_add,(kGk hB ho).1 hj] at h1
    cases h1
  | (k,true) :: q,listed,L,hB,h=>by
    simp only [kGx,Bool.and_eq_true] at h
    obtain ⟨h,h2⟩:=h
    cases ho:l[k]? with
    | none=>rw [ho] at h;cases h
    | some o =>
      rw [ho] at h
      simp only [Bool.and_eq_true] at h
      have hk:k < l.length:=(List.getElem?_eq_some_iff.1 ho).1
      simp only [yw,Bool.and_eq_true,List.contains_iff_mem]
      refine ⟨⟨(kGk hB ho).2 h.1,?_⟩,kGw (hB.set hk) h2⟩
      unfold Region.free
      simp only [List.getElem?_toArray,ho,List.all_eq_true,List.mem_range,List.size_toArray]
      intro j hj
      have hoj:l[j]?=some l[j]:=List.getElem?_eq_getElem hj
      have h3:=kDa h.2 j l[j] hoj
      rw [Nat.zero_add] at h3
      rw [hB.tr hj,hoj]
      simp only [Bool.or_eq_true,beq_iff_eq] at h3 ⊢
      rcases h3 with h3 | h3 | h3 | h3
      · exact .inl (.inr h3)
      · exact .inl (.inl h3)
      · refine .inr (.inl ?_)
        obtain ⟨e,he,hb,hq⟩:=(kEy _ _).1 h3
        exact Array.any_eq_true'.2 ⟨e,he,by simp [hb,hq]⟩
      · exact .inr (.inr h3)
  | (k,false) :: q,listed,L,hB,h=>by
    simp only [kGx,Bool.and_eq_true] at h
    obtain ⟨h,h2⟩:=h
    cases ho:l[k]? with
    | none=>rw [ho] at h;cases h
    | some o =>
      rw [ho] at h
      simp only [Bool.and_eq_true] at h
      have hk:k < l.length:=(List.getElem?_eq_some_iff.1 ho).1
      simp only [yw,Bool.and_eq_true,beq_iff_eq]
      refine ⟨only_one ready_nodup ((kGk hB ho).2 h.1) fun j hj=>?_,kGw (hB.set hk) h2⟩
      obtain ⟨oj,hoj⟩:=ready_lt hj
      have hr:=(kGk hB hoj).1 hj
      have h3:=kDa h.2 j oj hoj
      rw [Nat.zero_add,hr] at h3
      simp only [Bool.not_true,Bool.or_false,Bool.or_eq_true,beq_iff_eq] at h3
      rcases h3 with h3 | h3
      · unfold rdyF at hr
        rw [h3] at hr
        cases hr
      · exact h3
theorem softP_ok {l:List Oper} {q:List (Nat × Bool)} (h:softPF l q=true):kGh .any l.toArray q=true:=by
 simp only [softPF,Bool.and_eq_true] at h
 simp only [kGh,Bool.and_eq_true,List.size_toArray]
 exact ⟨h.1,h.2.1,h.2.2.1,kGw (Bits.zero _) h.2.2.2⟩
end Go.Proofs.Ytpgnbablhdknnaa

/-
  Small functions on numbers: ranges, comparisons; the library's cmp.Compare and cmp.Or.
-/
import Derived.Test.YtjhfdpopkkmigaaGreatSoft
set_option linter.unusedVariables false
set_option linter.defProp false
set_option linter.unusedSimpArgs false
set_option linter.unnecessarySimpa false
set_option maxHeartbeats 4000000
open Bool renaming and_eq_true->Aa,false_eq_true->Aq,or_eq_true->Ay
open _root_ renaming List->Ab,Array->Ah,decide_eq_true_eq->Ak,beq_iff_eq->Aw,ByteArray->Be
open List renaming getElem?_eq_some_iff->Ac,getElem?_toArray->Bb,size_toArray->Bc,length_cons->Bf
open Go.Region renaming ready->Ad,binds->Ap,noSelect->Az
open Go renaming World->Ae,Value->Ag,Calls->Ai,Oper->Am,FuncId->Av,Program->Bd
open List.cons renaming injEq->Aj
open Go.Value.slice renaming injEq->Al
open Array renaming getElem?_eq_getElem->Ar,replicate->Ba
open Option.some renaming injEq->Au
namespace Go.Proofs.YtjhfdpopkkmigaaGreat
open Go.RowKit _root_.Go.Proofs.Tryz
def kUa (o:Am):Nat:=o.after.toList.foldr (λe m=>if Ap .any e then m ||| 2 ^ e.on else m) 0
def kPt (o:Am) (j:Nat):(kUa o).testBit j=true↔∃ e∈o.after,Ap .any e=true/\e.on=j:=by
 have key:∀ l:Ab Edge,(l.foldr (λe m=>if Ap .any e then m ||| 2 ^ e.on else m) 0).testBit j=true↔∃ e∈l,Ap .any e=true/\e.on=j:=by
  intro l;induction l with
  | nil=>simp
  | cons a l ih =>
    rw [List.foldr_cons];cases h:Ap .any a
    · simp only [Aq,if_false,ih,List.mem_cons,exists_eq_or_imp,h,false_and,false_or]
    · simp only [if_true,Nat.testBit_or,Ay,ih,Nat.testBit_two_pow,Ak,List.mem_cons,exists_eq_or_imp,h,true_and];exact ⟨λq=>q.symm,λq=>q.symm⟩
 unfold kUa;rw [key];simp only [Array.mem_toList_iff]
def rdyF (L j:Nat) (o:Am):Bool:=!L.testBit j && (kUa o &&& L==kUa o)
def kWr (f:Nat->Am->Bool):Ab Am->Nat->Bool
  | [],_=>true
  | o :: l,i=>f i o && kWr f l (i + 1)
def kLu {f:Nat->Am->Bool}:∀ {l:Ab Am} {i:Nat},kWr f l i=true->∀ (j:Nat) (o:Am),l[j]?=some o->f (i + j) o=true
  | [],_,_,j,o,h=>by simp at h
  | a :: l,i,h,0,o,ho=>by
    simp only [kWr,Aa] at h;simp only [List.getElem?_cons_zero,Au] at ho;subst ho;exact h.1
  | a :: l,i,h,j + 1,o,ho=>by
    simp only [kWr,Aa] at h;simp only [List.getElem?_cons_succ] at ho;have:=kLu h.2 j o ho;rw [Nat.add_assoc,Nat.add_comm 1 j] at this;exact this
def kVa (l:Ab Am):Ab (Nat × Bool)->Nat->Bool
  | [],L=>kWr (λj o=>!rdyF L j o) l 0
  | (k,true) :: p,L=>(match l[k]? with | some o=>rdyF L k o && kWr (λj N=>L.testBit j || (j==k || ((kUa N).testBit k || o.apart l.toArray N))) l 0 | none=>false) && kVa l p (L ||| 2 ^ k)
  | (k,false) :: p,L=>(match l[k]? with | some o=>rdyF L k o && kWr (λj N=>L.testBit j || (j==k || !rdyF L j N)) l 0 | none=>false) && kVa l p (L ||| 2 ^ k)
def softPF (l:Ab Am) (q:Ab (Nat × Bool)):Bool:=Az l.toArray && (decide (q.length<=l.length) && (q.all (λx=>decide (x.1 < l.length)) && kVa l q 0))
structure Bits (listed:Ah Bool) (L n:Nat):Prop where
  size:listed.size=n
  bit:∀ i,i < n->listed.getD i false=L.testBit i
  big:∀ i,n<=i->L.testBit i=false
def Bits.tr {listed:Ah Bool} {L n:Nat} (h:Bits listed L n) {i:Nat} (hi:i < n):listed.getD i true=L.testBit i:=by
 rw [<- h.bit i hi];have:=h.size;simp [Array.getD,show i < listed.size by omega]
def Bits.fa {listed:Ah Bool} {L n:Nat} (h:Bits listed L n) (i:Nat):listed.getD i false=L.testBit i:=by
 by_cases hi:i < n
 · exact h.bit i hi
 rw [h.big i bD1];have:=h.size;simp [Array.getD,show ¬ i < listed.size by omega]
def Bits.set {listed:Ah Bool} {L n k:Nat} (h:Bits listed L n) (hk:k < n):Bits (listed.setIfInBounds k true) (L ||| 2 ^ k) n:=by
 refine ⟨by simp [h.size],λi hi=>?_,λi hi=>?_⟩
 · rw [Nat.testBit_or,Nat.testBit_two_pow,<- h.bit i hi];by_cases e:k=i
   · subst e;simp [Array.getD,h.size,hk]
   simp [Array.getD,h.size,hi,Array.getElem_setIfInBounds,e]
 rw [Nat.testBit_or,Nat.testBit_two_pow,h.big i hi];simp;omega
def Bits.zero (n:Nat):Bits (Ba n false) 0 n:=⟨by simp,λi hi=>by simp [Array.getD,hi],λi _=>by simp⟩
def kTp {l:Ab Am} {listed:Ah Bool} {L j:Nat} {o:Am} (h:Bits listed L l.length) (ho:l[j]?=some o):j∈Ad .any l.toArray listed↔rdyF L j o=true:=by
 have I:j < l.length:=(Ac.1 ho).1;rw [mem_ready,h.tr I];unfold rdyF;simp only [Bb,ho,Au,exists_eq_left',Aa,Bool.not_eq_true',Aw];refine and_congr_right (λ_=>⟨λq=>Nat.eq_of_testBit_eq λi=>?_,λq e he hb=>?_⟩)
 · rw [Nat.testBit_and];cases hw:(kUa o).testBit i
   · rfl
   obtain ⟨e,he,hb,rfl⟩:=(kPt o i).1 hw;have:=q e he hb;rw [h.fa] at this;rw [this];rfl
 rw [h.fa];have hw:(kUa o).testBit e.on=true:=(kPt o e.on).2 ⟨e,he,hb,rfl⟩;rw [<- q,Nat.testBit_and,Aa] at hw;exact hw.2
def ready_lt {l:Ab Am} {listed:Ah Bool} {j:Nat} (h:j∈Ad .any l.toArray listed):∃ o,l[j]?=some o:=by
 obtain ⟨_,o,ho,_⟩:=mem_ready.1 h;exact ⟨o,by simpa using ho⟩
def only_one {k:Nat}:∀ {l:Ab Nat},l.Nodup->k∈l->(∀ x∈l,x=k)->l=[k]
  | [],_,h,_=>by simp at h
  | [a],_,_,h=>by rw [h a bD2]
  | a :: b :: l,hn,_,h=>by
    have h1:=h a bD2;have h2:=h b bD2;subst h1;subst h2;simp at hn
def ready_nodup {l:Ab Am} {listed:Ah Bool}:(Ad .any l.toArray listed).Nodup:=by
 unfold Ad;exact List.nodup_range.sublist List.filter_sublist
def kUz {l:Ab Am}:∀ {q:Ab (Nat × Bool)} {listed:Ah Bool} {L:Nat},Bits listed L l.length->kVa l q L=true->kEb .any l.toArray q listed=true
  | [],listed,L,hB,h=>by
    simp only [kVa] at h;simp only [kEb,List.isEmpty_iff];refine List.eq_nil_iff_forall_not_mem.2 λj I=>?_;obtain ⟨o,ho⟩:=ready_lt I;have h1:=kLu h j o ho;rw [Nat.zero_add,(kTp hB ho).1 I] at h1;cases h1
  | (k,true) :: q,listed,L,hB,h=>by
    simp only [kVa,Aa] at h;obtain ⟨h,h2⟩:=h;cases ho:l[k]? with
    | none=>rw [ho] at h;cases h
    | some o =>
      rw [ho] at h;simp only [Aa] at h;have hk:k < l.length:=(Ac.1 ho).1;simp only [kEb,Aa,List.contains_iff_mem];refine ⟨⟨(kTp hB ho).2 h.1,?_⟩,kUz (hB.set hk) h2⟩;unfold Region.free;simp only [Bb,ho,List.all_eq_true,List.mem_range,Bc];intro j I;have J:l[j]?=some l[j]:=List.getElem?_eq_getElem I;have h3:=kLu h.2 j l[j] J;rw [Nat.zero_add] at h3;rw [hB.tr I,J];simp only [Ay,Aw] at h3 ⊢;rcases h3 with h3 | h3 | h3 | h3
      · exact .inl (.inr h3)
      · exact .inl (.inl h3)
      · refine .inr (.inl ?_);obtain ⟨e,he,hb,hq⟩:=(kPt _ _).1 h3;exact Array.any_eq_true'.2 ⟨e,he,by simp [hb,hq]⟩
      · exact .inr (.inr h3)
  | (k,false) :: q,listed,L,hB,h=>by
    simp only [kVa,Aa] at h;obtain ⟨h,h2⟩:=h;cases ho:l[k]? with
    | none=>rw [ho] at h;cases h
    | some o =>
      rw [ho] at h;simp only [Aa] at h;have hk:k < l.length:=(Ac.1 ho).1;simp only [kEb,Aa,Aw];refine ⟨only_one ready_nodup ((kTp hB ho).2 h.1) λj I=>?_,kUz (hB.set hk) h2⟩;obtain ⟨N,J⟩:=ready_lt I;have hr:=(kTp hB J).1 I;have h3:=kLu h.2 j N J;rw [Nat.zero_add,hr] at h3;simp only [Bool.not_true,Bool.or_false,Ay,Aw] at h3;rcases h3 with h3 | h3
      · unfold rdyF at hr;rw [h3] at hr;cases hr
      · exact h3
def kUy {l:Ab Am} {q:Ab (Nat × Bool)} (h:softPF l q=true):kTo .any l.toArray q=true:=by
 simp only [softPF,Aa] at h;simp only [kTo,Aa,Bc];exact ⟨h.1,h.2.1,h.2.2.1,kUz (Bits.zero _) h.2.2.2⟩
def idxOf {α:Type} (p:α->Bool) (l:Ab α):Int:=match l.findIdx? p with | some i=>i | none=>-1
def idxOf_hit {α:Type} {p:α->Bool} {x:Ab α} {k:Nat} (hlt:k < x.length) (hp:p x[k]=true) (hno:∀ j,(h:j < k)->(h2:j < x.length)->p x[j]=false):idxOf p x=k:=by
 unfold idxOf;have:x.findIdx? p=some k:=by
  rw [List.findIdx?_eq_some_iff_getElem];exact ⟨hlt,hp,λj I=>by simpa using hno j I bD1⟩
 rw [this]
def idxOf_miss {α:Type} {p:α->Bool} {x:Ab α} {k:Nat} (hlt:¬ k < x.length) (hno:∀ j,(h:j < k)->(h2:j < x.length)->p x[j]=false):idxOf p x=-1:=by
 unfold idxOf;have:x.findIdx? p=none:=by
  rw [List.findIdx?_eq_none_iff];intro y hy;obtain ⟨j,I,rfl⟩:=List.getElem_of_mem hy;simpa using hno j bD1 I
 rw [this]
def kBd {α:Type} {p:α->Bool} {x:Ab α} {k:Nat} (hlt:k < x.length) (hp:p x[k]=false) (hno:∀ j,(h:j < k)->(h2:j < x.length)->p x[j]=false):∀ j,(h:j < k + 1)->(h2:j < x.length)->p x[j]=false:=by
 intro j h h2;by_cases q:j=k
 · subst q;exact hp
 exact hno j bD1 h2
def jH (P:Bd) (g:Av):Prop:=∀ vs W,(callFunc g vs).run P W=.ok (.enter g vs) W
def yR {P:Bd} {g:Av} {fn:Func} (hf:P.funcs[g]?=some fn) (hn:(fn.name == "runtime.NumGoroutine")=false) (hb:fn.body.isNone=false):jH P g:=by
 intro vs W;have hp:(program:Sem Bd).run P W=.ok P W:=rfl;have o:¬ (fn.name = "runtime.NumGoroutine"):=by simpa using hn
 unfold callFunc;simp only [Sem.run_bind,hp,Result.andThen_ok,hf,hn,hb,Aq,if_false,Sem.run_pure]
def kTk {w:Ae} {va:Ag} {x:Ab Int} {g:Av} {cp:Ah Ag} (p:Int->Bool) (hg:jH prog g) (ha:(kD.slice 3 kD.int).raw w [va] x)
    (J:∀ wr,Qb w wr->∀ (i:Nat) (h:i < x.length) c,kD.int.raw wr [c] x[i]->Ai prog g (#[c]++cp) wr (λe w'=>e=.returned (.bool (p x[i]))/\Qb wr w')) :
    Ai prog 116 #[va,.func (.func g) #[] cp] w (bQ w (.int .i64 (idxOf p x))):=by
 obtain ⟨aa,am,rfl,la⟩:=kD.sl ha
 have av:=yD J;clear J
 unfold jH at hg
 go_enter func116,ntmps116
 go_wp2
 go_loopw [8] (λi wr=>∃ k:Nat,k<=x.length/\i=.int .i64 k/\(∀ j,(h:j < k)->(h2:j < x.length)->p x[j]=false)/\Qb w wr) (λi _=>x.length - (intOf i).toNat)
 case atStart=>exact ⟨0,Nat.zero_le _,rfl,λ_ h=>by omega,bR⟩
 obtain ⟨k,hk,rfl,hno,o⟩:=hrel
 have HN:=yD hno;clear hno
 by_cases hlt:k < x.length
 · obtain ⟨ba,H,rfl,c0,hr,A0⟩:=kD.kCa (ha.below o) hlt rfl;have C:=av.out wr o k hlt _ hr;obtain ⟨he,_⟩:=kD.jb hr;exact lD
 exact lF
def kOc {w:Ae} {va:Ag} {x:Ab Be} {g:Av} {cp:Ah Ag} (p:Be->Bool) (hg:jH prog g) (ha:(kD.slice 9 kD.str).raw w [va] x)
    (J:∀ wr,Qb w wr->∀ (i:Nat) (h:i < x.length) c,kD.str.raw wr [c] x[i]->Ai prog g (#[c]++cp) wr (λe w'=>e=.returned (.bool (p x[i]))/\Qb wr w')) :
    Ai prog 216 #[va,.func (.func g) #[] cp] w (bQ w (.int .i64 (idxOf p x))):=by
 obtain ⟨aa,am,rfl,la⟩:=kD.sl ha
 have av:=yD J;clear J
 unfold jH at hg
 go_enter func216,ntmps216
 go_wp2
 go_loopw [8] (λi wr=>∃ k:Nat,k<=x.length/\i=.int .i64 k/\(∀ j,(h:j < k)->(h2:j < x.length)->p x[j]=false)/\Qb w wr) (λi _=>x.length - (intOf i).toNat)
 case atStart=>exact ⟨0,Nat.zero_le _,rfl,λ_ h=>by omega,bR⟩
 obtain ⟨k,hk,rfl,hno,o⟩:=hrel
 have HN:=yD hno;clear hno
 by_cases hlt:k < x.length
 · obtain ⟨ba,H,rfl,c0,hr,A0⟩:=kD.kCa (ha.below o) hlt rfl;have C:=av.out wr o k hlt _ hr;obtain ⟨he,_⟩:=kD.zi hr;exact lD
 exact lF
def kKe {w:Ae} {va:Ag} {x:Ab Be} {g:Av} {cp:Ah Ag} (p:Be->Bool) (hg:jH prog g) (ha:(kD.slice 9 kD.str).raw w [va] x)
    (J:∀ wr,Qb w wr->∀ (i:Nat) (h:i < x.length) c,kD.str.raw wr [c] x[i]->Ai prog g (#[c]++cp) wr (λe w'=>e=.returned (.bool (p x[i]))/\Qb wr w')) :
    Ai prog 181 #[va,.func (.func g) #[] cp] w (bQ w (.bool (decide (0<=idxOf p x)))):=by
 have av:=yD J;clear J
 go_enter func181,ntmps181
 go_wp2_with fail
 refine (kOc p hg ha av.out).mono ?_
 exact iJ
def kIs {w:Ae} {va:Ag} {x:Ab kT} {g:Av} {cp:Ah Ag} (p:kT->Bool) (hg:jH prog g) (ha:(kD.slice 149 kL).raw w [va] x)
    (J:∀ wr,Qb w wr->∀ (i:Nat) (h:i < x.length) cs,kL.raw wr cs x[i]->Ai prog g (#[.agg cs.toArray]++cp) wr (λe w'=>e=.returned (.bool (p x[i]))/\Qb wr w')) :
    Ai prog 188 #[va,.func (.func g) #[] cp] w (bQ w (.int .i64 (idxOf p x))):=by
 obtain ⟨aa,am,rfl,la⟩:=kD.sl ha
 have av:=yD J;clear J
 unfold jH at hg
 go_enter func188,ntmps188
 exact lG
def kHf {w:Ae} {va:Ag} {x:Ab kz} {g:Av} {cp:Ah Ag} (p:kz->Bool) (hg:jH prog g) (ha:(kD.slice 131 kS).raw w [va] x)
    (J:∀ wr,Qb w wr->∀ (i:Nat) (h:i < x.length) cs,kS.raw wr cs x[i]->Ai prog g (#[.agg cs.toArray]++cp) wr (λe w'=>e=.returned (.bool (p x[i]))/\Qb wr w')) :
    Ai prog 176 #[va,.func (.func g) #[] cp] w (bQ w (.int .i64 (idxOf p x))):=by
 obtain ⟨aa,am,rfl,la⟩:=kD.sl ha
 have av:=yD J;clear J
 unfold jH at hg
 go_enter func176,ntmps176
 exact lG
def kFz {w:Ae} {va:Ag} {x:Ab kI} {g:Av} {cp:Ah Ag} (p:kI->Bool) (hg:jH prog g) (ha:(kD.slice 145 kJ).raw w [va] x)
    (J:∀ wr,Qb w wr->∀ (i:Nat) (h:i < x.length) cs,kJ.raw wr cs x[i]->Ai prog g (#[.agg cs.toArray]++cp) wr (λe w'=>e=.returned (.bool (p x[i]))/\Qb wr w')) :
    Ai prog 185 #[va,.func (.func g) #[] cp] w (bQ w (.int .i64 (idxOf p x))):=by
 obtain ⟨aa,am,rfl,la⟩:=kD.sl ha
 have av:=yD J;clear J
 unfold jH at hg
 go_enter func185,ntmps185
 exact lG
def kQy {w:Ae} {va:Ag} {x:Ab jL} {g:Av} {cp:Ah Ag} (p:jL->Bool) (hg:jH prog g) (ha:(kD.slice 38 jF).raw w [va] x)
    (J:∀ wr,Qb w wr->∀ (i:Nat) (h:i < x.length) cs,jF.raw wr cs x[i]->Ai prog g (#[.agg cs.toArray]++cp) wr (λe w'=>e=.returned (.bool (p x[i]))/\Qb wr w')) :
    Ai prog 104 #[va,.func (.func g) #[] cp] w (bQ w (.int .i64 (idxOf p x))):=by
 obtain ⟨aa,am,rfl,la⟩:=kD.sl ha
 have av:=yD J;clear J
 unfold jH at hg
 go_enter func104,ntmps104
 go_wp2
 go_loopw [8] (λi wr=>∃ k:Nat,k<=x.length/\i=.int .i64 k/\(∀ j,(h:j < k)->(h2:j < x.length)->p x[j]=false)/\Qb w wr) (λi _=>x.length - (intOf i).toNat)
 case atStart=>exact ⟨0,Nat.zero_le _,rfl,λ_ h=>by omega,bR⟩
 obtain ⟨k,hk,rfl,hno,o⟩:=hrel
 have HN:=yD hno;clear hno
 by_cases hlt:k < x.length
 · obtain ⟨ba,H,rfl,c0,c1,c2,c3,c4,hr,A0,A1,A2,A3,A4⟩:=kD.get5 (ha.below o) hlt rfl;exact lH
 exact lF
def kJi {w:Ae} {va:Ag} {x:Ab kZ} {g:Av} {cp:Ah Ag} (p:kZ->Bool) (hg:jH prog g) (ha:(kD.slice 122 jC).raw w [va] x)
    (J:∀ wr,Qb w wr->∀ (i:Nat) (h:i < x.length) cs,jC.raw wr cs x[i]->Ai prog g (#[.agg cs.toArray]++cp) wr (λe w'=>e=.returned (.bool (p x[i]))/\Qb wr w')) :
    Ai prog 184 #[va,.func (.func g) #[] cp] w (bQ w (.int .i64 (idxOf p x))):=by
 obtain ⟨aa,am,rfl,la⟩:=kD.sl ha
 have av:=yD J;clear J
 unfold jH at hg
 go_enter func184,ntmps184
 go_wp2
 go_loopw [8] (λi wr=>∃ k:Nat,k<=x.length/\i=.int .i64 k/\(∀ j,(h:j < k)->(h2:j < x.length)->p x[j]=false)/\Qb w wr) (λi _=>x.length - (intOf i).toNat)
 case atStart=>exact ⟨0,Nat.zero_le _,rfl,λ_ h=>by omega,bR⟩
 obtain ⟨k,hk,rfl,hno,o⟩:=hrel
 have HN:=yD hno;clear hno
 by_cases hlt:k < x.length
 · obtain ⟨ba,H,rfl,c0,c1,c2,c3,c4,c5,hr,A0,A1,A2,A3,A4,A5⟩:=kD.kPk (ha.below o) hlt rfl;exact lH
 exact lF
def kGy {w:Ae} {va:Ag} {x:Ab kZ} {g:Av} {cp:Ah Ag} (p:kZ->Bool) (hg:jH prog g) (ha:(kD.slice 122 jC).raw w [va] x)
    (J:∀ wr,Qb w wr->∀ (i:Nat) (h:i < x.length) cs,jC.raw wr cs x[i]->Ai prog g (#[.agg cs.toArray]++cp) wr (λe w'=>e=.returned (.bool (p x[i]))/\Qb wr w')) :
    Ai prog 145 #[va,.func (.func g) #[] cp] w (bQ w (.bool (decide (0<=idxOf p x)))):=by
 have av:=yD J;clear J
 go_enter func145,ntmps145
 go_wp2_with fail
 refine (kJi p hg ha av.out).mono ?_
 exact iJ
end Go.Proofs.YtjhfdpopkkmigaaGreat
namespace Go.Proofs.YtjhfdpopkkmigaaGreat
open Go _root_.Go.Proofs.Tryz
section
variable {P:Bd} {ops:Ah Am} {S:Ae->Prop} {Q:Exit->Act->Ae->Prop}
def kDd (md:Region.Mode) (ops:Ah Am) (n g:Nat):Ab (Nat × Bool)->Ah Bool->Bool
  | [],listed=>Region.seqB md ops g n listed
  | (k,true) :: p,listed=>(Ad md ops listed).contains k && Region.free md ops listed k && kDd md ops n g p (listed.setIfInBounds k true)
  | (k,false) :: p,listed=>(Ad md ops listed==[k]) && kDd md ops n g p (listed.setIfInBounds k true)
def softTPOk (md:Region.Mode) (ops:Ah Am) (q:Ab (Nat × Bool)):Bool :=
  Az ops && (decide (q.length < ops.size) && (q.all (λx=>decide (x.1 < q.length)) && (Region.sinkB md ops q.length && (Region.chainB md ops q.length && kDd md ops q.length (ops.size - q.length) q (Ba ops.size false)))))
def kHh {l:Ab Am} {n g:Nat} (D:Az l.toArray=true) (hQ:∀ c a d v w,Q (.panic c) (Act.put a d v) w->Q (.panic c) a w)
    (hs:Region.sinkB .any l.toArray n=true) (hc:Region.chainB .any l.toArray n=true) (hn:n < l.toArray.size) (hg:n + g=l.length):∀ (q:Ab (Nat × Bool)) (k:Nat) (listed:Ah Bool) (a:Act) (w:Ae),
    q.all (λx=>decide (x.1 < n))=true->HeadInv .any l.toArray n listed->kDd .any l.toArray n g q listed=true->S w->kCi P l.toArray S Q k (jB l q++l.drop n) (q.map (·.2)) a w ->
    kBb P .any l.toArray Q S n (λlisted a w=>Region.seqB .any l.toArray g n listed=true/\∃ r,(∀ j,r[j]?=l.toArray[n + j]?)/\r.length=g/\wpList P l.toArray Q r a w) q.length listed a w
  | [],k,listed,a,w,_,inv,hB,hS,h=>by
    exact oC
  | (i,true) :: q,k,listed,a,w,hi,inv,hB,hS,h=>by
    simp only [List.all_cons,Aa,Ak] at hi;have hil:i < l.toArray.size:=Nat.lt_trans hi.1 hn;have h0:l.toArray[i]?=some l.toArray[i]:=Ar hil;have hp:jB l ((i,true) :: q)=l.toArray[i] :: jB l q:=by
      exact o9
    rw [hp] at h;obtain ⟨v,hy,h⟩:=h;simp only [kDd,Aa] at hB;have hr:i∈Ad .any l.toArray listed:=vY;exact kMh h0 (Region.noSelect_spec D) (λc a w=>hQ c a _ _ w) hs hc hn hi.1 (λF a' w' J=>seqB_ready J.1) q.length listed a w inv (Region.free_spec h0 hB.1.2) hr hy hS
      (kHh D hQ hs hc hn hg q (k + 1) _ _ _ hi.2 (inv.set hr hi.1) hB.2 hS h)
  | (i,false) :: q,k,listed,a,w,hi,inv,hB,hS,h=>by
    simp only [List.all_cons,Aa,Ak] at hi;have hil:i < l.toArray.size:=Nat.lt_trans hi.1 hn;have h0:l.toArray[i]?=some l.toArray[i]:=Ar hil;have hp:jB l ((i,false) :: q)=l.toArray[i] :: jB l q:=by
      exact o9
    rw [hp] at h;simp only [kDd,Aa,Aw] at hB;have hr:i∈Ad .any l.toArray listed:=bB1;refine ⟨by rw [hB.1];simp,λj I=>?_⟩;rw [hB.1] at I;obtain rfl:j=i:=bB6;refine ⟨hi.1,?_⟩;refine wpOp_mono (λa' w' E=>⟨E.1,kHh D hQ hs hc hn hg q (k + 1) _ _ _ hi.2 (inv.set hr hi.1) hB.2 E.1 E.2⟩) (K:=λa' w'=>S w'/\kCi P l.toArray S Q (k + 1) (jB l q++l.drop n) (q.map (·.2)) a' w') ?_;exact oD
def jS {id:Nat} {a:Act} {w:Ae} {l:Ab Am} (S:Ae->Prop) (q:Ab (Nat × Bool)) (hm:P.follows .mixedOrders=true) (hB:softTPOk .any l.toArray q=true)
    (hQ:∀ c a d v w,Q (.panic c) (Act.put a d v) w->Q (.panic c) a w) (hS:S { w with drawn:=w.drawn + 1 })
    (h:∀ w',S w'->soft P l.toArray S Q 0 (jB l q++l.drop q.length) (q.map (·.2)) a w'):(Code.region id l.toArray true).wp P Q a w:=by
 simp only [softTPOk,Aa,Ak] at hB
 have h:=h _ hS
 unfold soft at h
 have az:l.toArray.size=l.length:=bD2
 have D:HeadInv .any l.toArray q.length (Ba l.toArray.size false) :=
   ⟨by simp,λj N _ hl=>pI,λt _ ht=>getD_in bA9 (getD_replicate_false _ _)⟩
 have H:=kHh (g:=l.toArray.size - q.length) hB.1 hQ hB.2.2.2.1 hB.2.2.2.2.1 hB.2.1 (by have:=hB.2.1;omega) q 0 _ a _ hB.2.2.1 D hB.2.2.2.2.2 hS h
 refine wp_region_any hm ?_
 have:=kBf (Q:=Q) (g:=l.toArray.size - q.length) (λlisted a' w' J=>by
   obtain ⟨hq,o,ho,O,hw⟩:=J;have:=wpAny_of_seq (md:=.any) (Q':=Q) o q.length listed a' w' ho (by rw [O];exact hq) hw;rwa [O] at this) _ _ _ _ H
 rw [show q.length + (l.toArray.size - q.length)=l.toArray.size by have:=hB.2.1;omega] at this
 exact this
end
end Go.Proofs.YtjhfdpopkkmigaaGreat
namespace Go.Proofs.YtjhfdpopkkmigaaGreat
open Go.RowKit _root_.Go.Proofs.Tryz
namespace kD
section
variable {α:Type} {r:kD α} {e:TypeId} {w:Ae} {a:Option Addr} {len cap:Nat} {xs:Ab α} {o:Bool} {S:Nat->Prop}
def jAc {cells:Ab Ag} {ys:Ab α} (h:row r o w cells ys S) {k:Nat} (hk:k<=ys.length):∃ c d,cells=c++d/\c.length=k * r.n/\row r o w c (ys.take k) S/\row r o w d (ys.drop k) S:=by
 by_cases h1:k < ys.length
 · obtain ⟨p,c,q,A,B,C,rfl,hp,ra,G,rc,hA,hB,hC,D⟩:=kVe h h1;refine ⟨p,c++q,rfl,hp,yK ra hA,?_⟩;rw [List.drop_eq_getElem_cons h1];exact ⟨c,q,B,C,rfl,G,rc,hB,hC,λho k=>(D ho k).2.2⟩
 obtain rfl:k=ys.length:=bD1;have:=zQ h;exact ⟨cells,[],by simp,this,by simpa using h,by simp [row]⟩
def kBv (h:(slice e r).raw w [.slice a len cap] xs) {k:Nat} (hk:k<=xs.length):(slice e r).raw w [.slice a k cap] (xs.take k):=by
 obtain ⟨a',E,cap',h0,h1,h2,h3,h4⟩:=h;simp only [Aj,Al,and_true] at h0;obtain ⟨rfl,rfl,rfl⟩:=h0;refine ⟨a,k,cap,rfl,by simp;omega,by omega,h3,?_⟩;rcases h4 with ⟨rfl,_⟩|⟨b,off,ha,cur,e',fr,p,c,q,hb,hc,hp,hl,hf,hS,hx⟩
 · exact .inl ⟨by simp,by simp⟩
 obtain ⟨c1,c2,rfl,J,W,r2⟩:=jAc hx hk;exact .inr ⟨b,off,ha,cur,e',fr,p,c1,c2++q,hb,by rw [hc];simp,hp,hl,by simp,hS,W⟩
def kOh (h:(slice e r).rd w [.slice a len cap] xs) {k:Nat} (hk:k<=xs.length):(slice e r).rd w [.slice a k cap] (xs.take k) :=
  ⟨kBv h.1 hk,by have:=h.2.1;simp;omega,λx hx=>h.2.2 x (List.mem_of_mem_take hx)⟩
def drop_raw {b off:Nat} (h:(slice e r).raw w [.slice (some ⟨b,off,none⟩) len cap] xs) {k:Nat} (hk:k<=xs.length):(slice e r).raw w [.slice (some ⟨b,off + k * r.n,none⟩) (len - k) (cap - k)] (xs.drop k):=by
 obtain ⟨a',E,cap',h0,h1,h2,h3,h4⟩:=h;simp only [Aj,Al,and_true] at h0;obtain ⟨rfl,rfl,rfl⟩:=h0;refine ⟨_,_,_,rfl,by simp;omega,by omega,by omega,?_⟩;rcases h4 with ⟨rfl,_⟩|⟨b',off',ha,cur,e',fr,p,c,q,hb,hc,hp,hl,hf,hS,hx⟩
 · exact .inl ⟨by simp,by simp⟩
 simp only [Au,Addr.mk.injEq,and_true] at ha;obtain ⟨rfl,rfl⟩:=ha;obtain ⟨c1,c2,rfl,J,W,r2⟩:=jAc hx hk;refine .inr ⟨b,off + k * r.n,rfl,cur,e',fr,p++c1,c2,q,hb,by rw [hc];simp,by simp [hp,J],?_,by simp,hS,r2⟩;have:k * r.n<=cap * r.n:=Nat.mul_le_mul_right _ bD1;rw [Nat.sub_mul];omega
def void_raw {c:Nat} (hc:c<=maxLen):(slice e r).raw w [.slice a 0 c] []:=⟨_,_,_,rfl,rfl,Nat.zero_le _,hc,.inl ⟨rfl,by simp⟩⟩
def jr:(slice e r).own w [.slice a 0 0] [] S:=⟨⟨_,_,_,rfl,rfl,Nat.le_refl _,Nat.zero_le _,.inl ⟨rfl,λ_=>rfl⟩⟩,by simp [slice]⟩
def jAd (h:(slice e r).raw w [.slice a len cap] xs):∃ cells,Src w (.slice a len cap) xs.length cells/\row r false w cells xs (λ_=>True):=by
 obtain ⟨a',E,cap',h0,h1,h2,h3,h4⟩:=h;simp only [Aj,Al,and_true] at h0;obtain ⟨rfl,rfl,rfl⟩:=h0;rcases h4 with ⟨rfl,_⟩|⟨b,off,ha,cur,e',fr,p,c,q,hb,hc,hp,hl,hf,hS,hx⟩
 · subst h1;exact ⟨[],.inl ⟨rfl,_,_,rfl⟩,rfl⟩
 subst ha h1;refine ⟨c,.inr ⟨_,_,rfl,?_⟩,yK hx (λ_ _=>trivial)⟩;intro j u I;have F:(⟨b,off,none⟩:Addr).add j=⟨b,off + j,none⟩:=qG;have a4:=(Ac.1 I).1;rw [F];simp only [World.cell?,hb,Option.isSome_none,Aq,if_false];rw [<- Array.getElem?_toList,hc,List.getElem?_append_right bD1,List.getElem?_append_left bD1];rw [<- I];congr 1;omega
end
end kD
namespace kD
variable {α:Type} {r:kD α} {e:TypeId} {w:Ae} {a:Option Addr} {len cap:Nat} {xs:Ab α}
def kBe (h:(slice e r).raw w [.slice a len cap] xs):xs.length<=cap/\cap<=9223372036854775807:=by
 obtain ⟨a',E,cap',h0,h1,h2,h3,h4⟩:=h;simp only [Aj,Al,and_true] at h0;obtain ⟨rfl,rfl,rfl⟩:=h0;unfold maxLen at h3;exact ⟨by omega,by omega⟩
end kD
namespace kD
section
variable {α:Type} {r:kD α} {e:TypeId} {w w':Ae} {v:Ag} {xs ys:Ab α} {S T:Nat->Prop}
def kDt {P:Bd} {ops:Ah Am} {rest:Ab Am} {o:Am} {a:Act} {Q:Exit->Act->Ae->Prop} (E:o.guard=none) (s x:Operand) (t:TypeId)
    (ho:o.op=.call { callee:=.builtin .append,args:=#[s,x],argTypes:=#[t,t] })
    {z:Ag} {bytes:Nat} (ht:P.underlying t=some (.slice e)) (hinf:(P.info? e).map (λi=>(i.zero,i.size,i.bytes))=some (some z,r.n,bytes)) (hzs:z.cells.size=r.n) (hn:0 < r.n) (hby:bytes<=1000)
    (hown:kU e r w v xs S) (hs:a.eval s=v) {b:Nat} (hx:a.eval x=.slice (some ⟨b,0,none⟩) 1 1) (hb:b=w.heap.size) {cs:Ab Ag} {y:α} (hy:r.own w cs y T)
    {u:Ae} (hu:u=w.alloc (.cells cs.toArray e)) (hST:∀ k,S k->T k->False) (hlen:xs.length + 1<=1000000000)
    (h:∀ v' w',kU e r w' v' (xs++[y]) (λk=>S k\/T k\/(w.heap.size + 1<=k/\k < w'.heap.size))->Touch (λk=>some k=v.ownBlock/\S k) u w'->wpList P ops Q rest (a.put o.dst v') w'):wpList P ops Q (o :: rest) a u:=by
 subst hu hb
 obtain ⟨i,hi,hz,hsize,D⟩:=info_parts hinf
 have hl:=r.len hy.1
 have G:kU e r (w.alloc (.cells cs.toArray e)) v xs (λk=>S k/\k < w.heap.size):=(kU.alloc hown.live _)
 have H:=hy.live.alloc (.cells cs.toArray e)
 refine wpList_push E s x t ho (r:=r) (e:=e) ht hi hz hsize hzs hn bD1 G hs hx (m:=1) (cells:=cs) (ys:=[y]) (T:=λk=>T k/\k < w.heap.size) (.inr ⟨_,1,rfl,?_⟩)
   ⟨cs,[],_,λ_=>False,by simp,H.1,rfl,λ_ h=>h,λ_ h=>h.elim,λ_ _ _ h=>h.elim⟩ rfl (λk h1 h2=>hST k h1.1 h2.1) (by simpa using hy.2) wP ?_
 · intro j c I;have F:(⟨w.heap.size,0,none⟩:Addr).add j=⟨w.heap.size,j,none⟩:=qG;rw [F];exact kE (heap_alloc_new w _) bB6
 intro v' w' h1 h2
 refine h v' w' (h1.wide ?_) ⟨h2.os,h2.tape,h2.output,h2.size,λk hk q=>h2.block k hk (λa=>q ⟨a.1,a.2.1⟩)⟩
 intro k hk
 rcases hk with hk | hk | hk
 · exact .inl hk.1
 · exact .inr (.inl hk.1)
 exact .inr (.inr ⟨by simpa using hk.1,hk.2⟩)
def jO {P:Bd} {ops:Ah Am} {rest:Ab Am} {o:Am} {a:Act} {Q:Exit->Act->Ae->Prop} (E:o.guard=none) (s x:Operand) (t:TypeId)
    (ho:o.op=.call { callee:=.builtin .append,args:=#[s,x],argTypes:=#[t,t] })
    {z:Ag} {bytes:Nat} (ht:P.underlying t=some (.slice e)) (hinf:(P.info? e).map (λi=>(i.zero,i.size,i.bytes))=some (some z,r.n,bytes)) (hzs:z.cells.size=r.n) (hn:0 < r.n) (hby:bytes<=1000)
    {B:Nat} (hown:kU e r w v xs S) (hs:a.eval s=v) {b:Nat} (hx:a.eval x=.slice (some ⟨b,0,none⟩) 1 1) (hb:b=w.heap.size) {cs:Ab Ag} {y:α} (hy:r.own w cs y T)
    {u:Ae} (hu:u=w.alloc (.cells cs.toArray e)) (hST:∀ k,S k->T k->False) (hSB:∀ k,S k->B<=k/\k < w.heap.size) (hTB:∀ k,T k->B<=k/\k < w.heap.size) (hB:B<=w.heap.size) (hlen:xs.length + 1<=1000000000)
    (h:∀ v' w',kU e r w' v' (xs++[y]) (jU B w'.heap.size)->Below B w w'->w.heap.size < w'.heap.size->wpList P ops Q rest (a.put o.dst v') w'):wpList P ops Q (o :: rest) a u:=by
 refine kDt E s x t ho ht hinf hzs hn hby hown hs hx hb hy hu hST hlen ?_
 intro v' w' h1 h2
 subst hu
 have az:=h2.size
 simp at az
 refine h v' w' (h1.wide ?_) ?_ bD1
 · intro k hk;rcases hk with hk | hk | hk
   · have:=hSB k hk;exact ⟨this.1,by omega⟩
   · have:=hTB k hk;exact ⟨this.1,by omega⟩
   exact ⟨by omega,hk.2⟩
 refine ((Below.refl B w).alloc hB _).trans (h2.below ?_ ?_)
 · simp;omega
 intro k hk;have:=hSB k hk.2;omega
end
end kD
end Go.Proofs.YtjhfdpopkkmigaaGreat
namespace Go.Proofs.YtjhfdpopkkmigaaGreat
open _root_.Go.Proofs.Tryz
def kAi:(prog.info? 3).map (λi=>(i.zero,i.size,i.bytes))=some (some (.int .i64 0),1,8):=by kernel_rfl
def kCe:(prog.info? 9).map (λi=>(i.zero,i.size,i.bytes))=some (some (.string ByteArray.empty),1,16):=by kernel_rfl
def kEh:(prog.info? 5).map (λi=>(i.zero,i.size,i.bytes))=some (some (.int .u8 0),1,1):=by kernel_rfl
def kAo:(prog.info? 149).map (λi=>(i.zero,i.size,i.bytes))=some (some (.agg #[.slice none 0 0,Qn 0,Qn 0]),3,40):=by kernel_rfl
def kCr:(prog.info? 131).map (λi=>(i.zero,i.size,i.bytes))=some (some (.agg #[.slice none 0 0,Qn 0,Qn 0]),3,40):=by kernel_rfl
def kBt:(prog.info? 147).map (λi=>(i.zero,i.size,i.bytes))=some (some (.agg #[Qn 0,Qn 0,Qn 0]),3,24):=by kernel_rfl
def zN:(prog.info? 145).map (λi=>(i.zero,i.size,i.bytes))=some (some (.agg #[.slice none 0 0,.slice none 0 0,Qn 0]),3,56):=by kernel_rfl
def kFv:(prog.info? 102).map (λi=>(i.zero,i.size,i.bytes))=some (some (.agg #[.slice none 0 0,Qn 0]),2,32):=by kernel_rfl
def kLr:(prog.info? 38).map (λi=>(i.zero,i.size,i.bytes))=some (some (.agg #[.slice none 0 0,.slice none 0 0,.slice none 0 0,Qn 0,Qn 0]),5,88):=by kernel_rfl
def kAl:(prog.info? 122).map (λi=>(i.zero,i.size,i.bytes))=some (some (.agg #[.slice none 0 0,.slice none 0 0,.slice none 0 0,Qn 0,Qn 0,Qn 0]),6,96):=by kernel_rfl
def infRule:(prog.info? 202).map (λi=>(i.zero,i.size,i.bytes))=some (some (.agg #[.slice none 0 0,.slice none 0 0]),2,48):=by kernel_rfl
end Go.Proofs.YtjhfdpopkkmigaaGreat
namespace Go.Proofs.YtjhfdpopkkmigaaGreat
open Go.RowKit _root_.Go.Proofs.Tryz
def inR (n a b:Int):Bool:=decide (a<=n) && decide (n<=b)
def kDa (a b:Int):Int:=if a < b then -1 else if b < a then 1 else 0
def orI:Ab Int->Int
  | []=>0
  | a :: l=>if a=0 then orI l else a
def jAh {x:Ab Int} {k:Nat} (h:k < x.length) (hx:x[k]≠0) (hno:∀ j,(h:j < k)->(h2:j < x.length)->x[j]=0):orI x=x[k]:=by
 induction x generalizing k with
 | nil=>simp at h
 | cons a l ih =>
   cases k with
   | zero=>simp at hx;simp [orI,hx]
   | succ k =>
     have h0:=hno 0 bD1 bD2;simp at h0;simp only [orI,h0,if_true,List.getElem_cons_succ];exact ih bB5 (by simpa using hx) (λj I h2=>hno (j + 1) bD1 (by simp only [Bf];omega))
def orI_miss {x:Ab Int} (hno:∀ j,(h2:j < x.length)->x[j]=0):orI x=0:=by
 induction x with
 | nil=>rfl
 | cons a l ih =>
   have h0:=hno 0 bD2;simp at h0;simp only [orI,h0,if_true];exact ih (λj h2=>hno (j + 1) (by simp only [Bf];omega))
def jw {w:Ae} {n a b:Int}:Ai prog 132 #[.int .i64 n,.int .i64 a,.int .i64 b] w λe w'=>e=.returned (.bool (inR n a b))/\w'=w:=by
 go_enter func132,ntmps132;by_cases h:n ≥ a
 · have hd:decide (n ≥ a)=true:=bB5;go_wp2;go_ret;exact ⟨kK (by simp [inR,h]),rfl⟩
 have hd:decide (n ≥ a)=false:=bB5;go_wp2;go_ret;exact ⟨kK (by simp [inR];omega),rfl⟩
def yF {w:Ae} {n a b:Int}:Ai prog 127 #[.int .i64 n,.int .i64 a,.int .i64 b] w λe w'=>e=.returned (.bool (inR n a b))/\w'=w:=by
 go_enter func127,ntmps127;by_cases h:a<=n
 · have hd:decide (a<=n)=true:=bB5;go_wp2;go_ret;exact ⟨kK (by simp [inR,h]),rfl⟩
 have hd:decide (a<=n)=false:=bB5;go_wp2;go_ret;exact ⟨kK (by simp [inR];omega),rfl⟩
def isNaN_c {w:Ae} {n:Int}:Ai prog 178 #[.int .i64 n] w λe w'=>e=.returned (.bool false)/\w'=w:=by
 go_enter func178,ntmps178;go_wp2;go_ret;exact ⟨kK bD2,rfl⟩
def kPm {w:Ae} {a b:Int}:Ai prog 122 #[.int .i64 a,.int .i64 b] w λe w'=>e=.returned (.int .i64 (kDa a b))/\w'=w:=by
 go_enter func122,ntmps122;go_wp2_with fail;refine isNaN_c.mono ?_;rintro e u ⟨rfl,rfl⟩;go_wp2_with fail;refine isNaN_c.mono ?_;rintro e u ⟨rfl,rfl⟩;by_cases h:a < b
 · go_wp2;go_ret;exact ⟨jX (by simp [kDa,h]),rfl⟩
 by_cases h2:a > b
 · go_wp2;go_ret;exact ⟨jX (by unfold kDa;rw [if_neg bD1,if_pos bD1]),rfl⟩
 go_wp2;go_ret;exact ⟨jX (by unfold kDa;rw [if_neg bD1,if_neg bD1]),rfl⟩
def cmpOr_c {w:Ae} {va:Ag} {x:Ab Int} (ha:(kD.slice 3 kD.int).raw w [va] x):Ai prog 121 #[va] w λe w'=>e=.returned (.int .i64 (orI x))/\w'=w:=by
 obtain ⟨aa,am,rfl,la⟩:=kD.sl ha;go_enter func121,ntmps121;go_wp2;go_loop [8] (λi=>∃ k:Nat,k<=x.length/\i=.int .i64 k/\(∀ j,(h:j < k)->(h2:j < x.length)->x[j]=0)) (λi=>x.length - (intOf i).toNat);case atStart=>exact ⟨0,Nat.zero_le _,rfl,λ_ h=>by omega⟩
 obtain ⟨k,hk,rfl,hno⟩:=hrel;have HN:=yD hno;clear hno;by_cases hlt:k < x.length
 · obtain ⟨ba,H,rfl,c0,hr,A0⟩:=kD.kCa ha hlt rfl;have he:=kD.jb hr;simp only [Aj,and_true] at he;obtain ⟨rfl,a6⟩:=he;clear hr a6;generalize hy:x[k]=y at *;have HY:=yD hy;clear hy;have o:y≠0->Hid (orI x=y):=λq=>yD ((jAh hlt (by rw [HY.out];exact q) HN.out).trans HY.out);have D:y=0->Hid (∀ j,(h:j < k + 1)->(h2:j < x.length)->x[j]=0):=λq=>yD (λj h h2=>by by_cases e:j=k;(subst e;rw [HY.out];exact q);exact HN.out j bD1 h2);have HI:=yD o;have HM:=yD D;clear o D;by_cases h1:y=0
   · have U:=HM.out h1;clear HI HM;go_wp2;go_round;(case rel=>exact ⟨k + 1,by omega,by go_num,U.out⟩);(case measure=>simp [intOf];omega)
   have U:=HI.out h1;clear HI HM;exact lQ
 have U:=yD (orI_miss (λj h2=>HN.out j bD1 h2));exact lQ
end Go.Proofs.YtjhfdpopkkmigaaGreat

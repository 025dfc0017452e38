/-
  Small functions on numbers: ranges, comparisons; the library's cmp.Compare and cmp.Or.
-/
import Derived.Test.YthocbplmdjkifaaGreatSoft
set_option linter.unusedVariables false
set_option linter.defProp false
set_option linter.unusedSimpArgs false
set_option linter.unnecessarySimpa false
set_option maxHeartbeats 4000000
open Bool renaming and_eq_true->Aa,false_eq_true->Ar,or_eq_true->Az
open _root_ renaming List->Ab,Array->Ah,decide_eq_true_eq->Ak,beq_iff_eq->Ay,ByteArray->Bf
open Go renaming Value->Ac,Calls->Ad,World->Ag,FuncId->Al,Oper->Ap,Program->Be
open List renaming getElem?_eq_some_iff->Ae,getElem?_toArray->Bc,size_toArray->Bd,length_cons->Bg
open Go.Region renaming ready->Ai,binds->Aq,noSelect->Ba
open List.cons renaming injEq->Aj
open Go.Value.slice renaming injEq->Am
open Array renaming getElem?_eq_getElem->Au,getD->Aw,replicate->Bb
open Option.some renaming injEq->Av
namespace Go.Proofs.YthocbplmdjkifaaGreat
open Go.RowKit _root_.Go.Proofs.Tryz
def kYp (o:Ap):Nat:=o.after.toList.foldr (λe m=>if Aq .any e then m ||| 2 ^ e.on else m) 0
def kUi (o:Ap) (j:Nat):(kYp o).testBit j=true↔∃ e∈o.after,Aq .any e=true/\e.on=j:=by
 have key:∀ l:Ab Edge,(l.foldr (λe m=>if Aq .any e then m ||| 2 ^ e.on else m) 0).testBit j=true↔∃ e∈l,Aq .any e=true/\e.on=j:=by
  intro l;induction l with
  | nil=>simp
  | cons a l ih =>
    rw [List.foldr_cons];cases h:Aq .any a
    · simp only [Ar,if_false,ih,List.mem_cons,exists_eq_or_imp,h,false_and,false_or]
    · simp only [if_true,Nat.testBit_or,Az,ih,Nat.testBit_two_pow,Ak,List.mem_cons,exists_eq_or_imp,h,true_and];exact ⟨λq=>q.symm,λq=>q.symm⟩
 unfold kYp;rw [key];simp only [Array.mem_toList_iff]
def rdyF (L j:Nat) (o:Ap):Bool:=!L.testBit j && (kYp o &&& L==kYp o)
def jBr (f:Nat->Ap->Bool):Ab Ap->Nat->Bool
  | [],_=>true
  | o :: l,i=>f i o && jBr f l (i + 1)
def kPr {f:Nat->Ap->Bool}:∀ {l:Ab Ap} {i:Nat},jBr f l i=true->∀ (j:Nat) (o:Ap),l[j]?=some o->f (i + j) o=true
  | [],_,_,j,o,h=>by simp at h
  | a :: l,i,h,0,o,ho=>by
    simp only [jBr,Aa] at h;simp only [List.getElem?_cons_zero,Av] at ho;subst ho;exact h.1
  | a :: l,i,h,j + 1,o,ho=>by
    simp only [jBr,Aa] at h;simp only [List.getElem?_cons_succ] at ho;have:=kPr h.2 j o ho;rw [Nat.add_assoc,Nat.add_comm 1 j] at this;exact this
def kZr (l:Ab Ap):Ab (Nat × Bool)->Nat->Bool
  | [],L=>jBr (λj o=>!rdyF L j o) l 0
  | (k,true) :: p,L=>(match l[k]? with | some o=>rdyF L k o && jBr (λj oj=>L.testBit j || (j==k || ((kYp oj).testBit k || o.apart l.toArray oj))) l 0 | none=>false) && kZr l p (L ||| 2 ^ k)
  | (k,false) :: p,L=>(match l[k]? with | some o=>rdyF L k o && jBr (λj oj=>L.testBit j || (j==k || !rdyF L j oj)) l 0 | none=>false) && kZr l p (L ||| 2 ^ k)
def softPF (l:Ab Ap) (q:Ab (Nat × Bool)):Bool:=Ba l.toArray && (decide (q.length<=l.length) && (q.all (λx=>decide (x.1 < l.length)) && kZr l q 0))
structure Bits (listed:Ah Bool) (L n:Nat):Prop where
  size:listed.size=n
  bit:∀ i,i < n->listed.getD i false=L.testBit i
  big:∀ i,n<=i->L.testBit i=false
def Bits.tr {listed:Ah Bool} {L n:Nat} (h:Bits listed L n) {i:Nat} (hi:i < n):listed.getD i true=L.testBit i:=by
 rw [<- h.bit i hi];have:=h.size;simp [Aw,show i < listed.size by omega]
def Bits.fa {listed:Ah Bool} {L n:Nat} (h:Bits listed L n) (i:Nat):listed.getD i false=L.testBit i:=by
 by_cases hi:i < n
 · exact h.bit i hi
 rw [h.big i bF2];have:=h.size;simp [Aw,show ¬ i < listed.size by omega]
def Bits.set {listed:Ah Bool} {L n k:Nat} (h:Bits listed L n) (hk:k < n):Bits (listed.setIfInBounds k true) (L ||| 2 ^ k) n:=by
 refine ⟨by simp [h.size],λi hi=>?_,λi hi=>?_⟩
 · rw [Nat.testBit_or,Nat.testBit_two_pow,<- h.bit i hi];by_cases e:k=i
   · subst e;simp [Aw,h.size,hk]
   simp [Aw,h.size,hi,Array.getElem_setIfInBounds,e]
 rw [Nat.testBit_or,Nat.testBit_two_pow,h.big i hi];simp;omega
def Bits.zero (n:Nat):Bits (Bb n false) 0 n:=⟨by simp,λi hi=>by simp [Aw,hi],λi _=>by simp⟩
def kYf {l:Ab Ap} {listed:Ah Bool} {L j:Nat} {o:Ap} (h:Bits listed L l.length) (ho:l[j]?=some o):j∈Ai .any l.toArray listed↔rdyF L j o=true:=by
 have I:j < l.length:=(Ae.1 ho).1;rw [mem_ready,h.tr I];unfold rdyF;simp only [Bc,ho,Av,exists_eq_left',Aa,Bool.not_eq_true',Ay];refine and_congr_right (λ_=>⟨λq=>Nat.eq_of_testBit_eq λi=>?_,λq e he hb=>?_⟩)
 · rw [Nat.testBit_and];cases hw:(kYp o).testBit i
   · rfl
   obtain ⟨e,he,hb,rfl⟩:=(kUi o i).1 hw;have:=q e he hb;rw [h.fa] at this;rw [this];rfl
 rw [h.fa];have hw:(kYp o).testBit e.on=true:=(kUi o e.on).2 ⟨e,he,hb,rfl⟩;rw [<- q,Nat.testBit_and,Aa] at hw;exact hw.2
def ready_lt {l:Ab Ap} {listed:Ah Bool} {j:Nat} (h:j∈Ai .any l.toArray listed):∃ o,l[j]?=some o:=by
 obtain ⟨_,o,ho,_⟩:=mem_ready.1 h;exact ⟨o,by simpa using ho⟩
def only_one {k:Nat}:∀ {l:Ab Nat},l.Nodup->k∈l->(∀ x∈l,x=k)->l=[k]
  | [],_,h,_=>by simp at h
  | [a],_,_,h=>by rw [h a bF3]
  | a :: b :: l,hn,_,h=>by
    have h1:=h a bF3;have h2:=h b bF3;subst h1;subst h2;simp at hn
def ready_nodup {l:Ab Ap} {listed:Ah Bool}:(Ai .any l.toArray listed).Nodup:=by
 unfold Ai;exact List.nodup_range.sublist List.filter_sublist
def kZq {l:Ab Ap}:∀ {q:Ab (Nat × Bool)} {listed:Ah Bool} {L:Nat},Bits listed L l.length->kZr l q L=true->kFf .any l.toArray q listed=true
  | [],listed,L,hB,h=>by
    simp only [kZr] at h;simp only [kFf,List.isEmpty_iff];refine List.eq_nil_iff_forall_not_mem.2 λj I=>?_;obtain ⟨o,ho⟩:=ready_lt I;have h1:=kPr h j o ho;rw [Nat.zero_add,(kYf hB ho).1 I] at h1;cases h1
  | (k,true) :: q,listed,L,hB,h=>by
    simp only [kZr,Aa] at h;obtain ⟨h,h2⟩:=h;cases ho:l[k]? with
    | none=>rw [ho] at h;cases h
    | some o =>
      rw [ho] at h;simp only [Aa] at h;have hk:k < l.length:=(Ae.1 ho).1;simp only [kFf,Aa,List.contains_iff_mem];refine ⟨⟨(kYf hB ho).2 h.1,?_⟩,kZq (hB.set hk) h2⟩;unfold Region.free;simp only [Bc,ho,List.all_eq_true,List.mem_range,Bd];intro j I;have N:l[j]?=some l[j]:=List.getElem?_eq_getElem I;have h3:=kPr h.2 j l[j] N;rw [Nat.zero_add] at h3;rw [hB.tr I,N];simp only [Az,Ay] at h3 ⊢;rcases h3 with h3 | h3 | h3 | h3
      · exact .inl (.inr h3)
      · exact .inl (.inl h3)
      · refine .inr (.inl ?_);obtain ⟨e,he,hb,hq⟩:=(kUi _ _).1 h3;exact Array.any_eq_true'.2 ⟨e,he,by simp [hb,hq]⟩
      · exact .inr (.inr h3)
  | (k,false) :: q,listed,L,hB,h=>by
    simp only [kZr,Aa] at h;obtain ⟨h,h2⟩:=h;cases ho:l[k]? with
    | none=>rw [ho] at h;cases h
    | some o =>
      rw [ho] at h;simp only [Aa] at h;have hk:k < l.length:=(Ae.1 ho).1;simp only [kFf,Aa,Ay];refine ⟨only_one ready_nodup ((kYf hB ho).2 h.1) λj I=>?_,kZq (hB.set hk) h2⟩;obtain ⟨oj,N⟩:=ready_lt I;have hr:=(kYf hB N).1 I;have h3:=kPr h.2 j oj N;rw [Nat.zero_add,hr] at h3;simp only [Bool.not_true,Bool.or_false,Az,Ay] at h3;rcases h3 with h3 | h3
      · unfold rdyF at hr;rw [h3] at hr;cases hr
      · exact h3
def softP_ok {l:Ab Ap} {q:Ab (Nat × Bool)} (h:softPF l q=true):kYd .any l.toArray q=true:=by
 simp only [softPF,Aa] at h;simp only [kYd,Aa,Bd];exact ⟨h.1,h.2.1,h.2.2.1,kZq (Bits.zero _) h.2.2.2⟩
def idxOf {α:Type} (p:α->Bool) (l:Ab α):Int:=match l.findIdx? p with | some i=>i | none=>-1
def idxOf_hit {α:Type} {p:α->Bool} {x:Ab α} {k:Nat} (hlt:k < x.length) (hp:p x[k]=true) (hno:∀ j,(h:j < k)->(h2:j < x.length)->p x[j]=false):idxOf p x=k:=by
 unfold idxOf;have:x.findIdx? p=some k:=by
  rw [List.findIdx?_eq_some_iff_getElem];exact ⟨hlt,hp,λj I=>by simpa using hno j I bF2⟩
 rw [this]
def idxOf_miss {α:Type} {p:α->Bool} {x:Ab α} {k:Nat} (hlt:¬ k < x.length) (hno:∀ j,(h:j < k)->(h2:j < x.length)->p x[j]=false):idxOf p x=-1:=by
 unfold idxOf;have:x.findIdx? p=none:=by
  rw [List.findIdx?_eq_none_iff];intro y hy;obtain ⟨j,I,rfl⟩:=List.getElem_of_mem hy;simpa using hno j bF2 I
 rw [this]
def kAv {α:Type} {p:α->Bool} {x:Ab α} {k:Nat} (hlt:k < x.length) (hp:p x[k]=false) (hno:∀ j,(h:j < k)->(h2:j < x.length)->p x[j]=false):∀ j,(h:j < k + 1)->(h2:j < x.length)->p x[j]=false:=by
 intro j h h2;by_cases q:j=k
 · subst q;exact hp
 exact hno j bF2 h2
def jL (P:Be) (g:Al):Prop:=∀ vs W,(callFunc g vs).run P W=.ok (.enter g vs) W
def yM {P:Be} {g:Al} {fn:Func} (hf:P.funcs[g]?=some fn) (hn:(fn.name == "runtime.NumGoroutine")=false) (hb:fn.body.isNone=false):jL P g:=by
 intro vs W;have hp:(program:Sem Be).run P W=.ok P W:=rfl;have o:¬ (fn.name = "runtime.NumGoroutine"):=by simpa using hn
 unfold callFunc;simp only [Sem.run_bind,hp,Result.andThen_ok,hf,hn,hb,Ar,if_false,Sem.run_pure]
def kYb {w:Ag} {va:Ac} {x:Ab Int} {g:Al} {cp:Ah Ac} (p:Int->Bool) (hg:jL prog g) (ha:(kD.slice 3 kD.int).raw w [va] x)
    (an:∀ wr,Qb w wr->∀ (i:Nat) (h:i < x.length) c,kD.int.raw wr [c] x[i]->Ad prog g (#[c]++cp) wr (λe w'=>e=.returned (.bool (p x[i]))/\Qb wr w')) :
    Ad prog 195 #[va,.func (.func g) #[] cp] w (bQ w (.int .i64 (idxOf p x))):=by
 obtain ⟨aa,al,rfl,la⟩:=kD.sl ha
 have a5:=yD an;clear an
 unfold jL at hg
 go_enter func195,ntmps195
 go_wp2
 go_loopw [8] (λi wr=>∃ k:Nat,k<=x.length/\i=.int .i64 k/\(∀ j,(h:j < k)->(h2:j < x.length)->p x[j]=false)/\Qb w wr) (λi _=>x.length - (intOf i).toNat)
 case atStart=>exact ⟨0,Nat.zero_le _,rfl,λ_ h=>by omega,bR⟩
 obtain ⟨k,hk,rfl,hno,o⟩:=hrel
 have Y:=yD hno;clear hno
 by_cases hlt:k < x.length
 · obtain ⟨ba,X,rfl,c0,hr,A0⟩:=kD.kCk (ha.below o) hlt rfl;have C:=a5.out wr o k hlt _ hr;obtain ⟨he,_⟩:=kD.yX hr;exact lT
 exact lU
def kSo {w:Ag} {va:Ac} {x:Ab Bf} {g:Al} {cp:Ah Ac} (p:Bf->Bool) (hg:jL prog g) (ha:(kD.slice 9 kD.str).raw w [va] x)
    (an:∀ wr,Qb w wr->∀ (i:Nat) (h:i < x.length) c,kD.str.raw wr [c] x[i]->Ad prog g (#[c]++cp) wr (λe w'=>e=.returned (.bool (p x[i]))/\Qb wr w')) :
    Ad prog 243 #[va,.func (.func g) #[] cp] w (bQ w (.int .i64 (idxOf p x))):=by
 obtain ⟨aa,al,rfl,la⟩:=kD.sl ha
 have a5:=yD an;clear an
 unfold jL at hg
 go_enter func243,ntmps243
 go_wp2
 go_loopw [8] (λi wr=>∃ k:Nat,k<=x.length/\i=.int .i64 k/\(∀ j,(h:j < k)->(h2:j < x.length)->p x[j]=false)/\Qb w wr) (λi _=>x.length - (intOf i).toNat)
 case atStart=>exact ⟨0,Nat.zero_le _,rfl,λ_ h=>by omega,bR⟩
 obtain ⟨k,hk,rfl,hno,o⟩:=hrel
 have Y:=yD hno;clear hno
 by_cases hlt:k < x.length
 · obtain ⟨ba,X,rfl,c0,hr,A0⟩:=kD.kCk (ha.below o) hlt rfl;have C:=a5.out wr o k hlt _ hr;obtain ⟨he,_⟩:=kD.kAj hr;exact lT
 exact lU
def kNu {w:Ag} {va:Ac} {x:Ab Bf} {g:Al} {cp:Ah Ac} (p:Bf->Bool) (hg:jL prog g) (ha:(kD.slice 9 kD.str).raw w [va] x)
    (an:∀ wr,Qb w wr->∀ (i:Nat) (h:i < x.length) c,kD.str.raw wr [c] x[i]->Ad prog g (#[c]++cp) wr (λe w'=>e=.returned (.bool (p x[i]))/\Qb wr w')) :
    Ad prog 185 #[va,.func (.func g) #[] cp] w (bQ w (.bool (decide (0<=idxOf p x)))):=by
 have a5:=yD an;clear an
 go_enter func185,ntmps185
 go_wp2_with fail
 refine (kSo p hg ha a5.out).mono ?_
 exact iT
def kLu {w:Ag} {va:Ac} {x:Ab kW} {g:Al} {cp:Ah Ac} (p:kW->Bool) (hg:jL prog g) (ha:(kD.slice 179 kN).raw w [va] x)
    (an:∀ wr,Qb w wr->∀ (i:Nat) (h:i < x.length) cs,kN.raw wr cs x[i]->Ad prog g (#[.agg cs.toArray]++cp) wr (λe w'=>e=.returned (.bool (p x[i]))/\Qb wr w')) :
    Ad prog 229 #[va,.func (.func g) #[] cp] w (bQ w (.int .i64 (idxOf p x))):=by
 obtain ⟨aa,al,rfl,la⟩:=kD.sl ha
 have a5:=yD an;clear an
 unfold jL at hg
 go_enter func229,ntmps229
 exact lV
def kJu {w:Ag} {va:Ac} {x:Ab jI} {g:Al} {cp:Ah Ac} (p:jI->Bool) (hg:jL prog g) (ha:(kD.slice 176 jA).raw w [va] x)
    (an:∀ wr,Qb w wr->∀ (i:Nat) (h:i < x.length) cs,jA.raw wr cs x[i]->Ad prog g (#[.agg cs.toArray]++cp) wr (λe w'=>e=.returned (.bool (p x[i]))/\Qb wr w')) :
    Ad prog 227 #[va,.func (.func g) #[] cp] w (bQ w (.int .i64 (idxOf p x))):=by
 obtain ⟨aa,al,rfl,la⟩:=kD.sl ha
 have a5:=yD an;clear an
 unfold jL at hg
 go_enter func227,ntmps227
 exact lV
def kDa {w:Ag} {va:Ac} {x:Ab kV} {g:Al} {cp:Ah Ac} (p:kV->Bool) (hg:jL prog g) (ha:(kD.slice 105 kQ).raw w [va] x)
    (an:∀ wr,Qb w wr->∀ (i:Nat) (h:i < x.length) cs,kQ.raw wr cs x[i]->Ad prog g (#[.agg cs.toArray]++cp) wr (λe w'=>e=.returned (.bool (p x[i]))/\Qb wr w')) :
    Ad prog 111 #[va,.func (.func g) #[] cp] w (bQ w (.int .i64 (idxOf p x))):=by
 obtain ⟨aa,al,rfl,la⟩:=kD.sl ha
 have a5:=yD an;clear an
 unfold jL at hg
 go_enter func111,ntmps111
 exact lV
def kEc {w:Ag} {va:Ac} {x:Ab kV} {g:Al} {cp:Ah Ac} (p:kV->Bool) (hg:jL prog g) (ha:(kD.slice 105 kQ).raw w [va] x)
    (an:∀ wr,Qb w wr->∀ (i:Nat) (h:i < x.length) cs,kQ.raw wr cs x[i]->Ad prog g (#[.agg cs.toArray]++cp) wr (λe w'=>e=.returned (.bool (p x[i]))/\Qb wr w')) :
    Ad prog 66 #[va,.func (.func g) #[] cp] w (bQ w (.bool (decide (0<=idxOf p x)))):=by
 have a5:=yD an;clear an
 go_enter func66,ntmps66
 go_wp2_with fail
 refine (kDa p hg ha a5.out).mono ?_
 exact iT
def kHw {w:Ag} {va:Ac} {x:Ab kF} {g:Al} {cp:Ah Ac} (p:kF->Bool) (hg:jL prog g) (ha:(kD.slice 107 kH).raw w [va] x)
    (an:∀ wr,Qb w wr->∀ (i:Nat) (h:i < x.length) cs,kH.raw wr cs x[i]->Ad prog g (#[.agg cs.toArray]++cp) wr (λe w'=>e=.returned (.bool (p x[i]))/\Qb wr w')) :
    Ad prog 146 #[va,.func (.func g) #[] cp] w (bQ w (.int .i64 (idxOf p x))):=by
 obtain ⟨aa,al,rfl,la⟩:=kD.sl ha
 have a5:=yD an;clear an
 unfold jL at hg
 go_enter func146,ntmps146
 exact lV
def kNs {w:Ag} {va:Ac} {x:Ab jK} {g:Al} {cp:Ah Ac} (p:jK->Bool) (hg:jL prog g) (ha:(kD.slice 140 kz).raw w [va] x)
    (an:∀ wr,Qb w wr->∀ (i:Nat) (h:i < x.length) cs,kz.raw wr cs x[i]->Ad prog g (#[.agg cs.toArray]++cp) wr (λe w'=>e=.returned (.bool (p x[i]))/\Qb wr w')) :
    Ad prog 189 #[va,.func (.func g) #[] cp] w (bQ w (.int .i64 (idxOf p x))):=by
 obtain ⟨aa,al,rfl,la⟩:=kD.sl ha
 have a5:=yD an;clear an
 unfold jL at hg
 go_enter func189,ntmps189
 go_wp2
 go_loopw [8] (λi wr=>∃ k:Nat,k<=x.length/\i=.int .i64 k/\(∀ j,(h:j < k)->(h2:j < x.length)->p x[j]=false)/\Qb w wr) (λi _=>x.length - (intOf i).toNat)
 case atStart=>exact ⟨0,Nat.zero_le _,rfl,λ_ h=>by omega,bR⟩
 obtain ⟨k,hk,rfl,hno,o⟩:=hrel
 have Y:=yD hno;clear hno
 by_cases hlt:k < x.length
 · obtain ⟨ba,X,rfl,c0,c1,hr,A0,A1⟩:=kD.get2 (ha.below o) hlt rfl;exact lW
 exact lU
def kKp {w:Ag} {va:Ac} {x:Ab jK} {g:Al} {cp:Ah Ac} (p:jK->Bool) (hg:jL prog g) (ha:(kD.slice 140 kz).raw w [va] x)
    (an:∀ wr,Qb w wr->∀ (i:Nat) (h:i < x.length) cs,kz.raw wr cs x[i]->Ad prog g (#[.agg cs.toArray]++cp) wr (λe w'=>e=.returned (.bool (p x[i]))/\Qb wr w')) :
    Ad prog 105 #[va,.func (.func g) #[] cp] w (bQ w (.bool (decide (0<=idxOf p x)))):=by
 have a5:=yD an;clear an
 go_enter func105,ntmps105
 go_wp2_with fail
 refine (kNs p hg ha a5.out).mono ?_
 exact iT
def kVu {w:Ag} {va:Ac} {x:Ab jQ} {g:Al} {cp:Ah Ac} (p:jQ->Bool) (hg:jL prog g) (ha:(kD.slice 60 jF).raw w [va] x)
    (an:∀ wr,Qb w wr->∀ (i:Nat) (h:i < x.length) cs,jF.raw wr cs x[i]->Ad prog g (#[.agg cs.toArray]++cp) wr (λe w'=>e=.returned (.bool (p x[i]))/\Qb wr w')) :
    Ad prog 164 #[va,.func (.func g) #[] cp] w (bQ w (.int .i64 (idxOf p x))):=by
 obtain ⟨aa,al,rfl,la⟩:=kD.sl ha
 have a5:=yD an;clear an
 unfold jL at hg
 go_enter func164,ntmps164
 go_wp2
 go_loopw [8] (λi wr=>∃ k:Nat,k<=x.length/\i=.int .i64 k/\(∀ j,(h:j < k)->(h2:j < x.length)->p x[j]=false)/\Qb w wr) (λi _=>x.length - (intOf i).toNat)
 case atStart=>exact ⟨0,Nat.zero_le _,rfl,λ_ h=>by omega,bR⟩
 obtain ⟨k,hk,rfl,hno,o⟩:=hrel
 have Y:=yD hno;clear hno
 by_cases hlt:k < x.length
 · obtain ⟨ba,X,rfl,c0,c1,c2,c3,c4,hr,A0,A1,A2,A3,A4⟩:=kD.kTr (ha.below o) hlt rfl;exact lW
 exact lU
def kMx {w:Ag} {va:Ac} {x:Ab kr} {g:Al} {cp:Ah Ac} (p:kr->Bool) (hg:jL prog g) (ha:(kD.slice 144 jB).raw w [va] x)
    (an:∀ wr,Qb w wr->∀ (i:Nat) (h:i < x.length) cs,jB.raw wr cs x[i]->Ad prog g (#[.agg cs.toArray]++cp) wr (λe w'=>e=.returned (.bool (p x[i]))/\Qb wr w')) :
    Ad prog 226 #[va,.func (.func g) #[] cp] w (bQ w (.int .i64 (idxOf p x))):=by
 obtain ⟨aa,al,rfl,la⟩:=kD.sl ha
 have a5:=yD an;clear an
 unfold jL at hg
 go_enter func226,ntmps226
 go_wp2
 go_loopw [8] (λi wr=>∃ k:Nat,k<=x.length/\i=.int .i64 k/\(∀ j,(h:j < k)->(h2:j < x.length)->p x[j]=false)/\Qb w wr) (λi _=>x.length - (intOf i).toNat)
 case atStart=>exact ⟨0,Nat.zero_le _,rfl,λ_ h=>by omega,bR⟩
 obtain ⟨k,hk,rfl,hno,o⟩:=hrel
 have Y:=yD hno;clear hno
 by_cases hlt:k < x.length
 · obtain ⟨ba,X,rfl,c0,c1,c2,c3,c4,c5,hr,A0,A1,A2,A3,A4,A5⟩:=kD.kOr (ha.below o) hlt rfl;exact lW
 exact lU
def kJg {w:Ag} {va:Ac} {x:Ab kr} {g:Al} {cp:Ah Ac} (p:kr->Bool) (hg:jL prog g) (ha:(kD.slice 144 jB).raw w [va] x)
    (an:∀ wr,Qb w wr->∀ (i:Nat) (h:i < x.length) cs,jB.raw wr cs x[i]->Ad prog g (#[.agg cs.toArray]++cp) wr (λe w'=>e=.returned (.bool (p x[i]))/\Qb wr w')) :
    Ad prog 166 #[va,.func (.func g) #[] cp] w (bQ w (.bool (decide (0<=idxOf p x)))):=by
 have a5:=yD an;clear an
 go_enter func166,ntmps166
 go_wp2_with fail
 refine (kMx p hg ha a5.out).mono ?_
 exact iT
end Go.Proofs.YthocbplmdjkifaaGreat
namespace Go.Proofs.YthocbplmdjkifaaGreat
open Go _root_.Go.Proofs.Tryz
section
variable {P:Be} {ops:Ah Ap} {S:Ag->Prop} {Q:Exit->Act->Ag->Prop}
def kEe (md:Region.Mode) (ops:Ah Ap) (n g:Nat):Ab (Nat × Bool)->Ah Bool->Bool
  | [],listed=>Region.seqB md ops g n listed
  | (k,true) :: p,listed=>(Ai md ops listed).contains k && Region.free md ops listed k && kEe md ops n g p (listed.setIfInBounds k true)
  | (k,false) :: p,listed=>(Ai md ops listed==[k]) && kEe md ops n g p (listed.setIfInBounds k true)
def softTPOk (md:Region.Mode) (ops:Ah Ap) (q:Ab (Nat × Bool)):Bool :=
  Ba ops && (decide (q.length < ops.size) && (q.all (λx=>decide (x.1 < q.length)) && (Region.sinkB md ops q.length && (Region.chainB md ops q.length && kEe md ops q.length (ops.size - q.length) q (Bb ops.size false)))))
def kJw {l:Ab Ap} {n g:Nat} (E:Ba l.toArray=true) (hQ:∀ c a d v w,Q (.panic c) (Act.put a d v) w->Q (.panic c) a w)
    (hs:Region.sinkB .any l.toArray n=true) (hc:Region.chainB .any l.toArray n=true) (hn:n < l.toArray.size) (hg:n + g=l.length):∀ (q:Ab (Nat × Bool)) (k:Nat) (listed:Ah Bool) (a:Act) (w:Ag),
    q.all (λx=>decide (x.1 < n))=true->HeadInv .any l.toArray n listed->kEe .any l.toArray n g q listed=true->S w->kDc P l.toArray S Q k (jG l q++l.drop n) (q.map (·.2)) a w ->
    kBv P .any l.toArray Q S n (λlisted a w=>Region.seqB .any l.toArray g n listed=true/\∃ r,(∀ j,r[j]?=l.toArray[n + j]?)/\r.length=g/\wpList P l.toArray Q r a w) q.length listed a w
  | [],k,listed,a,w,_,inv,hB,hS,h=>by
    exact oP
  | (i,true) :: q,k,listed,a,w,hi,inv,hB,hS,h=>by
    simp only [List.all_cons,Aa,Ak] at hi;have hil:i < l.toArray.size:=Nat.lt_trans hi.1 hn;have h0:l.toArray[i]?=some l.toArray[i]:=Au hil;have hp:jG l ((i,true) :: q)=l.toArray[i] :: jG l q:=by
      exact oO
    rw [hp] at h;obtain ⟨v,hy,h⟩:=h;simp only [kEe,Aa] at hB;have hr:i∈Ai .any l.toArray listed:=bA4
    exact kQp h0 (Region.noSelect_spec E) (λc a w=>hQ c a _ _ w) hs hc hn hi.1 (λH a' w' hL=>seqB_ready hL.1) q.length listed a w inv (Region.free_spec h0 hB.1.2) hr hy hS
      (kJw E hQ hs hc hn hg q (k + 1) _ _ _ hi.2 (inv.set hr hi.1) hB.2 hS h)
  | (i,false) :: q,k,listed,a,w,hi,inv,hB,hS,h=>by
    simp only [List.all_cons,Aa,Ak] at hi;have hil:i < l.toArray.size:=Nat.lt_trans hi.1 hn;have h0:l.toArray[i]?=some l.toArray[i]:=Au hil;have hp:jG l ((i,false) :: q)=l.toArray[i] :: jG l q:=by
      exact oO
    rw [hp] at h;simp only [kEe,Aa,Ay] at hB;have hr:i∈Ai .any l.toArray listed:=bC9;refine ⟨by rw [hB.1];simp,λj I=>?_⟩;rw [hB.1] at I;obtain rfl:j=i:=bD7;refine ⟨hi.1,?_⟩;refine wpOp_mono (λa' w' F=>⟨F.1,kJw E hQ hs hc hn hg q (k + 1) _ _ _ hi.2 (inv.set hr hi.1) hB.2 F.1 F.2⟩) (K:=λa' w'=>S w'/\kDc P l.toArray S Q (k + 1) (jG l q++l.drop n) (q.map (·.2)) a' w') ?_;exact oQ
def je {id:Nat} {a:Act} {w:Ag} {l:Ab Ap} (S:Ag->Prop) (q:Ab (Nat × Bool)) (hm:P.follows .mixedOrders=true) (hB:softTPOk .any l.toArray q=true)
    (hQ:∀ c a d v w,Q (.panic c) (Act.put a d v) w->Q (.panic c) a w) (hS:S { w with drawn:=w.drawn + 1 })
    (h:∀ w',S w'->soft P l.toArray S Q 0 (jG l q++l.drop q.length) (q.map (·.2)) a w'):(Code.region id l.toArray true).wp P Q a w:=by
 simp only [softTPOk,Aa,Ak] at hB
 have h:=h _ hS
 unfold soft at h
 have be:l.toArray.size=l.length:=bF3
 have E:HeadInv .any l.toArray q.length (Bb l.toArray.size false) :=
   ⟨by simp,λj oj _ hl=>qE,λt _ ht=>getD_in bC7 (getD_replicate_false _ _)⟩
 have H:=kJw (g:=l.toArray.size - q.length) hB.1 hQ hB.2.2.2.1 hB.2.2.2.2.1 hB.2.1 (by have:=hB.2.1;omega) q 0 _ a _ hB.2.2.1 E hB.2.2.2.2.2 hS h
 refine wp_region_any hm ?_
 have:=kBy (Q:=Q) (g:=l.toArray.size - q.length) (λlisted a' w' hL=>by
   obtain ⟨hq,o,ho,J,hw⟩:=hL;have:=wpAny_of_seq (md:=.any) (Q':=Q) o q.length listed a' w' ho (by rw [J];exact hq) hw;rwa [J] at this) _ _ _ _ H
 rw [show q.length + (l.toArray.size - q.length)=l.toArray.size by have:=hB.2.1;omega] at this
 exact this
end
end Go.Proofs.YthocbplmdjkifaaGreat
namespace Go.Proofs.YthocbplmdjkifaaGreat
open Go.RowKit _root_.Go.Proofs.Tryz
namespace kD
section
variable {α:Type} {r:kD α} {e:TypeId} {w:Ag} {a:Option Addr} {len cap:Nat} {xs:Ab α} {o:Bool} {S:Nat->Prop}
def jFq {cells:Ab Ac} {ys:Ab α} (h:row r o w cells ys S) {k:Nat} (hk:k<=ys.length):∃ c d,cells=c++d/\c.length=k * r.n/\row r o w c (ys.take k) S/\row r o w d (ys.drop k) S:=by
 by_cases h1:k < ys.length
 · obtain ⟨p,c,q,A,B,C,rfl,hp,ra,rb,rc,hA,hB,hC,E⟩:=kRt h h1;refine ⟨p,c++q,rfl,hp,yU ra hA,?_⟩;rw [List.drop_eq_getElem_cons h1];exact ⟨c,q,B,C,rfl,rb,rc,hB,hC,λho k=>(E ho k).2.2⟩
 obtain rfl:k=ys.length:=bF2;have:=zR h;exact ⟨cells,[],by simp,this,by simpa using h,by simp [row]⟩
def kBz (h:(slice e r).raw w [.slice a len cap] xs) {k:Nat} (hk:k<=xs.length):(slice e r).raw w [.slice a k cap] (xs.take k):=by
 obtain ⟨a',E,cap',h0,h1,h2,h3,h4⟩:=h;simp only [Aj,Am,and_true] at h0;obtain ⟨rfl,rfl,rfl⟩:=h0;refine ⟨a,k,cap,rfl,by simp;omega,by omega,h3,?_⟩;rcases h4 with ⟨rfl,_⟩|⟨b,off,ha,cur,e',fr,p,c,q,hb,hc,hp,hl,hf,hS,hx⟩
 · exact .inl ⟨by simp,by simp⟩
 obtain ⟨c1,c2,rfl,an,r1,r2⟩:=jFq hx hk;exact .inr ⟨b,off,ha,cur,e',fr,p,c1,c2++q,hb,by rw [hc];simp,hp,hl,by simp,hS,r1⟩
def kSu (h:(slice e r).rd w [.slice a len cap] xs) {k:Nat} (hk:k<=xs.length):(slice e r).rd w [.slice a k cap] (xs.take k) :=
  ⟨kBz h.1 hk,by have:=h.2.1;simp;omega,λx hx=>h.2.2 x (List.mem_of_mem_take hx)⟩
def drop_raw {b off:Nat} (h:(slice e r).raw w [.slice (some ⟨b,off,none⟩) len cap] xs) {k:Nat} (hk:k<=xs.length):(slice e r).raw w [.slice (some ⟨b,off + k * r.n,none⟩) (len - k) (cap - k)] (xs.drop k):=by
 obtain ⟨a',E,cap',h0,h1,h2,h3,h4⟩:=h;simp only [Aj,Am,and_true] at h0;obtain ⟨rfl,rfl,rfl⟩:=h0;refine ⟨_,_,_,rfl,by simp;omega,by omega,by omega,?_⟩;rcases h4 with ⟨rfl,_⟩|⟨b',off',ha,cur,e',fr,p,c,q,hb,hc,hp,hl,hf,hS,hx⟩
 · exact .inl ⟨by simp,by simp⟩
 simp only [Av,Addr.mk.injEq,and_true] at ha;obtain ⟨rfl,rfl⟩:=ha;obtain ⟨c1,c2,rfl,an,r1,r2⟩:=jFq hx hk;refine .inr ⟨b,off + k * r.n,rfl,cur,e',fr,p++c1,c2,q,hb,by rw [hc];simp,by simp [hp,an],?_,by simp,hS,r2⟩;have:k * r.n<=cap * r.n:=Nat.mul_le_mul_right _ bF2;rw [Nat.sub_mul];omega
def void_raw {c:Nat} (hc:c<=maxLen):(slice e r).raw w [.slice a 0 c] []:=⟨_,_,_,rfl,rfl,Nat.zero_le _,hc,.inl ⟨rfl,by simp⟩⟩
def yF:(slice e r).own w [.slice a 0 0] [] S:=⟨⟨_,_,_,rfl,rfl,Nat.le_refl _,Nat.zero_le _,.inl ⟨rfl,λ_=>rfl⟩⟩,by simp [slice]⟩
def jFr (h:(slice e r).raw w [.slice a len cap] xs):∃ cells,Src w (.slice a len cap) xs.length cells/\row r false w cells xs (λ_=>True):=by
 obtain ⟨a',E,cap',h0,h1,h2,h3,h4⟩:=h;simp only [Aj,Am,and_true] at h0;obtain ⟨rfl,rfl,rfl⟩:=h0;rcases h4 with ⟨rfl,_⟩|⟨b,off,ha,cur,e',fr,p,c,q,hb,hc,hp,hl,hf,hS,hx⟩
 · subst h1;exact ⟨[],.inl ⟨rfl,_,_,rfl⟩,rfl⟩
 subst ha h1;refine ⟨c,.inr ⟨_,_,rfl,?_⟩,yU hx (λ_ _=>trivial)⟩;intro j u I;have F:(⟨b,off,none⟩:Addr).add j=⟨b,off + j,none⟩:=rF;have av:=(Ae.1 I).1;rw [F];simp only [World.cell?,hb,Option.isSome_none,Ar,if_false];rw [<- Array.getElem?_toList,hc,List.getElem?_append_right bF2,List.getElem?_append_left bF2];rw [<- I];congr 1;omega
end
end kD
namespace kD
variable {α:Type} {r:kD α} {e:TypeId} {w:Ag} {a:Option Addr} {len cap:Nat} {xs:Ab α}
def kBj (h:(slice e r).raw w [.slice a len cap] xs):xs.length<=cap/\cap<=9223372036854775807:=by
 obtain ⟨a',E,cap',h0,h1,h2,h3,h4⟩:=h;simp only [Aj,Am,and_true] at h0;obtain ⟨rfl,rfl,rfl⟩:=h0;unfold maxLen at h3;exact ⟨by omega,by omega⟩
end kD
namespace kD
section
variable {α:Type} {r:kD α} {e:TypeId} {w w':Ag} {v:Ac} {xs ys:Ab α} {S T:Nat->Prop}
def kCh {P:Be} {ops:Ah Ap} {rest:Ab Ap} {o:Ap} {a:Act} {Q:Exit->Act->Ag->Prop} (D:o.guard=none) (s x:Operand) (t:TypeId)
    (ho:o.op=.call { callee:=.builtin .append,args:=#[s,x],argTypes:=#[t,t] })
    {z:Ac} {bytes:Nat} (ht:P.underlying t=some (.slice e)) (hinf:(P.info? e).map (λi=>(i.zero,i.size,i.bytes))=some (some z,r.n,bytes)) (hzs:z.cells.size=r.n) (hn:0 < r.n) (hby:bytes<=1000)
    (hown:kY e r w v xs S) (hs:a.eval s=v) {b:Nat} (hx:a.eval x=.slice (some ⟨b,0,none⟩) 1 1) (hb:b=w.heap.size) {cs:Ab Ac} {y:α} (hy:r.own w cs y T)
    {u:Ag} (hu:u=w.alloc (.cells cs.toArray e)) (hST:∀ k,S k->T k->False) (hlen:xs.length + 1<=1000000000)
    (h:∀ v' w',kY e r w' v' (xs++[y]) (λk=>S k\/T k\/(w.heap.size + 1<=k/\k < w'.heap.size))->Touch (λk=>some k=v.ownBlock/\S k) u w'->wpList P ops Q rest (a.put o.dst v') w'):wpList P ops Q (o :: rest) a u:=by
 subst hu hb
 obtain ⟨i,hi,hz,hsize,L⟩:=info_parts hinf
 have E:kY e r (w.alloc (.cells cs.toArray e)) v xs (λk=>S k/\k < w.heap.size):=(kY.alloc hown.live _)
 have H:=hy.live.alloc (.cells cs.toArray e)
 refine kVy D s x t ho (r:=r) (e:=e) ht hi hz hsize hzs hn bF2 E hs hx (m:=1) (cells:=cs) (ys:=[y]) (T:=λk=>T k/\k < w.heap.size) (.inr ⟨_,1,rfl,?_⟩)
   ⟨cs,[],_,λ_=>False,by simp,H.1,rfl,λ_ h=>h,λ_ h=>h.elim,λ_ _ _ h=>h.elim⟩ rfl (λk h1 h2=>hST k h1.1 h2.1) (by simpa using hy.2) bB3 ?_
 · intro j c I;have F:(⟨w,0,none⟩:Addr).add j=⟨w,j,none⟩:=rF;rw [F];exact kE (heap_alloc_new w _) bD7
 intro v' w' h1 h2
 refine h v' w' (h1.wide ?_) ⟨h2.os,h2.tape,h2.output,h2.size,λk hk q=>h2.block k hk (λa=>q ⟨a.1,a.2.1⟩)⟩
 exact aC
def jR {P:Be} {ops:Ah Ap} {rest:Ab Ap} {o:Ap} {a:Act} {Q:Exit->Act->Ag->Prop} (D:o.guard=none) (s x:Operand) (t:TypeId)
    (ho:o.op=.call { callee:=.builtin .append,args:=#[s,x],argTypes:=#[t,t] })
    {z:Ac} {bytes:Nat} (ht:P.underlying t=some (.slice e)) (hinf:(P.info? e).map (λi=>(i.zero,i.size,i.bytes))=some (some z,r.n,bytes)) (hzs:z.cells.size=r.n) (hn:0 < r.n) (hby:bytes<=1000)
    {B:Nat} (hown:kY e r w v xs S) (hs:a.eval s=v) {b:Nat} (hx:a.eval x=.slice (some ⟨b,0,none⟩) 1 1) (hb:b=w.heap.size) {cs:Ab Ac} {y:α} (hy:r.own w cs y T)
    {u:Ag} (hu:u=w.alloc (.cells cs.toArray e)) (hST:∀ k,S k->T k->False) (hSB:∀ k,S k->B<=k/\k < w.heap.size) (hTB:∀ k,T k->B<=k/\k < w.heap.size) (hB:B<=w.heap.size) (hlen:xs.length + 1<=1000000000)
    (h:∀ v' w',kY e r w' v' (xs++[y]) (jg B w')->Below B w w'->w.heap.size < w'.heap.size->wpList P ops Q rest (a.put o.dst v') w'):wpList P ops Q (o :: rest) a u:=by
 refine kCh D s x t ho ht hinf hzs hn hby hown hs hx hb hy hu hST hlen ?_
 intro v' w' h1 h2
 subst hu
 have be:=h2.size
 simp at be
 refine h v' w' (h1.wide ?_) ?_ bF2
 · intro k hk;rcases hk with hk | hk | hk
   · have:=hSB k hk;exact ⟨this.1,by omega⟩
   · have:=hTB k hk;exact ⟨this.1,by omega⟩
   exact ⟨by omega,hk.2⟩
 refine ((Below.refl B w).alloc hB _).trans (h2.below ?_ ?_)
 · simp;omega
 intro k hk;have:=hSB k hk.2;omega
end
end kD
end Go.Proofs.YthocbplmdjkifaaGreat
namespace Go.Proofs.YthocbplmdjkifaaGreat
open _root_.Go.Proofs.Tryz
def kBl:(prog.info? 3).map (λi=>(i.zero,i.size,i.bytes))=some (some (.int .i64 0),1,8):=by kernel_rfl
def kCv:(prog.info? 9).map (λi=>(i.zero,i.size,i.bytes))=some (some (.string ByteArray.empty),1,16):=by kernel_rfl
def kFo:(prog.info? 5).map (λi=>(i.zero,i.size,i.bytes))=some (some (.int .u8 0),1,1):=by kernel_rfl
def kBf:(prog.info? 179).map (λi=>(i.zero,i.size,i.bytes))=some (some (.agg #[.slice none 0 0,Qn 0,Qn 0]),3,40):=by kernel_rfl
def kGx:(prog.info? 176).map (λi=>(i.zero,i.size,i.bytes))=some (some (.agg #[.slice none 0 0,Qn 0,Qn 0]),3,40):=by kernel_rfl
def zK:(prog.info? 105).map (λi=>(i.zero,i.size,i.bytes))=some (some (.agg #[Qn 0,Qn 0,Qn 0]),3,24):=by kernel_rfl
def yj:(prog.info? 107).map (λi=>(i.zero,i.size,i.bytes))=some (some (.agg #[.slice none 0 0,.slice none 0 0,Qn 0]),3,56):=by kernel_rfl
def kFn:(prog.info? 140).map (λi=>(i.zero,i.size,i.bytes))=some (some (.agg #[.slice none 0 0,Qn 0]),2,32):=by kernel_rfl
def kTk:(prog.info? 60).map (λi=>(i.zero,i.size,i.bytes))=some (some (.agg #[.slice none 0 0,.slice none 0 0,.slice none 0 0,Qn 0,Qn 0]),5,88):=by kernel_rfl
def kBe:(prog.info? 144).map (λi=>(i.zero,i.size,i.bytes))=some (some (.agg #[.slice none 0 0,.slice none 0 0,.slice none 0 0,Qn 0,Qn 0,Qn 0]),6,96):=by kernel_rfl
def kCg:(prog.info? 62).map (λi=>(i.zero,i.size,i.bytes))=some (some (.agg #[Qn 0,.bool false,.slice none 0 0,Qn 0,Qn 0,Qn 0,.slice none 0 0,.slice none 0 0,.slice none 0 0,Qn 0,Qn 0]),11,152):=by kernel_rfl
def infRule:(prog.info? 229).map (λi=>(i.zero,i.size,i.bytes))=some (some (.agg #[.slice none 0 0,.slice none 0 0]),2,48):=by kernel_rfl
end Go.Proofs.YthocbplmdjkifaaGreat
namespace Go.Proofs.YthocbplmdjkifaaGreat
open Go.RowKit _root_.Go.Proofs.Tryz
def inR (n a b:Int):Bool:=decide (a<=n) && decide (n<=b)
def kEb (a b:Int):Int:=if a < b then -1 else if b < a then 1 else 0
def orI:Ab Int->Int
  | []=>0
  | a :: l=>if a=0 then orI l else a
def jFv {x:Ab Int} {k:Nat} (h:k < x.length) (hx:x[k]≠0) (hno:∀ j,(h:j < k)->(h2:j < x.length)->x[j]=0):orI x=x[k]:=by
 induction x generalizing k with
 | nil=>simp at h
 | cons a l ih =>
   cases k with
   | zero=>simp at hx;simp [orI,hx]
   | succ k =>
     have h0:=hno 0 bF2 bF3;simp at h0;simp only [orI,h0,if_true,List.getElem_cons_succ];exact ih bD5 (by simpa using hx) (λj I h2=>hno (j + 1) bF2 (by simp only [Bg];omega))
def orI_miss {x:Ab Int} (hno:∀ j,(h2:j < x.length)->x[j]=0):orI x=0:=by
 induction x with
 | nil=>rfl
 | cons a l ih =>
   have h0:=hno 0 bF3;simp at h0;simp only [orI,h0,if_true];exact ih (λj h2=>hno (j + 1) (by simp only [Bg];omega))
def yL {w:Ag} {n a b:Int}:Ad prog 51 #[.int .i64 n,.int .i64 a,.int .i64 b] w λe w'=>e=.returned (.bool (inR n a b))/\w'=w:=by
 go_enter func51,ntmps51;by_cases h:n ≥ a
 · have hd:decide (n ≥ a)=true:=bD5;go_wp2;go_ret;exact ⟨kJ (by simp [inR,h]),rfl⟩
 have hd:decide (n ≥ a)=false:=bD5;go_wp2;go_ret;exact ⟨kJ (by simp [inR];omega),rfl⟩
def yC {w:Ag} {n a b:Int}:Ad prog 34 #[.int .i64 n,.int .i64 a,.int .i64 b] w λe w'=>e=.returned (.bool (inR n a b))/\w'=w:=by
 go_enter func34,ntmps34;by_cases h:a<=n
 · have hd:decide (a<=n)=true:=bD5;go_wp2;go_ret;exact ⟨kJ (by simp [inR,h]),rfl⟩
 have hd:decide (a<=n)=false:=bD5;go_wp2;go_ret;exact ⟨kJ (by simp [inR];omega),rfl⟩
def isNaN_c {w:Ag} {n:Int}:Ad prog 246 #[.int .i64 n] w λe w'=>e=.returned (.bool false)/\w'=w:=by
 go_enter func246,ntmps246;go_wp2;go_ret;exact ⟨kJ bF3,rfl⟩
def kTu {w:Ag} {a b:Int}:Ad prog 201 #[.int .i64 a,.int .i64 b] w λe w'=>e=.returned (.int .i64 (kEb a b))/\w'=w:=by
 go_enter func201,ntmps201;go_wp2_with fail;refine isNaN_c.mono ?_;rintro e u ⟨rfl,rfl⟩;go_wp2_with fail;refine isNaN_c.mono ?_;rintro e u ⟨rfl,rfl⟩;by_cases h:a < b
 · go_wp2;go_ret;exact ⟨jZ (by simp [kEb,h]),rfl⟩
 by_cases h2:a > b
 · go_wp2;go_ret;exact ⟨jZ (by unfold kEb;rw [if_neg bF2,if_pos bF2]),rfl⟩
 go_wp2;go_ret;exact ⟨jZ (by unfold kEb;rw [if_neg bF2,if_neg bF2]),rfl⟩
def cmpOr_c {w:Ag} {va:Ac} {x:Ab Int} (ha:(kD.slice 3 kD.int).raw w [va] x):Ad prog 200 #[va] w λe w'=>e=.returned (.int .i64 (orI x))/\w'=w:=by
 obtain ⟨aa,al,rfl,la⟩:=kD.sl ha;go_enter func200,ntmps200;go_wp2;go_loop [8] (λi=>∃ k:Nat,k<=x.length/\i=.int .i64 k/\(∀ j,(h:j < k)->(h2:j < x.length)->x[j]=0)) (λi=>x.length - (intOf i).toNat);case atStart=>exact ⟨0,Nat.zero_le _,rfl,λ_ h=>by omega⟩
 obtain ⟨k,hk,rfl,hno⟩:=hrel;have Y:=yD hno;clear hno;by_cases hlt:k < x.length
 · obtain ⟨ba,X,rfl,c0,hr,A0⟩:=kD.kCk ha hlt rfl;have he:=kD.yX hr;simp only [Aj,and_true] at he;obtain ⟨rfl,a7⟩:=he;clear hr a7;generalize hy:x[k]=y at *;have HY:=yD hy;clear hy;have ad:y≠0->Hid (orI x=y):=λq=>yD ((jFv hlt (by rw [HY.out];exact q) Y.out).trans HY.out);have o:y=0->Hid (∀ j,(h:j < k + 1)->(h2:j < x.length)->x[j]=0):=λq=>yD (λj h h2=>by by_cases e:j=k;(subst e;rw [HY.out];exact q);exact Y.out j bF2 h2);have HI:=yD ad;have HM:=yD o;clear ad o;by_cases h1:y=0
   · have L:=HM.out h1;clear HI HM;go_wp2;go_round;(case rel=>exact ⟨k + 1,by omega,by go_num,L.out⟩);(case measure=>simp [intOf];omega)
   have L:=HI.out h1;clear HI HM;exact o5
 have L:=yD (orI_miss (λj h2=>Y.out j bF2 h2));exact o5
end Go.Proofs.YthocbplmdjkifaaGreat

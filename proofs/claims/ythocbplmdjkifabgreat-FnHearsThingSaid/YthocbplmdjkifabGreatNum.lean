/-
  Small functions on numbers: ranges, comparisons; the library's cmp.Compare and cmp.Or.
-/
import Derived.Test.YthocbplmdjkifabGreatSoft
set_option linter.unusedVariables false
set_option linter.defProp false
set_option linter.unusedSimpArgs false
set_option linter.unnecessarySimpa false
set_option maxRecDepth 100000
set_option maxHeartbeats 4000000
open Bool renaming and_eq_true->Aa,false_eq_true->Ap,or_eq_true->Aw
open _root_ renaming List->Ab,Array->Ah,decide_eq_true_eq->Aj,beq_iff_eq->Av,ByteArray->Be
open Go renaming Value->Ac,Calls->Ad,World->Ag,FuncId->Ak,Oper->Al,Program->Bd
open List renaming getElem?_eq_some_iff->Ae,getElem?_toArray->Bb,size_toArray->Bc,length_cons->Bf
open Go.Region renaming ready->Ai,binds->Am,noSelect->Ay
open Array renaming getElem?_eq_getElem->Aq,getD->Au,replicate->Az
open Option.some renaming injEq->Ar
open ByteArray renaming empty->Ba
namespace Go.Proofs.YthocbplmdjkifabGreat
open Go.RowKit _root_.Go.Proofs.Tryz
variable {cp:Ah Ac} {va:Ac} {listed:Ah Bool} {g:Ak} {w:Ag} {l:Ab Al} {α:Type} {k:Nat} {x:Ab α} {p:α->Bool}
def jAk (o:Al):Nat:=o.after.toList.foldr (λe m=>if Am .any e then m ||| 2 ^ e.on else m) 0
def kVs (o:Al) (j:Nat):(jAk o).testBit j=true↔∃ e∈o.after,Am .any e=true/\e.on=j:=by
 have key:∀ l:Ab Edge,(l.foldr (λe m=>if Am .any e then m ||| 2 ^ e.on else m) 0).testBit j=true↔∃ e∈l,Am .any e=true/\e.on=j:=by
  intro l;induction l with
  | nil=>simp
  | cons a l ih =>
    rw [List.foldr_cons];cases h:Am .any a;simp only [Ap,if_false,ih,List.mem_cons,exists_eq_or_imp,h,false_and,false_or]
    · simp only [if_true,Nat.testBit_or,Aw,ih,Nat.testBit_two_pow,Aj,List.mem_cons,exists_eq_or_imp,h,true_and];exact ⟨λq=>q.symm,λq=>q.symm⟩
 unfold jAk;rw [key];simp only [Array.mem_toList_iff]
def rdyF (L j:Nat) (o:Al):Bool:=!L.testBit j && (jAk o &&& L==jAk o)
def jEc (f:Nat->Al->Bool):Ab Al->Nat->Bool
  | [],_=>true
  | o :: l,i=>f i o && jEc f l (i + 1)
def kQu {f:Nat->Al->Bool}:∀ {l:Ab Al} {i:Nat},jEc f l i=true->∀ (j:Nat) (o:Al),l[j]?=some o->f (i + j) o=true
  | [],_,_,j,o,h=>by simp at h
  | a :: l,i,h,0,o,ho=>by
    simp only [jEc,Aa] at h;simp only [List.getElem?_cons_zero,Ar] at ho;subst ho;exact h.1
  | a :: l,i,h,j + 1,o,ho=>by
    simp only [jEc,Aa] at h;simp only [List.getElem?_cons_succ] at ho;have:=kQu h.2 j o ho;rw [Nat.add_assoc,Nat.add_comm 1 j] at this;exact this
def jBt (l:Ab Al):Ab (Nat × Bool)->Nat->Bool
  | [],L=>jEc (λj o=>!rdyF L j o) l 0
  | (k,true) :: p,L=>(match l[k]? with | some o=>rdyF L k o && jEc (λj oj=>L.testBit j || (j==k || ((jAk oj).testBit k || o.apart l.toArray oj))) l 0 | none=>false) && jBt l p (L ||| 2 ^ k)
  | (k,false) :: p,L=>(match l[k]? with | some o=>rdyF L k o && jEc (λj oj=>L.testBit j || (j==k || !rdyF L j oj)) l 0 | none=>false) && jBt l p (L ||| 2 ^ k)
def softPF (l:Ab Al) (q:Ab (Nat × Bool)):Bool:=Ay l.toArray && (decide (q.length<=l.length) && (q.all (λx=>decide (x.1 < l.length)) && jBt l q 0))
structure Bits (listed:Ah Bool) (L n:Nat):Prop where
  size:listed.size=n
  bit:∀ i,i < n->listed.getD i false=L.testBit i
  big:∀ i,n<=i->L.testBit i=false
def Bits.tr {L n:Nat} (h:Bits listed L n) {i:Nat} (hi:i < n):listed.getD i true=L.testBit i:=by
 rw [<- h.bit i hi];have:=h.size;simp [Au,show i < listed.size by omega]
def Bits.fa {L n:Nat} (h:Bits listed L n) (i:Nat):listed.getD i false=L.testBit i:=by
 by_cases hi:i < n;exact h.bit i hi;rw [h.big i bJ5];have:=h.size;simp [Au,show ¬ i < listed.size by omega]
def Bits.set {L n:Nat} (h:Bits listed L n) (hk:k < n):Bits (listed.setIfInBounds k true) (L ||| 2 ^ k) n:=by
 refine ⟨by simp [h.size],λi hi=>?_,λi hi=>?_⟩
 · rw [Nat.testBit_or,Nat.testBit_two_pow,<- h.bit i hi];by_cases e:k=i
   · subst e;simp [Au,h.size,hk]
   simp [Au,h.size,hi,Array.getElem_setIfInBounds,e]
 rw [Nat.testBit_or,Nat.testBit_two_pow,h.big i hi];simp;omega
def Bits.zero (n:Nat):Bits (Az n false) 0 n:=⟨by simp,λi hi=>by simp [Au,hi],λi _=>by simp⟩
def jAa {L j:Nat} {o:Al} (h:Bits listed L l.length) (ho:l[j]?=some o):j∈Ai .any l.toArray listed↔rdyF L j o=true:=by
 have J:j < l.length:=(Ae.1 ho).1;rw [mem_ready,h.tr J];unfold rdyF;simp only [Bb,ho,Ar,exists_eq_left',Aa,Bool.not_eq_true',Av];refine and_congr_right (λ_=>⟨λq=>Nat.eq_of_testBit_eq λi=>?_,λq e he hb=>?_⟩)
 · rw [Nat.testBit_and];cases hw:(jAk o).testBit i;rfl;obtain ⟨e,he,hb,rfl⟩:=(kVs o i).1 hw;have:=q e he hb;rw [h.fa] at this;rw [this];rfl
 rw [h.fa];have hw:(jAk o).testBit e.on=true:=(kVs o e.on).2 ⟨e,he,hb,rfl⟩;rw [<- q,Nat.testBit_and,Aa] at hw;exact hw.2
def ready_lt {j:Nat} (h:j∈Ai .any l.toArray listed):∃ o,l[j]?=some o:=by
 obtain ⟨_,o,ho,_⟩:=mem_ready.1 h;exact ⟨o,by simpa using ho⟩
def only_one:∀ {l:Ab Nat},l.Nodup->k∈l->(∀ x∈l,x=k)->l=[k]
  | [],_,h,_=>by simp at h
  | [a],_,_,h=>by rw [h a bJ6]
  | a :: b :: l,hn,_,h=>by
    have h1:=h a bJ6;have h2:=h b bJ6;subst h1;subst h2;simp at hn
def ready_nodup:(Ai .any l.toArray listed).Nodup:=by
 unfold Ai;exact List.nodup_range.sublist List.filter_sublist
def jBs {l:Ab Al}:∀ {q:Ab (Nat × Bool)} {listed:Ah Bool} {L:Nat},Bits listed L l.length->jBt l q L=true->kGx .any l.toArray q listed=true
  | [],listed,L,hB,h=>by
    simp only [jBt] at h;simp only [kGx,List.isEmpty_iff];refine List.eq_nil_iff_forall_not_mem.2 λj J=>?_;obtain ⟨o,ho⟩:=ready_lt J;have h1:=kQu h j o ho;rw [Nat.zero_add,(jAa hB ho).1 J] at h1;cases h1
  | (k,true) :: q,listed,L,hB,h=>by
    simp only [jBt,Aa] at h;obtain ⟨h,h2⟩:=h;cases ho:l[k]? with
    | none=>rw [ho] at h;cases h
    | some o =>
      rw [ho] at h;simp only [Aa] at h;have hk:k < l.length:=(Ae.1 ho).1;simp only [kGx,Aa,List.contains_iff_mem];refine ⟨⟨(jAa hB ho).2 h.1,?_⟩,jBs (hB.set hk) h2⟩;unfold Region.free;simp only [Bb,ho,List.all_eq_true,List.mem_range,Bc];intro j J;have F:l[j]?=some l[j]:=List.getElem?_eq_getElem J;have h3:=kQu h.2 j l[j] F;rw [Nat.zero_add] at h3;rw [hB.tr J,F];simp only [Aw,Av] at h3 ⊢;rcases h3 with h3 | h3 | h3 | h3;exact .inl (.inr h3);exact .inl (.inl h3)
      · refine .inr (.inl ?_);obtain ⟨e,he,hb,hq⟩:=(kVs _ _).1 h3;exact Array.any_eq_true'.2 ⟨e,he,by simp [hb,hq]⟩
      · exact .inr (.inr h3)
  | (k,false) :: q,listed,L,hB,h=>by
    simp only [jBt,Aa] at h;obtain ⟨h,h2⟩:=h;cases ho:l[k]? with
    | none=>rw [ho] at h;cases h
    | some o =>
      rw [ho] at h;simp only [Aa] at h;have hk:k < l.length:=(Ae.1 ho).1;simp only [kGx,Aa,Av];refine ⟨only_one ready_nodup ((jAa hB ho).2 h.1) λj J=>?_,jBs (hB.set hk) h2⟩;obtain ⟨oj,F⟩:=ready_lt J;have hr:=(jAa hB F).1 J;have h3:=kQu h.2 j oj F;rw [Nat.zero_add,hr] at h3;simp only [Bool.not_true,Bool.or_false,Aw,Av] at h3;rcases h3 with h3 | h3
      · unfold rdyF at hr;rw [h3] at hr;cases hr
      · exact h3
def softP_ok {q:Ab (Nat × Bool)} (h:softPF l q=true):kZx .any l.toArray q=true:=by
 simp only [softPF,Aa] at h;simp only [kZx,Aa,Bc];exact ⟨h.1,h.2.1,h.2.2.1,jBs (Bits.zero _) h.2.2.2⟩
def idxOf (p:α->Bool) (l:Ab α):Int:=match l.findIdx? p with | some i=>i | none=>-1
def idxOf_hit (hlt:k < x.length) (hp:p x[k]=true) (hno:∀ j,(h:j < k)->(h2:j < x.length)->p x[j]=false):idxOf p x=k:=by
 unfold idxOf;have:x.findIdx? p=some k:=by
  rw [List.findIdx?_eq_some_iff_getElem];exact ⟨hlt,hp,λj J=>by simpa using hno j J bJ5⟩
 rw [this]
def idxOf_miss (hlt:¬ k < x.length) (hno:∀ j,(h:j < k)->(h2:j < x.length)->p x[j]=false):idxOf p x=-1:=by
 unfold idxOf;have:x.findIdx? p=none:=by
  rw [List.findIdx?_eq_none_iff];intro y hy;obtain ⟨j,J,rfl⟩:=List.getElem_of_mem hy;simpa using hno j bJ5 J
 rw [this]
def kAl (hlt:k < x.length) (hp:p x[k]=false) (hno:∀ j,(h:j < k)->(h2:j < x.length)->p x[j]=false):∀ j,(h:j < k + 1)->(h2:j < x.length)->p x[j]=false:=by
 intro j h h2;by_cases q:j=k;subst q;exact hp;exact hno j bJ5 h2
def jL (P:Bd) (g:Ak):Prop:=∀ vs W,(callFunc g vs).run P W=.ok (.enter g vs) W
def yK {P:Bd} {fn:Func} (hf:P.funcs[g]?=some fn) (hn:(fn.name == "runtime.NumGoroutine")=false) (hb:fn.body.isNone=false):jL P g:=by
 intro vs W;have hp:(program:Sem Bd).run P W=.ok P W:=rfl;have D:¬ (fn.name = "runtime.NumGoroutine"):=by simpa using hn
 unfold callFunc;simp only [Sem.run_bind,hp,Result.andThen_ok,hf,hn,hb,Ap,if_false,Sem.run_pure]
def kZt {x:Ab Int} (p:Int->Bool) (hg:jL prog g) (ha:Ck.raw w [va] x)
    (ag:∀ wr,Qb w wr->∀ (i:Nat) (h:i < x.length) c,kD.int.raw wr [c] x[i]->Ad prog g (#[c]++cp) wr (λe w'=>e=.returned (.bool (p x[i]))/\Qb wr w')) :
    Ad prog 184 #[va,.func (.func g) #[] cp] w (bQ w (.int .i64 (idxOf p x))):=by
 obtain ⟨aa,H,rfl,la⟩:=kD.sl ha;have al:=yD ag;clear ag;unfold jL at hg;go_enter func184,ntmps184;go_wp2;go_loopw [8] (λi wr=>∃ k:Nat,k<=x.length/\i=.int .i64 k/\(∀ j,(h:j < k)->(h2:j < x.length)->p x[j]=false)/\Qb w wr) (λi _=>x.length - (intOf i).toNat);case atStart=>exact ⟨0,Nat.zero_le _,rfl,λ_ h=>by omega,bR⟩
 obtain ⟨k,hk,rfl,hno,D⟩:=hrel;have HN:=yD hno;clear hno;by_cases hlt:k < x.length
 · obtain ⟨ba,ah,rfl,c0,hr,A0⟩:=kD.kAu (ha.below D) hlt rfl;refine GV λC=>?_;obtain ⟨he,_⟩:=kD.yX hr;obtain rfl:c0=_:=by simpa using he
   clear he hr;exact aU
 exact PE D
def kTl {x:Ab Be} (p:Be->Bool) (hg:jL prog g) (ha:Cg.raw w [va] x)
    (ag:∀ wr,Qb w wr->∀ (i:Nat) (h:i < x.length) c,kD.str.raw wr [c] x[i]->Ad prog g (#[c]++cp) wr (λe w'=>e=.returned (.bool (p x[i]))/\Qb wr w')) :
    Ad prog 247 #[va,.func (.func g) #[] cp] w (bQ w (.int .i64 (idxOf p x))):=by
 obtain ⟨aa,H,rfl,la⟩:=kD.sl ha;have al:=yD ag;clear ag;unfold jL at hg;go_enter func247,ntmps247;go_wp2;go_loopw [8] (λi wr=>∃ k:Nat,k<=x.length/\i=.int .i64 k/\(∀ j,(h:j < k)->(h2:j < x.length)->p x[j]=false)/\Qb w wr) (λi _=>x.length - (intOf i).toNat);case atStart=>exact ⟨0,Nat.zero_le _,rfl,λ_ h=>by omega,bR⟩
 obtain ⟨k,hk,rfl,hno,D⟩:=hrel;have HN:=yD hno;clear hno;by_cases hlt:k < x.length
 · obtain ⟨ba,ah,rfl,c0,hr,A0⟩:=kD.kAu (ha.below D) hlt rfl;refine GV λC=>?_;obtain ⟨he,_⟩:=kD.zQ hr;obtain rfl:c0=_:=by simpa using he
   clear he hr;exact aU
 exact PE D
def kPe {x:Ab Be} (p:Be->Bool) (hg:jL prog g) (ha:Cg.raw w [va] x)
    (ag:∀ wr,Qb w wr->∀ (i:Nat) (h:i < x.length) c,kD.str.raw wr [c] x[i]->Ad prog g (#[c]++cp) wr (λe w'=>e=.returned (.bool (p x[i]))/\Qb wr w')) :
    Ad prog 195 #[va,.func (.func g) #[] cp] w (bQ w (.bool (decide (0<=idxOf p x)))):=by
 have al:=yD ag;clear ag;go_enter func195,ntmps195;go_wp2_with fail;refine (kTl p hg ha al.out).mono ?_;exact QS
def kXk {x:Ab kU} (p:kU->Bool) (hg:jL prog g) (ha:Cs.raw w [va] x)
    (ag:∀ wr,Qb w wr->∀ (i:Nat) (h:i < x.length) cs,kQ.raw wr cs x[i]->Ad prog g (#[.agg cs.toArray]++cp) wr (λe w'=>e=.returned (.bool (p x[i]))/\Qb wr w')) :
    Ad prog 270 #[va,.func (.func g) #[] cp] w (bQ w (.int .i64 (idxOf p x))):=by
 obtain ⟨aa,H,rfl,la⟩:=kD.sl ha;have al:=yD ag;clear ag;unfold jL at hg;go_enter func270,ntmps270;go_wp2;go_loopw [8] (λi wr=>∃ k:Nat,k<=x.length/\i=.int .i64 k/\(∀ j,(h:j < k)->(h2:j < x.length)->p x[j]=false)/\Qb w wr) (λi _=>x.length - (intOf i).toNat);case atStart=>exact ⟨0,Nat.zero_le _,rfl,λ_ h=>by omega,bR⟩
 obtain ⟨k,hk,rfl,hno,D⟩:=hrel;have HN:=yD hno;clear hno;by_cases hlt:k < x.length
 · obtain ⟨ba,ah,rfl,c0,hr,A0⟩:=kD.kAu (ha.below D) hlt rfl;refine GV λC=>?_;exact aU
 exact PE D
def kRi {x:Ab kU} (p:kU->Bool) (hg:jL prog g) (ha:Cs.raw w [va] x)
    (ag:∀ wr,Qb w wr->∀ (i:Nat) (h:i < x.length) cs,kQ.raw wr cs x[i]->Ad prog g (#[.agg cs.toArray]++cp) wr (λe w'=>e=.returned (.bool (p x[i]))/\Qb wr w')) :
    Ad prog 236 #[va,.func (.func g) #[] cp] w (bQ w (.bool (decide (0<=idxOf p x)))):=by
 have al:=yD ag;clear ag;go_enter func236,ntmps236;go_wp2_with fail;refine (kXk p hg ha al.out).mono ?_;exact QS
def kNd {x:Ab kM} (p:kM->Bool) (hg:jL prog g) (ha:Cf.raw w [va] x)
    (ag:∀ wr,Qb w wr->∀ (i:Nat) (h:i < x.length) cs,kL.raw wr cs x[i]->Ad prog g (#[.agg cs.toArray]++cp) wr (λe w'=>e=.returned (.bool (p x[i]))/\Qb wr w')) :
    Ad prog 165 #[va,.func (.func g) #[] cp] w (bQ w (.int .i64 (idxOf p x))):=by
 obtain ⟨aa,H,rfl,la⟩:=kD.sl ha;have al:=yD ag;clear ag;unfold jL at hg;go_enter func165,ntmps165;exact LJ
def kLf {x:Ab jH} (p:jH->Bool) (hg:jL prog g) (ha:Ch.raw w [va] x)
    (ag:∀ wr,Qb w wr->∀ (i:Nat) (h:i < x.length) cs,jA.raw wr cs x[i]->Ad prog g (#[.agg cs.toArray]++cp) wr (λe w'=>e=.returned (.bool (p x[i]))/\Qb wr w')) :
    Ad prog 212 #[va,.func (.func g) #[] cp] w (bQ w (.int .i64 (idxOf p x))):=by
 obtain ⟨aa,H,rfl,la⟩:=kD.sl ha;have al:=yD ag;clear ag;unfold jL at hg;go_enter func212,ntmps212;exact LJ
def kPc {x:Ab kY} (p:kY->Bool) (hg:jL prog g) (ha:Ci.raw w [va] x)
    (ag:∀ wr,Qb w wr->∀ (i:Nat) (h:i < x.length) cs,ky.raw wr cs x[i]->Ad prog g (#[.agg cs.toArray]++cp) wr (λe w'=>e=.returned (.bool (p x[i]))/\Qb wr w')) :
    Ad prog 183 #[va,.func (.func g) #[] cp] w (bQ w (.int .i64 (idxOf p x))):=by
 obtain ⟨aa,H,rfl,la⟩:=kD.sl ha;have al:=yD ag;clear ag;unfold jL at hg;go_enter func183,ntmps183;exact LJ
def kJg {x:Ab kF} (p:kF->Bool) (hg:jL prog g) (ha:Ce.raw w [va] x)
    (ag:∀ wr,Qb w wr->∀ (i:Nat) (h:i < x.length) cs,kH.raw wr cs x[i]->Ad prog g (#[.agg cs.toArray]++cp) wr (λe w'=>e=.returned (.bool (p x[i]))/\Qb wr w')) :
    Ad prog 138 #[va,.func (.func g) #[] cp] w (bQ w (.int .i64 (idxOf p x))):=by
 obtain ⟨aa,H,rfl,la⟩:=kD.sl ha;have al:=yD ag;clear ag;unfold jL at hg;go_enter func138,ntmps138;exact LJ
def kNe {x:Ab jK} (p:jK->Bool) (hg:jL prog g) (ha:Cm.raw w [va] x)
    (ag:∀ wr,Qb w wr->∀ (i:Nat) (h:i < x.length) cs,jC.raw wr cs x[i]->Ad prog g (#[.agg cs.toArray]++cp) wr (λe w'=>e=.returned (.bool (p x[i]))/\Qb wr w')) :
    Ad prog 93 #[va,.func (.func g) #[] cp] w (bQ w (.int .i64 (idxOf p x))):=by
 obtain ⟨aa,H,rfl,la⟩:=kD.sl ha;have al:=yD ag;clear ag;unfold jL at hg;go_enter func93,ntmps93;go_wp2;go_loopw [8] (λi wr=>∃ k:Nat,k<=x.length/\i=.int .i64 k/\(∀ j,(h:j < k)->(h2:j < x.length)->p x[j]=false)/\Qb w wr) (λi _=>x.length - (intOf i).toNat);case atStart=>exact ⟨0,Nat.zero_le _,rfl,λ_ h=>by omega,bR⟩
 obtain ⟨k,hk,rfl,hno,D⟩:=hrel;have HN:=yD hno;clear hno;by_cases hlt:k < x.length
 · obtain ⟨ba,ah,rfl,c0,c1,c2,c3,c4,hr,A0,A1,A2,A3,A4⟩:=kD.get5 (ha.below D) hlt rfl;refine GV λC=>?_;exact aU
 exact PE D
def kNw {x:Ab kW} (p:kW->Bool) (hg:jL prog g) (ha:Cn.raw w [va] x)
    (ag:∀ wr,Qb w wr->∀ (i:Nat) (h:i < x.length) cs,kz.raw wr cs x[i]->Ad prog g (#[.agg cs.toArray]++cp) wr (λe w'=>e=.returned (.bool (p x[i]))/\Qb wr w')) :
    Ad prog 211 #[va,.func (.func g) #[] cp] w (bQ w (.int .i64 (idxOf p x))):=by
 obtain ⟨aa,H,rfl,la⟩:=kD.sl ha;have al:=yD ag;clear ag;unfold jL at hg;go_enter func211,ntmps211;go_wp2;go_loopw [8] (λi wr=>∃ k:Nat,k<=x.length/\i=.int .i64 k/\(∀ j,(h:j < k)->(h2:j < x.length)->p x[j]=false)/\Qb w wr) (λi _=>x.length - (intOf i).toNat);case atStart=>exact ⟨0,Nat.zero_le _,rfl,λ_ h=>by omega,bR⟩
 obtain ⟨k,hk,rfl,hno,D⟩:=hrel;have HN:=yD hno;clear hno;by_cases hlt:k < x.length
 · obtain ⟨ba,ah,rfl,c0,c1,c2,c3,c4,c5,hr,A0,A1,A2,A3,A4,A5⟩:=kD.get6 (ha.below D) hlt rfl;refine GV λC=>?_;exact aU
 exact PE D
def kKo {x:Ab kW} (p:kW->Bool) (hg:jL prog g) (ha:Cn.raw w [va] x)
    (ag:∀ wr,Qb w wr->∀ (i:Nat) (h:i < x.length) cs,kz.raw wr cs x[i]->Ad prog g (#[.agg cs.toArray]++cp) wr (λe w'=>e=.returned (.bool (p x[i]))/\Qb wr w')) :
    Ad prog 149 #[va,.func (.func g) #[] cp] w (bQ w (.bool (decide (0<=idxOf p x)))):=by
 have al:=yD ag;clear ag;go_enter func149,ntmps149;go_wp2_with fail;refine (kNw p hg ha al.out).mono ?_;exact QS
def kXj {x:Ab kDf} (p:kDf->Bool) (hg:jL prog g) (ha:Cr.raw w [va] x)
    (ag:∀ wr,Qb w wr->∀ (i:Nat) (h:i < x.length) cs,kFi.raw wr cs x[i]->Ad prog g (#[.agg cs.toArray]++cp) wr (λe w'=>e=.returned (.bool (p x[i]))/\Qb wr w')) :
    Ad prog 267 #[va,.func (.func g) #[] cp] w (bQ w (.int .i64 (idxOf p x))):=by
 obtain ⟨aa,H,rfl,la⟩:=kD.sl ha;have al:=yD ag;clear ag;unfold jL at hg;go_enter func267,ntmps267;exact NH
end Go.Proofs.YthocbplmdjkifabGreat
namespace Go.Proofs.YthocbplmdjkifabGreat
open Go _root_.Go.Proofs.Tryz
section
variable {P:Bd} {ops:Ah Al} {S:Ag->Prop} {Q:Exit->Act->Ag->Prop}
def kFu (md:Region.Mode) (ops:Ah Al) (n g:Nat):Ab (Nat × Bool)->Ah Bool->Bool
  | [],listed=>Region.seqB md ops g n listed
  | (k,true) :: p,listed=>(Ai md ops listed).contains k && Region.free md ops listed k && kFu md ops n g p (listed.setIfInBounds k true)
  | (k,false) :: p,listed=>(Ai md ops listed==[k]) && kFu md ops n g p (listed.setIfInBounds k true)
def softTPOk (md:Region.Mode) (ops:Ah Al) (q:Ab (Nat × Bool)):Bool :=
  Ay ops && (decide (q.length < ops.size) && (q.all (λx=>decide (x.1 < q.length)) && (Region.sinkB md ops q.length && (Region.chainB md ops q.length && kFu md ops q.length (ops.size - q.length) q (Az ops.size false)))))
def kLh {l:Ab Al} {n g:Nat} (E:Ay l.toArray=true) (hQ:∀ c a d v w,Q (.panic c) (Act.put a d v) w->Q (.panic c) a w)
    (hs:Region.sinkB .any l.toArray n=true) (hc:Region.chainB .any l.toArray n=true) (hn:n < l.toArray.size) (hg:n + g=l.length):∀ (q:Ab (Nat × Bool)) (k:Nat) (listed:Ah Bool) (a:Act) (w:Ag),
    q.all (λx=>decide (x.1 < n))=true->HeadInv .any l.toArray n listed->kFu .any l.toArray n g q listed=true->S w->kEk P l.toArray S Q k (jE l q++l.drop n) (q.map (·.2)) a w ->
    kCs P .any l.toArray Q S n (λlisted a w=>Region.seqB .any l.toArray g n listed=true/\∃ r,(∀ j,r[j]?=l.toArray[n + j]?)/\r.length=g/\wpList P l.toArray Q r a w) q.length listed a w
  | [],k,listed,a,w,_,inv,hB,hS,h=>by
    exact VK
  | (i,true) :: q,k,listed,a,w,hi,inv,hB,hS,h=>by
    simp only [List.all_cons,Aa,Aj] at hi;have hil:i < l.toArray.size:=Nat.lt_trans hi.1 hn;have h0:l.toArray[i]?=some l.toArray[i]:=Aq hil;have hp:jE l ((i,true) :: q)=l.toArray[i] :: jE l q:=by
      exact VJ
    rw [hp] at h;obtain ⟨v,hy,h⟩:=h;simp only [kFu,Aa] at hB;have hr:i∈Ai .any l.toArray listed:=bD8
    exact kRk h0 (Region.noSelect_spec E) (λc a w=>hQ c a _ _ w) hs hc hn hi.1 (λF a' w' V=>seqB_ready V.1) q.length listed a w inv (Region.free_spec h0 hB.1.2) hr hy hS
      (kLh E hQ hs hc hn hg q (k + 1) _ _ _ hi.2 (inv.set hr hi.1) hB.2 hS h)
  | (i,false) :: q,k,listed,a,w,hi,inv,hB,hS,h=>by
    simp only [List.all_cons,Aa,Aj] at hi;have hil:i < l.toArray.size:=Nat.lt_trans hi.1 hn;have h0:l.toArray[i]?=some l.toArray[i]:=Aq hil;have hp:jE l ((i,false) :: q)=l.toArray[i] :: jE l q:=by
      exact VJ
    rw [hp] at h;simp only [kFu,Aa,Av] at hB;have hr:i∈Ai .any l.toArray listed:=bH0;refine ⟨by rw [hB.1];simp,λj J=>?_⟩;rw [hB.1] at J;obtain rfl:j=i:=bH9;refine ⟨hi.1,?_⟩;refine wpOp_mono (λa' w' G=>⟨G.1,kLh E hQ hs hc hn hg q (k + 1) _ _ _ hi.2 (inv.set hr hi.1) hB.2 G.1 G.2⟩) (K:=λa' w'=>S w'/\kEk P l.toArray S Q (k + 1) (jE l q++l.drop n) (q.map (·.2)) a' w') ?_;exact VL
def je {id:Nat} {a:Act} {w:Ag} {l:Ab Al} (S:Ag->Prop) (q:Ab (Nat × Bool)) (hm:P.follows .mixedOrders=true) (hB:softTPOk .any l.toArray q=true)
    (hQ:∀ c a d v w,Q (.panic c) (Act.put a d v) w->Q (.panic c) a w) (hS:S { w with drawn:=w.drawn + 1 })
    (h:∀ w',S w'->soft P l.toArray S Q 0 (jE l q++l.drop q.length) (q.map (·.2)) a w'):(Code.region id l.toArray true).wp P Q a w:=by
 simp only [softTPOk,Aa,Aj] at hB;have h:=h _ hS;unfold soft at h;have bn:l.toArray.size=l.length:=bJ6;have F:HeadInv .any l.toArray q.length (Az l.toArray.size false) :=
   ⟨by simp,λj oj _ hl=>rF,λt _ ht=>getD_in bG8 (getD_replicate_false _ _)⟩
 have H:=kLh (g:=l.toArray.size - q.length) hB.1 hQ hB.2.2.2.1 hB.2.2.2.2.1 hB.2.1 (by have:=hB.2.1;omega) q 0 _ a _ hB.2.2.1 F hB.2.2.2.2.2 hS h;refine wp_region_any hm ?_;have:=kCu (Q:=Q) (g:=l.toArray.size - q.length) (λlisted a' w' V=>by
   obtain ⟨hq,I,ho,G,hw⟩:=V;have:=wpAny_of_seq (md:=.any) (Q':=Q) I q.length listed a' w' ho (by rw [G];exact hq) hw;rwa [G] at this) _ _ _ _ H
 rw [show q.length + (l.toArray.size - q.length)=l.toArray.size by have:=hB.2.1;omega] at this;exact this
end
end Go.Proofs.YthocbplmdjkifabGreat
namespace Go.Proofs.YthocbplmdjkifabGreat
open Go.RowKit _root_.Go.Proofs.Tryz
variable {Q:Exit->Act->Ag->Prop} {k bytes b:Nat} {rest:Ab Al} {ops:Ah Al} {cs:Ab Ac} {a:Act} {P:Bd} {o:Al} {z:Ac} {u:Ag}
namespace kD
section
variable {α:Type} {r:kD α} {e:TypeId} {w:Ag} {a:Option Addr} {len cap:Nat} {xs:Ab α} {o:Bool} {S:Nat->Prop}
def jIg {cells:Ab Ac} {ys:Ab α} (h:row r o w cells ys S) (hk:k<=ys.length):∃ c d,cells=c++d/\c.length=k * r.n/\row r o w c (ys.take k) S/\row r o w d (ys.drop k) S:=by
 by_cases h1:k < ys.length
 · obtain ⟨p,c,q,A,B,C,rfl,hp,ra,rb,rc,hA,hB,hC,D⟩:=kWf h h1;refine ⟨p,c++q,rfl,hp,yx ra hA,?_⟩;rw [List.drop_eq_getElem_cons h1];exact ⟨c,q,B,C,rfl,rb,rc,hB,hC,λho k=>(D ho k).2.2⟩
 obtain rfl:k=ys.length:=bJ5;have:=zu h;exact ⟨cells,[],by simp,this,by simpa using h,by simp [row]⟩
def kDw (h:(slice e r).raw w [.slice a len cap] xs) (hk:k<=xs.length):(slice e r).raw w [.slice a k cap] (xs.take k):=by
 refine BF λh1 h3 h4 h2=>?_;clear h;refine ⟨a,k,cap,rfl,by simp;omega,by omega,h3,?_⟩;rcases h4 with ⟨rfl,_⟩|⟨b,off,ha,cur,e',fr,p,c,q,hb,hc,hp,hl,hf,hS,hx⟩;exact .inl ⟨by simp,by simp⟩;obtain ⟨c1,c2,rfl,ag,r1,r2⟩:=jIg hx hk;exact .inr ⟨b,off,ha,cur,e',fr,p,c1,c2++q,hb,by rw [hc];simp,hp,hl,by simp,hS,r1⟩
def kTu (h:(slice e r).rd w [.slice a len cap] xs) (hk:k<=xs.length):(slice e r).rd w [.slice a k cap] (xs.take k) :=
  ⟨kDw h.1 hk,by have:=h.2.1;simp;omega,λx hx=>h.2.2 x (List.mem_of_mem_take hx)⟩
def drop_raw {off:Nat} (h:(slice e r).raw w [.slice (some ⟨b,off,none⟩) len cap] xs) (hk:k<=xs.length):(slice e r).raw w [.slice (some ⟨b,off + k * r.n,none⟩) (len - k) (cap - k)] (xs.drop k):=by
 refine BF λh1 h3 h4 h2=>?_;clear h;refine ⟨_,_,_,rfl,by simp;omega,by omega,by omega,?_⟩;rcases h4 with ⟨rfl,_⟩|⟨b',off',ha,cur,e',fr,p,c,q,hb,hc,hp,hl,hf,hS,hx⟩;exact .inl ⟨by simp,by simp⟩;simp only [Ar,Addr.mk.injEq,and_true] at ha;obtain ⟨rfl,rfl⟩:=ha;obtain ⟨c1,c2,rfl,ag,r1,r2⟩:=jIg hx hk;refine .inr ⟨b,off + k * r.n,rfl,cur,e',fr,p++c1,c2,q,hb,by rw [hc];simp,by simp [hp,ag],?_,by simp,hS,r2⟩;have:k * r.n<=cap * r.n:=Nat.mul_le_mul_right _ bJ5;rw [Nat.sub_mul];omega
def void_raw {c:Nat} (hc:c<=maxLen):(slice e r).raw w [.slice a 0 c] []:=⟨_,_,_,rfl,rfl,Nat.zero_le _,hc,.inl ⟨rfl,by simp⟩⟩
def jr:(slice e r).own w [.slice a 0 0] [] S:=⟨⟨_,_,_,rfl,rfl,Nat.le_refl _,Nat.zero_le _,.inl ⟨rfl,λ_=>rfl⟩⟩,by simp [slice]⟩
def jIh (h:(slice e r).raw w [.slice a len cap] xs):∃ cells,Src w (.slice a len cap) xs.length cells/\row r false w cells xs (λ_=>True):=by
 refine BF λh1 h3 h4 h2=>?_;clear h;rcases h4 with ⟨rfl,_⟩|⟨b,off,ha,cur,e',fr,p,c,q,hb,hc,hp,hl,hf,hS,hx⟩
 · subst h1;exact ⟨[],.inl ⟨rfl,_,_,rfl⟩,rfl⟩
 subst ha h1;refine ⟨c,.inr ⟨_,_,rfl,?_⟩,yx hx (λ_ _=>trivial)⟩;intro j u J;have F:(⟨b,off,none⟩:Addr).add j=⟨b,off + j,none⟩:=sP;have aq:=(Ae.1 J).1;rw [F];simp only [World.cell?,hb,Option.isSome_none,Ap,if_false];rw [<- Array.getElem?_toList,hc,List.getElem?_append_right bJ5,List.getElem?_append_left bJ5];rw [<- J];congr 1;omega
end
end kD
namespace kD
variable {α:Type} {r:kD α} {e:TypeId} {w:Ag} {a:Option Addr} {len cap:Nat} {xs:Ab α}
def kBx (h:(slice e r).raw w [.slice a len cap] xs):xs.length<=cap/\cap<=9223372036854775807:=by
 refine BF λh1 h3 h4 h2=>?_;clear h;unfold maxLen at h3;exact ⟨by omega,by omega⟩
end kD
namespace kD
section
variable {α:Type} {r:kD α} {e:TypeId} {w w':Ag} {v:Ac} {xs ys:Ab α} {S T:Nat->Prop}
def kBd (D:o.guard=none) (s x:Operand) (t:TypeId)
    (ho:o.op=.call { callee:=.builtin .append,args:=#[s,x],argTypes:=#[t,t] })
    (ht:P.underlying t=some (.slice e)) (hinf:(P.info? e).map (λi=>(i.zero,i.size,i.bytes))=some (some z,r.n,bytes)) (hzs:z.cells.size=r.n) (hn:0 < r.n) (hby:bytes<=1000)
    (hown:ko e r w v xs S) (hs:a.eval s=v) (hx:a.eval x=.slice (Qa b) 1 1) (hb:b=w.heap.size) {y:α} (hy:r.own w cs y T)
    (hu:u=w.alloc (.cells cs.toArray e)) (hST:∀ k,S k->T k->False) (hlen:xs.length + 1<=1000000000)
    (h:∀ v' w',ko e r w' v' (xs++[y]) (λk=>S k\/T k\/(w.heap.size + 1<=k/\k < w'.heap.size))->Touch (λk=>some k=v.ownBlock/\S k) u w'->wpList P ops Q rest (a.put o.dst v') w'):wpList P ops Q (o :: rest) a u:=by
 subst hu hb;obtain ⟨i,hi,hz,hsize,E⟩:=info_parts hinf;have G:ko e r (w.alloc (.cells cs.toArray e)) v xs (λk=>S k/\k < w.heap.size):=(ko.alloc hown.live _);have H:=hy.live.alloc (.cells cs.toArray e)
 refine wpList_push D s x t ho (r:=r) (e:=e) ht hi hz hsize hzs hn bJ5 G hs hx (m:=1) (cells:=cs) (ys:=[y]) (T:=λk=>T k/\k < w.heap.size) (.inr ⟨_,1,rfl,?_⟩)
   ⟨cs,[],_,λ_=>False,by simp,H.1,rfl,λ_ h=>h,λ_ h=>h.elim,λ_ _ _ h=>h.elim⟩ rfl (λk h1 h2=>hST k h1.1 h2.1) (by simpa using hy.2) bF0 ?_
 · intro j c J;have F:(⟨w,0,none⟩:Addr).add j=⟨w,j,none⟩:=sP;rw [F];exact kE (heap_alloc_new w _) bH9
 intro v' w' h1 h2;refine h v' w' (h1.wide ?_) ⟨h2.os,h2.tape,h2.output,h2.size,λk hk q=>h2.block k hk (λa=>q ⟨a.1,a.2.1⟩)⟩;intro k hk;rcases hk with hk | hk | hk;exact .inl hk.1;exact .inr (.inl hk.1);exact .inr (.inr ⟨by simpa using hk.1,hk.2⟩)
def jN (D:o.guard=none) (s x:Operand) (t:TypeId)
    (ho:o.op=.call { callee:=.builtin .append,args:=#[s,x],argTypes:=#[t,t] })
    (ht:P.underlying t=some (.slice e)) (hinf:(P.info? e).map (λi=>(i.zero,i.size,i.bytes))=some (some z,r.n,bytes)) (hzs:z.cells.size=r.n) (hn:0 < r.n) (hby:bytes<=1000)
    {B:Nat} (hown:ko e r w v xs S) (hs:a.eval s=v) (hx:a.eval x=.slice (Qa b) 1 1) (hb:b=w.heap.size) {y:α} (hy:r.own w cs y T)
    (hu:u=w.alloc (.cells cs.toArray e)) (hST:∀ k,S k->T k->False) (hSB:∀ k,S k->B<=k/\k < w.heap.size) (hTB:∀ k,T k->B<=k/\k < w.heap.size) (hB:B<=w.heap.size) (hlen:xs.length + 1<=1000000000)
    (h:∀ v' w',ko e r w' v' (xs++[y]) (jW B w')->Below B w w'->w.heap.size < w'.heap.size->wpList P ops Q rest (a.put o.dst v') w'):wpList P ops Q (o :: rest) a u:=by
 refine kBd D s x t ho ht hinf hzs hn hby hown hs hx hb hy hu hST hlen ?_;intro v' w' h1 h2;subst hu;have bn:=h2.size;simp at bn;refine h v' w' (h1.wide ?_) ?_ bJ5
 · intro k hk;rcases hk with hk | hk | hk;have:=hSB k hk;exact ⟨this.1,by omega⟩;have:=hTB k hk;exact ⟨this.1,by omega⟩;exact ⟨by omega,hk.2⟩
 refine ((Below.refl B w).alloc hB _).trans (h2.below ?_ ?_);simp;omega;intro k hk;have:=hSB k hk.2;omega
end
end kD
end Go.Proofs.YthocbplmdjkifabGreat
namespace Go.Proofs.YthocbplmdjkifabGreat
open _root_.Go.Proofs.Tryz
def zk:(prog.info? 3).map (λi=>(i.zero,i.size,i.bytes))=some (some (.int .i64 0),1,8):=by kernel_rfl
def kEe:(prog.info? 9).map (λi=>(i.zero,i.size,i.bytes))=some (some (.string Ba),1,16):=by kernel_rfl
def kDm:(prog.info? 5).map (λi=>(i.zero,i.size,i.bytes))=some (some (.int .u8 0),1,1):=by kernel_rfl
def infName:(prog.info? 41).map (λi=>(i.zero,i.size,i.bytes))=some (some (.agg #[.slice none 0 0]),1,24):=by kernel_rfl
def zY:(prog.info? 142).map (λi=>(i.zero,i.size,i.bytes))=some (some (.agg #[.slice none 0 0,Qn 0,Qn 0]),3,40):=by kernel_rfl
def kIk:(prog.info? 139).map (λi=>(i.zero,i.size,i.bytes))=some (some (.agg #[.slice none 0 0,Qn 0,Qn 0]),3,40):=by kernel_rfl
def kAn:(prog.info? 83).map (λi=>(i.zero,i.size,i.bytes))=some (some (.agg #[Qn 0,Qn 0,Qn 0]),3,24):=by kernel_rfl
def jl:(prog.info? 106).map (λi=>(i.zero,i.size,i.bytes))=some (some (.agg #[.slice none 0 0,.slice none 0 0,Qn 0]),3,56):=by kernel_rfl
def kHd:(prog.info? 131).map (λi=>(i.zero,i.size,i.bytes))=some (some (.agg #[.slice none 0 0,Qn 0]),2,32):=by kernel_rfl
def kNq:(prog.info? 43).map (λi=>(i.zero,i.size,i.bytes))=some (some (.agg #[.slice none 0 0,.slice none 0 0,.slice none 0 0,Qn 0,Qn 0]),5,88):=by kernel_rfl
def zH:(prog.info? 135).map (λi=>(i.zero,i.size,i.bytes))=some (some (.agg #[.slice none 0 0,.slice none 0 0,.slice none 0 0,Qn 0,Qn 0,Qn 0]),6,96):=by kernel_rfl
def kKw:(prog.info? 70).map (λi=>(i.zero,i.size,i.bytes))=some (some (.agg #[Qn 0,.bool false,.slice none 0 0,Qn 0,Qn 0,Qn 0,.slice none 0 0,.slice none 0 0,.slice none 0 0,Qn 0,Qn 0]),11,152):=by kernel_rfl
def infRule:(prog.info? 244).map (λi=>(i.zero,i.size,i.bytes))=some (some (.agg #[.slice none 0 0,.slice none 0 0]),2,48):=by kernel_rfl
def kJx:(prog.info? 283).map (λi=>(i.zero,i.size,i.bytes))=some (some (.agg #[.string Ba,.string Ba]),2,32):=by kernel_rfl
end Go.Proofs.YthocbplmdjkifabGreat
namespace Go.Proofs.YthocbplmdjkifabGreat
open Go.RowKit _root_.Go.Proofs.Tryz
variable {w:Ag} {x:Ab Int} {n:Int}
def inR (n a b:Int):Bool:=decide (a<=n) && decide (n<=b)
def kFs (a b:Int):Int:=if a < b then -1 else if b < a then 1 else 0
def orI:Ab Int->Int
  | []=>0
  | a :: l=>if a=0 then orI l else a
def jIk {k:Nat} (h:k < x.length) (hx:x[k]≠0) (hno:∀ j,(h:j < k)->(h2:j < x.length)->x[j]=0):orI x=x[k]:=by
 induction x generalizing k with
 | nil=>simp at h
 | cons a l ih =>
   cases k with
   | zero=>simp at hx;simp [orI,hx]
   | succ k =>
     have h0:=hno 0 bJ5 bJ6;simp at h0;simp only [orI,h0,if_true,List.getElem_cons_succ];exact ih bH8 (by simpa using hx) (λj J h2=>hno (j + 1) bJ5 (by simp only [Bf];omega))
def orI_miss (hno:∀ j,(h2:j < x.length)->x[j]=0):orI x=0:=by
 induction x with
 | nil=>rfl
 | cons a l ih =>
   have h0:=hno 0 bJ6;simp at h0;simp only [orI,h0,if_true];exact ih (λj h2=>hno (j + 1) (by simp only [Bf];omega))
def yQ {a b:Int}:Ad prog 135 #[.int .i64 n,.int .i64 a,.int .i64 b] w λe w'=>e=.returned (.bool (inR n a b))/\w'=w:=by
 go_enter func135,ntmps135;by_cases h:n ≥ a
 · have hd:decide (n ≥ a)=true:=bH8;go_wp2;go_ret;exact ⟨kJ (by simp [inR,h]),rfl⟩
 have hd:decide (n ≥ a)=false:=bH8;go_wp2;go_ret;exact ⟨kJ (by simp [inR];omega),rfl⟩
def yP {a b:Int}:Ad prog 129 #[.int .i64 n,.int .i64 a,.int .i64 b] w λe w'=>e=.returned (.bool (inR n a b))/\w'=w:=by
 go_enter func129,ntmps129;by_cases h:a<=n
 · have hd:decide (a<=n)=true:=bH8;go_wp2;go_ret;exact ⟨kJ (by simp [inR,h]),rfl⟩
 have hd:decide (a<=n)=false:=bH8;go_wp2;go_ret;exact ⟨kJ (by simp [inR];omega),rfl⟩
def isNaN_c:Ad prog 245 #[.int .i64 n] w λe w'=>e=.returned (.bool false)/\w'=w:=by
 go_enter func245,ntmps245;go_wp2;go_ret;exact ⟨kJ bJ6,rfl⟩
def kVg {a b:Int}:Ad prog 190 #[.int .i64 a,.int .i64 b] w λe w'=>e=.returned (.int .i64 (kFs a b))/\w'=w:=by
 go_enter func190,ntmps190;go_wp2_with fail;refine isNaN_c.mono ?_;rintro e u ⟨rfl,rfl⟩;go_wp2_with fail;refine isNaN_c.mono ?_;rintro e u ⟨rfl,rfl⟩;by_cases h:a < b
 · go_wp2;go_ret;exact ⟨jS (by simp [kFs,h]),rfl⟩
 by_cases h2:a > b
 · go_wp2;go_ret;exact ⟨jS (by unfold kFs;rw [if_neg bJ5,if_pos bJ5]),rfl⟩
 go_wp2;go_ret;exact ⟨jS (by unfold kFs;rw [if_neg bJ5,if_neg bJ5]),rfl⟩
def cmpOr_c {va:Ac} (ha:Ck.raw w [va] x):Ad prog 189 #[va] w λe w'=>e=.returned (.int .i64 (orI x))/\w'=w:=by
 obtain ⟨aa,H,rfl,la⟩:=kD.sl ha;go_enter func189,ntmps189;go_wp2;go_loop [8] (λi=>∃ k:Nat,k<=x.length/\i=.int .i64 k/\(∀ j,(h:j < k)->(h2:j < x.length)->x[j]=0)) (λi=>x.length - (intOf i).toNat);case atStart=>exact ⟨0,Nat.zero_le _,rfl,λ_ h=>by omega⟩
 obtain ⟨k,hk,rfl,hno⟩:=hrel;have HN:=yD hno;clear hno;by_cases hlt:k < x.length
 · obtain ⟨ba,ah,rfl,c0,hr,A0⟩:=kD.kAu ha hlt rfl;have he:=kD.yX hr;simp only [List.cons.injEq,and_true] at he;obtain ⟨rfl,b1⟩:=he;clear hr b1;generalize hy:x[k]=y at *;have HY:=yD hy;clear hy;have D:y≠0->Hid (orI x=y):=λq=>yD ((jIk hlt (by rw [HY.out];exact q) HN.out).trans HY.out);have E:y=0->Hid (∀ j,(h:j < k + 1)->(h2:j < x.length)->x[j]=0):=λq=>yD (λj h h2=>by by_cases e:j=k;(subst e;rw [HY.out];exact q);exact HN.out j bJ5 h2);refine aN D E λHI HM=>?_;clear D E;by_cases h1:y=0
   · have L:=HM.out h1;clear HI HM;go_wp2;go_round;(case rel=>exact ⟨k + 1,by omega,by go_num,L.out⟩);(case measure=>simp [intOf];omega)
   have L:=HI.out h1;clear HI HM;go_wp2;exact FZ
 have L:=yD (orI_miss (λj h2=>HN.out j bJ5 h2));exact DT
end Go.Proofs.YthocbplmdjkifabGreat

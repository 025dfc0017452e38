/-
  Slices that are owned: at their block's head; append, make, a store into an element, a cell, a slice of a slice. No program in sight.
-/
import Derived.Test.YthocbplmdjkifaaGreatAli
set_option linter.unusedVariables false
set_option linter.defProp false
set_option linter.unusedSimpArgs false
set_option linter.unnecessarySimpa false
open _root_ renaming List->Aa,Option->Au,ByteArray->Bc
open Go renaming Value->Ab,TypeId->Ae,heap_alloc_old->Ah,World->Al,grownCap->Aw,setRow_other->Bi,maxLen->Bj,madeCells->Bl,Addr->Bn
open List renaming replicate->Ac,length_append->Ad,take_succ_eq_append_getElem->Aj,eq_nil_of_length_eq_zero->Am,getElem?_append_left->Aq,take_of_length_le->Ay,mem_append->Az,replicate_succ->Be,flatten_cons->Bg,size_toArray->Bh
open Array renaming getElem?_eq_some_iff->Ag
open ByteArray renaming empty->Ai,size_append->Bb,mk->Bf
open Go.Builtin renaming zeroCells->Ak,append_->Ba
open Go.Value renaming oneCell'->Ap
open UInt8 renaming ofNat->Ar
open Option renaming bind_eq_some_iff->Av
open Go.ByteArray renaming toList_eq->Bd
namespace Go.Proofs.YthocbplmdjkifaaGreat
open Go.RowKit
def Big:Nat:=16777216
def kIu:Nat->Nat->Bc->Bc
  | 0,_,s=>s
  | f + 1,n,s=>if n=0 then s else kIu f (n / 10) (Bf #[Ar (48 + n % 10)]++s)
def mt (k:Int):Bc:=if k<=0 then "m0".toUTF8 else "m".toUTF8++kIu 20 k.toNat Ai
def kNe:∀ f n s,(kIu f n s).size<=f + s.size
  | 0,_,s=>by simp [kIu]
  | f + 1,n,s=>by
    unfold kIu;split
    · omega
    · have:=kNe f (n / 10) (Bf #[Ar (48 + n % 10)]++s);have e:(Bf #[Ar (48 + n % 10)]++s).size=1 + s.size:=by simp [Bb];rfl
      omega
def size_mt (k:Int):(mt k).size<=32:=by
 unfold mt;split
 · decide
 have:=kNe 20 k.toNat Ai;have e:("m".toUTF8).size=1:=bF1;rw [Bb,e];have e2:Ai.size=0:=rfl;omega
def kSj (a b:Bc):(a.toList==b.toList)=decide (a=b):=by
 rw [Bd,Bd,Bool.eq_iff_iff];simp only [beq_iff_eq,decide_eq_true_eq];constructor
 · intro h;cases a;cases b;simp at h;simp [h]
 intro h;rw [h]
def u8_inj {a b:UInt8} (h:(a.toNat:Int)=b.toNat):a=b:=UInt8.toNat_inj.1 bF2
def jd {α:Type} {x y:Aa α} {k:Nat} (h:x.take k=y.take k) (hx:k < x.length) (hy:k < y.length) (e:x[k]=y[k]):x.take (k + 1)=y.take (k + 1):=by
 rw [Aj hx,Aj hy,h,e]
def yJ {α:Type} {x y:Aa α} {k:Nat} (h:x.take k=y.take k) (hx:¬ k < x.length) (hl:x.length=y.length):x=y:=by
 rwa [Ay bF2,Ay bF2] at h
def yS {α:Type} {x y:Aa α} {k:Nat} (hx:k < x.length) (hy:k < y.length) (e:x[k]≠y[k]):x≠y:=by
 rintro rfl;exact e rfl
def kJ {a b:Bool} (h:a=b):Ending.returned (.bool a)=.returned (.bool b):=by rw [h]
def jZ {k:IntKind} {a b:Int} (h:a=b):Ending.returned (.int k a)=.returned (.int k b):=by rw [h]
structure kD (α:Type) where
  n:Nat
  is:Bool->Al->Aa Ab->α->(Nat->Prop)->Prop
  bdd:Nat->α->Prop
  zero:α
  zc:Aa Ab
  mark:Bool->α->Int->α × Int
  held:Bool->α->Int->Au Int
  cnt:Nat
  len:∀ {o w cs x S},is o w cs x S->cs.length=n
  one:∀ {o w cs x S},is o w cs x S->∀ c∈cs,c.oneCell'=true
  mono:∀ {o w w' cs x} {S:Nat->Prop},is o w cs x S->(∀ k,S k->w'.heap[k]?=w.heap[k]?)->is o w' cs x S
  wide:∀ {o w cs x} {S T:Nat->Prop},is o w cs x S->(∀ k,S k->T k)->is o w cs x T
  weak:∀ {w cs x S},is true w cs x S->is false w cs x S
  live:∀ {o w cs x} {S:Nat->Prop},is o w cs x S->is o w cs x (λk=>S k/\k < w.heap.size)
  bdd_mono:∀ {A B x},bdd A x->A<=B->bdd B x
  bdd_zero:∀ {B},bdd B zero
  is_zero:∀ {o w S},is o w zc zero S
  mark_held:∀ {e x k},held e (mark e x k).1 k=some (mark e x k).2
  held_ge:∀ {e x k k'},held e x k=some k'->k<=k'
  mark_ge:∀ {e x k},k<=(mark e x k).2
  mark_le:∀ {e x k},bdd Big x->(mark e x k).2<=k + cnt
  mark_bdd:∀ {e x k B},bdd B x->32<=B->bdd B (mark e x k).1
namespace kD
def int:kD Int where
  n:=1
  is _ _ cs x _:=cs=[.int .i64 x]/\Qi x
  bdd _ _:=True
  zero:=0
  zc:=[.int .i64 0]
  mark e x k:=if e then (k,k + 1) else (x,k)
  held e x k:=if e then (if x=k then some (k + 1) else none) else some k
  cnt:=1
  len h:=by simp [h.1]
  one h:=by simp [h.1,Ap]
  mono h _:=h
  wide h _:=h
  weak h:=h
  live h:=h
  bdd_mono _ _:=trivial
  bdd_zero:=trivial
  is_zero:=by simp
  mark_held:=by intro e x k;cases e <;> simp
  held_ge:=by
    intro e x k k' h;cases e
    · simp at h;omega
    · simp only [if_true] at h;split at h
      · simp at h;omega
      · cases h
  mark_ge:=by intro e x k;cases e <;> simp;omega
  mark_le:=by intro e x k _;cases e <;> simp;omega
  mark_bdd _ _:=trivial
def byte:kD UInt8 where
  n:=1
  is _ _ cs x _:=cs=[.int .u8 x.toNat]
  bdd _ _:=True
  zero:=0
  zc:=[.int .u8 0]
  mark e x k:=if e then (Ar (k % 256).toNat,k + 1) else (x,k)
  held e x k:=if e then (if x=Ar (k % 256).toNat then some (k + 1) else none) else some k
  cnt:=1
  len h:=by simp [h]
  one h:=by simp [h,Ap]
  mono h _:=h
  wide h _:=h
  weak h:=h
  live h:=h
  bdd_mono _ _:=trivial
  bdd_zero:=trivial
  is_zero:=by simp
  mark_held:=by intro e x k;cases e <;> simp
  held_ge:=by
    intro e x k k' h;cases e
    · simp at h;omega
    · simp only [if_true] at h;split at h
      · simp at h;omega
      · cases h
  mark_ge:=by intro e x k;cases e <;> simp;omega
  mark_le:=by intro e x k _;cases e <;> simp;omega
  mark_bdd _ _:=trivial
def bool:kD Bool where
  n:=1
  is _ _ cs x _:=cs=[.bool x]
  bdd _ _:=True
  zero:=false
  zc:=[.bool false]
  mark e x k:=if e then (decide (k % 3=0),k + 1) else (x,k)
  held e x k:=if e then (if x=decide (k % 3=0) then some (k + 1) else none) else some k
  cnt:=1
  len h:=by simp [h]
  one h:=by simp [h,Ap]
  mono h _:=h
  wide h _:=h
  weak h:=h
  live h:=h
  bdd_mono _ _:=trivial
  bdd_zero:=trivial
  is_zero:=by simp
  mark_held:=by intro e x k;cases e <;> simp
  held_ge:=by
    intro e x k k' h;cases e
    · simp at h;omega
    · simp only [if_true] at h;split at h
      · simp at h;omega
      · cases h
  mark_ge:=by intro e x k;cases e <;> simp;omega
  mark_le:=by intro e x k _;cases e <;> simp;omega
  mark_bdd _ _:=trivial
def str:kD Bc where
  n:=1
  is _ _ cs x _:=cs=[.string x]/\x.size<=Bj
  bdd B x:=x.size<=B
  zero:=Ai
  zc:=[.string Ai]
  mark e x k:=if e then (mt k,k + 1) else (x,k)
  held e x k:=if e then (if x=mt k then some (k + 1) else none) else some k
  cnt:=1
  len h:=by simp [h.1]
  one h:=by simp [h.1,Ap]
  mono h _:=h
  wide h _:=h
  weak h:=h
  live h:=h
  bdd_mono:=by intro A B x h F;omega
  bdd_zero:=by intro B;exact Nat.zero_le _
  is_zero:=by intro o w S;exact ⟨rfl,Nat.zero_le _⟩
  mark_held:=by intro e x k;cases e <;> simp
  held_ge:=by
    intro e x k k' h;cases e
    · simp at h;omega
    · simp only [if_true] at h;split at h
      · simp at h;omega
      · cases h
  mark_ge:=by intro e x k;cases e <;> simp;omega
  mark_le:=by intro e x k _;cases e <;> simp;omega
  mark_bdd:=by
    intro e x k B h F;have:=size_mt k;cases e <;> simp <;> omega
def pair {α β:Type} (r:kD α) (s:kD β):kD (α × β) where
  n:=r.n + s.n
  is o w cs x S:=∃ c d A B,cs=c++d/\r.is o w c x.1 A/\s.is o w d x.2 B/\(∀ k,A k->S k)/\(∀ k,B k->S k)/\(o=true->∀ k,A k->B k->False)
  bdd B x:=r.bdd B x.1/\s.bdd B x.2
  zero:=(r.zero,s.zero)
  zc:=r.zc++s.zc
  mark e x k:=(((r.mark e x.1 k).1,(s.mark e x.2 (r.mark e x.1 k).2).1),(s.mark e x.2 (r.mark e x.1 k).2).2)
  held e x k:=(r.held e x.1 k).bind (s.held e x.2)
  cnt:=r.cnt + s.cnt
  len:=by
    rintro o w cs x S ⟨c,d,A,B,rfl,h1,h2,_⟩;simp [r.len h1,s.len h2]
  one:=by
    rintro o w cs x S ⟨c,d,A,B,rfl,h1,h2,_⟩ v hv;rcases Az.1 hv with h | h
    · exact r.one h1 v h
    · exact s.one h2 v h
  mono:=by
    rintro o w w' cs x S ⟨c,d,A,B,rfl,h1,h2,hA,hB,hd⟩ h;exact ⟨c,d,A,B,rfl,r.mono h1 (λk hk=>h k (hA k hk)),s.mono h2 (λk hk=>h k (hB k hk)),hA,hB,hd⟩
  wide:=by
    rintro o w cs x S T ⟨c,d,A,B,rfl,h1,h2,hA,hB,hd⟩ h;exact ⟨c,d,A,B,rfl,h1,h2,λk hk=>h k (hA k hk),λk hk=>h k (hB k hk),hd⟩
  weak:=by
    rintro w cs x S ⟨c,d,A,B,rfl,h1,h2,hA,hB,hd⟩;exact ⟨c,d,A,B,rfl,r.weak h1,s.weak h2,hA,hB,by simp⟩
  live:=by
    rintro o w cs x S ⟨c,d,A,B,rfl,h1,h2,hA,hB,hd⟩;exact ⟨c,d,_,_,rfl,r.live h1,s.live h2,λk hk=>⟨hA k hk.1,hk.2⟩,λk hk=>⟨hB k hk.1,hk.2⟩,λho k h F=>hd ho k h.1 F.1⟩
  bdd_mono h F:=⟨r.bdd_mono h.1 F,s.bdd_mono h.2 F⟩
  bdd_zero:=⟨r.bdd_zero,s.bdd_zero⟩
  is_zero:=by
    intro o w S;exact ⟨r.zc,s.zc,λ_=>False,λ_=>False,rfl,r.is_zero,s.is_zero,λ_ h=>h.elim,λ_ h=>h.elim,λ_ _ h=>h.elim⟩
  mark_held:=by intro e x k;simp [r.mark_held,s.mark_held]
  held_ge:=by
    intro e x k k' h;obtain ⟨k1,h1,h2⟩:=Av.1 h;have:=r.held_ge h1;have:=s.held_ge h2;omega
  mark_ge:=by
    intro e x k;have h1:=r.mark_ge (e:=e) (x:=x.1) (k:=k);have h2:=s.mark_ge (e:=e) (x:=x.2) (k:=(r.mark e x.1 k).2);simp only;omega
  mark_le:=by
    intro e x k h;have h1:=r.mark_le (e:=e) (k:=k) h.1;have h2:=s.mark_le (e:=e) (k:=(r.mark e x.1 k).2) h.2;simp only;omega
  mark_bdd h F:=⟨r.mark_bdd h.1 F,s.mark_bdd h.2 F⟩
def mkL {α:Type} (r:kD α):Aa α->Int->Aa α × Int
  | [],k=>([],k)
  | x :: xs,k=>((r.mark true x k).1 :: (mkL r xs (r.mark true x k).2).1,(mkL r xs (r.mark true x k).2).2)
def hdL {α:Type} (r:kD α):Aa α->Int->Au Int
  | [],k=>some k
  | x :: xs,k=>(r.held true x k).bind (hdL r xs)
section
variable {α:Type} {r:kD α}
def mkL_hd:∀ (xs:Aa α) (k:Int),hdL r (mkL r xs k).1 k=some (mkL r xs k).2
  | [],_=>rfl
  | x :: xs,k=>by simp [mkL,hdL,r.mark_held,mkL_hd xs]
def hdL_ge:∀ (xs:Aa α) (k k':Int),hdL r xs k=some k'->k<=k'
  | [],k,k',h=>by simp [hdL] at h;omega
  | x :: xs,k,k',h=>by
    obtain ⟨k1,h1,h2⟩:=Av.1 h;have:=r.held_ge h1;have:=hdL_ge xs k1 k' h2;omega
def mkL_ge:∀ (xs:Aa α) (k:Int),k<=(mkL r xs k).2
  | [],_=>by simp [mkL]
  | x :: xs,k=>by
    have h1:=r.mark_ge (e:=true) (x:=x) (k:=k);have h2:=mkL_ge xs (r.mark true x k).2;simp only [mkL];omega
def mkL_le:∀ (xs:Aa α) (k:Int),(∀ x∈xs,r.bdd Big x)->(mkL r xs k).2<=k + (xs.length * r.cnt:Nat)
  | [],_,_=>by simp [mkL]
  | x :: xs,k,h=>by
    have h1:=r.mark_le (e:=true) (k:=k) (h x bF3);have h2:=mkL_le xs (r.mark true x k).2 vJ;simp only [mkL,List.length_cons,Nat.add_mul,Nat.one_mul];omega
def mkL_bdd {B:Nat} (hB:32<=B):∀ (xs:Aa α) (k:Int),(∀ x∈xs,r.bdd B x)->∀ x∈(mkL r xs k).1,r.bdd B x
  | [],_,_=>by simp [mkL]
  | x :: xs,k,h=>by
    intro y hy;simp only [mkL,List.mem_cons] at hy;rcases hy with rfl | hy
    · exact r.mark_bdd (h x bF3) hB
    · exact mkL_bdd hB xs _ (λz hz=>h z (by simp [hz])) y hy
def jAn:∀ (xs:Aa α) (k:Int),(mkL r xs k).1.length=xs.length
  | [],_=>rfl
  | x :: xs,k=>by simp [mkL,jAn xs]
end
def row {α:Type} (r:kD α) (o:Bool) (w:Al):Aa Ab->Aa α->(Nat->Prop)->Prop
  | cells,[],_=>cells=[]
  | cells,y :: ys,S=>∃ c d A B,cells=c++d/\r.is o w c y A/\row r o w d ys B/\(∀ k,A k->S k)/\(∀ k,B k->S k)/\(o=true->∀ k,A k->B k->False)
section
variable {α:Type} {r:kD α} {o:Bool} {w w':Al}
def zR:∀ {cells:Aa Ab} {ys:Aa α} {S:Nat->Prop},row r o w cells ys S->cells.length=ys.length * r.n
  | _,[],_,h=>by simp [show _=[] from h]
  | _,y :: ys,_,⟨c,d,A,B,h,h1,h2,_⟩=>by
    subst h;have:=zR h2;simp [r.len h1,this,Nat.add_mul];omega
def row_one:∀ {cells:Aa Ab} {ys:Aa α} {S:Nat->Prop},row r o w cells ys S->∀ c∈cells,c.oneCell'=true
  | _,[],_,h,c,hc=>by simp [show _=[] from h] at hc
  | _,y :: ys,_,⟨c,d,A,B,h,h1,h2,_⟩,v,hv=>by
    subst h;rcases Az.1 hv with h | h
    · exact r.one h1 v h
    · exact row_one h2 v h
def yV:∀ {cells:Aa Ab} {ys:Aa α} {S:Nat->Prop},row r o w cells ys S->(∀ k,S k->w'.heap[k]?=w.heap[k]?)->row r o w' cells ys S
  | _,[],_,h,_=>h
  | _,y :: ys,_,⟨c,d,A,B,h,h1,h2,hA,hB,hd⟩,e=>⟨c,d,A,B,h,r.mono h1 (λk hk=>e k (hA k hk)),yV h2 (λk hk=>e k (hB k hk)),hA,hB,hd⟩
def yU:∀ {cells:Aa Ab} {ys:Aa α} {S T:Nat->Prop},row r o w cells ys S->(∀ k,S k->T k)->row r o w cells ys T
  | _,[],_,_,h,_=>h
  | _,y :: ys,_,_,⟨c,d,A,B,h,h1,h2,hA,hB,hd⟩,e=>⟨c,d,A,B,h,h1,h2,λk hk=>e k (hA k hk),λk hk=>e k (hB k hk),hd⟩
def kOc:∀ {cells:Aa Ab} {ys:Aa α} {S:Nat->Prop},row r true w cells ys S->row r false w cells ys S
  | _,[],_,h=>h
  | _,y :: ys,_,⟨c,d,A,B,h,h1,h2,hA,hB,hd⟩=>⟨c,d,A,B,h,r.weak h1,kOc h2,hA,hB,by simp⟩
def zl:∀ {cells:Aa Ab} {ys:Aa α} {S:Nat->Prop},row r o w cells ys S->row r o w cells ys (λk=>S k/\k < w.heap.size)
  | _,[],_,h=>h
  | _,y :: ys,_,⟨c,d,A,B,h,h1,h2,hA,hB,hd⟩ =>
    ⟨c,d,_,_,h,r.live h1,zl h2,λk hk=>⟨hA k hk.1,hk.2⟩,λk hk=>⟨hB k hk.1,hk.2⟩,λho k h F=>hd ho k h.1 F.1⟩
def kAh:∀ {c d:Aa Ab} {xs ys:Aa α} {S A B:Nat->Prop},row r o w c xs A->row r o w d ys B->(∀ k,A k->S k)->(∀ k,B k->S k)->(o=true->∀ k,A k->B k->False)->row r o w (c++d) (xs++ys) S
  | _,_,[],_,_,_,_,h,h2,hA,hB,hd=>by subst h;exact yU h2 hB
  | _,d,x :: xs,ys,S,A,B,⟨c1,c2,A1,A2,h,h1,h3,hA1,hA2,hd1⟩,h2,hA,hB,hd=>by
    subst h;refine ⟨c1,c2++d,A1,λk=>A2 k\/B k,by simp,h1,kAh h3 h2 (λk=>.inl) (λk=>.inr) (λho k ha hb=>hd ho k (hA2 k ha) hb),λk hk=>hA k (hA1 k hk),?_,?_⟩
    · rintro k (hk | hk)
      · exact hA k (hA2 k hk)
      · exact hB k hk
    · rintro ho k ha (hk | hk)
      · exact hd1 ho k ha hk
      · exact hd ho k (hA1 k ha) hk
def kDh {c:Aa Ab} {x:α} {S:Nat->Prop} (h:r.is o w c x S):row r o w c [x] S :=
  ⟨c,[],S,λ_=>False,by simp,h,rfl,λ_ h=>h,λ_ h=>h.elim,λ_ _ _ h=>h⟩
def kHz:∀ {cells:Aa Ab} (xs:Aa α) {ys:Aa α} {S:Nat->Prop},row r o w cells (xs++ys) S ->
    ∃ c d A B,cells=c++d/\row r o w c xs A/\row r o w d ys B/\(∀ k,A k->S k)/\(∀ k,B k->S k)/\(o=true->∀ k,A k->B k->False)
  | cells,[],ys,S,h=>⟨[],cells,λ_=>False,S,rfl,rfl,h,λ_ h=>h.elim,λ_ h=>h,λ_ _ h=>h.elim⟩
  | _,x :: xs,ys,S,⟨c1,c2,A1,A2,h,h1,h3,hA1,hA2,hd1⟩=>by
    subst h;obtain ⟨c,d,A,B,rfl,h4,h5,hA,hB,hd⟩:=kHz xs h3;refine ⟨c1++c,d,λk=>A1 k\/A k,B,by simp,⟨c1,c,A1,A,rfl,h1,h4,λk=>.inl,λk=>.inr,λho k ha hb=>hd1 ho k ha (hA k hb)⟩,h5,?_,λk hk=>hA2 k (hB k hk),?_⟩
    · rintro k (hk | hk)
      · exact hA1 k hk
      · exact hA2 k (hA k hk)
    · rintro ho k (hk | hk) hb
      · exact hd1 ho k hk (hB k hb)
      · exact hd ho k hk hb
def kRt {cells:Aa Ab} {xs:Aa α} {S:Nat->Prop} (h:row r o w cells xs S) {i:Nat} (hi:i < xs.length) :
    ∃ p c q A B C,cells=p++(c++q)/\p.length=i * r.n/\row r o w p (xs.take i) A/\r.is o w c xs[i] B/\row r o w q (xs.drop (i + 1)) C /\
      (∀ k,A k->S k)/\(∀ k,B k->S k)/\(∀ k,C k->S k)/\(o=true->∀ k,(A k->B k->False)/\(A k->C k->False)/\(B k->C k->False)):=by
 have e:xs=xs.take i++(xs[i] :: xs.drop (i + 1)):=bF3
 rw [e] at h
 obtain ⟨p,d,A,D,rfl,h1,⟨c,q,B,C,rfl,h2,h3,hB,hC,X⟩,hA,hD,hd⟩:=kHz _ h
 have hl:=zR h1
 rw [List.length_take,Nat.min_eq_left bF2] at hl
 exact ⟨p,c,q,A,B,C,rfl,hl,h1,h2,h3,hA,λk hk=>hD k (hB k hk),λk hk=>hD k (hC k hk),
   λho k=>⟨λa b=>hd ho k a (hB k b),λa c=>hd ho k a (hC k c),λb c=>X ho k b c⟩⟩
def kYe {p c q:Aa Ab} {xs:Aa α} {y:α} {S A B C:Nat->Prop} {i:Nat} (hi:i < xs.length) (h1:row r o w p (xs.take i) A) (h2:r.is o w c y B) (h3:row r o w q (xs.drop (i + 1)) C)
    (hA:∀ k,A k->S k) (hB:∀ k,B k->S k) (hC:∀ k,C k->S k) (hd:o=true->∀ k,(A k->B k->False)/\(A k->C k->False)/\(B k->C k->False)):row r o w (p++(c++q)) (xs.set i y) S:=by
 rw [List.set_eq_take_append_cons_drop,if_pos hi]
 exact kAh h1 (show row r o w (c++q) (y :: xs.drop (i + 1)) (λk=>B k\/C k) from ⟨c,q,B,C,rfl,h2,h3,λk=>.inl,λk=>.inr,λho k a b=>(hd ho k).2.2 a b⟩) hA
   (λk hk=>hk.elim (hB k) (hC k)) (λho k ha hk=>hk.elim ((hd ho k).1 ha) ((hd ho k).2.1 ha))
end
def sliceAt {α:Type} (e:Ae) (r:kD α) (o:Bool) (w:Al) (b off cap:Nat) (xs:Aa α) (S:Nat->Prop):Prop :=
  ∃ (cur:Array Ab) (e':Ae) (fr:Nat × Nat) (hd cs tl:Aa Ab),w.heap[b]?=some (.cells cur e' fr)/\cur.toList=hd++(cs++tl)/\hd.length=off/\off + cap * r.n<=cur.size/\(o=true->e'=e/\fr=(0,0))/\S b /\
    row r o w cs xs (λk=>S k/\(o=true->k≠b))
def slice {α:Type} (e:Ae) (r:kD α):kD (Aa α) where
  n:=1
  is o w cs xs S:=∃ a len cap,cs=[.slice a len cap]/\len=xs.length/\len<=cap/\cap<=Bj /\
    ((xs=[]/\(o=true->cap=0))\/∃ b off,a=some ⟨b,off,none⟩/\sliceAt e r o w b off cap xs S)
  bdd B xs:=xs.length<=B/\∀ x∈xs,r.bdd B x
  zero:=[]
  zc:=[.slice none 0 0]
  mark _ xs k:=mkL r xs k
  held _ xs k:=hdL r xs k
  cnt:=Big * r.cnt
  len:=by rintro o w cs xs S ⟨a,len,cap,rfl,_⟩;rfl
  one:=by rintro o w cs xs S ⟨a,len,cap,rfl,_⟩ c hc;simp at hc;subst hc;rfl
  mono:=by
    rintro o w w' cs xs S ⟨a,len,cap,rfl,h1,h2,h3,h4⟩ h;refine ⟨a,len,cap,rfl,h1,h2,h3,?_⟩;rcases h4 with h4|⟨b,off,ha,cur,e',fr,p,c,q,hb,hc,hp,hl,hf,hS,hx⟩
    · exact .inl h4
    · exact .inr ⟨b,off,ha,cur,e',fr,p,c,q,(h b hS).trans hb,hc,hp,hl,hf,hS,yV hx (λk hk=>h k hk.1)⟩
  wide:=by
    rintro o w cs xs S T ⟨a,len,cap,rfl,h1,h2,h3,h4⟩ h;refine ⟨a,len,cap,rfl,h1,h2,h3,?_⟩;rcases h4 with h4|⟨b,off,ha,cur,e',fr,p,c,q,hb,hc,hp,hl,hf,hS,hx⟩
    · exact .inl h4
    · exact .inr ⟨b,off,ha,cur,e',fr,p,c,q,hb,hc,hp,hl,hf,h b hS,yU hx (λk hk=>⟨h k hk.1,hk.2⟩)⟩
  weak:=by
    rintro w cs xs S ⟨a,len,cap,rfl,h1,h2,h3,h4⟩;refine ⟨a,len,cap,rfl,h1,h2,h3,?_⟩;rcases h4 with h4|⟨b,off,ha,cur,e',fr,p,c,q,hb,hc,hp,hl,hf,hS,hx⟩
    · exact .inl ⟨h4.1,by simp⟩
    · exact .inr ⟨b,off,ha,cur,e',fr,p,c,q,hb,hc,hp,hl,by simp,hS,yU (kOc hx) (λk hk=>⟨hk.1,by simp⟩)⟩
  live:=by
    rintro o w cs xs S ⟨a,len,cap,rfl,h1,h2,h3,h4⟩;refine ⟨a,len,cap,rfl,h1,h2,h3,?_⟩;rcases h4 with h4|⟨b,off,ha,cur,e',fr,p,c,q,hb,hc,hp,hl,hf,hS,hx⟩
    · exact .inl h4
    · exact .inr ⟨b,off,ha,cur,e',fr,p,c,q,hb,hc,hp,hl,hf,⟨hS,(Ag.1 hb).1⟩,yU (zl hx) (λk hk=>⟨⟨hk.1.1,hk.2⟩,hk.1.2⟩)⟩
  bdd_mono h F:=⟨by omega,λx hx=>r.bdd_mono (h.2 x hx) F⟩
  bdd_zero:=⟨Nat.zero_le _,by simp⟩
  is_zero:=by intro o w S;exact ⟨none,0,0,rfl,rfl,Nat.le_refl _,Nat.zero_le _,.inl ⟨rfl,λ_=>rfl⟩⟩
  mark_held:=by intro e x k;exact mkL_hd x k
  held_ge:=by intro e x k k' h;exact hdL_ge x k k' h
  mark_ge:=by intro e x k;exact mkL_ge x k
  mark_le:=by
    intro e x k h;have h1:=mkL_le (r:=r) x k h.2;have h2:x.length * r.cnt<=Big * r.cnt:=Nat.mul_le_mul_right _ h.1;omega
  mark_bdd:=by
    intro e x k B h F;exact ⟨by rw [jAn];exact h.1,mkL_bdd F x k h.2⟩
section
variable {α β:Type} {r:kD α} {w w':Al} {cs:Aa Ab} {x:α}
def raw (r:kD α) (w:Al) (cs:Aa Ab) (x:α):Prop:=r.is false w cs x (λ_=>True)
def rd (r:kD α) (w:Al) (cs:Aa Ab) (x:α):Prop:=r.raw w cs x/\r.bdd Big x
def own (r:kD α) (w:Al) (cs:Aa Ab) (x:α) (S:Nat->Prop):Prop:=r.is true w cs x S/\r.bdd Big x
end
end kD
def jg (lo hi:Nat):Nat->Prop:=λk=>lo<=k/\k < hi
def jg.mem {lo hi k:Nat}:jg lo hi k↔lo<=k/\k < hi:=Iff.rfl
structure Touch (S:Nat->Prop) (w w':Al):Prop where
  os:w'.os=w.os
  tape:w'.tape=w.tape
  output:w'.output=w.output
  size:w.heap.size<=w'.heap.size
  block:∀ k,k < w.heap.size->¬ S k->w'.heap[k]?=w.heap[k]?
namespace Touch
variable {S T:Nat->Prop} {a b c:Al}
def refl (S:Nat->Prop) (w:Al):Touch S w w:=⟨rfl,rfl,rfl,Nat.le_refl _,λ_ _ _=>rfl⟩
def trans (h:Touch S a b) (k:Touch S b c):Touch S a c :=
  ⟨k.os.trans h.os,k.tape.trans h.tape,k.output.trans h.output,Nat.le_trans h.size k.size,λi hi hs=>(k.block i (Nat.lt_of_lt_of_le hi h.size) hs).trans (h.block i hi hs)⟩
def wide (h:Touch S a b) (k:∀ i,S i->T i):Touch T a b:=⟨h.os,h.tape,h.output,h.size,λi hi hs=>h.block i hi (λq=>hs (k i q))⟩
def below (h:Touch S a b) {B:Nat} (hB:B<=a.heap.size) (k:∀ i,S i->B<=i):Below B a b :=
  ⟨h.os,h.tape,h.output,h.size,λi hi=>h.block i bF2 (λq=>by have:=k i q;omega)⟩
def of_below (h:Qb a b):Touch S a b:=⟨h.os,h.tape,h.output,h.size,λi hi _=>h.block i hi⟩
end Touch
namespace kD
section
variable {α β:Type} {r:kD α} {w w':Al} {cs:Aa Ab} {x:α} {S T:Nat->Prop}
def raw.below (h:r.raw w cs x) (e:Qb w w'):r.raw w' cs x :=
  r.wide (r.mono (r.live h) (λk hk=>e.block k hk.2)) (λ_ _=>trivial)
def rd.below (h:r.rd w cs x) (e:Qb w w'):r.rd w' cs x:=⟨h.1.below e,h.2⟩
def zt (w:Al) (o:Obj):Below w w (w.alloc o):=bR.alloc nL _
def kSi (w:Al):Below w w w.drew:=bR.drew
def raw.alloc (h:r.raw w cs x) (o:Obj):r.raw (w.alloc o) cs x:=h.below (zt w o)
def rd.alloc (h:r.rd w cs x) (o:Obj):r.rd (w.alloc o) cs x:=⟨h.1.alloc o,h.2⟩
def raw.drew (h:r.raw w cs x):r.raw w.drew cs x:=h.below (kSi w)
def rd.drew (h:r.rd w cs x):r.rd w.drew cs x:=⟨h.1.drew,h.2⟩
def own.rd (h:r.own w cs x S):r.rd w cs x:=⟨r.wide (r.weak h.1) (λ_ _=>trivial),h.2⟩
def own.raw (h:r.own w cs x S):r.raw w cs x:=h.rd.1
def own.keep (h:r.own w cs x S) (e:∀ k,S k->k < w.heap.size->w'.heap[k]?=w.heap[k]?):r.own w' cs x S :=
  ⟨r.wide (r.mono (r.live h.1) (λk hk=>e k hk.1 hk.2)) (λ_ hk=>hk.1),h.2⟩
def own.below (h:r.own w cs x S) (e:Qb w w'):r.own w' cs x S:=h.keep (λk _ hk=>e.block k hk)
def own.touch (h:r.own w cs x S) (e:Touch T w w') (hd:∀ k,S k->¬ T k):r.own w' cs x S:=h.keep (λk hk hl=>e.block k hl (hd k hk))
def own.wide (h:r.own w cs x S) (h1:∀ k,S k->T k):r.own w cs x T:=⟨r.wide h.1 h1,h.2⟩
def own.live (h:r.own w cs x S):r.own w cs x (λk=>S k/\k < w.heap.size):=⟨r.live h.1,h.2⟩
def kFq {e:Ae} {a:Au Bn} {len cap:Nat} {xs:Aa α} (h:(slice e r).raw w [.slice a len cap] xs) {i:Nat} (hi:i < xs.length) :
    ∃ b off,a=some ⟨b,off,none⟩/\∃ cs,r.raw w cs xs[i]/\∀ j c,cs[j]?=some c->w.cell? ⟨b,off + i * r.n + j,none⟩=some c:=by
 obtain ⟨a',E,cap',h0,h1,h2,h3,h4⟩:=h
 simp only [List.cons.injEq,Value.slice.injEq,and_true] at h0
 obtain ⟨rfl,rfl,rfl⟩:=h0
 rcases h4 with ⟨rfl,_⟩|⟨b,off,ha,cur,e',fr,p,c,q,hb,hc,hp,hl,hf,hS,hx⟩
 · simp at hi
 obtain ⟨D,c',F,A,B,C,rfl,o,_,hr,_⟩:=kRt hx hi
 refine ⟨b,off,ha,c',r.wide hr (λ_ _=>trivial),?_⟩
 exact aH
def kAw {e:Ae} {xs:Aa α} (h:(slice e r).raw w cs xs):∃ a cap,cs=[.slice a xs.length cap]/\xs.length<=9223372036854775807:=by
 obtain ⟨a,len,cap,rfl,rfl,h2,h3,_⟩:=h;unfold Bj at h3;exact ⟨a,cap,rfl,by omega⟩
def sl {e:Ae} {xs:Aa α} {v:Ab} (h:(slice e r).raw w [v] xs):∃ a cap,v=.slice a xs.length cap/\xs.length<=9223372036854775807:=by
 obtain ⟨a,c,h1,h2⟩:=kAw h;exact ⟨a,c,by simpa using h1,h2⟩
def sx {e:Ae} {xs:Aa α} {v:Ab} {q:Prop} (h:(slice e r).raw w [v] xs) (k:q):∃ a cap,v=.slice a xs.length cap/\xs.length<=9223372036854775807/\q:=by
 obtain ⟨a,c,e,l⟩:=sl h;exact ⟨a,c,e,l,k⟩
def yx {e:Ae} {xs:Aa α} (h:(slice e r).rd w cs xs) {i:Nat} (hi:i < xs.length):r.bdd Big xs[i]:=h.2.2 _ (List.getElem_mem hi)
def kCk {e:Ae} {a:Au Bn} {len cap:Nat} {xs:Aa α} (h:(slice e r).raw w [.slice a len cap] xs) {i:Nat} (hi:i < xs.length) (hn:r.n=1) :
    ∃ b off,a=some ⟨b,off,none⟩/\∃ c0,r.raw w [c0] xs[i]/\Qc w b (off + i) c0:=by
 obtain ⟨b,off,ha,cs,hr,hc⟩:=kFq h hi
 have hl:=r.len hr
 rw [hn] at hl hc
 match cs,hl with
 | [c0],_=>exact ⟨b,off,ha,c0,hr,by simpa using hc 0 c0 rfl⟩
def get2 {e:Ae} {a:Au Bn} {len cap:Nat} {xs:Aa α} (h:(slice e r).raw w [.slice a len cap] xs) {i:Nat} (hi:i < xs.length) (hn:r.n=2) :
    ∃ b off,a=some ⟨b,off,none⟩/\∃ c0 c1,r.raw w [c0,c1] xs[i]/\Qc w b (off + i * 2) c0/\Qc w b (off + i * 2 + 1) c1:=by
 obtain ⟨b,off,ha,cs,hr,hc⟩:=kFq h hi
 have hl:=r.len hr
 rw [hn] at hl hc
 match cs,hl with
 | [c0,c1],_=>exact ⟨b,off,ha,c0,c1,hr,by simpa using hc 0 c0 rfl,by simpa using hc 1 c1 rfl⟩
def zL {e:Ae} {a:Au Bn} {len cap:Nat} {xs:Aa α} (h:(slice e r).raw w [.slice a len cap] xs) {i:Nat} (hi:i < xs.length) (hn:r.n=3) :
    ∃ b off,a=some ⟨b,off,none⟩/\∃ c0 c1 c2,r.raw w [c0,c1,c2] xs[i]/\Qc w b (off + i * 3) c0/\Qc w b (off + i * 3 + 1) c1/\Qc w b (off + i * 3 + 2) c2:=by
 obtain ⟨b,off,ha,cs,hr,hc⟩:=kFq h hi
 have hl:=r.len hr
 rw [hn] at hl hc
 match cs,hl with
 | [c0,c1,c2],_=>exact ⟨b,off,ha,c0,c1,c2,hr,by simpa using hc 0 c0 rfl,by simpa using hc 1 c1 rfl,by simpa using hc 2 c2 rfl⟩
def kTr {e:Ae} {a:Au Bn} {len cap:Nat} {xs:Aa α} (h:(slice e r).raw w [.slice a len cap] xs) {i:Nat} (hi:i < xs.length) (hn:r.n=5) :
    ∃ b off,a=some ⟨b,off,none⟩/\∃ c0 c1 c2 c3 c4,r.raw w [c0,c1,c2,c3,c4] xs[i]/\Qc w b (off + i * 5) c0/\Qc w b (off + i * 5 + 1) c1/\Qc w b (off + i * 5 + 2) c2/\Qc w b (off + i * 5 + 3) c3/\Qc w b (off + i * 5 + 4) c4:=by
 obtain ⟨b,off,ha,cs,hr,hc⟩:=kFq h hi
 have hl:=r.len hr
 rw [hn] at hl hc
 match cs,hl with
 | [c0,c1,c2,c3,c4],_=>exact ⟨b,off,ha,c0,c1,c2,c3,c4,hr,by simpa using hc 0 c0 rfl,by simpa using hc 1 c1 rfl,by simpa using hc 2 c2 rfl,by simpa using hc 3 c3 rfl,by simpa using hc 4 c4 rfl⟩
def kOr {e:Ae} {a:Au Bn} {len cap:Nat} {xs:Aa α} (h:(slice e r).raw w [.slice a len cap] xs) {i:Nat} (hi:i < xs.length) (hn:r.n=6) :
    ∃ b off,a=some ⟨b,off,none⟩/\∃ c0 c1 c2 c3 c4 c5,r.raw w [c0,c1,c2,c3,c4,c5] xs[i]/\Qc w b (off + i * 6) c0/\Qc w b (off + i * 6 + 1) c1/\Qc w b (off + i * 6 + 2) c2/\Qc w b (off + i * 6 + 3) c3/\Qc w b (off + i * 6 + 4) c4/\Qc w b (off + i * 6 + 5) c5:=by
 obtain ⟨b,off,ha,cs,hr,hc⟩:=kFq h hi
 have hl:=r.len hr
 rw [hn] at hl hc
 match cs,hl with
 | [c0,c1,c2,c3,c4,c5],_=>exact ⟨b,off,ha,c0,c1,c2,c3,c4,c5,hr,by simpa using hc 0 c0 rfl,by simpa using hc 1 c1 rfl,by simpa using hc 2 c2 rfl,by simpa using hc 3 c3 rfl,by simpa using hc 4 c4 rfl,by simpa using hc 5 c5 rfl⟩
def kWw {e:Ae} {a:Au Bn} {len cap:Nat} {xs:Aa α} (h:(slice e r).raw w [.slice a len cap] xs) {i:Nat} (hi:i < xs.length) (hn:r.n=11) :
    ∃ b off,a=some ⟨b,off,none⟩/\∃ c0 c1 c2 c3 c4 c5 N o E c9 D,r.raw w [c0,c1,c2,c3,c4,c5,N,o,E,c9,D] xs[i]/\Qc w b (off + i * 11) c0/\Qc w b (off + i * 11 + 1) c1/\Qc w b (off + i * 11 + 2) c2/\Qc w b (off + i * 11 + 3) c3/\Qc w b (off + i * 11 + 4) c4/\Qc w b (off + i * 11 + 5) c5/\Qc w b (off + i * 11 + 6) N/\Qc w b (off + i * 11 + 7) o/\Qc w b (off + i * 11 + 8) E/\Qc w b (off + i * 11 + 9) c9/\Qc w b (off + i * 11 + 10) D:=by
 obtain ⟨b,off,ha,cs,hr,hc⟩:=kFq h hi
 have hl:=r.len hr
 rw [hn] at hl hc
 match cs,hl with
 | [c0,c1,c2,c3,c4,c5,N,o,E,c9,D],_=>exact ⟨b,off,ha,c0,c1,c2,c3,c4,c5,N,o,E,c9,D,hr,by simpa using hc 0 c0 rfl,by simpa using hc 1 c1 rfl,by simpa using hc 2 c2 rfl,by simpa using hc 3 c3 rfl,by simpa using hc 4 c4 rfl,by simpa using hc 5 c5 rfl,by simpa using hc 6 N rfl,by simpa using hc 7 o rfl,by simpa using hc 8 E rfl,by simpa using hc 9 c9 rfl,by simpa using hc 10 D rfl⟩
end
end kD
namespace kD
def kY {α:Type} (e:Ae) (r:kD α) (w:Al) (v:Ab) (xs:Aa α) (S:Nat->Prop):Prop :=
  (∀ x∈xs,r.bdd Big x)/\(((∃ a,v=.slice a 0 0)/\xs=[]) \/
    ∃ (b cap:Nat) (cur:Array Ab) (cs tl:Aa Ab),v=.slice (some ⟨b,0,none⟩) xs.length cap/\xs.length<=cap/\cap<=Bj/\w.heap[b]?=some (.cells cur e (0,0))/\cur.toList=cs++tl/\cur.size=cap * r.n/\S b /\
      row r true w cs xs (λk=>S k/\k≠b))
def Src (w:Al) (sv:Ab) (m:Nat) (cells:Aa Ab):Prop :=
  (m=0/\∃ a c,sv=.slice a 0 c)\/∃ ad c,sv=.slice (some ad) m c/\∀ j u,cells[j]?=some u->w.cell? (ad.add j)=some u
section
variable {α:Type} {r:kD α} {e:Ae} {w w':Al} {v:Ab} {xs ys:Aa α} {S T:Nat->Prop}
def kY.own (h:kY e r w v xs S) (hl:xs.length<=Big):(slice e r).own w [v] xs S:=by
 obtain ⟨hb,h⟩:=h;refine ⟨?_,hl,hb⟩;rcases h with ⟨⟨a,rfl⟩,rfl⟩|⟨b,cap,cur,cs,tl,rfl,h1,h2,h3,h4,h5,h6,h7⟩
 · exact ⟨a,0,0,rfl,rfl,Nat.le_refl _,Nat.zero_le _,.inl ⟨rfl,λ_=>rfl⟩⟩
 exact ⟨_,_,cap,rfl,rfl,h1,h2,.inr ⟨b,0,rfl,cur,e,(0,0),[],cs,tl,h3,by simpa using h4,rfl,by omega,λ_=>⟨rfl,rfl⟩,h6,yU h7 (λk hk=>⟨hk.1,λ_=>hk.2⟩)⟩⟩
def kY.keep (h:kY e r w v xs S) (k:∀ k,S k->k < w.heap.size->w'.heap[k]?=w.heap[k]?):kY e r w' v xs S:=by
 obtain ⟨hb,h⟩:=h;refine ⟨hb,?_⟩;rcases h with h|⟨b,cap,cur,cs,tl,hv,h1,h2,h3,h4,h5,h6,h7⟩
 · exact .inl h
 exact .inr ⟨b,cap,cur,cs,tl,hv,h1,h2,(k b h6 (Ag.1 h3).1).trans h3,h4,h5,h6,yU (yV (zl h7) (λj I=>k j I.1.1 I.2)) (λj I=>I.1)⟩
def kY.wide (h:kY e r w v xs S) (k:∀ k,S k->T k):kY e r w v xs T:=by
 obtain ⟨hb,h⟩:=h;refine ⟨hb,?_⟩;rcases h with h|⟨b,cap,cur,cs,tl,hv,h1,h2,h3,h4,h5,h6,h7⟩
 · exact .inl h
 exact .inr ⟨b,cap,cur,cs,tl,hv,h1,h2,h3,h4,h5,k b h6,yU h7 (λj I=>⟨k j I.1,I.2⟩)⟩
def kY.below (h:kY e r w v xs S) (b:Qb w w'):kY e r w' v xs S:=h.keep (λk _ hk=>b.block k hk)
def kY.touch (h:kY e r w v xs S) (b:Touch T w w') (hd:∀ k,S k->¬ T k):kY e r w' v xs S:=h.keep (λk hk hl=>b.block k hl (hd k hk))
def kY.live (h:kY e r w v xs S):kY e r w v xs (λk=>S k/\k < w.heap.size):=by
 obtain ⟨hb,h⟩:=h;refine ⟨hb,?_⟩;rcases h with h|⟨b,cap,cur,cs,tl,hv,h1,h2,h3,h4,h5,h6,h7⟩
 · exact .inl h
 exact .inr ⟨b,cap,cur,cs,tl,hv,h1,h2,h3,h4,h5,⟨h6,(Ag.1 h3).1⟩,yU (zl h7) (λj I=>⟨⟨I.1.1,I.2⟩,I.1.2⟩)⟩
def kY.nil:kY e r w (.slice none 0 0) [] S:=⟨by simp,.inl ⟨⟨_,rfl⟩,rfl⟩⟩
def kY.void {a:Au Bn}:kY e r w (.slice a 0 0) [] S:=⟨by simp,.inl ⟨⟨_,rfl⟩,rfl⟩⟩
def kY.zJ (h:kY e r w v xs S):∃ a cap,v=.slice a xs.length cap:=by
 rcases h.2 with ⟨⟨a,rfl⟩,rfl⟩|⟨b,cap,cur,cs,tl,rfl,_⟩
 · exact ⟨a,0,rfl⟩
 exact ⟨_,cap,rfl⟩
def yR {cs:Aa Ab} (hb:∀ x∈xs,r.bdd Big x) (hl:xs.length<=Bj) (h:row r true w cs xs T) (hT:∀ k,T k->S k) (hS:S w) :
    kY e r (w.alloc (.cells cs.toArray e)) (.slice (some ⟨w,0,none⟩) xs.length xs.length) xs S:=by
 refine ⟨hb,.inr ⟨w.heap.size,xs.length,cs.toArray,cs,[],rfl,Nat.le_refl _,hl,heap_alloc_new w _,by simp,by simpa using zR h,hS,?_⟩⟩
 exact yU (yV (zl h) (λk hk=>Ah w _ hk.2)) (λk hk=>⟨hT k hk.1,by omega⟩)
def jDp:∀ (n:Nat),row r true w (Ac n r.zc).flatten (Ac n r.zero) S
  | 0=>by simp [row]
  | n + 1=>by
    simp only [Be,Bg];exact ⟨r.zc,_,λ_=>False,S,rfl,r.is_zero,jDp n,λ_ h=>h.elim,λ_ h=>h,λ_ _ h=>h.elim⟩
def jFy (zc:Aa Ab) (hz:0 < zc.length):∀ n,(Bl zc.toArray (n * zc.length)).toList=(Ac n zc).flatten:=by
 intro n;apply List.ext_getElem?;intro j;simp only [Bl,Array.toList_map,Array.toList_range,List.getElem?_map];have key:∀ (n j:Nat),(Ac n zc).flatten[j]?=if j < n * zc.length then zc[j % zc.length]? else none:=by
  intro n;induction n with
  | zero=>intro j;simp
  | succ n ih =>
    intro j;simp only [Be,Bg];by_cases h:j < zc.length
    · rw [Aq h,Nat.mod_eq_of_lt h,if_pos (by rw [Nat.add_mul];omega)]
    · rw [List.getElem?_append_right bF2,ih,Nat.add_mul,Nat.one_mul];have e1:(j - zc.length < n * zc.length)↔(j < n * zc.length + zc.length):=bF2;simp only [e1];split
      · congr 1
        conv=>rhs;rw [show j=(j - zc.length) + zc.length by omega]
        rw [Nat.add_mod_right]
      · rfl
 rw [key];by_cases h:j < n * zc.length
 · rw [if_pos h,List.getElem?_range h];have hm:=Nat.mod_lt j hz;simp [hm]
 rw [if_neg h,List.getElem?_eq_none bD5];rfl
def own0_make {zs:Array Ab} {n:Nat} (hz:zs=r.zc.toArray) (hl:r.zc.length=r.n) (hn:0 < r.n) (hm:n<=Bj) (hS:S w) :
    kY e r (w.alloc (.cells (Bl zs (n * r.n)) e)) (.slice (some ⟨w,0,none⟩) n n) (Ac n r.zero) S:=by
 subst hz
 have h:=yR (e:=e) (w:=w) (S:=S) (T:=λ_=>False) (cs:=(Ac n r.zc).flatten) (xs:=Ac n r.zero) (r:=r) (λx hx=>by rw [(List.mem_replicate.1 hx).2];exact r.bdd_zero) (by simpa using hm) (jDp n) (λ_ h=>h.elim) hS
 rw [<- hl,show Bl r.zc.toArray (n * r.zc.length)=(Ac n r.zc).flatten.toArray from by rw [<- jFy _ bF2],]
 simpa using h
def kFg {P:Program} {t ty:Ae} {i:TypeInfo} {z:Ab} (ht:P.underlying t=some (.slice e)) (hi:P.info? e=some i) (hz:i.zero=some z) (hsize:i.size=r.n) (hzs:z.cells.size=r.n) (hn:0 < r.n) (hby:i.bytes<=1000)
    (h:kY e r w v xs S) {sv:Ab} {m:Nat} {cells:Aa Ab} (hsrc:Src w sv m cells) (hl:cells.length=m * r.n) (h1:∀ u∈cells,u.oneCell'=true) (hlen:xs.length + m<=1000000000) :
    ∃ v' w',(Ba #[t,t] ty #[v,sv]).run P w=.ok v' w'/\Touch (λk=>some k=v.ownBlock/\S k) w w' /\
      ∀ {ys:Aa α} {T:Nat->Prop},row r true w cells ys T->(∀ k,S k->T k->False)->(∀ y∈ys,r.bdd Big y) ->
        kY e r w' v' (xs++ys) (λk=>S k\/T k\/(w.heap.size<=k/\k < w'.heap.size)):=by
 obtain ⟨bf,h⟩:=h
 have bm:∀ {ys:Aa α},(∀ y∈ys,r.bdd Big y)->∀ y∈xs++ys,r.bdd Big y:=by
  intro ys hy y hm;rcases Az.1 hm with hm | hm
  · exact bf y hm
  exact hy y hm
 have ej:∀ {ys:Aa α} {T:Nat->Prop},row r true w cells ys T->ys.length=m:=by
  intro ys T hr;have:=zR hr;rw [hl] at this;exact (Nat.eq_of_mul_eq_mul_right hn this).symm
 by_cases bc:m=0
 · subst bc;have hc:cells=[]:=Am bC0;subst hc;have Y:∃ a c,sv=.slice a 0 c:=by
    rcases hsrc with ⟨_,h⟩|⟨ad,c,h,_⟩
    · exact h
    exact ⟨_,_,h⟩
   obtain ⟨a,c,rfl⟩:=Y;have ab:∀ (bs:Au Bn) (l cap:Nat),l<=cap->(bs=none->l=0)->(Ba #[t,t] ty #[.slice bs l cap,.slice a 0 c]).run P w=.ok (.slice bs l cap) w:=by
    intro bs l cap Z hb;cases a <;> cases bs <;> simp [Ba,run_underlying ht,sizeOf,typeInfo,hi,Builtin.lenOf,Z,Builtin.firstCells,loadCells,loadCellsFrom,storeCells]
   refine ⟨v,w,?_,Touch.refl _ _,?_⟩
   · rcases h with ⟨⟨a0,rfl⟩,rfl⟩|⟨b,cap,cur,cs,tl,rfl,h2,h3,h4,h5,h6,h7,h8⟩
     · exact ab a0 0 0 nL (λ_=>rfl)
     exact ab _ _ _ h2 bF3
   intro ys T hr _ hy;have:ys=[]:=Am (ej hr);subst this;rw [List.append_nil];exact kY.wide ⟨bf,h⟩ (λk hk=>.inl hk)
 obtain ⟨ad,c,rfl,U⟩:∃ ad c,sv=.slice (some ad) m c/\∀ j u,cells[j]?=some u->w.cell? (ad.add j)=some u:=by
  rcases hsrc with ⟨h,_⟩ | h
  · exact absurd h bc
  exact h
 have J:cells.length=m * i.size:=by rw [hsize];exact hl
 have N:(xs.length + m) * i.bytes<=140737488355328:=by
  have:(xs.length + m) * i.bytes<=1000000000 * 1000:=Nat.mul_le_mul hlen hby
  omega
 have af:∀ o,Aw w (xs.length + m) o e<=Bj:=λo=>grownCap_le_maxLen w (xs.length + m) o e wR
 have L:∀ (o:Nat) (cs:Aa Ab),row r true w cs xs S->∀ {ys:Aa α} {T:Nat->Prop},row r true w cells ys T->(∀ k,S k->T k->False)->(∀ y∈ys,r.bdd Big y) ->
     kY e r (w.drew.alloc (.cells (cs.toArray++cells.toArray++Ak z.cells (Aw w (xs.length + m) o e - (xs.length + m))) e)) (.slice (some ⟨w,0,none⟩) (xs.length + m) (Aw w (xs.length + m) o e)) (xs++ys)
       (λk=>S k\/T k\/(w.heap.size<=k/\k < w.heap.size + 1)):=by
   intro o cs W ys T hr hST hy
   have az:=grownCap_ge w (xs.length + m) o e
   have V:=ej hr
   refine ⟨bm hy,.inr ⟨w.heap.size,Aw w (xs.length + m) o e,_,cs++cells,(Ak z.cells (Aw w (xs.length + m) o e - (xs.length + m))).toList,by rw [Ad,V],by rw [Ad,V];exact az,af o,heap_alloc_new w.drew _,by simp,?_,by simp,?_⟩⟩
   · have:=zR W;simp only [Array.size_append,Bh,size_zeroCells,hzs,hl,this,<- Nat.add_mul];congr 1;omega
   · have a1:=yU (T:=λk=>S k/\k < w.heap.size) (yV (w':=w.drew.alloc (.cells (cs.toArray++cells.toArray++Ak z.cells (Aw w (xs.length + m) o e - (xs.length + m))) e)) (zl W) (λk hk=>Ah w.drew _ hk.2)) (λk hk=>hk);have a2:=yU (T:=λk=>T k/\k < w.heap.size) (yV (w':=w.drew.alloc (.cells (cs.toArray++cells.toArray++Ak z.cells (Aw w (xs.length + m) o e - (xs.length + m))) e)) (zl hr) (λk hk=>Ah w.drew _ hk.2)) (λk hk=>hk);exact kAh a1 a2 (λk hk=>⟨.inl hk.1,by omega⟩) (λk hk=>⟨.inr (.inl hk.1),by omega⟩) (λ_ k h1 h2=>hST k h1.1 h2.1)
 rcases h with ⟨⟨a0,rfl⟩,rfl⟩|⟨b,cap,cur,cs,tl,rfl,h2,h3,h4,h5,h6,h7,h8⟩
 · cases a0 with
   | none =>
     have hr:=run_append_nil (P:=P) w t ty e i z ht hi hz ad m c cells J U bF2 (by simp at hlen;omega) (by simp only [List.length_nil,Nat.zero_add] at N;omega);refine ⟨_,_,hr,⟨rfl,rfl,rfl,by simp,λk hk _=>Ah w.drew _ hk⟩,?_⟩;intro ys T E hST hy;have:=L 0 [] rfl E hST hy;simp only [List.length_nil,Nat.zero_add,Array.empty_append,List.nil_append] at this ⊢;simpa using this
   | some a1 =>
     have hr:=run_append_grow (P:=P) w t ty e i z ht hi hz a1 0 0 [] bF3 bF3 ad m c cells J U bF2 bF2 (growslice_fits bF2 (by simpa using N));refine ⟨_,_,hr,⟨rfl,rfl,rfl,by simp,λk hk _=>Ah w.drew _ hk⟩,?_⟩;intro ys T E hST hy;have:=L 0 [] rfl E hST hy;simpa using this
 have O:=zR h8
 by_cases D:xs.length + m<=cap
 · have R:xs.length * i.size + cells.length<=cur.size:=by rw [hsize,hl,h6,<- Nat.add_mul];exact Nat.mul_le_mul_right _ D
   have hr:=run_append_room (P:=P) w t ty e i ht hi b xs.length cap cur h4 ad m c cells J U h1 D R;refine ⟨_,_,hr,⟨rfl,rfl,rfl,by simp,λk _ hk=>Bi w b k _ (λq=>hk ⟨by simp [Value.ownBlock,q],q ▸ h7⟩)⟩,?_⟩;intro ys T E hST hy;have V:=ej E;have ag:cur.toList.take (xs.length * i.size)=cs:=by rw [h5,hsize,<- O];simp
   have X:cur.toList.drop (xs.length * i.size + cells.length)=tl.drop cells.length:=by rw [h5,hsize,<- O,List.drop_append];simp
   have be:cur.size=cs.length + tl.length:=by rw [<- Array.length_toList,h5,Ad]
   refine ⟨bm hy,.inr ⟨b,cap,_,cs++cells,tl.drop cells.length,by rw [Ad,V],by rw [Ad,V];exact D,h3,setRow_heap w b cur _ e _ h4,?_,?_,.inl h7,?_⟩⟩
   · rw [ag,X]
   · rw [ag,X,<- h6,be];rw [hsize,<- O] at R;simp only [Bh,Ad,List.length_drop];omega
   have a1:=yV (w':=w.setRow b (cur.toList.take (xs.length * i.size)++cells++cur.toList.drop (xs.length * i.size + cells.length)).toArray) h8 (λk hk=>Bi w b k _ hk.2);have a2:=yV (w':=w.setRow b (cur.toList.take (xs.length * i.size)++cells++cur.toList.drop (xs.length * i.size + cells.length)).toArray) E (λk hk=>Bi w b k _ (λq=>hST b h7 (q ▸ hk)));exact kAh a1 a2 (λk hk=>⟨.inl hk.1,hk.2⟩) (λk hk=>⟨.inr (.inl hk),λq=>hST b h7 (q ▸ hk)⟩) (λ_ k h1 h2=>hST k h1.1 h2)
 have H:∀ j u,cs[j]?=some u->w.cell? ((⟨b,0,none⟩:Bn).add j)=some u:=by
  intro j u I;have F:(⟨b,0,none⟩:Bn).add j=⟨b,j,none⟩:=rF;rw [F,cell_of_row w b j cur e (0,0) h4,<- Array.getElem?_toList,h5,Aq (List.getElem?_eq_some_iff.1 I).1];exact I
 have hr:=run_append_grow (P:=P) w t ty e i z ht hi hz ⟨b,0,none⟩ xs.length cap cs (by rw [hsize];exact O) H ad m c cells J U bF2 bF2 (growslice_fits bF2 N)
 refine ⟨_,_,hr,⟨rfl,rfl,rfl,by simp,λk hk _=>Ah w.drew _ hk⟩,?_⟩
 intro ys T E hST hy
 have:=L cap cs (yU h8 (λk hk=>hk.1)) E hST hy
 simpa using this
def kVy {P:Program} {ops:Array Oper} {rest:Aa Oper} {o:Oper} {a:Act} {Q:Exit->Act->Al->Prop} (D:o.guard=none) (s x:Operand) (t:Ae)
    (ho:o.op=.call { callee:=.builtin .append,args:=#[s,x],argTypes:=#[t,t] })
    {i:TypeInfo} {z:Ab} (ht:P.underlying t=some (.slice e)) (hi:P.info? e=some i) (hz:i.zero=some z) (hsize:i.size=r.n) (hzs:z.cells.size=r.n) (hn:0 < r.n) (hby:i.bytes<=1000)
    (hown:kY e r w v xs S) (hs:a.eval s=v) {sv:Ab} {m:Nat} {cells:Aa Ab} (hx:a.eval x=sv) (hsrc:Src w sv m cells) (hrow:row r true w cells ys T) (hl:ys.length=m)
    (hST:∀ k,S k->T k->False) (hy:∀ y∈ys,r.bdd Big y) (hlen:xs.length + ys.length<=1000000000)
    (h:∀ v' w',kY e r w' v' (xs++ys) (λk=>S k\/T k\/(w.heap.size<=k/\k < w'.heap.size))->Touch (λk=>some k=v.ownBlock/\S k) w w'->wpList P ops Q rest (a.put o.dst v') w'):wpList P ops Q (o :: rest) a w:=by
 refine wpList_plain D λ_ H=>?_
 obtain ⟨v',w',hr,h2,h3⟩:=kFg (P:=P) (ty:=o.type) ht hi hz hsize hzs hn hby hown hsrc (by rw [<- hl];exact zR hrow) (row_one hrow) bF2
 unfold Oper.wp execOp
 simp only [ho,resolve,invoke,builtin,Sem.run_bind,Sem.run_pure,Result.andThen_ok,List.map_toArray,List.map_cons,List.map_nil,hs,hx,hr]
 exact H _ _ (h v' w' (h3 hrow hST hy) h2)
end
end kD
end Go.Proofs.YthocbplmdjkifaaGreat

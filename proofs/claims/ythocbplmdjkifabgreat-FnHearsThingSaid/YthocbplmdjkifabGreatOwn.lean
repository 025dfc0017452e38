/-
  Slices that are owned: at their block's head; append, make, a store into an element, a cell, a slice of a slice. No program in sight.
-/
import Derived.Test.YthocbplmdjkifabGreatAli
set_option linter.unusedVariables false
set_option linter.defProp false
set_option linter.unusedSimpArgs false
set_option linter.unnecessarySimpa false
set_option maxRecDepth 100000
open _root_ renaming List->Aa,Option->Au,ByteArray->Bc
open Go renaming Value->Ab,TypeId->Ae,heap_alloc_old->Ah,World->Al,grownCap->Aw,setRow_other->Bi,maxLen->Bj,madeCells->Bl,Addr->Bo
open List renaming replicate->Ac,length_append->Ad,take_succ_eq_append_getElem->Aj,eq_nil_of_length_eq_zero->Am,getElem?_append_left->Aq,take_of_length_le->Ay,mem_append->Az,replicate_succ->Be,flatten_cons->Bg,size_toArray->Bh
open Array renaming getElem?_eq_some_iff->Ag
open ByteArray renaming empty->Ai,size_append->Bb,mk->Bf
open Go.Builtin renaming zeroCells->Ak,append_->Ba
open Go.Value renaming oneCell'->Ap
open UInt8 renaming ofNat->Ar
open Option renaming bind_eq_some_iff->Av
open Go.ByteArray renaming toList_eq->Bd
namespace Go.Proofs.YthocbplmdjkifabGreat
open Go.RowKit
variable {i len cap k m:Nat} {a:Au Bo} {e:Ae} {α:Type} {cells:Aa Ab} {S:Nat->Prop} {P:Program} {sv v z:Ab}
def Big:Nat:=16777216
def kKa:Nat->Nat->Bc->Bc
  | 0,_,s=>s
  | f + 1,n,s=>if n=0 then s else kKa f (n / 10) (Bf #[Ar (48 + n % 10)]++s)
def mt (k:Int):Bc:=if k<=0 then "m0".toUTF8 else "m".toUTF8++kKa 20 k.toNat Ai
def kOe:∀ f n s,(kKa f n s).size<=f + s.size
  | 0,_,s=>by simp [kKa]
  | f + 1,n,s=>by
    unfold kKa;split;omega
    · have:=kOe f (n / 10) (Bf #[Ar (48 + n % 10)]++s);have e:(Bf #[Ar (48 + n % 10)]++s).size=1 + s.size:=by simp [Bb];rfl
      omega
def size_mt (k:Int):(mt k).size<=32:=by
 unfold mt;split
 · decide
 have:=kOe 20 k.toNat Ai;have e:("m".toUTF8).size=1:=bJ4;rw [Bb,e];have e2:Ai.size=0:=rfl;omega
def kTh (a b:Bc):(a.toList==b.toList)=decide (a=b):=by
 rw [Bd,Bd,Bool.eq_iff_iff];simp only [beq_iff_eq,decide_eq_true_eq];constructor
 · intro h;cases a;cases b;simp at h;simp [h]
 intro h;rw [h]
def u8_inj {a b:UInt8} (h:(a.toNat:Int)=b.toNat):a=b:=UInt8.toNat_inj.1 bJ5
def yO {x y:Aa α} (h:x.take k=y.take k) (hx:k < x.length) (hy:k < y.length) (e:x[k]=y[k]):x.take (k + 1)=y.take (k + 1):=by
 rw [Aj hx,Aj hy,h,e]
def zN {x y:Aa α} (h:x.take k=y.take k) (hx:¬ k < x.length) (hl:x.length=y.length):x=y:=by
 rwa [Ay bJ5,Ay bJ5] at h
def zg {x y:Aa α} (hx:k < x.length) (hy:k < y.length) (e:x[k]≠y[k]):x≠y:=by
 rintro rfl;exact e rfl
def kJ {a b:Bool} (h:a=b):Ending.returned (.bool a)=.returned (.bool b):=by rw [h]
def jS {k:IntKind} {a b:Int} (h:a=b):Ending.returned (.int k a)=.returned (.int k b):=by rw [h]
structure kD (α:Type) where
  n:Nat
  is:Bool->Al->Aa Ab->α->(Nat->Prop)->Prop
  bdd:Nat->α->Prop
  zero:α
  zc:Aa Ab
  mark:Bool->α->Int->α × Int
  held:Bool->α->Int->Au Int
  cnt:Nat
  len:∀ {o w cs x S},is o w cs x S->cs.length=n
  one:∀ {o w cs x S},is o w cs x S->∀ c∈cs,c.oneCell'=true
  mono:∀ {o w w' cs x} {S:Nat->Prop},is o w cs x S->(∀ k,S k->w'.heap[k]?=w.heap[k]?)->is o w' cs x S
  wide:∀ {o w cs x} {S T:Nat->Prop},is o w cs x S->(∀ k,S k->T k)->is o w cs x T
  weak:∀ {w cs x S},is true w cs x S->is false w cs x S
  live:∀ {o w cs x} {S:Nat->Prop},is o w cs x S->is o w cs x (λk=>S k/\k < w.heap.size)
  bdd_mono:∀ {A B x},bdd A x->A<=B->bdd B x
  bdd_zero:∀ {B},bdd B zero
  is_zero:∀ {o w S},is o w zc zero S
  mark_held:∀ {e x k},held e (mark e x k).1 k=some (mark e x k).2
  held_ge:∀ {e x k k'},held e x k=some k'->k<=k'
  mark_ge:∀ {e x k},k<=(mark e x k).2
  mark_le:∀ {e x k},bdd Big x->(mark e x k).2<=k + cnt
  mark_bdd:∀ {e x k B},bdd B x->32<=B->bdd B (mark e x k).1
namespace kD
def int:kD Int where
  n:=1
  is _ _ cs x _:=cs=[.int .i64 x]/\Qi x
  bdd _ _:=True
  zero:=0
  zc:=[.int .i64 0]
  mark e x k:=if e then (k,k + 1) else (x,k)
  held e x k:=if e then (if x=k then some (k + 1) else none) else some k
  cnt:=1
  len h:=by simp [h.1]
  one h:=by simp [h.1,Ap]
  mono h _:=h
  wide h _:=h
  weak h:=h
  live h:=h
  bdd_mono _ _:=trivial
  bdd_zero:=trivial
  is_zero:=by simp
  mark_held:=by intro e x k;cases e <;> simp
  held_ge:=by
    intro e x k k' h;cases e;simp at h;omega
    · exact J2
  mark_ge:=by intro e x k;cases e <;> simp;omega
  mark_le:=by intro e x k _;cases e <;> simp;omega
  mark_bdd _ _:=trivial
def byte:kD UInt8 where
  n:=1
  is _ _ cs x _:=cs=[.int .u8 x.toNat]
  bdd _ _:=True
  zero:=0
  zc:=[.int .u8 0]
  mark e x k:=if e then (Ar (k % 256).toNat,k + 1) else (x,k)
  held e x k:=if e then (if x=Ar (k % 256).toNat then some (k + 1) else none) else some k
  cnt:=1
  len h:=by simp [h]
  one h:=by simp [h,Ap]
  mono h _:=h
  wide h _:=h
  weak h:=h
  live h:=h
  bdd_mono _ _:=trivial
  bdd_zero:=trivial
  is_zero:=by simp
  mark_held:=by intro e x k;cases e <;> simp
  held_ge:=by
    intro e x k k' h;cases e;simp at h;omega
    · exact J2
  mark_ge:=by intro e x k;cases e <;> simp;omega
  mark_le:=by intro e x k _;cases e <;> simp;omega
  mark_bdd _ _:=trivial
def bool:kD Bool where
  n:=1
  is _ _ cs x _:=cs=[.bool x]
  bdd _ _:=True
  zero:=false
  zc:=[.bool false]
  mark e x k:=if e then (decide (k % 3=0),k + 1) else (x,k)
  held e x k:=if e then (if x=decide (k % 3=0) then some (k + 1) else none) else some k
  cnt:=1
  len h:=by simp [h]
  one h:=by simp [h,Ap]
  mono h _:=h
  wide h _:=h
  weak h:=h
  live h:=h
  bdd_mono _ _:=trivial
  bdd_zero:=trivial
  is_zero:=by simp
  mark_held:=by intro e x k;cases e <;> simp
  held_ge:=by
    intro e x k k' h;cases e;simp at h;omega
    · exact J2
  mark_ge:=by intro e x k;cases e <;> simp;omega
  mark_le:=by intro e x k _;cases e <;> simp;omega
  mark_bdd _ _:=trivial
def str:kD Bc where
  n:=1
  is _ _ cs x _:=cs=[.string x]/\x.size<=Bj
  bdd B x:=x.size<=B
  zero:=Ai
  zc:=[.string Ai]
  mark e x k:=if e then (mt k,k + 1) else (x,k)
  held e x k:=if e then (if x=mt k then some (k + 1) else none) else some k
  cnt:=1
  len h:=by simp [h.1]
  one h:=by simp [h.1,Ap]
  mono h _:=h
  wide h _:=h
  weak h:=h
  live h:=h
  bdd_mono:=by intro A B x h G;omega
  bdd_zero:=by intro B;exact Nat.zero_le _
  is_zero:=by intro o w S;exact ⟨rfl,Nat.zero_le _⟩
  mark_held:=by intro e x k;cases e <;> simp
  held_ge:=by
    intro e x k k' h;cases e;simp at h;omega
    · exact J2
  mark_ge:=by intro e x k;cases e <;> simp;omega
  mark_le:=by intro e x k _;cases e <;> simp;omega
  mark_bdd:=by
    intro e x k B h G;have:=size_mt k;cases e <;> simp <;> omega
def pair {β:Type} (r:kD α) (s:kD β):kD (α × β) where
  n:=r.n + s.n
  is o w cs x S:=∃ c d A B,cs=c++d/\r.is o w c x.1 A/\s.is o w d x.2 B/\(∀ k,A k->S k)/\(∀ k,B k->S k)/\(o=true->∀ k,A k->B k->False)
  bdd B x:=r.bdd B x.1/\s.bdd B x.2
  zero:=(r.zero,s.zero)
  zc:=r.zc++s.zc
  mark e x k:=(((r.mark e x.1 k).1,(s.mark e x.2 (r.mark e x.1 k).2).1),(s.mark e x.2 (r.mark e x.1 k).2).2)
  held e x k:=(r.held e x.1 k).bind (s.held e x.2)
  cnt:=r.cnt + s.cnt
  len:=by
    rintro o w cs x S ⟨c,d,A,B,rfl,h1,h2,_⟩;simp [r.len h1,s.len h2]
  one:=by
    rintro o w cs x S ⟨c,d,A,B,rfl,h1,h2,_⟩ v hv;rcases Az.1 hv with h | h;exact r.one h1 v h
    · exact s.one h2 v h
  mono:=by
    rintro o w w' cs x S ⟨c,d,A,B,rfl,h1,h2,hA,hB,hd⟩ h;exact ⟨c,d,A,B,rfl,r.mono h1 (λk hk=>h k (hA k hk)),s.mono h2 (λk hk=>h k (hB k hk)),hA,hB,hd⟩
  wide:=by
    rintro o w cs x S T ⟨c,d,A,B,rfl,h1,h2,hA,hB,hd⟩ h;exact ⟨c,d,A,B,rfl,h1,h2,λk hk=>h k (hA k hk),λk hk=>h k (hB k hk),hd⟩
  weak:=by
    rintro w cs x S ⟨c,d,A,B,rfl,h1,h2,hA,hB,hd⟩;exact ⟨c,d,A,B,rfl,r.weak h1,s.weak h2,hA,hB,by simp⟩
  live:=by
    rintro o w cs x S ⟨c,d,A,B,rfl,h1,h2,hA,hB,hd⟩;exact ⟨c,d,_,_,rfl,r.live h1,s.live h2,λk hk=>⟨hA k hk.1,hk.2⟩,λk hk=>⟨hB k hk.1,hk.2⟩,λho k h G=>hd ho k h.1 G.1⟩
  bdd_mono h G:=⟨r.bdd_mono h.1 G,s.bdd_mono h.2 G⟩
  bdd_zero:=⟨r.bdd_zero,s.bdd_zero⟩
  is_zero:=by
    intro o w S;exact ⟨r.zc,s.zc,λ_=>False,λ_=>False,rfl,r.is_zero,s.is_zero,λ_ h=>h.elim,λ_ h=>h.elim,λ_ _ h=>h.elim⟩
  mark_held:=by intro e x k;simp [r.mark_held,s.mark_held]
  held_ge:=by
    intro e x k k' h;obtain ⟨k1,h1,h2⟩:=Av.1 h;have:=r.held_ge h1;have:=s.held_ge h2;omega
  mark_ge:=by
    intro e x k;have h1:=r.mark_ge (e:=e) (x:=x.1) (k:=k);have h2:=s.mark_ge (e:=e) (x:=x.2) (k:=(r.mark e x.1 k).2);simp only;omega
  mark_le:=by
    intro e x k h;have h1:=r.mark_le (e:=e) (k:=k) h.1;have h2:=s.mark_le (e:=e) (k:=(r.mark e x.1 k).2) h.2;simp only;omega
  mark_bdd h G:=⟨r.mark_bdd h.1 G,s.mark_bdd h.2 G⟩
def mkL {α:Type} (r:kD α):Aa α->Int->Aa α × Int
  | [],k=>([],k)
  | x :: xs,k=>((r.mark true x k).1 :: (mkL r xs (r.mark true x k).2).1,(mkL r xs (r.mark true x k).2).2)
def hdL {α:Type} (r:kD α):Aa α->Int->Au Int
  | [],k=>some k
  | x :: xs,k=>(r.held true x k).bind (hdL r xs)
section
variable {α:Type} {r:kD α}
def mkL_hd:∀ (xs:Aa α) (k:Int),hdL r (mkL r xs k).1 k=some (mkL r xs k).2
  | [],_=>rfl
  | x :: xs,k=>by simp [mkL,hdL,r.mark_held,mkL_hd xs]
def hdL_ge:∀ (xs:Aa α) (k k':Int),hdL r xs k=some k'->k<=k'
  | [],k,k',h=>by simp [hdL] at h;omega
  | x :: xs,k,k',h=>by
    obtain ⟨k1,h1,h2⟩:=Av.1 h;have:=r.held_ge h1;have:=hdL_ge xs k1 k' h2;omega
def mkL_ge:∀ (xs:Aa α) (k:Int),k<=(mkL r xs k).2
  | [],_=>by simp [mkL]
  | x :: xs,k=>by
    have h1:=r.mark_ge (e:=true) (x:=x) (k:=k);have h2:=mkL_ge xs (r.mark true x k).2;simp only [mkL];omega
def mkL_le:∀ (xs:Aa α) (k:Int),(∀ x∈xs,r.bdd Big x)->(mkL r xs k).2<=k + (xs.length * r.cnt:Nat)
  | [],_,_=>by simp [mkL]
  | x :: xs,k,h=>by
    have h1:=r.mark_le (e:=true) (k:=k) (h x bJ6);have h2:=mkL_le xs (r.mark true x k).2 wX;simp only [mkL,List.length_cons,Nat.add_mul,Nat.one_mul];omega
def mkL_bdd {B:Nat} (hB:32<=B):∀ (xs:Aa α) (k:Int),(∀ x∈xs,r.bdd B x)->∀ x∈(mkL r xs k).1,r.bdd B x
  | [],_,_=>by simp [mkL]
  | x :: xs,k,h=>by
    intro y hy;simp only [mkL,List.mem_cons] at hy;rcases hy with rfl | hy;exact r.mark_bdd (h x bJ6) hB
    · exact mkL_bdd hB xs _ (λz hz=>h z (by simp [hz])) y hy
def jCq:∀ (xs:Aa α) (k:Int),(mkL r xs k).1.length=xs.length
  | [],_=>rfl
  | x :: xs,k=>by simp [mkL,jCq xs]
end
def row {α:Type} (r:kD α) (o:Bool) (w:Al):Aa Ab->Aa α->(Nat->Prop)->Prop
  | cells,[],_=>cells=[]
  | cells,y :: ys,S=>∃ c d A B,cells=c++d/\r.is o w c y A/\row r o w d ys B/\(∀ k,A k->S k)/\(∀ k,B k->S k)/\(o=true->∀ k,A k->B k->False)
section
variable {α:Type} {r:kD α} {o:Bool} {w w':Al}
def zu:∀ {cells:Aa Ab} {ys:Aa α} {S:Nat->Prop},row r o w cells ys S->cells.length=ys.length * r.n
  | _,[],_,h=>by simp [show _=[] from h]
  | _,y :: ys,_,⟨c,d,A,B,h,h1,h2,_⟩=>by
    subst h;have:=zu h2;simp [r.len h1,this,Nat.add_mul];omega
def row_one:∀ {cells:Aa Ab} {ys:Aa α} {S:Nat->Prop},row r o w cells ys S->∀ c∈cells,c.oneCell'=true
  | _,[],_,h,c,hc=>by simp [show _=[] from h] at hc
  | _,y :: ys,_,⟨c,d,A,B,h,h1,h2,_⟩,v,hv=>by
    subst h;rcases Az.1 hv with h | h;exact r.one h1 v h
    · exact row_one h2 v h
def yu:∀ {cells:Aa Ab} {ys:Aa α} {S:Nat->Prop},row r o w cells ys S->(∀ k,S k->w'.heap[k]?=w.heap[k]?)->row r o w' cells ys S
  | _,[],_,h,_=>h
  | _,y :: ys,_,⟨c,d,A,B,h,h1,h2,hA,hB,hd⟩,e=>⟨c,d,A,B,h,r.mono h1 (λk hk=>e k (hA k hk)),yu h2 (λk hk=>e k (hB k hk)),hA,hB,hd⟩
def yx:∀ {cells:Aa Ab} {ys:Aa α} {S T:Nat->Prop},row r o w cells ys S->(∀ k,S k->T k)->row r o w cells ys T
  | _,[],_,_,h,_=>h
  | _,y :: ys,_,_,⟨c,d,A,B,h,h1,h2,hA,hB,hd⟩,e=>⟨c,d,A,B,h,h1,h2,λk hk=>e k (hA k hk),λk hk=>e k (hB k hk),hd⟩
def kPj:∀ {cells:Aa Ab} {ys:Aa α} {S:Nat->Prop},row r true w cells ys S->row r false w cells ys S
  | _,[],_,h=>h
  | _,y :: ys,_,⟨c,d,A,B,h,h1,h2,hA,hB,hd⟩=>⟨c,d,A,B,h,r.weak h1,kPj h2,hA,hB,by simp⟩
def kAh:∀ {cells:Aa Ab} {ys:Aa α} {S:Nat->Prop},row r o w cells ys S->row r o w cells ys (λk=>S k/\k < w.heap.size)
  | _,[],_,h=>h
  | _,y :: ys,_,⟨c,d,A,B,h,h1,h2,hA,hB,hd⟩ =>
    ⟨c,d,_,_,h,r.live h1,kAh h2,λk hk=>⟨hA k hk.1,hk.2⟩,λk hk=>⟨hB k hk.1,hk.2⟩,λho k h G=>hd ho k h.1 G.1⟩
def kAy:∀ {c d:Aa Ab} {xs ys:Aa α} {S A B:Nat->Prop},row r o w c xs A->row r o w d ys B->(∀ k,A k->S k)->(∀ k,B k->S k)->(o=true->∀ k,A k->B k->False)->row r o w (c++d) (xs++ys) S
  | _,_,[],_,_,_,_,h,h2,hA,hB,hd=>by subst h;exact yx h2 hB
  | _,d,x :: xs,ys,S,A,B,⟨c1,c2,A1,A2,h,h1,h3,hA1,hA2,hd1⟩,h2,hA,hB,hd=>by
    subst h;refine ⟨c1,c2++d,A1,λk=>A2 k\/B k,by simp,h1,kAy h3 h2 (λk=>.inl) (λk=>.inr) (λho k ha hb=>hd ho k (hA2 k ha) hb),λk hk=>hA k (hA1 k hk),?_,?_⟩
    · rintro k (hk | hk);exact hA k (hA2 k hk)
      · exact hB k hk
    · rintro ho k ha (hk | hk);exact hd1 ho k ha hk
      · exact hd ho k (hA1 k ha) hk
def kGc {c:Aa Ab} {x:α} (h:r.is o w c x S):row r o w c [x] S :=
  ⟨c,[],S,λ_=>False,by simp,h,rfl,λ_ h=>h,λ_ h=>h.elim,λ_ _ _ h=>h⟩
def kMl:∀ {cells:Aa Ab} (xs:Aa α) {ys:Aa α} {S:Nat->Prop},row r o w cells (xs++ys) S ->
    ∃ c d A B,cells=c++d/\row r o w c xs A/\row r o w d ys B/\(∀ k,A k->S k)/\(∀ k,B k->S k)/\(o=true->∀ k,A k->B k->False)
  | cells,[],ys,S,h=>⟨[],cells,λ_=>False,S,rfl,rfl,h,λ_ h=>h.elim,λ_ h=>h,λ_ _ h=>h.elim⟩
  | _,x :: xs,ys,S,⟨c1,c2,A1,A2,h,h1,h3,hA1,hA2,hd1⟩=>by
    subst h;obtain ⟨c,d,A,B,rfl,h4,h5,hA,hB,hd⟩:=kMl xs h3;refine ⟨c1++c,d,λk=>A1 k\/A k,B,by simp,⟨c1,c,A1,A,rfl,h1,h4,λk=>.inl,λk=>.inr,λho k ha hb=>hd1 ho k ha (hA k hb)⟩,h5,?_,λk hk=>hA2 k (hB k hk),?_⟩
    · rintro k (hk | hk);exact hA1 k hk
      · exact hA2 k (hA k hk)
    · rintro ho k (hk | hk) hb;exact hd1 ho k hk (hB k hb)
      · exact hd ho k hk hb
def kWf {xs:Aa α} (h:row r o w cells xs S) (hi:i < xs.length) :
    ∃ p c q A B C,cells=p++(c++q)/\p.length=i * r.n/\row r o w p (xs.take i) A/\r.is o w c xs[i] B/\row r o w q (xs.drop (i + 1)) C /\
      (∀ k,A k->S k)/\(∀ k,B k->S k)/\(∀ k,C k->S k)/\(o=true->∀ k,(A k->B k->False)/\(A k->C k->False)/\(B k->C k->False)):=by
 have e:xs=xs.take i++(xs[i] :: xs.drop (i + 1)):=bJ6;rw [e] at h;obtain ⟨p,d,A,D,rfl,h1,⟨c,q,B,C,rfl,h2,h3,hB,hC,ab⟩,hA,F,hd⟩:=kMl _ h;have hl:=zu h1;rw [List.length_take,Nat.min_eq_left bJ5] at hl;exact ⟨p,c,q,A,B,C,rfl,hl,h1,h2,h3,hA,λk hk=>F k (hB k hk),λk hk=>F k (hC k hk),
   λho k=>⟨λa b=>hd ho k a (hB k b),λa c=>hd ho k a (hC k c),λb c=>ab ho k b c⟩⟩
def jIf {p c q:Aa Ab} {xs:Aa α} {y:α} {A B C:Nat->Prop} (hi:i < xs.length) (h1:row r o w p (xs.take i) A) (h2:r.is o w c y B) (h3:row r o w q (xs.drop (i + 1)) C)
    (hA:∀ k,A k->S k) (hB:∀ k,B k->S k) (hC:∀ k,C k->S k) (hd:o=true->∀ k,(A k->B k->False)/\(A k->C k->False)/\(B k->C k->False)):row r o w (p++(c++q)) (xs.set i y) S:=by
 rw [List.set_eq_take_append_cons_drop,if_pos hi]
 exact kAy h1 (show row r o w (c++q) (y :: xs.drop (i + 1)) (λk=>B k\/C k) from ⟨c,q,B,C,rfl,h2,h3,λk=>.inl,λk=>.inr,λho k a b=>(hd ho k).2.2 a b⟩) hA
   (λk hk=>hk.elim (hB k) (hC k)) (λho k ha hk=>hk.elim ((hd ho k).1 ha) ((hd ho k).2.1 ha))
end
def sliceAt (e:Ae) (r:kD α) (o:Bool) (w:Al) (b off cap:Nat) (xs:Aa α) (S:Nat->Prop):Prop :=
  ∃ (cur:Array Ab) (e':Ae) (fr:Nat × Nat) (hd cs tl:Aa Ab),w.heap[b]?=some (.cells cur e' fr)/\cur.toList=hd++(cs++tl)/\hd.length=off/\off + cap * r.n<=cur.size/\(o=true->e'=e/\fr=(0,0))/\S b /\
    row r o w cs xs (λk=>S k/\(o=true->k≠b))
def slice {α:Type} (e:Ae) (r:kD α):kD (Aa α) where
  n:=1
  is o w cs xs S:=∃ a len cap,cs=[.slice a len cap]/\len=xs.length/\len<=cap/\cap<=Bj /\
    ((xs=[]/\(o=true->cap=0))\/∃ b off,a=some ⟨b,off,none⟩/\sliceAt e r o w b off cap xs S)
  bdd B xs:=xs.length<=B/\∀ x∈xs,r.bdd B x
  zero:=[]
  zc:=[.slice none 0 0]
  mark _ xs k:=mkL r xs k
  held _ xs k:=hdL r xs k
  cnt:=Big * r.cnt
  len:=by rintro o w cs xs S ⟨a,len,cap,rfl,_⟩;rfl
  one:=by rintro o w cs xs S ⟨a,len,cap,rfl,_⟩ c hc;simp at hc;subst hc;rfl
  mono:=by
    rintro o w w' cs xs S ⟨a,len,cap,rfl,h1,h2,h3,h4⟩ h;refine ⟨a,len,cap,rfl,h1,h2,h3,?_⟩;rcases h4 with h4|⟨b,off,ha,cur,e',fr,p,c,q,hb,hc,hp,hl,hf,hS,hx⟩;exact .inl h4
    · exact .inr ⟨b,off,ha,cur,e',fr,p,c,q,(h b hS).trans hb,hc,hp,hl,hf,hS,yu hx (λk hk=>h k hk.1)⟩
  wide:=by
    rintro o w cs xs S T ⟨a,len,cap,rfl,h1,h2,h3,h4⟩ h;refine ⟨a,len,cap,rfl,h1,h2,h3,?_⟩;rcases h4 with h4|⟨b,off,ha,cur,e',fr,p,c,q,hb,hc,hp,hl,hf,hS,hx⟩;exact .inl h4
    · exact .inr ⟨b,off,ha,cur,e',fr,p,c,q,hb,hc,hp,hl,hf,h b hS,yx hx (λk hk=>⟨h k hk.1,hk.2⟩)⟩
  weak:=by
    rintro w cs xs S ⟨a,len,cap,rfl,h1,h2,h3,h4⟩;refine ⟨a,len,cap,rfl,h1,h2,h3,?_⟩;rcases h4 with h4|⟨b,off,ha,cur,e',fr,p,c,q,hb,hc,hp,hl,hf,hS,hx⟩;exact .inl ⟨h4.1,by simp⟩
    · exact .inr ⟨b,off,ha,cur,e',fr,p,c,q,hb,hc,hp,hl,by simp,hS,yx (kPj hx) (λk hk=>⟨hk.1,by simp⟩)⟩
  live:=by
    rintro o w cs xs S ⟨a,len,cap,rfl,h1,h2,h3,h4⟩;refine ⟨a,len,cap,rfl,h1,h2,h3,?_⟩;rcases h4 with h4|⟨b,off,ha,cur,e',fr,p,c,q,hb,hc,hp,hl,hf,hS,hx⟩;exact .inl h4
    · exact .inr ⟨b,off,ha,cur,e',fr,p,c,q,hb,hc,hp,hl,hf,⟨hS,(Ag.1 hb).1⟩,yx (kAh hx) (λk hk=>⟨⟨hk.1.1,hk.2⟩,hk.1.2⟩)⟩
  bdd_mono h G:=⟨by omega,λx hx=>r.bdd_mono (h.2 x hx) G⟩
  bdd_zero:=⟨Nat.zero_le _,by simp⟩
  is_zero:=by intro o w S;exact ⟨none,0,0,rfl,rfl,Nat.le_refl _,Nat.zero_le _,.inl ⟨rfl,λ_=>rfl⟩⟩
  mark_held:=by intro e x k;exact mkL_hd x k
  held_ge:=by intro e x k k' h;exact hdL_ge x k k' h
  mark_ge:=by intro e x k;exact mkL_ge x k
  mark_le:=by
    intro e x k h;have h1:=mkL_le (r:=r) x k h.2;have h2:x.length * r.cnt<=Big * r.cnt:=Nat.mul_le_mul_right _ h.1;omega
  mark_bdd:=by
    intro e x k B h G;exact ⟨by rw [jCq];exact h.1,mkL_bdd G x k h.2⟩
section
variable {α β:Type} {r:kD α} {w w':Al} {cs:Aa Ab} {x:α}
def raw (r:kD α) (w:Al) (cs:Aa Ab) (x:α):Prop:=r.is false w cs x (λ_=>True)
def rd (r:kD α) (w:Al) (cs:Aa Ab) (x:α):Prop:=r.raw w cs x/\r.bdd Big x
def own (r:kD α) (w:Al) (cs:Aa Ab) (x:α) (S:Nat->Prop):Prop:=r.is true w cs x S/\r.bdd Big x
end
end kD
abbrev Ck:=kD.slice 3 kD.int
abbrev Cg:=kD.slice 9 kD.str
abbrev Cc:=kD.slice 5 kD.byte
def jW (lo hi:Nat):Nat->Prop:=λk=>lo<=k/\k < hi
def jW.mem {lo hi:Nat}:jW lo hi k↔lo<=k/\k < hi:=Iff.rfl
structure Touch (S:Nat->Prop) (w w':Al):Prop where
  os:w'.os=w.os
  tape:w'.tape=w.tape
  output:w'.output=w.output
  size:w.heap.size<=w'.heap.size
  block:∀ k,k < w.heap.size->¬ S k->w'.heap[k]?=w.heap[k]?
namespace Touch
variable {S T:Nat->Prop} {a b c:Al}
def refl (S:Nat->Prop) (w:Al):Touch S w w:=⟨rfl,rfl,rfl,Nat.le_refl _,λ_ _ _=>rfl⟩
def trans (h:Touch S a b) (k:Touch S b c):Touch S a c :=
  ⟨k.os.trans h.os,k.tape.trans h.tape,k.output.trans h.output,Nat.le_trans h.size k.size,λi hi hs=>(k.block i (Nat.lt_of_lt_of_le hi h.size) hs).trans (h.block i hi hs)⟩
def wide (h:Touch S a b) (k:∀ i,S i->T i):Touch T a b:=⟨h.os,h.tape,h.output,h.size,λi hi hs=>h.block i hi (λq=>hs (k i q))⟩
def below (h:Touch S a b) {B:Nat} (hB:B<=a.heap.size) (k:∀ i,S i->B<=i):Below B a b :=
  ⟨h.os,h.tape,h.output,h.size,λi hi=>h.block i bJ5 (λq=>by have:=k i q;omega)⟩
def of_below (h:Qb a b):Touch S a b:=⟨h.os,h.tape,h.output,h.size,λi hi _=>h.block i hi⟩
end Touch
namespace kD
section
variable {α β:Type} {r:kD α} {w w':Al} {cs:Aa Ab} {x:α} {S T:Nat->Prop}
def raw.below (h:r.raw w cs x) (e:Qb w w'):r.raw w' cs x :=
  r.wide (r.mono (r.live h) (λk hk=>e.block k hk.2)) (λ_ _=>trivial)
def rd.below (h:r.rd w cs x) (e:Qb w w'):r.rd w' cs x:=⟨h.1.below e,h.2⟩
def kAb (w:Al) (o:Obj):Below w w (w.alloc o):=bR.alloc nL _
def kTg (w:Al):Below w w w.drew:=bR.drew
def raw.alloc (h:r.raw w cs x) (o:Obj):r.raw (w.alloc o) cs x:=h.below (kAb w o)
def rd.alloc (h:r.rd w cs x) (o:Obj):r.rd (w.alloc o) cs x:=⟨h.1.alloc o,h.2⟩
def raw.drew (h:r.raw w cs x):r.raw w.drew cs x:=h.below (kTg w)
def rd.drew (h:r.rd w cs x):r.rd w.drew cs x:=⟨h.1.drew,h.2⟩
def own.rd (h:r.own w cs x S):r.rd w cs x:=⟨r.wide (r.weak h.1) (λ_ _=>trivial),h.2⟩
def own.raw (h:r.own w cs x S):r.raw w cs x:=h.rd.1
def own.keep (h:r.own w cs x S) (e:∀ k,S k->k < w.heap.size->w'.heap[k]?=w.heap[k]?):r.own w' cs x S :=
  ⟨r.wide (r.mono (r.live h.1) (λk hk=>e k hk.1 hk.2)) (λ_ hk=>hk.1),h.2⟩
def own.below (h:r.own w cs x S) (e:Qb w w'):r.own w' cs x S:=h.keep (λk _ hk=>e.block k hk)
def own.touch (h:r.own w cs x S) (e:Touch T w w') (hd:∀ k,S k->¬ T k):r.own w' cs x S:=h.keep (λk hk hl=>e.block k hl (hd k hk))
def own.wide (h:r.own w cs x S) (h1:∀ k,S k->T k):r.own w cs x T:=⟨r.wide h.1 h1,h.2⟩
def own.live (h:r.own w cs x S):r.own w cs x (λk=>S k/\k < w.heap.size):=⟨r.live h.1,h.2⟩
def kFf {xs:Aa α} (h:(slice e r).raw w [.slice a len cap] xs) (hi:i < xs.length) :
    ∃ b off,a=some ⟨b,off,none⟩/\∃ cs,r.raw w cs xs[i]/\∀ j c,cs[j]?=some c->w.cell? ⟨b,off + i * r.n + j,none⟩=some c:=by
 refine BF λh1 h3 h4 h2=>?_;clear h;rcases h4 with ⟨rfl,_⟩|⟨b,off,ha,cur,e',fr,p,c,q,hb,hc,hp,hl,hf,hS,hx⟩;simp at hi;obtain ⟨E,c',F,A,B,C,rfl,D,_,hr,_⟩:=kWf hx hi;refine ⟨b,off,ha,c',r.wide hr (λ_ _=>trivial),?_⟩;exact UH
def kBw {xs:Aa α} (h:(slice e r).raw w cs xs):∃ a cap,cs=[.slice a xs.length cap]/\xs.length<=9223372036854775807:=by
 obtain ⟨a,len,cap,rfl,rfl,h2,h3,_⟩:=h;unfold Bj at h3;exact ⟨a,cap,rfl,by omega⟩
def sl {xs:Aa α} (h:(slice e r).raw w [v] xs):∃ a cap,v=.slice a xs.length cap/\xs.length<=9223372036854775807:=by
 obtain ⟨a,c,h1,h2⟩:=kBw h;exact ⟨a,c,by simpa using h1,h2⟩
def sx {xs:Aa α} {q:Prop} (h:(slice e r).raw w [v] xs) (k:q):∃ a cap,v=.slice a xs.length cap/\xs.length<=9223372036854775807/\q:=by
 obtain ⟨a,c,e,l⟩:=sl h;exact ⟨a,c,e,l,k⟩
def zL {xs:Aa α} (h:(slice e r).rd w cs xs) (hi:i < xs.length):r.bdd Big xs[i]:=h.2.2 _ (List.getElem_mem hi)
def kAu {xs:Aa α} (h:(slice e r).raw w [.slice a len cap] xs) (hi:i < xs.length) (hn:r.n=1) :
    ∃ b off,a=some ⟨b,off,none⟩/\∃ c0,r.raw w [c0] xs[i]/\Qc w b (off + i) c0:=by
 refine CL λb off ha cs hr hc hl=>?_
 match cs,hl with
 | [c0],_=>exact ⟨b,off,ha,c0,hr,by simpa using hc 0 c0 rfl⟩
def kRc {xs:Aa α} (h:(slice e r).raw w [.slice a len cap] xs) (hi:i < xs.length) (hn:r.n=2) :
    ∃ b off,a=some ⟨b,off,none⟩/\∃ c0 c1,r.raw w [c0,c1] xs[i]/\Qc w b (off + i * 2) c0/\Qc w b (off + i * 2 + 1) c1:=by
 refine CL λb off ha cs hr hc hl=>?_
 match cs,hl with
 | [c0,c1],_=>exact ⟨b,off,ha,c0,c1,hr,by simpa using hc 0 c0 rfl,by simpa using hc 1 c1 rfl⟩
def zx {xs:Aa α} (h:(slice e r).raw w [.slice a len cap] xs) (hi:i < xs.length) (hn:r.n=3) :
    ∃ b off,a=some ⟨b,off,none⟩/\∃ c0 c1 c2,r.raw w [c0,c1,c2] xs[i]/\Qc w b (off + i * 3) c0/\Qc w b (off + i * 3 + 1) c1/\Qc w b (off + i * 3 + 2) c2:=by
 refine CL λb off ha cs hr hc hl=>?_
 match cs,hl with
 | [c0,c1,c2],_=>exact ⟨b,off,ha,c0,c1,c2,hr,by simpa using hc 0 c0 rfl,by simpa using hc 1 c1 rfl,by simpa using hc 2 c2 rfl⟩
def get5 {xs:Aa α} (h:(slice e r).raw w [.slice a len cap] xs) (hi:i < xs.length) (hn:r.n=5) :
    ∃ b off,a=some ⟨b,off,none⟩/\∃ c0 c1 c2 c3 c4,r.raw w [c0,c1,c2,c3,c4] xs[i]/\Qc w b (off + i * 5) c0/\Qc w b (off + i * 5 + 1) c1/\Qc w b (off + i * 5 + 2) c2/\Qc w b (off + i * 5 + 3) c3/\Qc w b (off + i * 5 + 4) c4:=by
 refine CL λb off ha cs hr hc hl=>?_
 match cs,hl with
 | [c0,c1,c2,c3,c4],_=>exact ⟨b,off,ha,c0,c1,c2,c3,c4,hr,by simpa using hc 0 c0 rfl,by simpa using hc 1 c1 rfl,by simpa using hc 2 c2 rfl,by simpa using hc 3 c3 rfl,by simpa using hc 4 c4 rfl⟩
def get6 {xs:Aa α} (h:(slice e r).raw w [.slice a len cap] xs) (hi:i < xs.length) (hn:r.n=6) :
    ∃ b off,a=some ⟨b,off,none⟩/\∃ c0 c1 c2 c3 c4 c5,r.raw w [c0,c1,c2,c3,c4,c5] xs[i]/\Qc w b (off + i * 6) c0/\Qc w b (off + i * 6 + 1) c1/\Qc w b (off + i * 6 + 2) c2/\Qc w b (off + i * 6 + 3) c3/\Qc w b (off + i * 6 + 4) c4/\Qc w b (off + i * 6 + 5) c5:=by
 refine CL λb off ha cs hr hc hl=>?_
 match cs,hl with
 | [c0,c1,c2,c3,c4,c5],_=>exact ⟨b,off,ha,c0,c1,c2,c3,c4,c5,hr,by simpa using hc 0 c0 rfl,by simpa using hc 1 c1 rfl,by simpa using hc 2 c2 rfl,by simpa using hc 3 c3 rfl,by simpa using hc 4 c4 rfl,by simpa using hc 5 c5 rfl⟩
def get11 {xs:Aa α} (h:(slice e r).raw w [.slice a len cap] xs) (hi:i < xs.length) (hn:r.n=11) :
    ∃ b off,a=some ⟨b,off,none⟩/\∃ c0 c1 c2 c3 c4 c5 O D c8 c9 E,r.raw w [c0,c1,c2,c3,c4,c5,O,D,c8,c9,E] xs[i]/\Qc w b (off + i * 11) c0/\Qc w b (off + i * 11 + 1) c1/\Qc w b (off + i * 11 + 2) c2/\Qc w b (off + i * 11 + 3) c3/\Qc w b (off + i * 11 + 4) c4/\Qc w b (off + i * 11 + 5) c5/\Qc w b (off + i * 11 + 6) O/\Qc w b (off + i * 11 + 7) D/\Qc w b (off + i * 11 + 8) c8/\Qc w b (off + i * 11 + 9) c9/\Qc w b (off + i * 11 + 10) E:=by
 refine CL λb off ha cs hr hc hl=>?_
 match cs,hl with
 | [c0,c1,c2,c3,c4,c5,O,D,c8,c9,E],_=>exact ⟨b,off,ha,c0,c1,c2,c3,c4,c5,O,D,c8,c9,E,hr,by simpa using hc 0 c0 rfl,by simpa using hc 1 c1 rfl,by simpa using hc 2 c2 rfl,by simpa using hc 3 c3 rfl,by simpa using hc 4 c4 rfl,by simpa using hc 5 c5 rfl,by simpa using hc 6 O rfl,by simpa using hc 7 D rfl,by simpa using hc 8 c8 rfl,by simpa using hc 9 c9 rfl,by simpa using hc 10 E rfl⟩
end
end kD
namespace kD
def ko (e:Ae) (r:kD α) (w:Al) (v:Ab) (xs:Aa α) (S:Nat->Prop):Prop :=
  (∀ x∈xs,r.bdd Big x)/\(((∃ a,v=.slice a 0 0)/\xs=[]) \/
    ∃ (b cap:Nat) (cur:Array Ab) (cs tl:Aa Ab),v=.slice (Qa b) xs.length cap/\xs.length<=cap/\cap<=Bj/\w.heap[b]?=some (.cells cur e (0,0))/\cur.toList=cs++tl/\cur.size=cap * r.n/\S b /\
      row r true w cs xs (λk=>S k/\k≠b))
def Src (w:Al) (sv:Ab) (m:Nat) (cells:Aa Ab):Prop :=
  (m=0/\∃ a c,sv=.slice a 0 c)\/∃ ad c,sv=.slice (some ad) m c/\∀ j u,cells[j]?=some u->w.cell? (ad.add j)=some u
section
variable {α:Type} {r:kD α} {e:Ae} {w w':Al} {v:Ab} {xs ys:Aa α} {S T:Nat->Prop}
def ko.own (h:ko e r w v xs S) (hl:xs.length<=Big):(slice e r).own w [v] xs S:=by
 obtain ⟨hb,h⟩:=h;refine ⟨?_,hl,hb⟩;exact BZ
def ko.keep (h:ko e r w v xs S) (k:∀ k,S k->k < w.heap.size->w'.heap[k]?=w.heap[k]?):ko e r w' v xs S:=by
 obtain ⟨hb,h⟩:=h;refine ⟨hb,?_⟩;rcases h with h|⟨b,cap,cur,cs,tl,hv,h1,h2,h3,h4,h5,h6,h7⟩;exact .inl h;exact .inr ⟨b,cap,cur,cs,tl,hv,h1,h2,(k b h6 (Ag.1 h3).1).trans h3,h4,h5,h6,yx (yu (kAh h7) (λj J=>k j J.1.1 J.2)) (λj J=>J.1)⟩
def ko.wide (h:ko e r w v xs S) (k:∀ k,S k->T k):ko e r w v xs T:=by
 obtain ⟨hb,h⟩:=h;refine ⟨hb,?_⟩;rcases h with h|⟨b,cap,cur,cs,tl,hv,h1,h2,h3,h4,h5,h6,h7⟩;exact .inl h;exact .inr ⟨b,cap,cur,cs,tl,hv,h1,h2,h3,h4,h5,k b h6,yx h7 (λj J=>⟨k j J.1,J.2⟩)⟩
def ko.below (h:ko e r w v xs S) (b:Qb w w'):ko e r w' v xs S:=h.keep (λk _ hk=>b.block k hk)
def ko.touch (h:ko e r w v xs S) (b:Touch T w w') (hd:∀ k,S k->¬ T k):ko e r w' v xs S:=h.keep (λk hk hl=>b.block k hl (hd k hk))
def ko.live (h:ko e r w v xs S):ko e r w v xs (λk=>S k/\k < w.heap.size):=by
 obtain ⟨hb,h⟩:=h;refine ⟨hb,?_⟩;rcases h with h|⟨b,cap,cur,cs,tl,hv,h1,h2,h3,h4,h5,h6,h7⟩;exact .inl h;exact .inr ⟨b,cap,cur,cs,tl,hv,h1,h2,h3,h4,h5,⟨h6,(Ag.1 h3).1⟩,yx (kAh h7) (λj J=>⟨⟨J.1.1,J.2⟩,J.1.2⟩)⟩
def ko.nil:ko e r w (.slice none 0 0) [] S:=⟨by simp,.inl ⟨⟨_,rfl⟩,rfl⟩⟩
def ko.void:ko e r w (.slice a 0 0) [] S:=⟨by simp,.inl ⟨⟨_,rfl⟩,rfl⟩⟩
def ko.zK (h:ko e r w v xs S):∃ a cap,v=.slice a xs.length cap:=by
 rcases h.2 with ⟨⟨a,rfl⟩,rfl⟩|⟨b,cap,cur,cs,tl,rfl,_⟩;exact ⟨a,0,rfl⟩;exact ⟨_,cap,rfl⟩
def yf {cs:Aa Ab} (hb:∀ x∈xs,r.bdd Big x) (hl:xs.length<=Bj) (h:row r true w cs xs T) (hT:∀ k,T k->S k) (hS:S w) :
    ko e r (w.alloc (.cells cs.toArray e)) (.slice (Qa w) xs.length xs.length) xs S:=by
 refine ⟨hb,.inr ⟨w.heap.size,xs.length,cs.toArray,cs,[],rfl,Nat.le_refl _,hl,heap_alloc_new w _,by simp,by simpa using zu h,hS,?_⟩⟩;exact yx (yu (kAh h) (λk hk=>Ah w _ hk.2)) (λk hk=>⟨hT k hk.1,by omega⟩)
def jFx:∀ (n:Nat),row r true w (Ac n r.zc).flatten (Ac n r.zero) S
  | 0=>by simp [row]
  | n + 1=>by
    simp only [Be,Bg];exact ⟨r.zc,_,λ_=>False,S,rfl,r.is_zero,jFx n,λ_ h=>h.elim,λ_ h=>h,λ_ _ h=>h.elim⟩
def jIl (zc:Aa Ab) (hz:0 < zc.length):∀ n,(Bl zc.toArray (n * zc.length)).toList=(Ac n zc).flatten:=by
 intro n;apply List.ext_getElem?;intro j;simp only [Bl,Array.toList_map,Array.toList_range,List.getElem?_map];have key:∀ (n j:Nat),(Ac n zc).flatten[j]?=if j < n * zc.length then zc[j % zc.length]? else none:=by
  intro n;induction n with
  | zero=>intro j;simp
  | succ n ih =>
    intro j;simp only [Be,Bg];by_cases h:j < zc.length;rw [Aq h,Nat.mod_eq_of_lt h,if_pos (by rw [Nat.add_mul];omega)]
    · rw [List.getElem?_append_right bJ5,ih,Nat.add_mul,Nat.one_mul];have e1:(j - zc.length < n * zc.length)↔(j < n * zc.length + zc.length):=bJ5;simp only [e1];split
      · congr 1
        conv=>rhs;rw [show j=(j - zc.length) + zc.length by omega]
        rw [Nat.add_mod_right]
      · rfl
 rw [key];by_cases h:j < n * zc.length
 · rw [if_pos h,List.getElem?_range h];have hm:=Nat.mod_lt j hz;simp [hm]
 rw [if_neg h,List.getElem?_eq_none bH8];rfl
def own0_make {zs:Array Ab} {n:Nat} (hz:zs=r.zc.toArray) (hl:r.zc.length=r.n) (hn:0 < r.n) (hm:n<=Bj) (hS:S w) :
    ko e r (w.alloc (.cells (Bl zs (n * r.n)) e)) (.slice (Qa w) n n) (Ac n r.zero) S:=by
 subst hz;have h:=yf (e:=e) (w:=w) (S:=S) (T:=λ_=>False) (cs:=(Ac n r.zc).flatten) (xs:=Ac n r.zero) (r:=r) (λx hx=>by rw [(List.mem_replicate.1 hx).2];exact r.bdd_zero) (by simpa using hm) (jFx n) (λ_ h=>h.elim) hS;rw [<- hl,show Bl r.zc.toArray (n * r.zc.length)=(Ac n r.zc).flatten.toArray from by rw [<- jIl _ bJ5],];simpa using h
def kIf {t ty:Ae} {i:TypeInfo} (ht:P.underlying t=some (.slice e)) (hi:P.info? e=some i) (hz:i.zero=some z) (hsize:i.size=r.n) (hzs:z.cells.size=r.n) (hn:0 < r.n) (hby:i.bytes<=1000)
    (h:ko e r w v xs S) (hsrc:Src w sv m cells) (hl:cells.length=m * r.n) (h1:∀ u∈cells,u.oneCell'=true) (hlen:xs.length + m<=1000000000) :
    ∃ v' w',(Ba #[t,t] ty #[v,sv]).run P w=.ok v' w'/\Touch (λk=>some k=v.ownBlock/\S k) w w' /\
      ∀ {ys:Aa α} {T:Nat->Prop},row r true w cells ys T->(∀ k,S k->T k->False)->(∀ y∈ys,r.bdd Big y) ->
        ko e r w' v' (xs++ys) (λk=>S k\/T k\/(w.heap.size<=k/\k < w'.heap.size)):=by
 obtain ⟨dc,h⟩:=h;have b3:∀ {ys:Aa α},(∀ y∈ys,r.bdd Big y)->∀ y∈xs++ys,r.bdd Big y:=by
  intro ys hy y hm;rcases Az.1 hm with hm | hm;exact dc y hm;exact hy y hm
 have eo:∀ {ys:Aa α} {T:Nat->Prop},row r true w cells ys T->ys.length=m:=by
  intro ys T hr;have:=zu hr;rw [hl] at this;exact (Nat.eq_of_mul_eq_mul_right hn this).symm
 by_cases b1:m=0
 · subst b1;have hc:cells=[]:=Am bF9;subst hc;have Y:∃ a c,sv=.slice a 0 c:=by
    rcases hsrc with ⟨_,h⟩|⟨ad,c,h,_⟩;exact h;exact ⟨_,_,h⟩
   obtain ⟨a,c,rfl⟩:=Y;have af:∀ (bs:Au Bo) (l cap:Nat),l<=cap->(bs=none->l=0)->(Ba #[t,t] ty #[.slice bs l cap,.slice a 0 c]).run P w=.ok (.slice bs l cap) w:=by
    intro bs l cap W hb;cases a <;> cases bs <;> simp [Ba,run_underlying ht,sizeOf,typeInfo,hi,Builtin.lenOf,W,Builtin.firstCells,loadCells,loadCellsFrom,storeCells]
   refine ⟨v,w,?_,Touch.refl _ _,?_⟩
   · rcases h with ⟨⟨a0,rfl⟩,rfl⟩|⟨b,cap,cur,cs,tl,rfl,h2,h3,h4,h5,h6,h7,h8⟩;exact af a0 0 0 nL (λ_=>rfl);exact af _ _ _ h2 bJ6
   intro ys T hr _ hy;have:ys=[]:=Am (eo hr);subst this;rw [List.append_nil];exact ko.wide ⟨dc,h⟩ (λk hk=>.inl hk)
 obtain ⟨ad,c,rfl,ac⟩:∃ ad c,sv=.slice (some ad) m c/\∀ j u,cells[j]?=some u->w.cell? (ad.add j)=some u:=by
  exact KZ
 have G:cells.length=m * i.size:=by rw [hsize];exact hl
 have L:(xs.length + m) * i.bytes<=140737488355328:=by
  have:(xs.length + m) * i.bytes<=1000000000 * 1000:=Nat.mul_le_mul hlen hby
  omega
 have aa:∀ E,Aw w (xs.length + m) E e<=Bj:=λE=>grownCap_le_maxLen w (xs.length + m) E e bC7;have O:∀ (E:Nat) (cs:Aa Ab),row r true w cs xs S->∀ {ys:Aa α} {T:Nat->Prop},row r true w cells ys T->(∀ k,S k->T k->False)->(∀ y∈ys,r.bdd Big y) ->
     ko e r (w.drew.alloc (.cells (cs.toArray++cells.toArray++Ak z.cells (Aw w (xs.length + m) E e - (xs.length + m))) e)) (.slice (Qa w) (xs.length + m) (Aw w (xs.length + m) E e)) (xs++ys)
       (λk=>S k\/T k\/(w.heap.size<=k/\k < w.heap.size + 1)):=by
   intro E cs X ys T hr hST hy
   have bp:=grownCap_ge w (xs.length + m) E e
   have U:=eo hr
   refine ⟨b3 hy,.inr ⟨w.heap.size,Aw w (xs.length + m) E e,_,cs++cells,(Ak z.cells (Aw w (xs.length + m) E e - (xs.length + m))).toList,by rw [Ad,U],by rw [Ad,U];exact bp,aa E,heap_alloc_new w.drew _,by simp,?_,by simp,?_⟩⟩
   · have:=zu X;simp only [Array.size_append,Bh,size_zeroCells,hzs,hl,this,<- Nat.add_mul];congr 1;omega
   · have a1:=yx (T:=λk=>S k/\k < w.heap.size) (yu (w':=w.drew.alloc (.cells (cs.toArray++cells.toArray++Ak z.cells (Aw w (xs.length + m) E e - (xs.length + m))) e)) (kAh X) (λk hk=>Ah w.drew _ hk.2)) (λk hk=>hk);have a2:=yx (T:=λk=>T k/\k < w.heap.size) (yu (w':=w.drew.alloc (.cells (cs.toArray++cells.toArray++Ak z.cells (Aw w (xs.length + m) E e - (xs.length + m))) e)) (kAh hr) (λk hk=>Ah w.drew _ hk.2)) (λk hk=>hk);exact kAy a1 a2 (λk hk=>⟨.inl hk.1,by omega⟩) (λk hk=>⟨.inr (.inl hk.1),by omega⟩) (λ_ k h1 h2=>hST k h1.1 h2.1)
 rcases h with ⟨⟨a0,rfl⟩,rfl⟩|⟨b,cap,cur,cs,tl,rfl,h2,h3,h4,h5,h6,h7,h8⟩
 · cases a0 with
   | none =>
     have hr:=run_append_nil (P:=P) w t ty e i z ht hi hz ad m c cells G ac bJ5 (by simp at hlen;omega) (by simp only [List.length_nil,Nat.zero_add] at L;omega);refine ⟨_,_,hr,⟨rfl,rfl,rfl,by simp,λk hk _=>Ah w.drew _ hk⟩,?_⟩;intro ys T H hST hy;have:=O 0 [] rfl H hST hy;simp only [List.length_nil,Nat.zero_add,Array.empty_append,List.nil_append] at this ⊢;simpa using this
   | some a1 =>
     have hr:=run_append_grow (P:=P) w t ty e i z ht hi hz a1 0 0 [] bJ6 bJ6 ad m c cells G ac bJ5 bJ5 (growslice_fits bJ5 (by simpa using L));refine ⟨_,_,hr,⟨rfl,rfl,rfl,by simp,λk hk _=>Ah w.drew _ hk⟩,?_⟩;intro ys T H hST hy;have:=O 0 [] rfl H hST hy;simpa using this
 have R:=zu h8;by_cases D:xs.length + m<=cap
 · have V:xs.length * i.size + cells.length<=cur.size:=by rw [hsize,hl,h6,<- Nat.add_mul];exact Nat.mul_le_mul_right _ D
   have hr:=run_append_room (P:=P) w t ty e i ht hi b xs.length cap cur h4 ad m c cells G ac h1 D V;refine ⟨_,_,hr,⟨rfl,rfl,rfl,by simp,λk _ hk=>Bi w b k _ (λq=>hk ⟨by simp [Value.ownBlock,q],q ▸ h7⟩)⟩,?_⟩;intro ys T H hST hy;have U:=eo H;have N:cur.toList.take (xs.length * i.size)=cs:=by rw [h5,hsize,<- R];simp
   have dn:cur.toList.drop (xs.length * i.size + cells.length)=tl.drop cells.length:=by rw [h5,hsize,<- R,List.drop_append];simp
   have bn:cur.size=cs.length + tl.length:=by rw [<- Array.length_toList,h5,Ad]
   refine ⟨b3 hy,.inr ⟨b,cap,_,cs++cells,tl.drop cells.length,by rw [Ad,U],by rw [Ad,U];exact D,h3,setRow_heap w b cur _ e _ h4,?_,?_,.inl h7,?_⟩⟩;rw [N,dn]
   · rw [N,dn,<- h6,bn];rw [hsize,<- R] at V;simp only [Bh,Ad,List.length_drop];omega
   have a1:=yu (w':=w.setRow b (cur.toList.take (xs.length * i.size)++cells++cur.toList.drop (xs.length * i.size + cells.length)).toArray) h8 (λk hk=>Bi w b k _ hk.2);have a2:=yu (w':=w.setRow b (cur.toList.take (xs.length * i.size)++cells++cur.toList.drop (xs.length * i.size + cells.length)).toArray) H (λk hk=>Bi w b k _ (λq=>hST b h7 (q ▸ hk)));exact kAy a1 a2 (λk hk=>⟨.inl hk.1,hk.2⟩) (λk hk=>⟨.inr (.inl hk),λq=>hST b h7 (q ▸ hk)⟩) (λ_ k h1 h2=>hST k h1.1 h2)
 have I:∀ j u,cs[j]?=some u->w.cell? ((⟨b,0,none⟩:Bo).add j)=some u:=by
  intro j u J;have F:(⟨b,0,none⟩:Bo).add j=⟨b,j,none⟩:=sP;rw [F,cell_of_row w b j cur e (0,0) h4,<- Array.getElem?_toList,h5,Aq (List.getElem?_eq_some_iff.1 J).1];exact J
 have hr:=run_append_grow (P:=P) w t ty e i z ht hi hz ⟨b,0,none⟩ xs.length cap cs (by rw [hsize];exact R) I ad m c cells G ac bJ5 bJ5 (growslice_fits bJ5 L);refine ⟨_,_,hr,⟨rfl,rfl,rfl,by simp,λk hk _=>Ah w.drew _ hk⟩,?_⟩;intro ys T H hST hy;have:=O cap cs (yx h8 (λk hk=>hk.1)) H hST hy;simpa using this
def wpList_push {ops:Array Oper} {rest:Aa Oper} {o:Oper} {a:Act} {Q:Exit->Act->Al->Prop} (D:o.guard=none) (s x:Operand) (t:Ae)
    (ho:o.op=.call { callee:=.builtin .append,args:=#[s,x],argTypes:=#[t,t] })
    {i:TypeInfo} (ht:P.underlying t=some (.slice e)) (hi:P.info? e=some i) (hz:i.zero=some z) (hsize:i.size=r.n) (hzs:z.cells.size=r.n) (hn:0 < r.n) (hby:i.bytes<=1000)
    (hown:ko e r w v xs S) (hs:a.eval s=v) (hx:a.eval x=sv) (hsrc:Src w sv m cells) (hrow:row r true w cells ys T) (hl:ys.length=m)
    (hST:∀ k,S k->T k->False) (hy:∀ y∈ys,r.bdd Big y) (hlen:xs.length + ys.length<=1000000000)
    (h:∀ v' w',ko e r w' v' (xs++ys) (λk=>S k\/T k\/(w.heap.size<=k/\k < w'.heap.size))->Touch (λk=>some k=v.ownBlock/\S k) w w'->wpList P ops Q rest (a.put o.dst v') w'):wpList P ops Q (o :: rest) a w:=by
 refine wpList_plain D λ_ E=>?_;obtain ⟨v',w',hr,h2,h3⟩:=kIf (P:=P) (ty:=o.type) ht hi hz hsize hzs hn hby hown hsrc (by rw [<- hl];exact zu hrow) (row_one hrow) bJ5;unfold Oper.wp execOp;simp only [ho,resolve,invoke,builtin,Sem.run_bind,Sem.run_pure,Result.andThen_ok,List.map_toArray,List.map_cons,List.map_nil,hs,hx,hr];exact E _ _ (h v' w' (h3 hrow hST hy) h2)
end
end kD
end Go.Proofs.YthocbplmdjkifabGreat

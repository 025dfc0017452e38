/-
  How a piece of memory stands for plain data: representations and their frame laws. No program in sight.
-/
import Derived.Test.YtjhfdpopkkmigaaGreatAli
set_option linter.unusedVariables false
set_option linter.defProp false
set_option linter.unusedSimpArgs false
set_option linter.unnecessarySimpa false
open _root_ renaming List->Aa,ByteArray->Ap,Option->Ar
open Go renaming Value->Ab,TypeId->Ag,World->Aj
open ByteArray renaming empty->Ac,size_append->Am,mk->Au
open List renaming take_succ_eq_append_getElem->Ad,getElem?_append_right->Ah,take_of_length_le->Al,append_assoc->Av
open Go.Value renaming oneCell'->Ae
open UInt8 renaming ofNat->Ai
open Option renaming bind_eq_some_iff->Ak
open Go.ByteArray renaming toList_eq->Aq
namespace Go.Proofs.YtjhfdpopkkmigaaGreat
open Go.RowKit
def Big:Nat:=16777216
def kGn:Nat->Nat->Ap->Ap
  | 0,_,s=>s
  | f + 1,n,s=>if n=0 then s else kGn f (n / 10) (Au #[Ai (48 + n % 10)]++s)
def mt (k:Int):Ap:=if k<=0 then "m0".toUTF8 else "m".toUTF8++kGn 20 k.toNat Ac
def kJq:∀ f n s,(kGn f n s).size<=f + s.size
  | 0,_,s=>by simp [kGn]
  | f + 1,n,s=>by
    unfold kGn;split
    · omega
    · have:=kJq f (n / 10) (Au #[Ai (48 + n % 10)]++s);have e:(Au #[Ai (48 + n % 10)]++s).size=1 + s.size:=by simp [Am];rfl
      omega
def size_mt (k:Int):(mt k).size<=32:=by
 unfold mt;split
 · decide
 have:=kJq 20 k.toNat Ac;have e:("m".toUTF8).size=1:=bD0;rw [Am,e];have e2:Ac.size=0:=rfl;omega
def kQu (a b:Ap):(a.toList==b.toList)=decide (a=b):=by
 rw [Aq,Aq,Bool.eq_iff_iff];simp only [beq_iff_eq,decide_eq_true_eq];constructor
 · intro h;cases a;cases b;simp at h;simp [h]
 intro h;rw [h]
def u8_inj {a b:UInt8} (h:(a.toNat:Int)=b.toNat):a=b:=UInt8.toNat_inj.1 bD1
def jv {α:Type} {x y:Aa α} {k:Nat} (h:x.take k=y.take k) (hx:k < x.length) (hy:k < y.length) (e:x[k]=y[k]):x.take (k + 1)=y.take (k + 1):=by
 rw [Ad hx,Ad hy,h,e]
def yY {α:Type} {x y:Aa α} {k:Nat} (h:x.take k=y.take k) (hx:¬ k < x.length) (hl:x.length=y.length):x=y:=by
 rwa [Al bD1,Al bD1] at h
def zF {α:Type} {x y:Aa α} {k:Nat} (hx:k < x.length) (hy:k < y.length) (e:x[k]≠y[k]):x≠y:=by
 rintro rfl;exact e rfl
def kK {a b:Bool} (h:a=b):Ending.returned (.bool a)=.returned (.bool b):=by rw [h]
def jX {k:IntKind} {a b:Int} (h:a=b):Ending.returned (.int k a)=.returned (.int k b):=by rw [h]
structure kD (α:Type) where
  n:Nat
  is:Bool->Aj->Aa Ab->α->(Nat->Prop)->Prop
  bdd:Nat->α->Prop
  zero:α
  zc:Aa Ab
  mark:Bool->α->Int->α × Int
  held:Bool->α->Int->Ar Int
  cnt:Nat
  len:∀ {o w cs x S},is o w cs x S->cs.length=n
  one:∀ {o w cs x S},is o w cs x S->∀ c∈cs,c.oneCell'=true
  mono:∀ {o w w' cs x} {S:Nat->Prop},is o w cs x S->(∀ k,S k->w'.heap[k]?=w.heap[k]?)->is o w' cs x S
  wide:∀ {o w cs x} {S T:Nat->Prop},is o w cs x S->(∀ k,S k->T k)->is o w cs x T
  weak:∀ {w cs x S},is true w cs x S->is false w cs x S
  live:∀ {o w cs x} {S:Nat->Prop},is o w cs x S->is o w cs x (λk=>S k/\k < w.heap.size)
  bdd_mono:∀ {A B x},bdd A x->A<=B->bdd B x
  bdd_zero:∀ {B},bdd B zero
  is_zero:∀ {o w S},is o w zc zero S
  mark_held:∀ {e x k},held e (mark e x k).1 k=some (mark e x k).2
  held_ge:∀ {e x k k'},held e x k=some k'->k<=k'
  mark_ge:∀ {e x k},k<=(mark e x k).2
  mark_le:∀ {e x k},bdd Big x->(mark e x k).2<=k + cnt
  mark_bdd:∀ {e x k B},bdd B x->32<=B->bdd B (mark e x k).1
namespace kD
def int:kD Int where
  n:=1
  is _ _ cs x _:=cs=[.int .i64 x]/\Qi x
  bdd _ _:=True
  zero:=0
  zc:=[.int .i64 0]
  mark e x k:=if e then (k,k + 1) else (x,k)
  held e x k:=if e then (if x=k then some (k + 1) else none) else some k
  cnt:=1
  len h:=by simp [h.1]
  one h:=by simp [h.1,Ae]
  mono h _:=h
  wide h _:=h
  weak h:=h
  live h:=h
  bdd_mono _ _:=trivial
  bdd_zero:=trivial
  is_zero:=by simp
  mark_held:=by intro e x k;cases e <;> simp
  held_ge:=by
    intro e x k k' h;cases e
    · simp at h;omega
    · simp only [if_true] at h;split at h
      · simp at h;omega
      · cases h
  mark_ge:=by intro e x k;cases e <;> simp;omega
  mark_le:=by intro e x k _;cases e <;> simp;omega
  mark_bdd _ _:=trivial
def byte:kD UInt8 where
  n:=1
  is _ _ cs x _:=cs=[.int .u8 x.toNat]
  bdd _ _:=True
  zero:=0
  zc:=[.int .u8 0]
  mark e x k:=if e then (Ai (k % 256).toNat,k + 1) else (x,k)
  held e x k:=if e then (if x=Ai (k % 256).toNat then some (k + 1) else none) else some k
  cnt:=1
  len h:=by simp [h]
  one h:=by simp [h,Ae]
  mono h _:=h
  wide h _:=h
  weak h:=h
  live h:=h
  bdd_mono _ _:=trivial
  bdd_zero:=trivial
  is_zero:=by simp
  mark_held:=by intro e x k;cases e <;> simp
  held_ge:=by
    intro e x k k' h;cases e
    · simp at h;omega
    · simp only [if_true] at h;split at h
      · simp at h;omega
      · cases h
  mark_ge:=by intro e x k;cases e <;> simp;omega
  mark_le:=by intro e x k _;cases e <;> simp;omega
  mark_bdd _ _:=trivial
def bool:kD Bool where
  n:=1
  is _ _ cs x _:=cs=[.bool x]
  bdd _ _:=True
  zero:=false
  zc:=[.bool false]
  mark e x k:=if e then (decide (k % 3=0),k + 1) else (x,k)
  held e x k:=if e then (if x=decide (k % 3=0) then some (k + 1) else none) else some k
  cnt:=1
  len h:=by simp [h]
  one h:=by simp [h,Ae]
  mono h _:=h
  wide h _:=h
  weak h:=h
  live h:=h
  bdd_mono _ _:=trivial
  bdd_zero:=trivial
  is_zero:=by simp
  mark_held:=by intro e x k;cases e <;> simp
  held_ge:=by
    intro e x k k' h;cases e
    · simp at h;omega
    · simp only [if_true] at h;split at h
      · simp at h;omega
      · cases h
  mark_ge:=by intro e x k;cases e <;> simp;omega
  mark_le:=by intro e x k _;cases e <;> simp;omega
  mark_bdd _ _:=trivial
def str:kD Ap where
  n:=1
  is _ _ cs x _:=cs=[.string x]/\x.size<=maxLen
  bdd B x:=x.size<=B
  zero:=Ac
  zc:=[.string Ac]
  mark e x k:=if e then (mt k,k + 1) else (x,k)
  held e x k:=if e then (if x=mt k then some (k + 1) else none) else some k
  cnt:=1
  len h:=by simp [h.1]
  one h:=by simp [h.1,Ae]
  mono h _:=h
  wide h _:=h
  weak h:=h
  live h:=h
  bdd_mono:=by intro A B x h E;omega
  bdd_zero:=by intro B;exact Nat.zero_le _
  is_zero:=by intro o w S;exact ⟨rfl,Nat.zero_le _⟩
  mark_held:=by intro e x k;cases e <;> simp
  held_ge:=by
    intro e x k k' h;cases e
    · simp at h;omega
    · simp only [if_true] at h;split at h
      · simp at h;omega
      · cases h
  mark_ge:=by intro e x k;cases e <;> simp;omega
  mark_le:=by intro e x k _;cases e <;> simp;omega
  mark_bdd:=by
    intro e x k B h E;have:=size_mt k;cases e <;> simp <;> omega
def pair {α β:Type} (r:kD α) (s:kD β):kD (α × β) where
  n:=r.n + s.n
  is o w cs x S:=∃ c d A B,cs=c++d/\r.is o w c x.1 A/\s.is o w d x.2 B/\(∀ k,A k->S k)/\(∀ k,B k->S k)/\(o=true->∀ k,A k->B k->False)
  bdd B x:=r.bdd B x.1/\s.bdd B x.2
  zero:=(r.zero,s.zero)
  zc:=r.zc++s.zc
  mark e x k:=(((r.mark e x.1 k).1,(s.mark e x.2 (r.mark e x.1 k).2).1),(s.mark e x.2 (r.mark e x.1 k).2).2)
  held e x k:=(r.held e x.1 k).bind (s.held e x.2)
  cnt:=r.cnt + s.cnt
  len:=by
    rintro o w cs x S ⟨c,d,A,B,rfl,h1,h2,_⟩;simp [r.len h1,s.len h2]
  one:=by
    rintro o w cs x S ⟨c,d,A,B,rfl,h1,h2,_⟩ v hv;rcases List.mem_append.1 hv with h | h
    · exact r.one h1 v h
    · exact s.one h2 v h
  mono:=by
    rintro o w w' cs x S ⟨c,d,A,B,rfl,h1,h2,hA,hB,hd⟩ h;exact ⟨c,d,A,B,rfl,r.mono h1 (λk hk=>h k (hA k hk)),s.mono h2 (λk hk=>h k (hB k hk)),hA,hB,hd⟩
  wide:=by
    rintro o w cs x S T ⟨c,d,A,B,rfl,h1,h2,hA,hB,hd⟩ h;exact ⟨c,d,A,B,rfl,h1,h2,λk hk=>h k (hA k hk),λk hk=>h k (hB k hk),hd⟩
  weak:=by
    rintro w cs x S ⟨c,d,A,B,rfl,h1,h2,hA,hB,hd⟩;exact ⟨c,d,A,B,rfl,r.weak h1,s.weak h2,hA,hB,by simp⟩
  live:=by
    rintro o w cs x S ⟨c,d,A,B,rfl,h1,h2,hA,hB,hd⟩;exact ⟨c,d,_,_,rfl,r.live h1,s.live h2,λk hk=>⟨hA k hk.1,hk.2⟩,λk hk=>⟨hB k hk.1,hk.2⟩,λho k h E=>hd ho k h.1 E.1⟩
  bdd_mono h E:=⟨r.bdd_mono h.1 E,s.bdd_mono h.2 E⟩
  bdd_zero:=⟨r.bdd_zero,s.bdd_zero⟩
  is_zero:=by
    intro o w S;exact ⟨r.zc,s.zc,λ_=>False,λ_=>False,rfl,r.is_zero,s.is_zero,λ_ h=>h.elim,λ_ h=>h.elim,λ_ _ h=>h.elim⟩
  mark_held:=by intro e x k;simp [r.mark_held,s.mark_held]
  held_ge:=by
    intro e x k k' h;obtain ⟨k1,h1,h2⟩:=Ak.1 h;have:=r.held_ge h1;have:=s.held_ge h2;omega
  mark_ge:=by
    intro e x k;have h1:=r.mark_ge (e:=e) (x:=x.1) (k:=k);have h2:=s.mark_ge (e:=e) (x:=x.2) (k:=(r.mark e x.1 k).2);simp only;omega
  mark_le:=by
    intro e x k h;have h1:=r.mark_le (e:=e) (k:=k) h.1;have h2:=s.mark_le (e:=e) (k:=(r.mark e x.1 k).2) h.2;simp only;omega
  mark_bdd h E:=⟨r.mark_bdd h.1 E,s.mark_bdd h.2 E⟩
def mkL {α:Type} (r:kD α):Aa α->Int->Aa α × Int
  | [],k=>([],k)
  | x :: xs,k=>((r.mark true x k).1 :: (mkL r xs (r.mark true x k).2).1,(mkL r xs (r.mark true x k).2).2)
def hdL {α:Type} (r:kD α):Aa α->Int->Ar Int
  | [],k=>some k
  | x :: xs,k=>(r.held true x k).bind (hdL r xs)
section
variable {α:Type} {r:kD α}
def mkL_hd:∀ (xs:Aa α) (k:Int),hdL r (mkL r xs k).1 k=some (mkL r xs k).2
  | [],_=>rfl
  | x :: xs,k=>by simp [mkL,hdL,r.mark_held,mkL_hd xs]
def hdL_ge:∀ (xs:Aa α) (k k':Int),hdL r xs k=some k'->k<=k'
  | [],k,k',h=>by simp [hdL] at h;omega
  | x :: xs,k,k',h=>by
    obtain ⟨k1,h1,h2⟩:=Ak.1 h;have:=r.held_ge h1;have:=hdL_ge xs k1 k' h2;omega
def mkL_ge:∀ (xs:Aa α) (k:Int),k<=(mkL r xs k).2
  | [],_=>by simp [mkL]
  | x :: xs,k=>by
    have h1:=r.mark_ge (e:=true) (x:=x) (k:=k);have h2:=mkL_ge xs (r.mark true x k).2;simp only [mkL];omega
def mkL_le:∀ (xs:Aa α) (k:Int),(∀ x∈xs,r.bdd Big x)->(mkL r xs k).2<=k + (xs.length * r.cnt:Nat)
  | [],_,_=>by simp [mkL]
  | x :: xs,k,h=>by
    have h1:=r.mark_le (e:=true) (k:=k) (h x bD2);have h2:=mkL_le xs (r.mark true x k).2 sV;simp only [mkL,List.length_cons,Nat.add_mul,Nat.one_mul];omega
def mkL_bdd {B:Nat} (hB:32<=B):∀ (xs:Aa α) (k:Int),(∀ x∈xs,r.bdd B x)->∀ x∈(mkL r xs k).1,r.bdd B x
  | [],_,_=>by simp [mkL]
  | x :: xs,k,h=>by
    intro y hy;simp only [mkL,List.mem_cons] at hy;rcases hy with rfl | hy
    · exact r.mark_bdd (h x bD2) hB
    · exact mkL_bdd hB xs _ (λz hz=>h z (by simp [hz])) y hy
def kVt:∀ (xs:Aa α) (k:Int),(mkL r xs k).1.length=xs.length
  | [],_=>rfl
  | x :: xs,k=>by simp [mkL,kVt xs]
end
def row {α:Type} (r:kD α) (o:Bool) (w:Aj):Aa Ab->Aa α->(Nat->Prop)->Prop
  | cells,[],_=>cells=[]
  | cells,y :: ys,S=>∃ c d A B,cells=c++d/\r.is o w c y A/\row r o w d ys B/\(∀ k,A k->S k)/\(∀ k,B k->S k)/\(o=true->∀ k,A k->B k->False)
section
variable {α:Type} {r:kD α} {o:Bool} {w w':Aj}
def zQ:∀ {cells:Aa Ab} {ys:Aa α} {S:Nat->Prop},row r o w cells ys S->cells.length=ys.length * r.n
  | _,[],_,h=>by simp [show _=[] from h]
  | _,y :: ys,_,⟨c,d,A,B,h,h1,h2,_⟩=>by
    subst h;have:=zQ h2;simp [r.len h1,this,Nat.add_mul];omega
def row_one:∀ {cells:Aa Ab} {ys:Aa α} {S:Nat->Prop},row r o w cells ys S->∀ c∈cells,c.oneCell'=true
  | _,[],_,h,c,hc=>by simp [show _=[] from h] at hc
  | _,y :: ys,_,⟨c,d,A,B,h,h1,h2,_⟩,v,hv=>by
    subst h;rcases List.mem_append.1 hv with h | h
    · exact r.one h1 v h
    · exact row_one h2 v h
def yG:∀ {cells:Aa Ab} {ys:Aa α} {S:Nat->Prop},row r o w cells ys S->(∀ k,S k->w'.heap[k]?=w.heap[k]?)->row r o w' cells ys S
  | _,[],_,h,_=>h
  | _,y :: ys,_,⟨c,d,A,B,h,h1,h2,hA,hB,hd⟩,e=>⟨c,d,A,B,h,r.mono h1 (λk hk=>e k (hA k hk)),yG h2 (λk hk=>e k (hB k hk)),hA,hB,hd⟩
def yK:∀ {cells:Aa Ab} {ys:Aa α} {S T:Nat->Prop},row r o w cells ys S->(∀ k,S k->T k)->row r o w cells ys T
  | _,[],_,_,h,_=>h
  | _,y :: ys,_,_,⟨c,d,A,B,h,h1,h2,hA,hB,hd⟩,e=>⟨c,d,A,B,h,h1,h2,λk hk=>e k (hA k hk),λk hk=>e k (hB k hk),hd⟩
def kKr:∀ {cells:Aa Ab} {ys:Aa α} {S:Nat->Prop},row r true w cells ys S->row r false w cells ys S
  | _,[],_,h=>h
  | _,y :: ys,_,⟨c,d,A,B,h,h1,h2,hA,hB,hd⟩=>⟨c,d,A,B,h,r.weak h1,kKr h2,hA,hB,by simp⟩
def zO:∀ {cells:Aa Ab} {ys:Aa α} {S:Nat->Prop},row r o w cells ys S->row r o w cells ys (λk=>S k/\k < w.heap.size)
  | _,[],_,h=>h
  | _,y :: ys,_,⟨c,d,A,B,h,h1,h2,hA,hB,hd⟩ =>
    ⟨c,d,_,_,h,r.live h1,zO h2,λk hk=>⟨hA k hk.1,hk.2⟩,λk hk=>⟨hB k hk.1,hk.2⟩,λho k h E=>hd ho k h.1 E.1⟩
def kAg:∀ {c d:Aa Ab} {xs ys:Aa α} {S A B:Nat->Prop},row r o w c xs A->row r o w d ys B->(∀ k,A k->S k)->(∀ k,B k->S k)->(o=true->∀ k,A k->B k->False)->row r o w (c++d) (xs++ys) S
  | _,_,[],_,_,_,_,h,h2,hA,hB,hd=>by subst h;exact yK h2 hB
  | _,d,x :: xs,ys,S,A,B,⟨c1,c2,A1,A2,h,h1,h3,hA1,hA2,hd1⟩,h2,hA,hB,hd=>by
    subst h;refine ⟨c1,c2++d,A1,λk=>A2 k\/B k,by simp,h1,kAg h3 h2 (λk=>.inl) (λk=>.inr) (λho k ha hb=>hd ho k (hA2 k ha) hb),λk hk=>hA k (hA1 k hk),?_,?_⟩
    · rintro k (hk | hk)
      · exact hA k (hA2 k hk)
      · exact hB k hk
    · rintro ho k ha (hk | hk)
      · exact hd1 ho k ha hk
      · exact hd ho k (hA1 k ha) hk
def kDi {c:Aa Ab} {x:α} {S:Nat->Prop} (h:r.is o w c x S):row r o w c [x] S :=
  ⟨c,[],S,λ_=>False,by simp,h,rfl,λ_ h=>h,λ_ h=>h.elim,λ_ _ _ h=>h⟩
def kIg:∀ {cells:Aa Ab} (xs:Aa α) {ys:Aa α} {S:Nat->Prop},row r o w cells (xs++ys) S ->
    ∃ c d A B,cells=c++d/\row r o w c xs A/\row r o w d ys B/\(∀ k,A k->S k)/\(∀ k,B k->S k)/\(o=true->∀ k,A k->B k->False)
  | cells,[],ys,S,h=>⟨[],cells,λ_=>False,S,rfl,rfl,h,λ_ h=>h.elim,λ_ h=>h,λ_ _ h=>h.elim⟩
  | _,x :: xs,ys,S,⟨c1,c2,A1,A2,h,h1,h3,hA1,hA2,hd1⟩=>by
    subst h;obtain ⟨c,d,A,B,rfl,h4,h5,hA,hB,hd⟩:=kIg xs h3;refine ⟨c1++c,d,λk=>A1 k\/A k,B,by simp,⟨c1,c,A1,A,rfl,h1,h4,λk=>.inl,λk=>.inr,λho k ha hb=>hd1 ho k ha (hA k hb)⟩,h5,?_,λk hk=>hA2 k (hB k hk),?_⟩
    · rintro k (hk | hk)
      · exact hA1 k hk
      · exact hA2 k (hA k hk)
    · rintro ho k (hk | hk) hb
      · exact hd1 ho k hk (hB k hb)
      · exact hd ho k hk hb
def kVe {cells:Aa Ab} {xs:Aa α} {S:Nat->Prop} (h:row r o w cells xs S) {i:Nat} (hi:i < xs.length) :
    ∃ p c q A B C,cells=p++(c++q)/\p.length=i * r.n/\row r o w p (xs.take i) A/\r.is o w c xs[i] B/\row r o w q (xs.drop (i + 1)) C /\
      (∀ k,A k->S k)/\(∀ k,B k->S k)/\(∀ k,C k->S k)/\(o=true->∀ k,(A k->B k->False)/\(A k->C k->False)/\(B k->C k->False)):=by
 have e:xs=xs.take i++(xs[i] :: xs.drop (i + 1)):=bD2
 rw [e] at h
 obtain ⟨p,d,A,D,rfl,h1,⟨c,q,B,C,rfl,h2,h3,hB,hC,al⟩,hA,E,hd⟩:=kIg _ h
 have hl:=zQ h1
 rw [List.length_take,Nat.min_eq_left bD1] at hl
 exact ⟨p,c,q,A,B,C,rfl,hl,h1,h2,h3,hA,λk hk=>E k (hB k hk),λk hk=>E k (hC k hk),
   λho k=>⟨λa b=>hd ho k a (hB k b),λa c=>hd ho k a (hC k c),λb c=>al ho k b c⟩⟩
def jAb {p c q:Aa Ab} {xs:Aa α} {y:α} {S A B C:Nat->Prop} {i:Nat} (hi:i < xs.length) (h1:row r o w p (xs.take i) A) (h2:r.is o w c y B) (h3:row r o w q (xs.drop (i + 1)) C)
    (hA:∀ k,A k->S k) (hB:∀ k,B k->S k) (hC:∀ k,C k->S k) (hd:o=true->∀ k,(A k->B k->False)/\(A k->C k->False)/\(B k->C k->False)):row r o w (p++(c++q)) (xs.set i y) S:=by
 rw [List.set_eq_take_append_cons_drop,if_pos hi]
 exact kAg h1 (show row r o w (c++q) (y :: xs.drop (i + 1)) (λk=>B k\/C k) from ⟨c,q,B,C,rfl,h2,h3,λk=>.inl,λk=>.inr,λho k a b=>(hd ho k).2.2 a b⟩) hA
   (λk hk=>hk.elim (hB k) (hC k)) (λho k ha hk=>hk.elim ((hd ho k).1 ha) ((hd ho k).2.1 ha))
end
def sliceAt {α:Type} (e:Ag) (r:kD α) (o:Bool) (w:Aj) (b off cap:Nat) (xs:Aa α) (S:Nat->Prop):Prop :=
  ∃ (cur:Array Ab) (e':Ag) (fr:Nat × Nat) (hd cs tl:Aa Ab),w.heap[b]?=some (.cells cur e' fr)/\cur.toList=hd++(cs++tl)/\hd.length=off/\off + cap * r.n<=cur.size/\(o=true->e'=e/\fr=(0,0))/\S b /\
    row r o w cs xs (λk=>S k/\(o=true->k≠b))
def slice {α:Type} (e:Ag) (r:kD α):kD (Aa α) where
  n:=1
  is o w cs xs S:=∃ a len cap,cs=[.slice a len cap]/\len=xs.length/\len<=cap/\cap<=maxLen /\
    ((xs=[]/\(o=true->cap=0))\/∃ b off,a=some ⟨b,off,none⟩/\sliceAt e r o w b off cap xs S)
  bdd B xs:=xs.length<=B/\∀ x∈xs,r.bdd B x
  zero:=[]
  zc:=[.slice none 0 0]
  mark _ xs k:=mkL r xs k
  held _ xs k:=hdL r xs k
  cnt:=Big * r.cnt
  len:=by rintro o w cs xs S ⟨a,len,cap,rfl,_⟩;rfl
  one:=by rintro o w cs xs S ⟨a,len,cap,rfl,_⟩ c hc;simp at hc;subst hc;rfl
  mono:=by
    rintro o w w' cs xs S ⟨a,len,cap,rfl,h1,h2,h3,h4⟩ h;refine ⟨a,len,cap,rfl,h1,h2,h3,?_⟩;rcases h4 with h4|⟨b,off,ha,cur,e',fr,p,c,q,hb,hc,hp,hl,hf,hS,hx⟩
    · exact .inl h4
    · exact .inr ⟨b,off,ha,cur,e',fr,p,c,q,(h b hS).trans hb,hc,hp,hl,hf,hS,yG hx (λk hk=>h k hk.1)⟩
  wide:=by
    rintro o w cs xs S T ⟨a,len,cap,rfl,h1,h2,h3,h4⟩ h;refine ⟨a,len,cap,rfl,h1,h2,h3,?_⟩;rcases h4 with h4|⟨b,off,ha,cur,e',fr,p,c,q,hb,hc,hp,hl,hf,hS,hx⟩
    · exact .inl h4
    · exact .inr ⟨b,off,ha,cur,e',fr,p,c,q,hb,hc,hp,hl,hf,h b hS,yK hx (λk hk=>⟨h k hk.1,hk.2⟩)⟩
  weak:=by
    rintro w cs xs S ⟨a,len,cap,rfl,h1,h2,h3,h4⟩;refine ⟨a,len,cap,rfl,h1,h2,h3,?_⟩;rcases h4 with h4|⟨b,off,ha,cur,e',fr,p,c,q,hb,hc,hp,hl,hf,hS,hx⟩
    · exact .inl ⟨h4.1,by simp⟩
    · exact .inr ⟨b,off,ha,cur,e',fr,p,c,q,hb,hc,hp,hl,by simp,hS,yK (kKr hx) (λk hk=>⟨hk.1,by simp⟩)⟩
  live:=by
    rintro o w cs xs S ⟨a,len,cap,rfl,h1,h2,h3,h4⟩;refine ⟨a,len,cap,rfl,h1,h2,h3,?_⟩;rcases h4 with h4|⟨b,off,ha,cur,e',fr,p,c,q,hb,hc,hp,hl,hf,hS,hx⟩
    · exact .inl h4
    · exact .inr ⟨b,off,ha,cur,e',fr,p,c,q,hb,hc,hp,hl,hf,⟨hS,(Array.getElem?_eq_some_iff.1 hb).1⟩,yK (zO hx) (λk hk=>⟨⟨hk.1.1,hk.2⟩,hk.1.2⟩)⟩
  bdd_mono h E:=⟨by omega,λx hx=>r.bdd_mono (h.2 x hx) E⟩
  bdd_zero:=⟨Nat.zero_le _,by simp⟩
  is_zero:=by intro o w S;exact ⟨none,0,0,rfl,rfl,Nat.le_refl _,Nat.zero_le _,.inl ⟨rfl,λ_=>rfl⟩⟩
  mark_held:=by intro e x k;exact mkL_hd x k
  held_ge:=by intro e x k k' h;exact hdL_ge x k k' h
  mark_ge:=by intro e x k;exact mkL_ge x k
  mark_le:=by
    intro e x k h;have h1:=mkL_le (r:=r) x k h.2;have h2:x.length * r.cnt<=Big * r.cnt:=Nat.mul_le_mul_right _ h.1;omega
  mark_bdd:=by
    intro e x k B h E;exact ⟨by rw [kVt];exact h.1,mkL_bdd E x k h.2⟩
section
variable {α β:Type} {r:kD α} {w w':Aj} {cs:Aa Ab} {x:α}
def raw (r:kD α) (w:Aj) (cs:Aa Ab) (x:α):Prop:=r.is false w cs x (λ_=>True)
def rd (r:kD α) (w:Aj) (cs:Aa Ab) (x:α):Prop:=r.raw w cs x/\r.bdd Big x
def own (r:kD α) (w:Aj) (cs:Aa Ab) (x:α) (S:Nat->Prop):Prop:=r.is true w cs x S/\r.bdd Big x
end
end kD
def jU (lo hi:Nat):Nat->Prop:=λk=>lo<=k/\k < hi
def jU.mem {lo hi k:Nat}:jU lo hi k↔lo<=k/\k < hi:=Iff.rfl
structure Touch (S:Nat->Prop) (w w':Aj):Prop where
  os:w'.os=w.os
  tape:w'.tape=w.tape
  output:w'.output=w.output
  size:w.heap.size<=w'.heap.size
  block:∀ k,k < w.heap.size->¬ S k->w'.heap[k]?=w.heap[k]?
namespace Touch
variable {S T:Nat->Prop} {a b c:Aj}
def refl (S:Nat->Prop) (w:Aj):Touch S w w:=⟨rfl,rfl,rfl,Nat.le_refl _,λ_ _ _=>rfl⟩
def trans (h:Touch S a b) (k:Touch S b c):Touch S a c :=
  ⟨k.os.trans h.os,k.tape.trans h.tape,k.output.trans h.output,Nat.le_trans h.size k.size,λi hi hs=>(k.block i (Nat.lt_of_lt_of_le hi h.size) hs).trans (h.block i hi hs)⟩
def wide (h:Touch S a b) (k:∀ i,S i->T i):Touch T a b:=⟨h.os,h.tape,h.output,h.size,λi hi hs=>h.block i hi (λq=>hs (k i q))⟩
def below (h:Touch S a b) {B:Nat} (hB:B<=a.heap.size) (k:∀ i,S i->B<=i):Below B a b :=
  ⟨h.os,h.tape,h.output,h.size,λi hi=>h.block i bD1 (λq=>by have:=k i q;omega)⟩
def of_below (h:Qb a b):Touch S a b:=⟨h.os,h.tape,h.output,h.size,λi hi _=>h.block i hi⟩
end Touch
namespace kD
section
variable {α β:Type} {r:kD α} {w w':Aj} {cs:Aa Ab} {x:α} {S T:Nat->Prop}
def raw.below (h:r.raw w cs x) (e:Qb w w'):r.raw w' cs x :=
  r.wide (r.mono (r.live h) (λk hk=>e.block k hk.2)) (λ_ _=>trivial)
def rd.below (h:r.rd w cs x) (e:Qb w w'):r.rd w' cs x:=⟨h.1.below e,h.2⟩
def zL (w:Aj) (o:Obj):Below w.heap.size w (w.alloc o):=bR.alloc nL _
def kNx (w:Aj):Below w.heap.size w w.drew:=bR.drew
def raw.alloc (h:r.raw w cs x) (o:Obj):r.raw (w.alloc o) cs x:=h.below (zL w o)
def rd.alloc (h:r.rd w cs x) (o:Obj):r.rd (w.alloc o) cs x:=⟨h.1.alloc o,h.2⟩
def raw.drew (h:r.raw w cs x):r.raw w.drew cs x:=h.below (kNx w)
def rd.drew (h:r.rd w cs x):r.rd w.drew cs x:=⟨h.1.drew,h.2⟩
def own.rd (h:r.own w cs x S):r.rd w cs x:=⟨r.wide (r.weak h.1) (λ_ _=>trivial),h.2⟩
def own.raw (h:r.own w cs x S):r.raw w cs x:=h.rd.1
def own.keep (h:r.own w cs x S) (e:∀ k,S k->k < w.heap.size->w'.heap[k]?=w.heap[k]?):r.own w' cs x S :=
  ⟨r.wide (r.mono (r.live h.1) (λk hk=>e k hk.1 hk.2)) (λ_ hk=>hk.1),h.2⟩
def own.below (h:r.own w cs x S) (e:Qb w w'):r.own w' cs x S:=h.keep (λk _ hk=>e.block k hk)
def own.touch (h:r.own w cs x S) (e:Touch T w w') (hd:∀ k,S k->¬ T k):r.own w' cs x S:=h.keep (λk hk hl=>e.block k hl (hd k hk))
def own.wide (h:r.own w cs x S) (h1:∀ k,S k->T k):r.own w cs x T:=⟨r.wide h.1 h1,h.2⟩
def own.live (h:r.own w cs x S):r.own w cs x (λk=>S k/\k < w.heap.size):=⟨r.live h.1,h.2⟩
def kFw {e:Ag} {a:Ar Addr} {len cap:Nat} {xs:Aa α} (h:(slice e r).raw w [.slice a len cap] xs) {i:Nat} (hi:i < xs.length) :
    ∃ b off,a=some ⟨b,off,none⟩/\∃ cs,r.raw w cs xs[i]/\∀ j c,cs[j]?=some c->w.cell? ⟨b,off + i * r.n + j,none⟩=some c:=by
 obtain ⟨a',E,cap',h0,h1,h2,h3,h4⟩:=h
 simp only [List.cons.injEq,Value.slice.injEq,and_true] at h0
 obtain ⟨rfl,rfl,rfl⟩:=h0
 rcases h4 with ⟨rfl,_⟩|⟨b,off,ha,cur,e',fr,p,c,q,hb,hc,hp,hl,hf,hS,hx⟩
 · simp at hi
 obtain ⟨D,c',F,A,B,C,rfl,o,_,hr,_⟩:=kVe hx hi
 refine ⟨b,off,ha,c',r.wide hr (λ_ _=>trivial),?_⟩
 intro j v I
 have a4:j < c'.length:=(List.getElem?_eq_some_iff.1 I).1
 simp only [World.cell?,hb,Option.isSome_none,Bool.false_eq_true,if_false]
 rw [<- Array.getElem?_toList,hc,Ah bD1,Av,Ah bD1,Av,List.getElem?_append_left bD1]
 rw [<- I];congr 1;omega
def kAx {e:Ag} {xs:Aa α} (h:(slice e r).raw w cs xs):∃ a cap,cs=[.slice a xs.length cap]/\xs.length<=9223372036854775807:=by
 obtain ⟨a,len,cap,rfl,rfl,h2,h3,_⟩:=h;unfold maxLen at h3;exact ⟨a,cap,rfl,by omega⟩
def sl {e:Ag} {xs:Aa α} {v:Ab} (h:(slice e r).raw w [v] xs):∃ a cap,v=.slice a xs.length cap/\xs.length<=9223372036854775807:=by
 obtain ⟨a,c,h1,h2⟩:=kAx h;exact ⟨a,c,by simpa using h1,h2⟩
def yh {e:Ag} {xs:Aa α} (h:(slice e r).rd w cs xs) {i:Nat} (hi:i < xs.length):r.bdd Big xs[i]:=h.2.2 _ (List.getElem_mem hi)
def kCa {e:Ag} {a:Ar Addr} {len cap:Nat} {xs:Aa α} (h:(slice e r).raw w [.slice a len cap] xs) {i:Nat} (hi:i < xs.length) (hn:r.n=1) :
    ∃ b off,a=some ⟨b,off,none⟩/\∃ c0,r.raw w [c0] xs[i]/\Qc w b (off + i) c0:=by
 obtain ⟨b,off,ha,cs,hr,hc⟩:=kFw h hi
 have hl:=r.len hr
 rw [hn] at hl hc
 match cs,hl with
 | [c0],_=>exact ⟨b,off,ha,c0,hr,by simpa using hc 0 c0 rfl⟩
def get2 {e:Ag} {a:Ar Addr} {len cap:Nat} {xs:Aa α} (h:(slice e r).raw w [.slice a len cap] xs) {i:Nat} (hi:i < xs.length) (hn:r.n=2) :
    ∃ b off,a=some ⟨b,off,none⟩/\∃ c0 c1,r.raw w [c0,c1] xs[i]/\Qc w b (off + i * 2) c0/\Qc w b (off + i * 2 + 1) c1:=by
 obtain ⟨b,off,ha,cs,hr,hc⟩:=kFw h hi
 have hl:=r.len hr
 rw [hn] at hl hc
 match cs,hl with
 | [c0,c1],_=>exact ⟨b,off,ha,c0,c1,hr,by simpa using hc 0 c0 rfl,by simpa using hc 1 c1 rfl⟩
def zt {e:Ag} {a:Ar Addr} {len cap:Nat} {xs:Aa α} (h:(slice e r).raw w [.slice a len cap] xs) {i:Nat} (hi:i < xs.length) (hn:r.n=3) :
    ∃ b off,a=some ⟨b,off,none⟩/\∃ c0 c1 c2,r.raw w [c0,c1,c2] xs[i]/\Qc w b (off + i * 3) c0/\Qc w b (off + i * 3 + 1) c1/\Qc w b (off + i * 3 + 2) c2:=by
 obtain ⟨b,off,ha,cs,hr,hc⟩:=kFw h hi
 have hl:=r.len hr
 rw [hn] at hl hc
 match cs,hl with
 | [c0,c1,c2],_=>exact ⟨b,off,ha,c0,c1,c2,hr,by simpa using hc 0 c0 rfl,by simpa using hc 1 c1 rfl,by simpa using hc 2 c2 rfl⟩
def get5 {e:Ag} {a:Ar Addr} {len cap:Nat} {xs:Aa α} (h:(slice e r).raw w [.slice a len cap] xs) {i:Nat} (hi:i < xs.length) (hn:r.n=5) :
    ∃ b off,a=some ⟨b,off,none⟩/\∃ c0 c1 c2 c3 c4,r.raw w [c0,c1,c2,c3,c4] xs[i]/\Qc w b (off + i * 5) c0/\Qc w b (off + i * 5 + 1) c1/\Qc w b (off + i * 5 + 2) c2/\Qc w b (off + i * 5 + 3) c3/\Qc w b (off + i * 5 + 4) c4:=by
 obtain ⟨b,off,ha,cs,hr,hc⟩:=kFw h hi
 have hl:=r.len hr
 rw [hn] at hl hc
 match cs,hl with
 | [c0,c1,c2,c3,c4],_=>exact ⟨b,off,ha,c0,c1,c2,c3,c4,hr,by simpa using hc 0 c0 rfl,by simpa using hc 1 c1 rfl,by simpa using hc 2 c2 rfl,by simpa using hc 3 c3 rfl,by simpa using hc 4 c4 rfl⟩
def kPk {e:Ag} {a:Ar Addr} {len cap:Nat} {xs:Aa α} (h:(slice e r).raw w [.slice a len cap] xs) {i:Nat} (hi:i < xs.length) (hn:r.n=6) :
    ∃ b off,a=some ⟨b,off,none⟩/\∃ c0 c1 c2 c3 c4 c5,r.raw w [c0,c1,c2,c3,c4,c5] xs[i]/\Qc w b (off + i * 6) c0/\Qc w b (off + i * 6 + 1) c1/\Qc w b (off + i * 6 + 2) c2/\Qc w b (off + i * 6 + 3) c3/\Qc w b (off + i * 6 + 4) c4/\Qc w b (off + i * 6 + 5) c5:=by
 obtain ⟨b,off,ha,cs,hr,hc⟩:=kFw h hi
 have hl:=r.len hr
 rw [hn] at hl hc
 match cs,hl with
 | [c0,c1,c2,c3,c4,c5],_=>exact ⟨b,off,ha,c0,c1,c2,c3,c4,c5,hr,by simpa using hc 0 c0 rfl,by simpa using hc 1 c1 rfl,by simpa using hc 2 c2 rfl,by simpa using hc 3 c3 rfl,by simpa using hc 4 c4 rfl,by simpa using hc 5 c5 rfl⟩
end
end kD
end Go.Proofs.YtjhfdpopkkmigaaGreat

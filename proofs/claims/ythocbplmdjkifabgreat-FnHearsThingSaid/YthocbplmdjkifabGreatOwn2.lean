/-
  Slices that are owned: an element's cells, a store into a cell, a store of a whole element, a change behind an element. No program in sight.
-/
import Derived.Test.YthocbplmdjkifabGreatOwn
set_option linter.unusedVariables false
set_option linter.defProp false
set_option linter.unusedSimpArgs false
set_option linter.unnecessarySimpa false
set_option maxRecDepth 100000
open Go renaming frozen_of_row->Aa,World->Ab,Value->Ac,TypeId->Ae,heap_setCell_other->Ag,heap_alloc_old->Am,Addr->Ar
open Array renaming getElem?_eq_some_iff->Ad
open Option.some renaming injEq->Ah
open List renaming append_assoc->Ai,getElem?_append_right->Aj,set_append_right->Al
open Go.Addr.mk renaming injEq->Ak
open _root_ renaming and_true->Ap,List->Aq,Array->Au
open Go.Value.slice renaming injEq->Av
open List.cons renaming injEq->Aw
namespace Go.Proofs.YthocbplmdjkifabGreat
open Go.RowKit
variable {b i j:Nat} {W w D:Ab} {fr:Nat × Nat} {t e:Ae} {a:Au Ac} {α:Type} {r:kD α} {o:Obj} {Q:Ending->Ab->Prop} {p0 p1 p2 p3 L O N X Y Z F:Ar} {v0 v1 v2 v3 v4 v5 v6 c0 c1 c2 v8 v9 c3 G c4 v c5 H al an:Ac} {xs:Aq α} {s:ByteArray} {P:Ab->Prop} {g:FuncId} {n:Int}
def kg (h:b=w.heap.size):(w.alloc o).heap[b]?=some o:=h ▸ heap_alloc_new w o
def jZ (h:∀ W,Qb w W->W.heap[w.heap.size]?=some o->w.heap.size + 1<=W.heap.size->P W):P (w.alloc o):=h _ (bR.alloc nL _) (kg rfl) bJ6
def allC {P:Program} (h:∀ W,Qb w W->W.heap[w.heap.size]?=some o->w.heap.size + 1<=W.heap.size->Calls P g a W Q):Calls P g a (w.alloc o) Q:=jZ (P:=λW=>Calls P g a W Q) h
def allC2 {P:Program} {o2:Obj} (h:∀ W,Qb w W->W.heap[w.heap.size]?=some o->W.heap[w.heap.size + 1]?=some o2->w.heap.size + 2<=W.heap.size->Calls P g a W Q):Calls P g a ((w.alloc o).alloc o2) Q:=h _ ((bR.alloc nL _).alloc bJ6 _) ((Am (w.alloc o) o2 bJ6).trans (kg rfl)) (kg bJ6) bJ6
def kBz {o2:Obj} (h:∀ W,Qb w W->W.heap[w.heap.size]?=some o->W.heap[w.heap.size + 1]?=some o2->w.heap.size + 2<=W.heap.size->P W):P ((w.alloc o).alloc o2):=h _ ((bR.alloc nL _).alloc bJ6 _) ((Am (w.alloc o) o2 bJ6).trans (kg rfl)) (kg bJ6) bJ6
def jJ {A:Obj} (h:w.heap[b]?=some o):(w.alloc A).heap[b]?=some o:=(Am w A (Ad.1 h).1).trans h
def kC {W':Ab} (h:W.heap[b]?=some o) (d:Qb W W'):W'.heap[b]?=some o:=(d.block b (Ad.1 h).1).trans h
def Touch.kC {S:Nat->Prop} {W':Ab} (d:Touch S W W') (h:W.heap[b]?=some o) (hb:¬ S b):W'.heap[b]?=some o:=(d.block b (Ad.1 h).1 hb).trans h
def kE {cs:Au Ac} (h:W.heap[b]?=some (.cells cs t fr)) (hv:cs[j]?=some v):Qc W b j v:=(cell_of_row W b j cs t fr h).trans hv
namespace kD
def setCells (w:Ab) (b p:Nat):Aq Ac->Ab
  | []=>w
  | c :: cs=>setCells (w.setCell ⟨b,p,none⟩ c) b (p + 1) cs
def kBj:∀ (cs:Aq Ac) (w:Ab) (b p k:Nat),k≠b->(setCells w b p cs).heap[k]?=w.heap[k]?
  | [],_,_,_,_,_=>rfl
  | c :: cs,w,b,p,k,h=>by
    rw [setCells,kBj cs _ b (p + 1) k h];exact Ag w ⟨b,p,none⟩ k c h
def setCells_size:∀ (cs:Aq Ac) (w:Ab) (b p:Nat),(setCells w b p cs).heap.size=w.heap.size
  | [],_,_,_=>rfl
  | c :: cs,w,b,p=>by rw [setCells,setCells_size cs];simp [World.setCell]
def kIa:∀ (cs:Aq Ac) (w:Ab) (b p:Nat),(setCells w b p cs).os=w.os/\(setCells w b p cs).tape=w.tape/\(setCells w b p cs).output=w.output
  | [],_,_,_=>⟨rfl,rfl,rfl⟩
  | c :: cs,w,b,p=>by rw [setCells];exact kIa cs _ b (p + 1)
def kAc (cs:Aq Ac) (w:Ab) (b p:Nat):Touch (λk=>k=b) w (setCells w b p cs) :=
  ⟨(kIa cs w b p).1,(kIa cs w b p).2.1,(kIa cs w b p).2.2,by rw [setCells_size];exact Nat.le_refl _,λk _ hk=>kBj cs w b p k hk⟩
def kBf {e:Ae}:∀ (cs c hd tl:Aq Ac) (w:Ab) (b p:Nat),w.heap[b]?=some (.cells (hd++(c++tl)).toArray e (0,0))->hd.length=p->c.length=cs.length ->
    (setCells w b p cs).heap[b]?=some (.cells (hd++(cs++tl)).toArray e (0,0))
  | [],c,hd,tl,w,b,p,h,hp,hc=>by
    have:c=[]:=List.eq_nil_of_length_eq_zero bG0;subst this;exact h
  | v :: cs,[],hd,tl,w,b,p,h,hp,hc=>by simp at hc
  | v :: cs,u :: c,hd,tl,w,b,p,h,hp,hc=>by
    rw [setCells];have h1:=heap_setCell_same w b p _ e v h;have h2:((hd++(u :: c++tl)).toArray.setIfInBounds p v)=((hd++[v])++(c++tl)).toArray:=by
      subst hp;simp
    rw [h2] at h1;have:=kBf cs c (hd++[v]) tl _ b (p + 1) h1 bJ3 bG0;simpa using this
section
variable {α:Type} {r:kD α} {e:Ae} {w w':Ab} {b off len cap:Nat} {xs:Aq α} {S T:Nat->Prop}
def kUj (h:(slice e r).own w [.slice (some ⟨b,off,none⟩) len cap] xs S) (hne:0 < xs.length) :
    len=xs.length/\len<=cap/\cap<=maxLen/\xs.length<=Big/\(∀ x∈xs,r.bdd Big x)/\∃ (hd cs tl:Aq Ac),w.heap[b]?=some (.cells (hd++(cs++tl)).toArray e (0,0))/\hd.length=off/\off + cap * r.n<=(hd++(cs++tl)).length/\S b /\
      row r true w cs xs (λk=>S k/\k≠b):=by
 obtain ⟨⟨a',H,cap',h0,h1,h2,h3,h4⟩,hb⟩:=h;simp only [Aw,Av,Ap] at h0;obtain ⟨rfl,rfl,rfl⟩:=h0;rcases h4 with ⟨rfl,_⟩|⟨b',off',ha,cur,e',fr,p,c,q,hb',hc,hp,hl,hf,hS,hx⟩;simp at hne;simp only [Ah,Ak,Ap] at ha;obtain ⟨rfl,rfl⟩:=ha;obtain ⟨rfl,rfl⟩:=hf rfl;have L:cur=(p++(c++q)).toArray:=by rw [<- hc]
 subst L;exact ⟨h1,h2,h3,hb.1,hb.2,p,c,q,hb',hp,by simpa using hl,hS,yx hx (λk hk=>⟨hk.1,hk.2 rfl⟩)⟩
def own_shut {hd cs tl:Aq Ac} (h1:len=xs.length) (h2:len<=cap) (h3:cap<=maxLen) (h4:xs.length<=Big) (h5:∀ x∈xs,r.bdd Big x) (h6:w.heap[b]?=some (.cells (hd++(cs++tl)).toArray e (0,0))) (h7:hd.length=off)
    (h8:off + cap * r.n<=(hd++(cs++tl)).length) (h9:S b) (E:row r true w cs xs (λk=>S k/\k≠b)):(slice e r).own w [.slice (some ⟨b,off,none⟩) len cap] xs S :=
  ⟨⟨_,_,_,rfl,h1,h2,h3,.inr ⟨b,off,rfl,_,e,(0,0),hd,cs,tl,h6,rfl,h7,by simpa using h8,λ_=>⟨rfl,rfl⟩,h9,yx E (λk hk=>⟨hk.1,λ_=>hk.2⟩)⟩⟩,h4,h5⟩
def bdd_set {y:α} (h5:∀ x∈xs,r.bdd Big x) (hy:r.bdd Big y):∀ x∈xs.set i y,r.bdd Big x:=by
 intro x hx;rcases List.mem_or_eq_of_mem_set hx with h | h;exact h5 x h;exact h ▸ hy
def own_get (h:(slice e r).own w [.slice (some ⟨b,off,none⟩) len cap] xs S) (hi:i < xs.length) :
    ∃ c B,r.own w c xs[i] B/\(∀ k,B k->S k/\k≠b)/\S b/\(∀ j v,c[j]?=some v->w.cell? ⟨b,off + i * r.n + j,none⟩=some v)/\(∀ j,w.frozen? ⟨b,j,none⟩=false) /\
      (∀ {w':Ab} {y:α},r.own w' c y B->Touch B w w'->(slice e r).own w' [.slice (some ⟨b,off,none⟩) len cap] (xs.set i y) S):=by
 obtain ⟨h1,h2,h3,h4,h5,hd,cs,tl,h6,h7,h8,h9,E⟩:=kUj h bJ5;obtain ⟨p,c,q,A,B,C,rfl,hp,ra,rb,rc,hA,hB,hC,D⟩:=kWf E hi;have hlt:b < w.heap.size:=(Ad.1 h6).1;refine ⟨c,λk=>B k/\k < w.heap.size,⟨r.live rb,h5 _ (List.getElem_mem hi)⟩,λk hk=>hB k hk.1,h9,?_,λj=>Aa w b j _ e h6,?_⟩
 · intro j v J;have aq:=(List.getElem?_eq_some_iff.1 J).1;rw [cell_of_row w b _ _ e (0,0) h6];simp only [List.getElem?_toArray];rw [Aj bJ5,Ai,Aj bJ5,Ai,List.getElem?_append_left bJ5];rw [<- J];congr 1;omega
 intro w' y hy ht;have hb':w'.heap[b]?=w.heap[b]?:=ht.block b hlt (λq=>(hB b q.1).2 rfl);refine own_shut bG6 h2 h3 (by simpa using h4) (bdd_set h5 hy.2) (hb'.trans h6) h7 h8 h9 ?_;have G:=yu (w':=w') (kAh ra) (λk hk=>ht.block k hk.2 (λq=>(D rfl k).1 hk.1 q.1));have F:=yu (w':=w') (kAh rc) (λk hk=>ht.block k hk.2 (λq=>(D rfl k).2.2 q.1 hk.1));exact jIf hi G hy.1 F (λk hk=>hA k hk.1) (λk hk=>hB k hk.1) (λk hk=>hC k hk.1) (λ_ k=>⟨λa b=>(D rfl k).1 a.1 b.1,λa c=>(D rfl k).2.1 a.1 c.1,λb c=>(D rfl k).2.2 b.1 c.1⟩)
def kYg (h:(slice e r).own w [.slice (some ⟨b,off,none⟩) len cap] xs S) {y:α} (hi:i < xs.length) (J:j < r.n)
    (hy:∀ {w:Ab} {cs:Aq Ac} {S:Nat->Prop},r.is true w cs xs[i] S->r.is true w (cs.set j v) y S) (hby:r.bdd Big y) :
    (slice e r).own (w.setCell ⟨b,off + i * r.n + j,none⟩ v) [.slice (some ⟨b,off,none⟩) len cap] (xs.set i y) S/\Touch (λk=>k=b) w (w.setCell ⟨b,off + i * r.n + j,none⟩ v):=by
 obtain ⟨h1,h2,h3,h4,h5,hd,cs,tl,h6,h7,h8,h9,E⟩:=kUj h bJ5;obtain ⟨p,c,q,A,B,C,rfl,hp,ra,rb,rc,hA,hB,hC,D⟩:=kWf E hi;have ho:∀ k,k≠b->(w.setCell ⟨b,off + i * r.n + j,none⟩ v).heap[k]?=w.heap[k]?:=λk hk=>Ag w ⟨b,_,none⟩ k v hk;have hc:=r.len rb;refine ⟨?_,⟨rfl,rfl,rfl,by simp [World.setCell],λk _ hk=>ho k hk⟩⟩;have F:=heap_setCell_same w b (off + i * r.n + j) _ e v h6;have L:((hd++((p++(c++q))++tl)).toArray.setIfInBounds (off + i * r.n + j) v)=(hd++((p++(c.set j v++q))++tl)).toArray:=by
  apply Array.ext';simp only [Array.toList_setIfInBounds];rw [Al _ _ bJ5,Ai,Al _ _ bJ5,Ai,List.set_append_left _ _ bJ5];rw [show off + i * r.n + j - hd.length - p.length=j by omega];simp
 rw [L] at F;refine own_shut bG6 h2 h3 (by simpa using h4) (bdd_set h5 hby) F h7 (by simpa using h8) h9 ?_;exact jIf hi (yu ra (λk hk=>ho k (hA k hk).2)) (r.mono (hy rb) (λk hk=>ho k (hB k hk).2)) (yu rc (λk hk=>ho k (hC k hk).2)) hA hB hC D
def own_frozen (h:(slice e r).own w [.slice (some ⟨b,off,none⟩) len cap] xs S) (hne:0 < xs.length) (j:Nat):w.frozen? ⟨b,j,none⟩=false:=by
 obtain ⟨_,_,_,_,_,hd,cs,tl,h6,_⟩:=kUj h hne;exact Aa w b j _ e h6
def kJv {a:Option Ar} (h:(slice e r).own w [.slice a len cap] xs S) (hne:0 < xs.length):len=xs.length/\∃ b off,a=some ⟨b,off,none⟩/\S b/\b < w.heap.size:=by
 obtain ⟨⟨a',H,cap',h0,h1,h2,h3,h4⟩,hb⟩:=h;simp only [Aw,Av,Ap] at h0;obtain ⟨rfl,rfl,rfl⟩:=h0;rcases h4 with ⟨rfl,_⟩|⟨b',off',ha,cur,e',fr,p,c,q,hb',hc,hp,hl,hf,hS,hx⟩;simp at hne;exact ⟨h1,b',off',ha,hS,(Ad.1 hb').1⟩
variable {β:Type} {q:kD β} {cs ds:Aq Ac} {x:α} {y:β} {A B:Nat->Prop}
def own.setCell (h:r.own w cs x S) {p:Ar} {v:Ac} (hp:¬ S p.block):r.own (w.setCell p v) cs x S :=
  h.keep (λk hk _=>Ag w p k v (λq=>hp (q ▸ hk)))
def own.alloc (h:r.own w cs x S) (o:Obj):r.own (w.alloc o) cs x S:=h.below (kAb w o)
def own.drew (h:r.own w cs x S):r.own w.drew cs x S:=h.below (kTg w)
def ko.setCell {v:Ac} (h:ko e r w v xs S) {p:Ar} {u:Ac} (hp:¬ S p.block):ko e r (w.setCell p u) v xs S :=
  h.keep (λk hk _=>Ag w p k u (λq=>hp (q ▸ hk)))
def ko.alloc {v:Ac} (h:ko e r w v xs S) (o:Obj):ko e r (w.alloc o) v xs S:=h.below (kAb w o)
def ko.drew {v:Ac} (h:ko e r w v xs S):ko e r w.drew v xs S:=h.below (kTg w)
def own.out {lo hi:Nat} (h:r.own w cs x (jW lo hi)) (k:∀ j,lo<=j->j < hi->w'.heap[j]?=w.heap[j]?):r.own w' cs x (jW lo hi):=h.keep (λj J _=>k j J.1 J.2)
def flat (r:kD α) (cs:Aq Ac) (x:α):Prop:=∀ w,r.own w cs x (λ_=>False)
def jB (h:Qi n):int.flat [.int .i64 n] n:=λ_=>⟨⟨rfl,h⟩,trivial⟩
def jGx (b:Bool):bool.flat [.bool b] b:=λ_=>⟨rfl,trivial⟩
def jGw (b:UInt8):byte.flat [.int .u8 b.toNat] b:=λ_=>⟨rfl,trivial⟩
def kFr (h:s.size<=Big):str.flat [.string s] s:=λ_=>⟨⟨rfl,by unfold maxLen;unfold Big at h;omega⟩,h⟩
def yh (h:r.flat cs x) (k:q.flat ds y):(pair r q).flat (cs++ds) (x,y):=λw =>
  ⟨⟨cs,ds,_,_,rfl,(h w).1,(k w).1,λ_ h=>h,λ_ h=>h,λ_ _ h _=>h⟩,(h w).2,(k w).2⟩
def flat.own (h:r.flat cs x):r.own w cs x S:=(h w).wide (λ_ h=>h.elim)
def flat.raw (h:r.flat cs x):r.raw w cs x:=(h w).raw
def flat.rd (h:r.flat cs x):r.rd w cs x:=(h w).rd
def ji (h:r.own w cs x A) (k:q.own w ds y B) (hA:∀ k,A k->S k) (hB:∀ k,B k->S k) (hd:∀ k,A k->B k->False):(pair r q).own w (cs++ds) (x,y) S :=
  ⟨⟨cs,ds,A,B,rfl,h.1,k.1,hA,hB,λ_=>hd⟩,h.2,k.2⟩
def yR (h:r.own w cs x S) (k:q.flat ds y):(pair r q).own w (cs++ds) (x,y) S :=
  ji h (k w) (λ_ h=>h) (λ_ h=>h.elim) (λ_ _ h=>h)
def kCp (h:r.flat cs x) (k:q.own w ds y S):(pair r q).own w (cs++ds) (x,y) S :=
  ji (h w) k (λ_ h=>h.elim) (λ_ h=>h) (λ_ h _=>h)
def kEt {z:α × β} (h:(pair r q).own w cs z S):∃ c d A B,cs=c++d/\r.own w c z.1 A/\q.own w d z.2 B/\(∀ k,A k->S k)/\(∀ k,B k->S k)/\(∀ k,A k->B k->False):=by
 obtain ⟨⟨c,d,A,B,rfl,h1,h2,hA,hB,hd⟩,hb⟩:=h;exact ⟨c,d,A,B,rfl,⟨h1,hb.1⟩,⟨h2,hb.2⟩,hA,hB,hd rfl⟩
def yV {z:α × β} (h:(pair r q).raw w cs z):∃ c d,cs=c++d/\r.raw w c z.1/\q.raw w d z.2:=by
 obtain ⟨c,d,A,B,rfl,h1,h2,hA,hB,hd⟩:=h;exact ⟨c,d,rfl,r.wide h1 (λ_ _=>trivial),q.wide h2 (λ_ _=>trivial)⟩
def yX (h:int.raw w cs n):cs=[.int .i64 n]/\Qi n:=h
def bool_raw {b:Bool} (h:bool.raw w cs b):cs=[.bool b]:=h
def kKe {b:UInt8} (h:byte.raw w cs b):cs=[.int .u8 b.toNat]:=h
def zQ (h:str.raw w cs s):cs=[.string s]/\s.size<=maxLen:=h
def kAx {xs:Aq α} (h:(slice e r).raw w cs xs):∃ v,cs=[v]/\(slice e r).raw w [v] xs:=by
 obtain ⟨a,cap,rfl,_⟩:=kBw h;exact ⟨_,rfl,h⟩
end
def Sub {β:Type} (r:kD α) (q:kD β) (E:α->β) (put:α->β->α) (i:Nat):Prop :=
  ∀ {w:Ab} {cs:Aq Ac} {x:α} {B:Nat->Prop},r.own w cs x B->∃ A,q.own w ((cs.drop i).take q.n) (E x) A/\(∀ k,A k->B k) /\
    ∀ {w':Ab} {y:β},q.own w' ((cs.drop i).take q.n) y A->Touch A w w'->r.own w' cs (put x y) B
def Sub.refl (r:kD α):Sub r r (λx=>x) (λ_ y=>y) 0:=by
 intro w cs x B h;have e:(cs.drop 0).take r.n=cs:=by rw [List.drop_zero,List.take_of_length_le (by rw [r.len h.1];exact Nat.le_refl _)]
 rw [e];exact ⟨B,h,λ_ h=>h,λh _=>h⟩
def Sub.left {β γ:Type} {q:kD β} {p:kD γ} {E:α->γ} {put:α->γ->α} (s:Sub r p E put i) (hi:i + p.n<=r.n):Sub (pair r q) p (λz=>E z.1) (λz y=>(put z.1 y,z.2)) i:=by
 intro w cs z B h;obtain ⟨c,d,A,D,rfl,h1,h2,hA,F,hd⟩:=kEt h;obtain ⟨L,h3,h4,h5⟩:=s h1;have hc:=r.len h1.1;have e:((c++d).drop i).take p.n=(c.drop i).take p.n:=by
  rw [List.drop_append_of_le_length bJ5,List.take_append_of_le_length (by rw [List.length_drop];omega)]
 rw [e];exact ⟨L,h3,λk hk=>hA k (h4 k hk),λh6 t=>ji (h5 h6 t) (h2.touch t (λk hk q=>hd k (h4 k q) hk)) hA F hd⟩
def Sub.right {β γ:Type} {q:kD β} {p:kD γ} {E:β->γ} {put:β->γ->β} (s:Sub q p E put i) (J:j=r.n + i):Sub (pair r q) p (λz=>E z.2) (λz y=>(z.1,put z.2 y)) j:=by
 subst J;intro w cs z B h;obtain ⟨c,d,A,D,rfl,h1,h2,hA,F,hd⟩:=kEt h;obtain ⟨L,h3,h4,h5⟩:=s h2;have hc:=r.len h1.1;have e:((c++d).drop (r.n + i)).take p.n=(d.drop i).take p.n:=by
  rw [<- hc,<- List.drop_drop,List.drop_left]
 rw [e];exact ⟨L,h3,λk hk=>F k (h4 k hk),λh6 t=>ji (h1.touch t (λk hk q=>hd k hk (h4 k q))) (h5 h6 t) hA F hd⟩
def at1 {len cap:Nat} (h:(slice e r).raw w [.slice (Qa b) len cap] xs) (hi:i < xs.length) (hn:r.n=1) :
    ∃ c0,r.raw w [c0] xs[i]/\Qc w b i c0:=by
 obtain ⟨b',off',ha,c0,hr,h0⟩:=kAu h hi hn;simp only [Ah,Ak,Ap] at ha;obtain ⟨rfl,rfl⟩:=ha;simp only [Nat.zero_add] at h0;exact ⟨c0,hr,h0⟩
def at3 {len cap:Nat} (h:(slice e r).raw w [.slice (Qa b) len cap] xs) (hi:i < xs.length) (hn:r.n=3) :
    ∃ c0 c1 c2,r.raw w [c0,c1,c2] xs[i]/\Qc w b (i * 3) c0/\Qc w b (i * 3 + 1) c1/\Qc w b (i * 3 + 2) c2:=by
 obtain ⟨b',off',ha,c0,c1,c2,hr,h0,h1,h2⟩:=zx h hi hn;simp only [Ah,Ak,Ap] at ha;obtain ⟨rfl,rfl⟩:=ha;simp only [Nat.zero_add] at h0 h1 h2;exact ⟨c0,c1,c2,hr,h0,h1,h2⟩
def at6 {len cap:Nat} (h:(slice e r).raw w [.slice (Qa b) len cap] xs) (hi:i < xs.length) (hn:r.n=6) :
    ∃ c0 c1 c2 c3 c4 c5,r.raw w [c0,c1,c2,c3,c4,c5] xs[i]/\Qc w b (i * 6) c0/\Qc w b (i * 6 + 1) c1/\Qc w b (i * 6 + 2) c2/\Qc w b (i * 6 + 3) c3/\Qc w b (i * 6 + 4) c4/\Qc w b (i * 6 + 5) c5:=by
 obtain ⟨b',off',ha,c0,c1,c2,c3,c4,c5,hr,h0,h1,h2,h3,h4,h5⟩:=get6 h hi hn;simp only [Ah,Ak,Ap] at ha;obtain ⟨rfl,rfl⟩:=ha;simp only [Nat.zero_add] at h0 h1 h2 h3 h4 h5;exact ⟨c0,c1,c2,c3,c4,c5,hr,h0,h1,h2,h3,h4,h5⟩
end kD
def kAj (r:kD α) (x:α) (w:Ab) (e:Ending) (w':Ab):Prop:=∃ v,e=.returned v/\r.own w' [v] x (jW w w')/\Qb w w'
def kAm (r:kD α) (x:α) (w:Ab) (e:Ending) (w':Ab):Prop:=∃ cs,e=.returned (.agg cs.toArray)/\r.own w' cs x (jW w w')/\Qb w w'
def yA (h:W.heap[b]?=some (.cells #[c0,c1] t fr)):Qc W b 0 c0/\W.cell? ⟨b,1,none⟩=some c1 :=
  ⟨kE h rfl,kE h rfl⟩
def kCg (h:W.heap[b]?=some (.cells a t (0,0))):W.frozen? ⟨b,0,none⟩=false/\W.frozen? ⟨b,1,none⟩=false :=
  ⟨Aa W b 0 _ _ h,Aa W b 1 _ _ h⟩
def kBc (h:W.heap[b]?=some (.cells #[c0,c1,c2] t fr)):Qc W b 0 c0/\Qc W b 1 c1/\W.cell? ⟨b,2,none⟩=some c2 :=
  ⟨kE h rfl,kE h rfl,kE h rfl⟩
def rowF3 (h:W.heap[b]?=some (.cells a t (0,0))):W.frozen? ⟨b,0,none⟩=false/\W.frozen? ⟨b,1,none⟩=false/\W.frozen? ⟨b,2,none⟩=false :=
  ⟨Aa W b 0 _ _ h,Aa W b 1 _ _ h,Aa W b 2 _ _ h⟩
def zF (h:W.heap[b]?=some (.cells #[c0,c1,c2,c3] t fr)):Qc W b 0 c0/\Qc W b 1 c1/\Qc W b 2 c2/\W.cell? ⟨b,3,none⟩=some c3 :=
  ⟨kE h rfl,kE h rfl,kE h rfl,kE h rfl⟩
def kIg (h:W.heap[b]?=some (.cells a t (0,0))):W.frozen? ⟨b,0,none⟩=false/\W.frozen? ⟨b,1,none⟩=false/\W.frozen? ⟨b,2,none⟩=false/\W.frozen? ⟨b,3,none⟩=false :=
  ⟨Aa W b 0 _ _ h,Aa W b 1 _ _ h,Aa W b 2 _ _ h,Aa W b 3 _ _ h⟩
def jP (h:W.heap[b]?=some (.cells #[c0,c1,c2,c3,c4] t fr)):Qc W b 0 c0/\Qc W b 1 c1/\Qc W b 2 c2/\Qc W b 3 c3/\W.cell? ⟨b,4,none⟩=some c4 :=
  ⟨kE h rfl,kE h rfl,kE h rfl,kE h rfl,kE h rfl⟩
def kBb (h:W.heap[b]?=some (.cells a t (0,0))):W.frozen? ⟨b,0,none⟩=false/\W.frozen? ⟨b,1,none⟩=false/\W.frozen? ⟨b,2,none⟩=false/\W.frozen? ⟨b,3,none⟩=false/\W.frozen? ⟨b,4,none⟩=false :=
  ⟨Aa W b 0 _ _ h,Aa W b 1 _ _ h,Aa W b 2 _ _ h,Aa W b 3 _ _ h,Aa W b 4 _ _ h⟩
def kYd (h:W.heap[b]?=some (.cells #[c0,c1,c2,c3,c4,c5] t fr)):Qc W b 0 c0/\Qc W b 1 c1/\Qc W b 2 c2/\Qc W b 3 c3/\Qc W b 4 c4/\W.cell? ⟨b,5,none⟩=some c5 :=
  ⟨kE h rfl,kE h rfl,kE h rfl,kE h rfl,kE h rfl,kE h rfl⟩
def jX {O D:Ac} (h:W.heap[b]?=some (.cells #[c0,c1,c2,c3,c4,c5,O,D] t fr)):Qc W b 0 c0/\Qc W b 1 c1/\Qc W b 2 c2/\Qc W b 3 c3/\Qc W b 4 c4/\Qc W b 5 c5/\Qc W b 6 O/\W.cell? ⟨b,7,none⟩=some D :=
  ⟨kE h rfl,kE h rfl,kE h rfl,kE h rfl,kE h rfl,kE h rfl,kE h rfl,kE h rfl⟩
def kBn (h:W.heap[b]?=some (.cells a t (0,0))):W.frozen? ⟨b,0,none⟩=false/\W.frozen? ⟨b,1,none⟩=false/\W.frozen? ⟨b,2,none⟩=false/\W.frozen? ⟨b,3,none⟩=false/\W.frozen? ⟨b,4,none⟩=false/\W.frozen? ⟨b,5,none⟩=false/\W.frozen? ⟨b,6,none⟩=false/\W.frozen? ⟨b,7,none⟩=false :=
  ⟨Aa W b 0 _ _ h,Aa W b 1 _ _ h,Aa W b 2 _ _ h,Aa W b 3 _ _ h,Aa W b 4 _ _ h,Aa W b 5 _ _ h,Aa W b 6 _ _ h,Aa W b 7 _ _ h⟩
def zD {O D c8:Ac} (h:W.heap[b]?=some (.cells #[c0,c1,c2,c3,c4,c5,O,D,c8] t fr)):Qc W b 0 c0/\Qc W b 1 c1/\Qc W b 2 c2/\Qc W b 3 c3/\Qc W b 4 c4/\Qc W b 5 c5/\Qc W b 6 O/\Qc W b 7 D/\W.cell? ⟨b,8,none⟩=some c8 :=
  ⟨kE h rfl,kE h rfl,kE h rfl,kE h rfl,kE h rfl,kE h rfl,kE h rfl,kE h rfl,kE h rfl⟩
def kCf (h:W.heap[b]?=some (.cells a t (0,0))):W.frozen? ⟨b,0,none⟩=false/\W.frozen? ⟨b,1,none⟩=false/\W.frozen? ⟨b,2,none⟩=false/\W.frozen? ⟨b,3,none⟩=false/\W.frozen? ⟨b,4,none⟩=false/\W.frozen? ⟨b,5,none⟩=false/\W.frozen? ⟨b,6,none⟩=false/\W.frozen? ⟨b,7,none⟩=false/\W.frozen? ⟨b,8,none⟩=false :=
  ⟨Aa W b 0 _ _ h,Aa W b 1 _ _ h,Aa W b 2 _ _ h,Aa W b 3 _ _ h,Aa W b 4 _ _ h,Aa W b 5 _ _ h,Aa W b 6 _ _ h,Aa W b 7 _ _ h,Aa W b 8 _ _ h⟩
def jBy {O D c8 c9 E:Ac} (h:W.heap[b]?=some (.cells #[c0,c1,c2,c3,c4,c5,O,D,c8,c9,E] t fr)):Qc W b 0 c0/\Qc W b 1 c1/\Qc W b 2 c2/\Qc W b 3 c3/\Qc W b 4 c4/\Qc W b 5 c5/\Qc W b 6 O/\Qc W b 7 D/\Qc W b 8 c8/\Qc W b 9 c9/\W.cell? ⟨b,10,none⟩=some E :=
  ⟨kE h rfl,kE h rfl,kE h rfl,kE h rfl,kE h rfl,kE h rfl,kE h rfl,kE h rfl,kE h rfl,kE h rfl,kE h rfl⟩
def rowF11 (h:W.heap[b]?=some (.cells a t (0,0))):W.frozen? ⟨b,0,none⟩=false/\W.frozen? ⟨b,1,none⟩=false/\W.frozen? ⟨b,2,none⟩=false/\W.frozen? ⟨b,3,none⟩=false/\W.frozen? ⟨b,4,none⟩=false/\W.frozen? ⟨b,5,none⟩=false/\W.frozen? ⟨b,6,none⟩=false/\W.frozen? ⟨b,7,none⟩=false/\W.frozen? ⟨b,8,none⟩=false/\W.frozen? ⟨b,9,none⟩=false/\W.frozen? ⟨b,10,none⟩=false :=
  ⟨Aa W b 0 _ _ h,Aa W b 1 _ _ h,Aa W b 2 _ _ h,Aa W b 3 _ _ h,Aa W b 4 _ _ h,Aa W b 5 _ _ h,Aa W b 6 _ _ h,Aa W b 7 _ _ h,Aa W b 8 _ _ h,Aa W b 9 _ _ h,Aa W b 10 _ _ h⟩
def kNa (hb:Qb W D) (h0:W.cell? p0=some v0) (h1:W.cell? p1=some v1):D.cell? p0=some v0/\D.cell? p1=some v1 :=
  ⟨cL hb h0,cL hb h1⟩
def kJf (hb:Qb W D) (h0:W.cell? p0=some v0) (h1:W.cell? p1=some v1) (h2:W.cell? p2=some v2):D.cell? p0=some v0/\D.cell? p1=some v1/\D.cell? p2=some v2 :=
  ⟨cL hb h0,cL hb h1,cL hb h2⟩
def kIm (hb:Qb W D) (h0:W.cell? p0=some v0) (h1:W.cell? p1=some v1) (h2:W.cell? p2=some v2) (h3:W.cell? p3=some v3):D.cell? p0=some v0/\D.cell? p1=some v1/\D.cell? p2=some v2/\D.cell? p3=some v3 :=
  ⟨cL hb h0,cL hb h1,cL hb h2,cL hb h3⟩
def kRf (hb:Qb W D) (h0:W.cell? p0=some v0) (h1:W.cell? p1=some v1) (h2:W.cell? p2=some v2) (h3:W.cell? p3=some v3) (h4:W.cell? L=some v4):D.cell? p0=some v0/\D.cell? p1=some v1/\D.cell? p2=some v2/\D.cell? p3=some v3/\D.cell? L=some v4 :=
  ⟨cL hb h0,cL hb h1,cL hb h2,cL hb h3,cL hb h4⟩
def kPa (hb:Qb W D) (h0:W.cell? p0=some v0) (h1:W.cell? p1=some v1) (h2:W.cell? p2=some v2) (h3:W.cell? p3=some v3) (h4:W.cell? L=some v4) (h5:W.cell? O=some v5):D.cell? p0=some v0/\D.cell? p1=some v1/\D.cell? p2=some v2/\D.cell? p3=some v3/\D.cell? L=some v4/\D.cell? O=some v5 :=
  ⟨cL hb h0,cL hb h1,cL hb h2,cL hb h3,cL hb h4,cL hb h5⟩
def cLs7 (hb:Qb W D) (h0:W.cell? p0=some v0) (h1:W.cell? p1=some v1) (h2:W.cell? p2=some v2) (h3:W.cell? p3=some v3) (h4:W.cell? L=some v4) (h5:W.cell? O=some v5) (h6:W.cell? N=some v6):D.cell? p0=some v0/\D.cell? p1=some v1/\D.cell? p2=some v2/\D.cell? p3=some v3/\D.cell? L=some v4/\D.cell? O=some v5/\D.cell? N=some v6 :=
  ⟨cL hb h0,cL hb h1,cL hb h2,cL hb h3,cL hb h4,cL hb h5,cL hb h6⟩
def cLs8 (hb:Qb W D) (h0:W.cell? p0=some v0) (h1:W.cell? p1=some v1) (h2:W.cell? p2=some v2) (h3:W.cell? p3=some v3) (h4:W.cell? L=some v4) (h5:W.cell? O=some v5) (h6:W.cell? N=some v6) (h7:W.cell? X=some G):D.cell? p0=some v0/\D.cell? p1=some v1/\D.cell? p2=some v2/\D.cell? p3=some v3/\D.cell? L=some v4/\D.cell? O=some v5/\D.cell? N=some v6/\D.cell? X=some G :=
  ⟨cL hb h0,cL hb h1,cL hb h2,cL hb h3,cL hb h4,cL hb h5,cL hb h6,cL hb h7⟩
def kYs (hb:Qb W D) (h0:W.cell? p0=some v0) (h1:W.cell? p1=some v1) (h2:W.cell? p2=some v2) (h3:W.cell? p3=some v3) (h4:W.cell? L=some v4) (h5:W.cell? O=some v5) (h6:W.cell? N=some v6) (h7:W.cell? X=some G) (h8:W.cell? Y=some v8) (h9:W.cell? Z=some v9):D.cell? p0=some v0/\D.cell? p1=some v1/\D.cell? p2=some v2/\D.cell? p3=some v3/\D.cell? L=some v4/\D.cell? O=some v5/\D.cell? N=some v6/\D.cell? X=some G/\D.cell? Y=some v8/\D.cell? Z=some v9 :=
  ⟨cL hb h0,cL hb h1,cL hb h2,cL hb h3,cL hb h4,cL hb h5,cL hb h6,cL hb h7,cL hb h8,cL hb h9⟩
def cLs11 (hb:Qb W D) (h0:W.cell? p0=some v0) (h1:W.cell? p1=some v1) (h2:W.cell? p2=some v2) (h3:W.cell? p3=some v3) (h4:W.cell? L=some v4) (h5:W.cell? O=some v5) (h6:W.cell? N=some v6) (h7:W.cell? X=some G) (h8:W.cell? Y=some v8) (h9:W.cell? Z=some v9) (E:W.cell? F=some H):D.cell? p0=some v0/\D.cell? p1=some v1/\D.cell? p2=some v2/\D.cell? p3=some v3/\D.cell? L=some v4/\D.cell? O=some v5/\D.cell? N=some v6/\D.cell? X=some G/\D.cell? Y=some v8/\D.cell? Z=some v9/\D.cell? F=some H :=
  ⟨cL hb h0,cL hb h1,cL hb h2,cL hb h3,cL hb h4,cL hb h5,cL hb h6,cL hb h7,cL hb h8,cL hb h9,cL hb E⟩
def cLs12 {J:Ar} {I:Ac} (hb:Qb W D) (h0:W.cell? p0=some v0) (h1:W.cell? p1=some v1) (h2:W.cell? p2=some v2) (h3:W.cell? p3=some v3) (h4:W.cell? L=some v4) (h5:W.cell? O=some v5) (h6:W.cell? N=some v6) (h7:W.cell? X=some G) (h8:W.cell? Y=some v8) (h9:W.cell? Z=some v9) (E:W.cell? F=some H) (aa:W.cell? J=some I):D.cell? p0=some v0/\D.cell? p1=some v1/\D.cell? p2=some v2/\D.cell? p3=some v3/\D.cell? L=some v4/\D.cell? O=some v5/\D.cell? N=some v6/\D.cell? X=some G/\D.cell? Y=some v8/\D.cell? Z=some v9/\D.cell? F=some H/\D.cell? J=some I :=
  ⟨cL hb h0,cL hb h1,cL hb h2,cL hb h3,cL hb h4,cL hb h5,cL hb h6,cL hb h7,cL hb h8,cL hb h9,cL hb E,cL hb aa⟩
def cLs14 {J V R:Ar} {I:Ac} (hb:Qb W D) (h0:W.cell? p0=some v0) (h1:W.cell? p1=some v1) (h2:W.cell? p2=some v2) (h3:W.cell? p3=some v3) (h4:W.cell? L=some v4) (h5:W.cell? O=some v5) (h6:W.cell? N=some v6) (h7:W.cell? X=some G) (h8:W.cell? Y=some v8) (h9:W.cell? Z=some v9) (E:W.cell? F=some H) (aa:W.cell? J=some I) (ag:W.cell? V=some al) (U:W.cell? R=some an):D.cell? p0=some v0/\D.cell? p1=some v1/\D.cell? p2=some v2/\D.cell? p3=some v3/\D.cell? L=some v4/\D.cell? O=some v5/\D.cell? N=some v6/\D.cell? X=some G/\D.cell? Y=some v8/\D.cell? Z=some v9/\D.cell? F=some H/\D.cell? J=some I/\D.cell? V=some al/\D.cell? R=some an :=
  ⟨cL hb h0,cL hb h1,cL hb h2,cL hb h3,cL hb h4,cL hb h5,cL hb h6,cL hb h7,cL hb h8,cL hb h9,cL hb E,cL hb aa,cL hb ag,cL hb U⟩
def cLs16 {J V R ab ac:Ar} {I af ae:Ac} (hb:Qb W D) (h0:W.cell? p0=some v0) (h1:W.cell? p1=some v1) (h2:W.cell? p2=some v2) (h3:W.cell? p3=some v3) (h4:W.cell? L=some v4) (h5:W.cell? O=some v5) (h6:W.cell? N=some v6) (h7:W.cell? X=some G) (h8:W.cell? Y=some v8) (h9:W.cell? Z=some v9) (E:W.cell? F=some H) (aa:W.cell? J=some I) (ag:W.cell? V=some al) (U:W.cell? R=some an) (ai:W.cell? ab=some af) (ah:W.cell? ac=some ae):D.cell? p0=some v0/\D.cell? p1=some v1/\D.cell? p2=some v2/\D.cell? p3=some v3/\D.cell? L=some v4/\D.cell? O=some v5/\D.cell? N=some v6/\D.cell? X=some G/\D.cell? Y=some v8/\D.cell? Z=some v9/\D.cell? F=some H/\D.cell? J=some I/\D.cell? V=some al/\D.cell? R=some an/\D.cell? ab=some af/\D.cell? ac=some ae :=
  ⟨cL hb h0,cL hb h1,cL hb h2,cL hb h3,cL hb h4,cL hb h5,cL hb h6,cL hb h7,cL hb h8,cL hb h9,cL hb E,cL hb aa,cL hb ag,cL hb U,cL hb ai,cL hb ah⟩
def cLs17 {J V R ab ac aj:Ar} {I af ae ak:Ac} (hb:Qb W D) (h0:W.cell? p0=some v0) (h1:W.cell? p1=some v1) (h2:W.cell? p2=some v2) (h3:W.cell? p3=some v3) (h4:W.cell? L=some v4) (h5:W.cell? O=some v5) (h6:W.cell? N=some v6) (h7:W.cell? X=some G) (h8:W.cell? Y=some v8) (h9:W.cell? Z=some v9) (E:W.cell? F=some H) (aa:W.cell? J=some I) (ag:W.cell? V=some al) (U:W.cell? R=some an) (ai:W.cell? ab=some af) (ah:W.cell? ac=some ae) (am:W.cell? aj=some ak):D.cell? p0=some v0/\D.cell? p1=some v1/\D.cell? p2=some v2/\D.cell? p3=some v3/\D.cell? L=some v4/\D.cell? O=some v5/\D.cell? N=some v6/\D.cell? X=some G/\D.cell? Y=some v8/\D.cell? Z=some v9/\D.cell? F=some H/\D.cell? J=some I/\D.cell? V=some al/\D.cell? R=some an/\D.cell? ab=some af/\D.cell? ac=some ae/\D.cell? aj=some ak :=
  ⟨cL hb h0,cL hb h1,cL hb h2,cL hb h3,cL hb h4,cL hb h5,cL hb h6,cL hb h7,cL hb h8,cL hb h9,cL hb E,cL hb aa,cL hb ag,cL hb U,cL hb ai,cL hb ah,cL hb am⟩
def cLs18 {J V R ab ac aj ap:Ar} {I af ae ak ao:Ac} (hb:Qb W D) (h0:W.cell? p0=some v0) (h1:W.cell? p1=some v1) (h2:W.cell? p2=some v2) (h3:W.cell? p3=some v3) (h4:W.cell? L=some v4) (h5:W.cell? O=some v5) (h6:W.cell? N=some v6) (h7:W.cell? X=some G) (h8:W.cell? Y=some v8) (h9:W.cell? Z=some v9) (E:W.cell? F=some H) (aa:W.cell? J=some I) (ag:W.cell? V=some al) (U:W.cell? R=some an) (ai:W.cell? ab=some af) (ah:W.cell? ac=some ae) (am:W.cell? aj=some ak) (aq:W.cell? ap=some ao):D.cell? p0=some v0/\D.cell? p1=some v1/\D.cell? p2=some v2/\D.cell? p3=some v3/\D.cell? L=some v4/\D.cell? O=some v5/\D.cell? N=some v6/\D.cell? X=some G/\D.cell? Y=some v8/\D.cell? Z=some v9/\D.cell? F=some H/\D.cell? J=some I/\D.cell? V=some al/\D.cell? R=some an/\D.cell? ab=some af/\D.cell? ac=some ae/\D.cell? aj=some ak/\D.cell? ap=some ao :=
  ⟨cL hb h0,cL hb h1,cL hb h2,cL hb h3,cL hb h4,cL hb h5,cL hb h6,cL hb h7,cL hb h8,cL hb h9,cL hb E,cL hb aa,cL hb ag,cL hb U,cL hb ai,cL hb ah,cL hb am,cL hb aq⟩
end Go.Proofs.YthocbplmdjkifabGreat

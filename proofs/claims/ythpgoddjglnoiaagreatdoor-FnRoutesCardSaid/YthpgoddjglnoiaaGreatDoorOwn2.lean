/-
  Slices that are owned: an element's cells, a store into a cell, a store of a whole element, a change behind an element. No program in sight.
-/
import Derived.Test.YthpgoddjglnoiaaGreatDoorOwn
set_option linter.unusedVariables false
set_option linter.unusedSimpArgs false
set_option linter.unnecessarySimpa false
namespace Go.Proofs.YthpgoddjglnoiaaGreatDoor
open Go.RowKit
theorem kX {w:World} {o:Obj} {b:Nat} (h:b=w.heap.size):(w.alloc o).heap[b]?=some o:=h ▸ heap_alloc_new w o
theorem heap_keep {w:World} {o A:Obj} {b:Nat} (h:w.heap[b]?=some o):(w.alloc A).heap[b]?=some o:=(heap_alloc_old w A (Array.getElem?_eq_some_iff.1 h).1).trans h
theorem kC {W W':World} {b:Nat} {o:Obj} (h:W.heap[b]?=some o) (d:Below W.heap.size W W'):W'.heap[b]?=some o:=(d.block b (Array.getElem?_eq_some_iff.1 h).1).trans h
theorem Touch.kC {S:Nat→Prop} {W W':World} (d:Touch S W W') {b:Nat} {o:Obj} (h:W.heap[b]?=some o) (hb:¬ S b):W'.heap[b]?=some o:=(d.block b (Array.getElem?_eq_some_iff.1 h).1 hb).trans h
theorem kT {W:World} {b:Nat} {cs:Array Value} {t:TypeId} {fr:Nat × Nat} (h:W.heap[b]?=some (.cells cs t fr)) {j:Nat} {v:Value} (hv:cs[j]?=some v):W.cell? ⟨b,j,none⟩=some v:=(cell_of_row W b j cs t fr h).trans hv
namespace Rep
def setCells (w:World) (b p:Nat):List Value→World
  | []=>w
  | c :: cs=>setCells (w.setCell ⟨b,p,none⟩ c) b (p + 1) cs
theorem jL:∀ (cs:List Value) (w:World) (b p k:Nat),k≠b→(setCells w b p cs).heap[k]?=w.heap[k]?
  | [],_,_,_,_,_=>rfl
  | c :: cs,w,b,p,k,h=>by
    rw [setCells,jL cs _ b (p + 1) k h]
    exact heap_setCell_other w ⟨b,p,none⟩ k c h
theorem setCells_size:∀ (cs:List Value) (w:World) (b p:Nat),(setCells w b p cs).heap.size=w.heap.size
  | [],_,_,_=>rfl
  | c :: cs,w,b,p=>by rw [setCells,setCells_size cs];simp [World.setCell]
theorem yh:∀ (cs:List Value) (w:World) (b p:Nat),(setCells w b p cs).os=w.os∧(setCells w b p cs).tape=w.tape∧(setCells w b p cs).output=w.output
  | [],_,_,_=>⟨rfl,rfl,rfl⟩
  | c :: cs,w,b,p=>by rw [setCells];exact yh cs _ b (p + 1)
theorem jK (cs:List Value) (w:World) (b p:Nat):Touch (fun k=>k=b) w (setCells w b p cs) :=
  ⟨(yh cs w b p).1,(yh cs w b p).2.1,(yh cs w b p).2.2,by rw [setCells_size];exact Nat.le_refl _,fun k _ hk=>jL cs w b p k hk⟩
theorem jI {e:TypeId}:∀ (cs c hd tl:List Value) (w:World) (b p:Nat),w.heap[b]?=some (.cells (hd++(c++tl)).toArray e (0,0))→hd.length=p→c.length=cs.length →
    (setCells w b p cs).heap[b]?=some (.cells (hd++(cs++tl)).toArray e (0,0))
  | [],c,hd,tl,w,b,p,h,hp,hc=>by
    have:c=[]:=List.eq_nil_of_length_eq_zero fG
    subst this
    exact h
  | v :: cs,[],hd,tl,w,b,p,h,hp,hc=>by simp at hc
  | v :: cs,u :: c,hd,tl,w,b,p,h,hp,hc=>by
    rw [setCells]
    have h1:=heap_setCell_same w b p _ e v h
    have h2:((hd++(u :: c++tl)).toArray.setIfInBounds p v)=((hd++[v])++(c++tl)).toArray:=by
      subst hp
      simp
    rw [h2] at h1
    have:=jI cs c (hd++[v]) tl _ b (p + 1) h1 (by simp [hp]) fG
    simpa using this
section
variable {α:Type} {r:Rep α} {e:TypeId} {w w':World} {b off len cap:Nat} {xs:List α} {S T:Nat→Prop}
theorem own_open (h:(slice e r).own w [.slice (some ⟨b,off,none⟩) len cap] xs S) (hne:0 < xs.length) :
    len=xs.length∧len≤cap∧cap≤maxLen∧xs.length≤Big∧(∀ x∈xs,r.bdd Big x)∧∃ (hd cs tl:List Value),w.heap[b]?=some (.cells (hd++(cs++tl)).toArray e (0,0))∧hd.length=off∧off + cap * r.n≤(hd++(cs++tl)).length∧S b ∧
      row r true w cs xs (fun k=>S k∧k≠b):=by
 obtain ⟨⟨a',len',cap',h0,h1,h2,h3,h4⟩,hb⟩:=h
 simp only [List.cons.injEq,Value.slice.injEq,and_true] at h0
 obtain ⟨rfl,rfl,rfl⟩:=h0
 rcases h4 with ⟨rfl,_⟩|⟨b',off',ha,cur,e',fr,p,c,q,hb',hc,hp,hl,hf,hS,hx⟩
 · simp at hne
 simp only [Option.some.injEq,Addr.mk.injEq,and_true] at ha
 obtain ⟨rfl,rfl⟩:=ha
 obtain ⟨rfl,rfl⟩:=hf rfl
 have hcur:cur=(p++(c++q)).toArray:=by rw [← hc]
 subst hcur
 exact ⟨h1,h2,h3,hb.1,hb.2,p,c,q,hb',hp,by simpa using hl,hS,ko hx (fun k hk=>⟨hk.1,hk.2 rfl⟩)⟩
theorem own_shut {hd cs tl:List Value} (h1:len=xs.length) (h2:len≤cap) (h3:cap≤maxLen) (h4:xs.length≤Big) (h5:∀ x∈xs,r.bdd Big x) (h6:w.heap[b]?=some (.cells (hd++(cs++tl)).toArray e (0,0))) (h7:hd.length=off)
    (h8:off + cap * r.n≤(hd++(cs++tl)).length) (h9:S b) (h10:row r true w cs xs (fun k=>S k∧k≠b)):(slice e r).own w [.slice (some ⟨b,off,none⟩) len cap] xs S :=
  ⟨⟨_,_,_,rfl,h1,h2,h3,.inr ⟨b,off,rfl,_,e,(0,0),hd,cs,tl,h6,rfl,h7,by simpa using h8,fun _=>⟨rfl,rfl⟩,h9,ko h10 (fun k hk=>⟨hk.1,fun _=>hk.2⟩)⟩⟩,h4,h5⟩
theorem bdd_set {i:Nat} {y:α} (h5:∀ x∈xs,r.bdd Big x) (hy:r.bdd Big y):∀ x∈xs.set i y,r.bdd Big x:=by
 intro x hx
 rcases List.mem_or_eq_of_mem_set hx with h | h
 · exact h5 x h
 exact h ▸ hy
theorem own_setCell (h:(slice e r).own w [.slice (some ⟨b,off,none⟩) len cap] xs S) {i j:Nat} {v:Value} {y:α} (hi:i < xs.length) (hj:j < r.n)
    (hy:∀ {w:World} {cs:List Value} {S:Nat→Prop},r.is true w cs xs[i] S→r.is true w (cs.set j v) y S) (hby:r.bdd Big y) :
    (slice e r).own (w.setCell ⟨b,off + i * r.n + j,none⟩ v) [.slice (some ⟨b,off,none⟩) len cap] (xs.set i y) S∧Touch (fun k=>k=b) w (w.setCell ⟨b,off + i * r.n + j,none⟩ v):=by
 obtain ⟨h1,h2,h3,h4,h5,hd,cs,tl,h6,h7,h8,h9,h10⟩:=own_open h fV
 obtain ⟨p,c,q,A,B,C,rfl,hp,ra,rb,rc,hA,hB,hC,hdis⟩:=row_at h10 hi
 have ho:∀ k,k≠b→(w.setCell ⟨b,off + i * r.n + j,none⟩ v).heap[k]?=w.heap[k]?:=fun k hk=>heap_setCell_other w ⟨b,_,none⟩ k v hk
 have hc:=r.len rb
 refine ⟨?_,⟨rfl,rfl,rfl,by simp [World.setCell],fun k _ hk=>ho k hk⟩⟩
 have h6':=heap_setCell_same w b (off + i * r.n + j) _ e v h6
 have hcur:((hd++((p++(c++q))++tl)).toArray.setIfInBounds (off + i * r.n + j) v)=(hd++((p++(c.set j v++q))++tl)).toArray:=by
  apply Array.ext'
  simp only [Array.toList_setIfInBounds]
  rw [List.set_append_right _ _ fV,List.append_assoc,List.set_append_right _ _ fV,List.append_assoc,List.set_append_left _ _ fV]
  rw [show off + i * r.n + j - hd.length - p.length=j by omega]
  simp
 rw [hcur] at h6'
 refine own_shut fH h2 h3 (by simpa using h4) (bdd_set h5 hby) h6' h7 (by simpa using h8) h9 ?_
 exact row_put hi (kw ra (fun k hk=>ho k (hA k hk).2)) (r.mono (hy rb) (fun k hk=>ho k (hB k hk).2)) (kw rc (fun k hk=>ho k (hC k hk).2)) hA hB hC hdis
variable {β:Type} {q:Rep β} {cs ds:List Value} {x:α} {y:β} {A B:Nat→Prop}
theorem own.setCell (h:r.own w cs x S) {p:Addr} {v:Value} (hp:¬ S p.block):r.own (w.setCell p v) cs x S :=
  h.keep (fun k hk _=>heap_setCell_other w p k v (fun q=>hp (q ▸ hk)))
theorem own.alloc (h:r.own w cs x S) (o:Obj):r.own (w.alloc o) cs x S:=h.below (jm w o)
theorem own.drew (h:r.own w cs x S):r.own w.drew cs x S:=h.below (kDb w)
theorem kH.setCell {v:Value} (h:kH e r w v xs S) {p:Addr} {u:Value} (hp:¬ S p.block):kH e r (w.setCell p u) v xs S :=
  h.keep (fun k hk _=>heap_setCell_other w p k u (fun q=>hp (q ▸ hk)))
theorem kH.alloc {v:Value} (h:kH e r w v xs S) (o:Obj):kH e r (w.alloc o) v xs S:=h.below (jm w o)
theorem kH.drew {v:Value} (h:kH e r w v xs S):kH e r w.drew v xs S:=h.below (kDb w)
theorem own.out {lo hi:Nat} (h:r.own w cs x (Btw lo hi)) (k:∀ j,lo≤j→j < hi→w'.heap[j]?=w.heap[j]?):r.own w' cs x (Btw lo hi):=h.keep (fun j hj _=>k j hj.1 hj.2)
def flat (r:Rep α) (cs:List Value) (x:α):Prop:=∀ w,r.own w cs x (fun _=>False)
theorem jN {n:Int} (h:-9223372036854775808≤n∧n≤9223372036854775807):int.flat [.int .i64 n] n:=fun _=>⟨⟨rfl,h⟩,trivial⟩
theorem kAr {s:ByteArray} (h:s.size≤Big):str.flat [.string s] s:=fun _=>⟨⟨rfl,by unfold maxLen;unfold Big at h;omega⟩,h⟩
theorem zT (h:r.flat cs x) (k:q.flat ds y):(pair r q).flat (cs++ds) (x,y):=fun w =>
  ⟨⟨cs,ds,_,_,rfl,(h w).1,(k w).1,fun _ h=>h,fun _ h=>h,fun _ _ h _=>h⟩,(h w).2,(k w).2⟩
theorem flat.own (h:r.flat cs x):r.own w cs x S:=(h w).wide (fun _ h=>h.elim)
theorem flat.raw (h:r.flat cs x):r.raw w cs x:=(h w).raw
theorem flat.rd (h:r.flat cs x):r.rd w cs x:=(h w).rd
theorem kGp (h:r.own w cs x A) (k:q.own w ds y B) (hA:∀ k,A k→S k) (hB:∀ k,B k→S k) (hd:∀ k,A k→B k→False):(pair r q).own w (cs++ds) (x,y) S :=
  ⟨⟨cs,ds,A,B,rfl,h.1,k.1,hA,hB,fun _=>hd⟩,h.2,k.2⟩
theorem kAm (h:r.own w cs x S) (k:q.flat ds y):(pair r q).own w (cs++ds) (x,y) S :=
  kGp h (k w) (fun _ h=>h) (fun _ h=>h.elim) (fun _ _ h=>h)
theorem pair_own {z:α × β} (h:(pair r q).own w cs z S):∃ c d A B,cs=c++d∧r.own w c z.1 A∧q.own w d z.2 B∧(∀ k,A k→S k)∧(∀ k,B k→S k)∧(∀ k,A k→B k→False):=by
 obtain ⟨⟨c,d,A,B,rfl,h1,h2,hA,hB,hd⟩,hb⟩:=h
 exact ⟨c,d,A,B,rfl,⟨h1,hb.1⟩,⟨h2,hb.2⟩,hA,hB,hd rfl⟩
theorem pair_raw {z:α × β} (h:(pair r q).raw w cs z):∃ c d,cs=c++d∧r.raw w c z.1∧q.raw w d z.2:=by
 obtain ⟨c,d,A,B,rfl,h1,h2,hA,hB,hd⟩:=h
 exact ⟨c,d,rfl,r.wide h1 (fun _ _=>trivial),q.wide h2 (fun _ _=>trivial)⟩
theorem kBf {n:Int} (h:int.raw w cs n):cs=[.int .i64 n]∧-9223372036854775808≤n∧n≤9223372036854775807:=h
theorem jv {s:ByteArray} (h:str.raw w cs s):cs=[.string s]∧s.size≤maxLen:=h
theorem slice_raw {xs:List α} (h:(slice e r).raw w cs xs):∃ v,cs=[v]∧(slice e r).raw w [v] xs:=by
 obtain ⟨a,cap,rfl,_⟩:=yj h
 exact ⟨_,rfl,h⟩
end
def Sub {α β:Type} (r:Rep α) (q:Rep β) (get:α→β) (put:α→β→α) (i:Nat):Prop :=
  ∀ {w:World} {cs:List Value} {x:α} {B:Nat→Prop},r.own w cs x B→∃ A,q.own w ((cs.drop i).take q.n) (get x) A∧(∀ k,A k→B k) ∧
    ∀ {w':World} {y:β},q.own w' ((cs.drop i).take q.n) y A→Touch A w w'→r.own w' cs (put x y) B
theorem Sub.refl {α:Type} (r:Rep α):Sub r r (fun x=>x) (fun _ y=>y) 0:=by
 intro w cs x B h
 have e:(cs.drop 0).take r.n=cs:=by rw [List.drop_zero,List.take_of_length_le (by rw [r.len h.1];exact Nat.le_refl _)]
 rw [e]
 exact ⟨B,h,fun _ h=>h,fun h _=>h⟩
theorem Sub.left {α β γ:Type} {r:Rep α} {q:Rep β} {p:Rep γ} {get:α→γ} {put:α→γ→α} {i:Nat} (s:Sub r p get put i) (hi:i + p.n≤r.n):Sub (pair r q) p (fun z=>get z.1) (fun z y=>(put z.1 y,z.2)) i:=by
 intro w cs z B h
 obtain ⟨c,d,A,D,rfl,h1,h2,hA,hD,hd⟩:=pair_own h
 obtain ⟨A',h3,h4,h5⟩:=s h1
 have hc:=r.len h1.1
 have e:((c++d).drop i).take p.n=(c.drop i).take p.n:=by
  rw [List.drop_append_of_le_length fV,List.take_append_of_le_length (by rw [List.length_drop];omega)]
 rw [e]
 exact ⟨A',h3,fun k hk=>hA k (h4 k hk),fun h6 t=>kGp (h5 h6 t) (h2.touch t (fun k hk q=>hd k (h4 k q) hk)) hA hD hd⟩
theorem Sub.right {α β γ:Type} {r:Rep α} {q:Rep β} {p:Rep γ} {get:β→γ} {put:β→γ→β} {i j:Nat} (s:Sub q p get put i) (hj:j=r.n + i):Sub (pair r q) p (fun z=>get z.2) (fun z y=>(z.1,put z.2 y)) j:=by
 subst hj
 intro w cs z B h
 obtain ⟨c,d,A,D,rfl,h1,h2,hA,hD,hd⟩:=pair_own h
 obtain ⟨A',h3,h4,h5⟩:=s h2
 have hc:=r.len h1.1
 have e:((c++d).drop (r.n + i)).take p.n=(d.drop i).take p.n:=by
  rw [← hc,← List.drop_drop,List.drop_left]
 rw [e]
 exact ⟨A',h3,fun k hk=>hD k (h4 k hk),fun h6 t=>kGp (h1.touch t (fun k hk q=>hd k hk (h4 k q))) (h5 h6 t) hA hD hd⟩
section
variable {α:Type} {r:Rep α} {e:TypeId} {w:World} {b off len cap:Nat} {xs:List α} {S:Nat→Prop}
end
theorem at3 {α:Type} {r:Rep α} {w:World} {e:TypeId} {b len cap:Nat} {xs:List α} (h:(slice e r).raw w [.slice (some ⟨b,0,none⟩) len cap] xs) {i:Nat} (hi:i < xs.length) (hn:r.n=3) :
    ∃ c0 c1 c2,r.raw w [c0,c1,c2] xs[i]∧w.cell? ⟨b,i * 3,none⟩=some c0∧w.cell? ⟨b,i * 3 + 1,none⟩=some c1∧w.cell? ⟨b,i * 3 + 2,none⟩=some c2:=by
 obtain ⟨b',off',ha,c0,c1,c2,hr,h0,h1,h2⟩:=yg h hi hn
 simp only [Option.some.injEq,Addr.mk.injEq,and_true] at ha
 obtain ⟨rfl,rfl⟩:=ha
 simp only [Nat.zero_add] at h0 h1 h2
 exact ⟨c0,c1,c2,hr,h0,h1,h2⟩
end Rep
def kAx {α:Type} (r:Rep α) (x:α) (w:World) (e:Ending) (w':World):Prop:=∃ v,e=.returned v∧r.own w' [v] x (Btw w.heap.size w'.heap.size)∧Below w.heap.size w w'
def kJk {α:Type} (r:Rep α) (x:α) (w:World) (e:Ending) (w':World):Prop:=∃ cs,e=.returned (.agg cs.toArray)∧r.own w' cs x (Btw w.heap.size w'.heap.size)∧Below w.heap.size w w'
theorem kFe {W:World} {b:Nat} {t:TypeId} {fr:Nat × Nat} {c0 c1 c2:Value} (h:W.heap[b]?=some (.cells #[c0,c1,c2] t fr)):W.cell? ⟨b,0,none⟩=some c0∧W.cell? ⟨b,1,none⟩=some c1∧W.cell? ⟨b,2,none⟩=some c2 :=
  ⟨kT h rfl,kT h rfl,kT h rfl⟩
theorem rowF3 {W:World} {b:Nat} {t:TypeId} {a:Array Value} (h:W.heap[b]?=some (.cells a t (0,0))):W.frozen? ⟨b,0,none⟩=false∧W.frozen? ⟨b,1,none⟩=false∧W.frozen? ⟨b,2,none⟩=false :=
  ⟨frozen_of_row W b 0 _ _ h,frozen_of_row W b 1 _ _ h,frozen_of_row W b 2 _ _ h⟩
theorem cLs2 {W W2:World} {p0 p1:Addr} {v0 v1:Value} (hb:Below W.heap.size W W2) (h0:W.cell? p0=some v0) (h1:W.cell? p1=some v1):W2.cell? p0=some v0∧W2.cell? p1=some v1 :=
  ⟨cL hb h0,cL hb h1⟩
theorem cLs3 {W W2:World} {p0 p1 p2:Addr} {v0 v1 v2:Value} (hb:Below W.heap.size W W2) (h0:W.cell? p0=some v0) (h1:W.cell? p1=some v1) (h2:W.cell? p2=some v2):W2.cell? p0=some v0∧W2.cell? p1=some v1∧W2.cell? p2=some v2 :=
  ⟨cL hb h0,cL hb h1,cL hb h2⟩
theorem cLs4 {W W2:World} {p0 p1 p2 p3:Addr} {v0 v1 v2 v3:Value} (hb:Below W.heap.size W W2) (h0:W.cell? p0=some v0) (h1:W.cell? p1=some v1) (h2:W.cell? p2=some v2) (h3:W.cell? p3=some v3):W2.cell? p0=some v0∧W2.cell? p1=some v1∧W2.cell? p2=some v2∧W2.cell? p3=some v3 :=
  ⟨cL hb h0,cL hb h1,cL hb h2,cL hb h3⟩
theorem cLs5 {W W2:World} {p0 p1 p2 p3 p4:Addr} {v0 v1 v2 v3 v4:Value} (hb:Below W.heap.size W W2) (h0:W.cell? p0=some v0) (h1:W.cell? p1=some v1) (h2:W.cell? p2=some v2) (h3:W.cell? p3=some v3) (h4:W.cell? p4=some v4):W2.cell? p0=some v0∧W2.cell? p1=some v1∧W2.cell? p2=some v2∧W2.cell? p3=some v3∧W2.cell? p4=some v4 :=
  ⟨cL hb h0,cL hb h1,cL hb h2,cL hb h3,cL hb h4⟩
theorem cLs6 {W W2:World} {p0 p1 p2 p3 p4 p5:Addr} {v0 v1 v2 v3 v4 v5:Value} (hb:Below W.heap.size W W2) (h0:W.cell? p0=some v0) (h1:W.cell? p1=some v1) (h2:W.cell? p2=some v2) (h3:W.cell? p3=some v3) (h4:W.cell? p4=some v4) (h5:W.cell? p5=some v5):W2.cell? p0=some v0∧W2.cell? p1=some v1∧W2.cell? p2=some v2∧W2.cell? p3=some v3∧W2.cell? p4=some v4∧W2.cell? p5=some v5 :=
  ⟨cL hb h0,cL hb h1,cL hb h2,cL hb h3,cL hb h4,cL hb h5⟩
end Go.Proofs.YthpgoddjglnoiaaGreatDoor

/-
  Slices that are owned: an element's cells, a store into a cell, a store of a whole element, a change behind an element. No program in sight.
-/
import Derived.Test.YtlfblpgkegeaeaaGreatOwn
set_option linter.unusedVariables false
set_option linter.unusedSimpArgs false
set_option linter.unnecessarySimpa false
namespace Go.Proofs.YtlfblpgkegeaeaaGreat
open Go.RowKit
theorem jO {W w1:World} (hb:Below W.heap.size W w1):(∀ b o,b < W.heap.size→w1.cell? ⟨b,o,none⟩=W.cell? ⟨b,o,none⟩)∧(∀ b o,b < W.heap.size→w1.frozen? ⟨b,o,none⟩=W.frozen? ⟨b,o,none⟩) :=
  ⟨fun b o h=>hb.cell (p:=⟨b,o,none⟩) h,fun b o h=>hb.frozen (p:=⟨b,o,none⟩) h⟩
theorem kN {w:World} {o:Obj} {b:Nat} (h:b=w.heap.size):(w.alloc o).heap[b]?=some o:=h ▸ heap_alloc_new w o
theorem jD {w:World} {o A:Obj} {b:Nat} (h:w.heap[b]?=some o):(w.alloc A).heap[b]?=some o:=(heap_alloc_old w A (Array.getElem?_eq_some_iff.1 h).1).trans h
theorem kD {W W':World} {b:Nat} {o:Obj} (h:W.heap[b]?=some o) (d:Below W.heap.size W W'):W'.heap[b]?=some o:=(d.block b (Array.getElem?_eq_some_iff.1 h).1).trans h
theorem Touch.kD {S:Nat→Prop} {W W':World} (d:Touch S W W') {b:Nat} {o:Obj} (h:W.heap[b]?=some o) (hb:¬ S b):W'.heap[b]?=some o:=(d.block b (Array.getElem?_eq_some_iff.1 h).1 hb).trans h
theorem kK {W:World} {b:Nat} {cs:Array Value} {t:TypeId} {fr:Nat × Nat} (h:W.heap[b]?=some (.cells cs t fr)) {j:Nat} {v:Value} (hv:cs[j]?=some v):W.cell? ⟨b,j,none⟩=some v:=(cell_of_row W b j cs t fr h).trans hv
namespace Rep
def setCells (w:World) (b p:Nat):List Value→World
  | []=>w
  | c :: cs=>setCells (w.setCell ⟨b,p,none⟩ c) b (p + 1) cs
theorem kBx:∀ (cs:List Value) (w:World) (b p k:Nat),k≠b→(setCells w b p cs).heap[k]?=w.heap[k]?
  | [],_,_,_,_,_=>rfl
  | c :: cs,w,b,p,k,h=>by
    rw [setCells,kBx cs _ b (p + 1) k h]
    exact heap_setCell_other w ⟨b,p,none⟩ k c h
theorem setCells_size:∀ (cs:List Value) (w:World) (b p:Nat),(setCells w b p cs).heap.size=w.heap.size
  | [],_,_,_=>rfl
  | c :: cs,w,b,p=>by rw [setCells,setCells_size cs];simp [World.setCell]
theorem kEd:∀ (cs:List Value) (w:World) (b p:Nat),(setCells w b p cs).os=w.os∧(setCells w b p cs).tape=w.tape∧(setCells w b p cs).output=w.output
  | [],_,_,_=>⟨rfl,rfl,rfl⟩
  | c :: cs,w,b,p=>by rw [setCells];exact kEd cs _ b (p + 1)
theorem jq (cs:List Value) (w:World) (b p:Nat):Touch (fun k=>k=b) w (setCells w b p cs) :=
  ⟨(kEd cs w b p).1,(kEd cs w b p).2.1,(kEd cs w b p).2.2,by rw [setCells_size];exact Nat.le_refl _,fun k _ hk=>kBx cs w b p k hk⟩
theorem yI {e:TypeId}:∀ (cs c hd tl:List Value) (w:World) (b p:Nat),w.heap[b]?=some (.cells (hd++(c++tl)).toArray e (0,0))→hd.length=p→c.length=cs.length →
    (setCells w b p cs).heap[b]?=some (.cells (hd++(cs++tl)).toArray e (0,0))
  | [],c,hd,tl,w,b,p,h,hp,hc=>by
    have:c=[]:=List.eq_nil_of_length_eq_zero qR
    subst this
    exact h
  | v :: cs,[],hd,tl,w,b,p,h,hp,hc=>by simp at hc
  | v :: cs,u :: c,hd,tl,w,b,p,h,hp,hc=>by
    rw [setCells]
    have h1:=heap_setCell_same w b p _ e v h
    have h2:((hd++(u :: c++tl)).toArray.setIfInBounds p v)=((hd++[v])++(c++tl)).toArray:=by
      subst hp
      simp
    rw [h2] at h1
    have:=yI cs c (hd++[v]) tl _ b (p + 1) h1 (by simp [hp]) qR
    simpa using this
section
variable {α:Type} {r:Rep α} {e:TypeId} {w w':World} {b off len cap:Nat} {xs:List α} {S T:Nat→Prop}
theorem kIj (h:(slice e r).own w [.slice (some ⟨b,off,none⟩) len cap] xs S) (hne:0 < xs.length) :
    len=xs.length∧len≤cap∧cap≤maxLen∧xs.length≤Big∧(∀ x∈xs,r.bdd Big x)∧∃ (hd cs tl:List Value),w.heap[b]?=some (.cells (hd++(cs++tl)).toArray e (0,0))∧hd.length=off∧off + cap * r.n≤(hd++(cs++tl)).length∧S b ∧
      row r true w cs xs (fun k=>S k∧k≠b):=by
 obtain ⟨⟨a',len',cap',h0,h1,h2,h3,h4⟩,hb⟩:=h
 simp only [List.cons.injEq,Value.slice.injEq,and_true] at h0
 obtain ⟨rfl,rfl,rfl⟩:=h0
 rcases h4 with ⟨rfl,_⟩|⟨b',off',ha,cur,e',fr,p,c,q,hb',hc,hp,hl,hf,hS,hx⟩
 · simp at hne
 simp only [Option.some.injEq,Addr.mk.injEq,and_true] at ha
 obtain ⟨rfl,rfl⟩:=ha
 obtain ⟨rfl,rfl⟩:=hf rfl
 have hcur:cur=(p++(c++q)).toArray:=by rw [← hc]
 subst hcur
 exact ⟨h1,h2,h3,hb.1,hb.2,p,c,q,hb',hp,by simpa using hl,hS,yS hx (fun k hk=>⟨hk.1,hk.2 rfl⟩)⟩
theorem kRr {hd cs tl:List Value} (h1:len=xs.length) (h2:len≤cap) (h3:cap≤maxLen) (h4:xs.length≤Big) (h5:∀ x∈xs,r.bdd Big x) (h6:w.heap[b]?=some (.cells (hd++(cs++tl)).toArray e (0,0))) (h7:hd.length=off)
    (h8:off + cap * r.n≤(hd++(cs++tl)).length) (h9:S b) (h10:row r true w cs xs (fun k=>S k∧k≠b)):(slice e r).own w [.slice (some ⟨b,off,none⟩) len cap] xs S :=
  ⟨⟨_,_,_,rfl,h1,h2,h3,.inr ⟨b,off,rfl,_,e,(0,0),hd,cs,tl,h6,rfl,h7,by simpa using h8,fun _=>⟨rfl,rfl⟩,h9,yS h10 (fun k hk=>⟨hk.1,fun _=>hk.2⟩)⟩⟩,h4,h5⟩
theorem kWc {i:Nat} {y:α} (h5:∀ x∈xs,r.bdd Big x) (hy:r.bdd Big y):∀ x∈xs.set i y,r.bdd Big x:=by
 intro x hx
 rcases List.mem_or_eq_of_mem_set hx with h | h
 · exact h5 x h
 exact h ▸ hy
theorem own_get (h:(slice e r).own w [.slice (some ⟨b,off,none⟩) len cap] xs S) {i:Nat} (hi:i < xs.length) :
    ∃ c B,r.own w c xs[i] B∧(∀ k,B k→S k∧k≠b)∧S b∧(∀ j v,c[j]?=some v→w.cell? ⟨b,off + i * r.n + j,none⟩=some v)∧(∀ j,w.frozen? ⟨b,j,none⟩=false) ∧
      (∀ {w':World} {y:α},r.own w' c y B→Touch B w w'→(slice e r).own w' [.slice (some ⟨b,off,none⟩) len cap] (xs.set i y) S):=by
 have hraw:=h.raw
 obtain ⟨h1,h2,h3,h4,h5,hd,cs,tl,h6,h7,h8,h9,h10⟩:=kIj h rP
 obtain ⟨p,c,q,A,B,C,rfl,hp,ra,rb,rc,hA,hB,hC,hdis⟩:=kRl h10 hi
 have hlt:b < w.heap.size:=(Array.getElem?_eq_some_iff.1 h6).1
 refine ⟨c,fun k=>B k∧k < w.heap.size,⟨r.live rb,h5 _ (List.getElem_mem hi)⟩,fun k hk=>hB k hk.1,h9,?_,fun j=>frozen_of_row w b j _ e h6,?_⟩
 · intro j v hj
   have hjl:=(List.getElem?_eq_some_iff.1 hj).1
   rw [cell_of_row w b _ _ e (0,0) h6]
   simp only [List.getElem?_toArray]
   rw [List.getElem?_append_right rP,List.append_assoc,List.getElem?_append_right rP,List.append_assoc,List.getElem?_append_left rP]
   rw [← hj];congr 1;omega
 intro w' y hy ht
 have hb':w'.heap[b]?=w.heap[b]?:=ht.block b hlt (fun q=>(hB b q.1).2 rfl)
 refine kRr qW h2 h3 (by simpa using h4) (kWc h5 hy.2) (hb'.trans h6) h7 h8 h9 ?_
 have ra':=yO (w':=w') (kAr ra) (fun k hk=>ht.block k hk.2 (fun q=>(hdis rfl k).1 hk.1 q.1))
 have rc':=yO (w':=w') (kAr rc) (fun k hk=>ht.block k hk.2 (fun q=>(hdis rfl k).2.2 q.1 hk.1))
 exact kVr hi ra' hy.1 rc' (fun k hk=>hA k hk.1) (fun k hk=>hB k hk.1) (fun k hk=>hC k hk.1) (fun _ k=>⟨fun a b=>(hdis rfl k).1 a.1 b.1,fun a c=>(hdis rfl k).2.1 a.1 c.1,fun b c=>(hdis rfl k).2.2 b.1 c.1⟩)
theorem kOv (h:(slice e r).own w [.slice (some ⟨b,off,none⟩) len cap] xs S) {i j:Nat} {v:Value} {y:α} (hi:i < xs.length) (hj:j < r.n)
    (hy:∀ {w:World} {cs:List Value} {S:Nat→Prop},r.is true w cs xs[i] S→r.is true w (cs.set j v) y S) (hby:r.bdd Big y) :
    (slice e r).own (w.setCell ⟨b,off + i * r.n + j,none⟩ v) [.slice (some ⟨b,off,none⟩) len cap] (xs.set i y) S∧Touch (fun k=>k=b) w (w.setCell ⟨b,off + i * r.n + j,none⟩ v):=by
 obtain ⟨h1,h2,h3,h4,h5,hd,cs,tl,h6,h7,h8,h9,h10⟩:=kIj h rP
 obtain ⟨p,c,q,A,B,C,rfl,hp,ra,rb,rc,hA,hB,hC,hdis⟩:=kRl h10 hi
 have ho:∀ k,k≠b→(w.setCell ⟨b,off + i * r.n + j,none⟩ v).heap[k]?=w.heap[k]?:=fun k hk=>heap_setCell_other w ⟨b,_,none⟩ k v hk
 have hc:=r.len rb
 refine ⟨?_,⟨rfl,rfl,rfl,by simp [World.setCell],fun k _ hk=>ho k hk⟩⟩
 have h6':=heap_setCell_same w b (off + i * r.n + j) _ e v h6
 have hcur:((hd++((p++(c++q))++tl)).toArray.setIfInBounds (off + i * r.n + j) v)=(hd++((p++(c.set j v++q))++tl)).toArray:=by
  apply Array.ext'
  simp only [Array.toList_setIfInBounds]
  rw [List.set_append_right _ _ rP,List.append_assoc,List.set_append_right _ _ rP,List.append_assoc,List.set_append_left _ _ rP]
  rw [show off + i * r.n + j - hd.length - p.length=j by omega]
  simp
 rw [hcur] at h6'
 refine kRr qW h2 h3 (by simpa using h4) (kWc h5 hby) h6' h7 (by simpa using h8) h9 ?_
 exact kVr hi (yO ra (fun k hk=>ho k (hA k hk).2)) (r.mono (hy rb) (fun k hk=>ho k (hB k hk).2)) (yO rc (fun k hk=>ho k (hC k hk).2)) hA hB hC hdis
theorem kCo (h:(slice e r).own w [.slice (some ⟨b,off,none⟩) len cap] xs S) {i p:Nat} {cs:List Value} {y:α} (hi:i < xs.length) (hy:r.own w cs y T) (hT:∀ k,S k→T k→False) (hpp:p=off + i * r.n) :
    (slice e r).own (setCells w b p cs) [.slice (some ⟨b,off,none⟩) len cap] (xs.set i y) (fun k=>S k∨T k)∧Touch (fun k=>k=b) w (setCells w b p cs):=by
 subst hpp
 obtain ⟨h1,h2,h3,h4,h5,hd,cl,tl,h6,h7,h8,h9,h10⟩:=kIj h rP
 obtain ⟨p,c,q,A,B,C,rfl,hp,ra,rb,rc,hA,hB,hC,hdis⟩:=kRl h10 hi
 have ho:∀ k,k≠b→(setCells w b (off + i * r.n) cs).heap[k]?=w.heap[k]?:=fun k hk=>kBx cs w b _ k hk
 refine ⟨?_,jq cs w b _⟩
 have hc:=r.len rb
 have hcs:=r.len hy.1
 have h6':=yI cs c (hd++p) (q++tl) w b (off + i * r.n) (by simpa using h6) (by simp [h7,hp]) rP
 refine kRr (hd:=hd) (cs:=p++(cs++q)) (tl:=tl) qW h2 h3 (by simpa using h4) (kWc h5 hy.2) (by simpa using h6') h7 (by simp only [List.length_append] at h8 ⊢;omega) (.inl h9) ?_
 exact kVr hi (yO ra (fun k hk=>ho k (hA k hk).2)) (r.mono hy.1 (fun k hk=>ho k (fun q=>hT b h9 (q ▸ hk)))) (yO rc (fun k hk=>ho k (hC k hk).2)) (fun k hk=>⟨.inl (hA k hk).1,(hA k hk).2⟩) (fun k hk=>⟨.inr hk,fun q=>hT b h9 (q ▸ hk)⟩) (fun k hk=>⟨.inl (hC k hk).1,(hC k hk).2⟩)
   (fun _ k=>⟨fun a t=>hT k (hA k a).1 t,(hdis rfl k).2.1,fun t c=>hT k (hC k c).1 t⟩)
theorem kAg (h:(slice e r).own w [.slice (some ⟨b,off,none⟩) len cap] xs S) (hne:0 < xs.length) (j:Nat):w.frozen? ⟨b,j,none⟩=false:=by
 obtain ⟨_,_,_,_,_,hd,cs,tl,h6,_⟩:=kIj h hne
 exact frozen_of_row w b j _ e h6
theorem zw {a:Option Addr} (h:(slice e r).own w [.slice a len cap] xs S) (hne:0 < xs.length):len=xs.length∧∃ b off,a=some ⟨b,off,none⟩∧S b∧b < w.heap.size:=by
 obtain ⟨⟨a',len',cap',h0,h1,h2,h3,h4⟩,hb⟩:=h
 simp only [List.cons.injEq,Value.slice.injEq,and_true] at h0
 obtain ⟨rfl,rfl,rfl⟩:=h0
 rcases h4 with ⟨rfl,_⟩|⟨b',off',ha,cur,e',fr,p,c,q,hb',hc,hp,hl,hf,hS,hx⟩
 · simp at hne
 exact ⟨h1,b',off',ha,hS,(Array.getElem?_eq_some_iff.1 hb').1⟩
variable {β:Type} {q:Rep β} {cs ds:List Value} {x:α} {y:β} {A B:Nat→Prop}
theorem own.setCell (h:r.own w cs x S) {p:Addr} {v:Value} (hp:¬ S p.block):r.own (w.setCell p v) cs x S :=
  h.keep (fun k hk _=>heap_setCell_other w p k v (fun q=>hp (q ▸ hk)))
theorem own.alloc (h:r.own w cs x S) (o:Obj):r.own (w.alloc o) cs x S:=h.below (zy w o)
theorem own.drew (h:r.own w cs x S):r.own w.drew cs x S:=h.below (kLa w)
theorem kg.setCell {v:Value} (h:kg e r w v xs S) {p:Addr} {u:Value} (hp:¬ S p.block):kg e r (w.setCell p u) v xs S :=
  h.keep (fun k hk _=>heap_setCell_other w p k u (fun q=>hp (q ▸ hk)))
theorem kg.alloc {v:Value} (h:kg e r w v xs S) (o:Obj):kg e r (w.alloc o) v xs S:=h.below (zy w o)
theorem kg.drew {v:Value} (h:kg e r w v xs S):kg e r w.drew v xs S:=h.below (kLa w)
theorem own.out {lo hi:Nat} (h:r.own w cs x (Btw lo hi)) (k:∀ j,lo≤j→j < hi→w'.heap[j]?=w.heap[j]?):r.own w' cs x (Btw lo hi):=h.keep (fun j hj _=>k j hj.1 hj.2)
def flat (r:Rep α) (cs:List Value) (x:α):Prop:=∀ w,r.own w cs x (fun _=>False)
theorem jG {n:Int} (h:-9223372036854775808≤n∧n≤9223372036854775807):int.flat [.int .i64 n] n:=fun _=>⟨⟨rfl,h⟩,trivial⟩
theorem flat_bool (b:Bool):bool.flat [.bool b] b:=fun _=>⟨rfl,trivial⟩
theorem flat_byte (b:UInt8):byte.flat [.int .u8 b.toNat] b:=fun _=>⟨rfl,trivial⟩
theorem kSh {s:ByteArray} (h:s.size≤Big):str.flat [.string s] s:=fun _=>⟨⟨rfl,by unfold maxLen;unfold Big at h;omega⟩,h⟩
theorem kAw (h:r.flat cs x) (k:q.flat ds y):(pair r q).flat (cs++ds) (x,y):=fun w =>
  ⟨⟨cs,ds,_,_,rfl,(h w).1,(k w).1,fun _ h=>h,fun _ h=>h,fun _ _ h _=>h⟩,(h w).2,(k w).2⟩
theorem flat.own (h:r.flat cs x):r.own w cs x S:=(h w).wide (fun _ h=>h.elim)
theorem flat.raw (h:r.flat cs x):r.raw w cs x:=(h w).raw
theorem flat.rd (h:r.flat cs x):r.rd w cs x:=(h w).rd
theorem jW (h:r.own w cs x A) (k:q.own w ds y B) (hA:∀ k,A k→S k) (hB:∀ k,B k→S k) (hd:∀ k,A k→B k→False):(pair r q).own w (cs++ds) (x,y) S :=
  ⟨⟨cs,ds,A,B,rfl,h.1,k.1,hA,hB,fun _=>hd⟩,h.2,k.2⟩
theorem jy (h:r.own w cs x S) (k:q.flat ds y):(pair r q).own w (cs++ds) (x,y) S :=
  jW h (k w) (fun _ h=>h) (fun _ h=>h.elim) (fun _ _ h=>h)
theorem kCc (h:r.flat cs x) (k:q.own w ds y S):(pair r q).own w (cs++ds) (x,y) S :=
  jW (h w) k (fun _ h=>h.elim) (fun _ h=>h) (fun _ h _=>h)
theorem kRq {z:α × β} (h:(pair r q).own w cs z S):∃ c d A B,cs=c++d∧r.own w c z.1 A∧q.own w d z.2 B∧(∀ k,A k→S k)∧(∀ k,B k→S k)∧(∀ k,A k→B k→False):=by
 obtain ⟨⟨c,d,A,B,rfl,h1,h2,hA,hB,hd⟩,hb⟩:=h
 exact ⟨c,d,A,B,rfl,⟨h1,hb.1⟩,⟨h2,hb.2⟩,hA,hB,hd rfl⟩
theorem jb {z:α × β} (h:(pair r q).raw w cs z):∃ c d,cs=c++d∧r.raw w c z.1∧q.raw w d z.2:=by
 obtain ⟨c,d,A,B,rfl,h1,h2,hA,hB,hd⟩:=h
 exact ⟨c,d,rfl,r.wide h1 (fun _ _=>trivial),q.wide h2 (fun _ _=>trivial)⟩
theorem yJ {z:α × β} (h:r.raw w cs z.1) (k:q.raw w ds z.2):(pair r q).raw w (cs++ds) z :=
  ⟨cs,ds,_,_,rfl,h,k,fun _ h=>h,fun _ h=>h,by simp⟩
theorem zu {n:Int} (h:int.raw w cs n):cs=[.int .i64 n]∧-9223372036854775808≤n∧n≤9223372036854775807:=h
theorem bool_raw {b:Bool} (h:bool.raw w cs b):cs=[.bool b]:=h
theorem kCn {b:UInt8} (h:byte.raw w cs b):cs=[.int .u8 b.toNat]:=h
theorem yQ {s:ByteArray} (h:str.raw w cs s):cs=[.string s]∧s.size≤maxLen:=h
theorem zl {xs:List α} (h:(slice e r).raw w cs xs):∃ v,cs=[v]∧(slice e r).raw w [v] xs:=by
 obtain ⟨a,cap,rfl,_⟩:=kJe h
 exact ⟨_,rfl,h⟩
end
def Sub {α β:Type} (r:Rep α) (q:Rep β) (get:α→β) (put:α→β→α) (i:Nat):Prop :=
  ∀ {w:World} {cs:List Value} {x:α} {B:Nat→Prop},r.own w cs x B→∃ A,q.own w ((cs.drop i).take q.n) (get x) A∧(∀ k,A k→B k) ∧
    ∀ {w':World} {y:β},q.own w' ((cs.drop i).take q.n) y A→Touch A w w'→r.own w' cs (put x y) B
theorem Sub.refl {α:Type} (r:Rep α):Sub r r (fun x=>x) (fun _ y=>y) 0:=by
 intro w cs x B h
 have e:(cs.drop 0).take r.n=cs:=by rw [List.drop_zero,List.take_of_length_le (by rw [r.len h.1];exact Nat.le_refl _)]
 rw [e]
 exact ⟨B,h,fun _ h=>h,fun h _=>h⟩
theorem Sub.left {α β γ:Type} {r:Rep α} {q:Rep β} {p:Rep γ} {get:α→γ} {put:α→γ→α} {i:Nat} (s:Sub r p get put i) (hi:i + p.n≤r.n):Sub (pair r q) p (fun z=>get z.1) (fun z y=>(put z.1 y,z.2)) i:=by
 intro w cs z B h
 obtain ⟨c,d,A,D,rfl,h1,h2,hA,hD,hd⟩:=kRq h
 obtain ⟨A',h3,h4,h5⟩:=s h1
 have hc:=r.len h1.1
 have e:((c++d).drop i).take p.n=(c.drop i).take p.n:=by
  rw [List.drop_append_of_le_length rP,List.take_append_of_le_length (by rw [List.length_drop];omega)]
 rw [e]
 exact ⟨A',h3,fun k hk=>hA k (h4 k hk),fun h6 t=>jW (h5 h6 t) (h2.touch t (fun k hk q=>hd k (h4 k q) hk)) hA hD hd⟩
theorem Sub.right {α β γ:Type} {r:Rep α} {q:Rep β} {p:Rep γ} {get:β→γ} {put:β→γ→β} {i j:Nat} (s:Sub q p get put i) (hj:j=r.n + i):Sub (pair r q) p (fun z=>get z.2) (fun z y=>(z.1,put z.2 y)) j:=by
 subst hj
 intro w cs z B h
 obtain ⟨c,d,A,D,rfl,h1,h2,hA,hD,hd⟩:=kRq h
 obtain ⟨A',h3,h4,h5⟩:=s h2
 have hc:=r.len h1.1
 have e:((c++d).drop (r.n + i)).take p.n=(d.drop i).take p.n:=by
  rw [← hc,← List.drop_drop,List.drop_left]
 rw [e]
 exact ⟨A',h3,fun k hk=>hD k (h4 k hk),fun h6 t=>jW (h1.touch t (fun k hk q=>hd k hk (h4 k q))) (h5 h6 t) hA hD hd⟩
section
variable {α:Type} {r:Rep α} {e:TypeId} {w:World} {b off len cap:Nat} {xs:List α} {S:Nat→Prop}
theorem jH {E:α} {i:Nat} (h:(slice e r).own w [.slice (some ⟨b,off,none⟩) len cap] (xs.set i E) S) (hi:i < xs.length) :
    ∃ c B,r.own w c E B∧(∀ k,B k→S k∧k≠b)∧S b∧(∀ j v,c[j]?=some v→w.cell? ⟨b,off + i * r.n + j,none⟩=some v)∧(∀ j,w.frozen? ⟨b,j,none⟩=false) ∧
      (∀ {w':World} {y:α},r.own w' c y B→Touch B w w'→(slice e r).own w' [.slice (some ⟨b,off,none⟩) len cap] (xs.set i y) S):=by
 obtain ⟨c,B,h1,h2,h3,h4,h5,h6⟩:=own_get h (i:=i) (by simpa using hi)
 refine ⟨c,B,by simpa using h1,h2,h3,h4,h5,?_⟩
 intro w' y hy t
 have:=h6 hy t
 rwa [List.set_set] at this
theorem jU {E y:α} {i j p:Nat} {v:Value} (h:(slice e r).own w [.slice (some ⟨b,off,none⟩) len cap] (xs.set i E) S) (hi:i < xs.length) (hj:j < r.n)
    (hy:∀ {w:World} {cs:List Value} {S:Nat→Prop},r.is true w cs E S→r.is true w (cs.set j v) y S) (hby:r.bdd Big E→r.bdd Big y) (hp:p=off + i * r.n + j) :
    (slice e r).own (w.setCell ⟨b,p,none⟩ v) [.slice (some ⟨b,off,none⟩) len cap] (xs.set i y) S∧Touch (fun k=>k=b) w (w.setCell ⟨b,p,none⟩ v):=by
 subst hp
 have hE:(xs.set i E)[i]'(by simpa using hi)=E:=rQ
 obtain ⟨h1,h2⟩:=kOv h (i:=i) (j:=j) (v:=v) (y:=y) (by simpa using hi) hj (fun h=>hy (by rw [hE] at h;exact h)) (hby (h.2.2 _ (List.mem_iff_getElem.2 ⟨i,by simpa using hi,hE⟩)))
 rw [List.set_set] at h1
 exact ⟨h1,h2⟩
theorem zn {x:List α} {k:Int} {i:Nat} (hi:i < x.length):((mkL r (x.take i) k).1++x.drop i)=((mkL r (x.take i) k).1++x.drop i).set i x[i]:=by
 rw [List.set_append_right _ _ (by rw [kCu];simp;omega),kCu,List.length_take,Nat.min_eq_left rP,Nat.sub_self,List.drop_eq_getElem_cons hi]
 rfl
theorem kBc {x:List α} {k:Int} {i:Nat} (hi:i < x.length) {y:α} (hy:y=(r.mark true x[i] (mkL r (x.take i) k).2).1):((mkL r (x.take i) k).1++x.drop i).set i y=(mkL r (x.take (i + 1)) k).1++x.drop (i + 1):=by
 subst hy
 rw [List.set_append_right _ _ (by rw [kCu];simp;omega),kCu,List.length_take,Nat.min_eq_left rP,Nat.sub_self,List.take_succ_eq_append_getElem hi,kRs,List.drop_eq_getElem_cons hi,zB]
 simp
theorem kAq {x:List α} {k:Int} {i:Nat} (hi:i < x.length):(mkL r (x.take (i + 1)) k).2=(r.mark true x[i] (mkL r (x.take i) k).2).2:=by
 rw [List.take_succ_eq_append_getElem hi,kRs]
theorem yK {x:List α} {k:Int} {i:Nat}:((mkL r (x.take i) k).1++x.drop i).length=x.length:=by
 simp [kCu];omega
theorem kAp {x:List α} {k:Int} {i:Nat} (hi:¬ i < x.length):(mkL r (x.take i) k).1++x.drop i=(mkL r x k).1∧(mkL r (x.take i) k).2=(mkL r x k).2:=by
 rw [List.take_of_length_le rP,List.drop_eq_nil_of_le rP,List.append_nil];exact ⟨rfl,rfl⟩
theorem zo {x:List α} {k:Int} {i:Nat} (hb:(slice e r).bdd Big x) (hi:i < x.length) (hk:k + ((slice e r).cnt:Nat)≤Top) (hk0:0≤k) :
    0≤(mkL r (x.take i) k).2∧(mkL r (x.take i) k).2 + (r.cnt:Nat)≤Top:=by
 have h1:=mkL_ge (r:=r) (x.take i) k
 have h2:=mkL_le (r:=r) (x.take i) k (fun y hy=>hb.2 y (List.mem_of_mem_take hy))
 rw [List.length_take,Nat.min_eq_left rP] at h2
 have h3:(i + 1) * r.cnt≤Big * r.cnt:=Nat.mul_le_mul_right _ (by have:=hb.1;omega)
 rw [Nat.add_mul,Nat.one_mul] at h3
 have h4:(slice e r).cnt=Big * r.cnt:=rfl
 rw [h4] at hk
 omega
end
theorem jS {α β:Type} {r:Rep α} {q:Rep β} {e:Bool} {a:α} {b:β} {k k':Int} (h:(pair r q).held e (a,b) k=some k'):∃ k1,r.held e a k=some k1∧q.held e b k1=some k'∧k≤k1∧k1≤k':=by
 obtain ⟨k1,h1,h2⟩:=Option.bind_eq_some_iff.1 h
 exact ⟨k1,h1,h2,r.held_ge h1,q.held_ge h2⟩
theorem zG {x k k':Int} (h:int.held true x k=some k'):x=k∧k'=k + 1:=by
 simp only [int,if_true] at h
 split at h
 · rename_i e;simp at h;exact ⟨e,h.symm⟩
 cases h
theorem kVi {x:Bool} {k k':Int} (h:bool.held true x k=some k'):x=decide (k % 3=0)∧k'=k + 1:=by
 simp only [bool,if_true] at h
 split at h
 · rename_i e;simp at h;exact ⟨e,h.symm⟩
 cases h
theorem byte_held {x:UInt8} {k k':Int} (h:byte.held true x k=some k'):x=UInt8.ofNat (k % 256).toNat∧k'=k + 1:=by
 simp only [byte,if_true] at h
 split at h
 · rename_i e;simp at h;exact ⟨e,h.symm⟩
 cases h
theorem str_held {x:ByteArray} {k k':Int} (h:str.held true x k=some k'):x=mt k∧k'=k + 1:=by
 simp only [str,if_true] at h
 split at h
 · rename_i e;simp at h;exact ⟨e,h.symm⟩
 cases h
theorem kUz {x k k':Int} (h:int.held false x k=some k'):k'=k:=by simp [int] at h;omega
theorem kBq {α:Type} {r:Rep α} {x:List α} {j:Nat} {q k':Int} (hj:j < x.length) (h:hdL r (x.drop j) q=some k'):∃ q1,r.held true x[j] q=some q1∧hdL r (x.drop (j + 1)) q1=some k'∧q≤q1∧q1≤k':=by
 rw [List.drop_eq_getElem_cons hj] at h
 obtain ⟨q1,h1,h2⟩:=Option.bind_eq_some_iff.1 h
 exact ⟨q1,h1,h2,r.held_ge h1,hdL_ge _ _ _ h2⟩
theorem kBr {α:Type} {r:Rep α} {x:List α} {j:Nat} {q k':Int} (hj:¬ j < x.length) (h:hdL r (x.drop j) q=some k'):q=k':=by
 rw [List.drop_eq_nil_of_le rP] at h
 simpa [hdL] using h
theorem kBm {α:Type} {x:List α} {z:α} {k:Nat} (hk:k < x.length):(x.take k++List.replicate (x.length - k) z).set k x[k]=x.take (k + 1)++List.replicate (x.length - (k + 1)) z:=by
 rw [List.set_append_right _ _ rG,List.length_take,Nat.min_eq_left rP,Nat.sub_self,List.take_succ_eq_append_getElem hk,List.append_assoc]
 congr 1
 rw [show x.length - k=(x.length - (k + 1)) + 1 by omega,List.replicate_succ]
 simp
theorem kBn {α:Type} {x:List α} {z:α} {k:Nat} (hk:k≤x.length) (h:¬ k < x.length):x.take k++List.replicate (x.length - k) z=x:=by
 rw [List.take_of_length_le rP,show x.length - k=0 by omega];simp
theorem zg {α:Type} {x:List α} {z:α} {k:Nat} (hk:k≤x.length):(x.take k++List.replicate (x.length - k) z).length=x.length:=by
 simp;omega
theorem at1 {α:Type} {r:Rep α} {w:World} {e:TypeId} {b len cap:Nat} {xs:List α} (h:(slice e r).raw w [.slice (some ⟨b,0,none⟩) len cap] xs) {i:Nat} (hi:i < xs.length) (hn:r.n=1) :
    ∃ c0,r.raw w [c0] xs[i]∧w.cell? ⟨b,i,none⟩=some c0:=by
 obtain ⟨b',off',ha,c0,hr,h0⟩:=kAy h hi hn
 simp only [Option.some.injEq,Addr.mk.injEq,and_true] at ha
 obtain ⟨rfl,rfl⟩:=ha
 simp only [Nat.zero_add] at h0
 exact ⟨c0,hr,h0⟩
theorem at2 {α:Type} {r:Rep α} {w:World} {e:TypeId} {b len cap:Nat} {xs:List α} (h:(slice e r).raw w [.slice (some ⟨b,0,none⟩) len cap] xs) {i:Nat} (hi:i < xs.length) (hn:r.n=2) :
    ∃ c0 c1,r.raw w [c0,c1] xs[i]∧w.cell? ⟨b,i * 2,none⟩=some c0∧w.cell? ⟨b,i * 2 + 1,none⟩=some c1:=by
 obtain ⟨b',off',ha,c0,c1,hr,h0,h1⟩:=kEk h hi hn
 simp only [Option.some.injEq,Addr.mk.injEq,and_true] at ha
 obtain ⟨rfl,rfl⟩:=ha
 simp only [Nat.zero_add] at h0 h1
 exact ⟨c0,c1,hr,h0,h1⟩
theorem at3 {α:Type} {r:Rep α} {w:World} {e:TypeId} {b len cap:Nat} {xs:List α} (h:(slice e r).raw w [.slice (some ⟨b,0,none⟩) len cap] xs) {i:Nat} (hi:i < xs.length) (hn:r.n=3) :
    ∃ c0 c1 c2,r.raw w [c0,c1,c2] xs[i]∧w.cell? ⟨b,i * 3,none⟩=some c0∧w.cell? ⟨b,i * 3 + 1,none⟩=some c1∧w.cell? ⟨b,i * 3 + 2,none⟩=some c2:=by
 obtain ⟨b',off',ha,c0,c1,c2,hr,h0,h1,h2⟩:=kBg h hi hn
 simp only [Option.some.injEq,Addr.mk.injEq,and_true] at ha
 obtain ⟨rfl,rfl⟩:=ha
 simp only [Nat.zero_add] at h0 h1 h2
 exact ⟨c0,c1,c2,hr,h0,h1,h2⟩
theorem at5 {α:Type} {r:Rep α} {w:World} {e:TypeId} {b len cap:Nat} {xs:List α} (h:(slice e r).raw w [.slice (some ⟨b,0,none⟩) len cap] xs) {i:Nat} (hi:i < xs.length) (hn:r.n=5) :
    ∃ c0 c1 c2 c3 c4,r.raw w [c0,c1,c2,c3,c4] xs[i]∧w.cell? ⟨b,i * 5,none⟩=some c0∧w.cell? ⟨b,i * 5 + 1,none⟩=some c1∧w.cell? ⟨b,i * 5 + 2,none⟩=some c2∧w.cell? ⟨b,i * 5 + 3,none⟩=some c3∧w.cell? ⟨b,i * 5 + 4,none⟩=some c4:=by
 obtain ⟨b',off',ha,c0,c1,c2,c3,c4,hr,h0,h1,h2,h3,h4⟩:=get5 h hi hn
 simp only [Option.some.injEq,Addr.mk.injEq,and_true] at ha
 obtain ⟨rfl,rfl⟩:=ha
 simp only [Nat.zero_add] at h0 h1 h2 h3 h4
 exact ⟨c0,c1,c2,c3,c4,hr,h0,h1,h2,h3,h4⟩
theorem at6 {α:Type} {r:Rep α} {w:World} {e:TypeId} {b len cap:Nat} {xs:List α} (h:(slice e r).raw w [.slice (some ⟨b,0,none⟩) len cap] xs) {i:Nat} (hi:i < xs.length) (hn:r.n=6) :
    ∃ c0 c1 c2 c3 c4 c5,r.raw w [c0,c1,c2,c3,c4,c5] xs[i]∧w.cell? ⟨b,i * 6,none⟩=some c0∧w.cell? ⟨b,i * 6 + 1,none⟩=some c1∧w.cell? ⟨b,i * 6 + 2,none⟩=some c2∧w.cell? ⟨b,i * 6 + 3,none⟩=some c3∧w.cell? ⟨b,i * 6 + 4,none⟩=some c4∧w.cell? ⟨b,i * 6 + 5,none⟩=some c5:=by
 obtain ⟨b',off',ha,c0,c1,c2,c3,c4,c5,hr,h0,h1,h2,h3,h4,h5⟩:=get6 h hi hn
 simp only [Option.some.injEq,Addr.mk.injEq,and_true] at ha
 obtain ⟨rfl,rfl⟩:=ha
 simp only [Nat.zero_add] at h0 h1 h2 h3 h4 h5
 exact ⟨c0,c1,c2,c3,c4,c5,hr,h0,h1,h2,h3,h4,h5⟩
end Rep
def zZ {α:Type} (r:Rep α) (el:Bool) (x:α) (k:Int) (cs:List Value) (S:Nat→Prop) (w:World) (e:Ending) (w':World):Prop :=
  e=.returned (.int .i64 (r.mark el x k).2)∧r.own w' cs (r.mark el x k).1 S∧Touch S w w'
def zH {α:Type} (r:Rep α) (x:α) (w:World) (e:Ending) (w':World):Prop:=∃ v,e=.returned v∧r.own w' [v] x (Btw w.heap.size w'.heap.size)∧Below w.heap.size w w'
def yM {α:Type} (r:Rep α) (x:α) (w:World) (e:Ending) (w':World):Prop:=∃ cs,e=.returned (.agg cs.toArray)∧r.own w' cs x (Btw w.heap.size w'.heap.size)∧Below w.heap.size w w'
theorem yY {W:World} {b:Nat} {t:TypeId} {fr:Nat × Nat} {c0 c1:Value} (h:W.heap[b]?=some (.cells #[c0,c1] t fr)):W.cell? ⟨b,0,none⟩=some c0∧W.cell? ⟨b,1,none⟩=some c1 :=
  ⟨kK h rfl,kK h rfl⟩
theorem kGl {W:World} {b:Nat} {t:TypeId} {a:Array Value} (h:W.heap[b]?=some (.cells a t (0,0))):W.frozen? ⟨b,0,none⟩=false∧W.frozen? ⟨b,1,none⟩=false :=
  ⟨frozen_of_row W b 0 _ _ h,frozen_of_row W b 1 _ _ h⟩
theorem rowC3 {W:World} {b:Nat} {t:TypeId} {fr:Nat × Nat} {c0 c1 c2:Value} (h:W.heap[b]?=some (.cells #[c0,c1,c2] t fr)):W.cell? ⟨b,0,none⟩=some c0∧W.cell? ⟨b,1,none⟩=some c1∧W.cell? ⟨b,2,none⟩=some c2 :=
  ⟨kK h rfl,kK h rfl,kK h rfl⟩
theorem kAm {W:World} {b:Nat} {t:TypeId} {fr:Nat × Nat} {c0 c1 c2 c3:Value} (h:W.heap[b]?=some (.cells #[c0,c1,c2,c3] t fr)):W.cell? ⟨b,0,none⟩=some c0∧W.cell? ⟨b,1,none⟩=some c1∧W.cell? ⟨b,2,none⟩=some c2∧W.cell? ⟨b,3,none⟩=some c3 :=
  ⟨kK h rfl,kK h rfl,kK h rfl,kK h rfl⟩
theorem jh {W:World} {b:Nat} {t:TypeId} {fr:Nat × Nat} {c0 c1 c2 c3 c4:Value} (h:W.heap[b]?=some (.cells #[c0,c1,c2,c3,c4] t fr)):W.cell? ⟨b,0,none⟩=some c0∧W.cell? ⟨b,1,none⟩=some c1∧W.cell? ⟨b,2,none⟩=some c2∧W.cell? ⟨b,3,none⟩=some c3∧W.cell? ⟨b,4,none⟩=some c4 :=
  ⟨kK h rfl,kK h rfl,kK h rfl,kK h rfl,kK h rfl⟩
theorem rowF5 {W:World} {b:Nat} {t:TypeId} {a:Array Value} (h:W.heap[b]?=some (.cells a t (0,0))):W.frozen? ⟨b,0,none⟩=false∧W.frozen? ⟨b,1,none⟩=false∧W.frozen? ⟨b,2,none⟩=false∧W.frozen? ⟨b,3,none⟩=false∧W.frozen? ⟨b,4,none⟩=false :=
  ⟨frozen_of_row W b 0 _ _ h,frozen_of_row W b 1 _ _ h,frozen_of_row W b 2 _ _ h,frozen_of_row W b 3 _ _ h,frozen_of_row W b 4 _ _ h⟩
theorem rowC6 {W:World} {b:Nat} {t:TypeId} {fr:Nat × Nat} {c0 c1 c2 c3 c4 c5:Value} (h:W.heap[b]?=some (.cells #[c0,c1,c2,c3,c4,c5] t fr)):W.cell? ⟨b,0,none⟩=some c0∧W.cell? ⟨b,1,none⟩=some c1∧W.cell? ⟨b,2,none⟩=some c2∧W.cell? ⟨b,3,none⟩=some c3∧W.cell? ⟨b,4,none⟩=some c4∧W.cell? ⟨b,5,none⟩=some c5 :=
  ⟨kK h rfl,kK h rfl,kK h rfl,kK h rfl,kK h rfl,kK h rfl⟩
theorem kBj {W:World} {b:Nat} {t:TypeId} {fr:Nat × Nat} {c0 c1 c2 c3 c4 c5 c6 c7:Value} (h:W.heap[b]?=some (.cells #[c0,c1,c2,c3,c4,c5,c6,c7] t fr)):W.cell? ⟨b,0,none⟩=some c0∧W.cell? ⟨b,1,none⟩=some c1∧W.cell? ⟨b,2,none⟩=some c2∧W.cell? ⟨b,3,none⟩=some c3∧W.cell? ⟨b,4,none⟩=some c4∧W.cell? ⟨b,5,none⟩=some c5∧W.cell? ⟨b,6,none⟩=some c6∧W.cell? ⟨b,7,none⟩=some c7 :=
  ⟨kK h rfl,kK h rfl,kK h rfl,kK h rfl,kK h rfl,kK h rfl,kK h rfl,kK h rfl⟩
theorem rowF8 {W:World} {b:Nat} {t:TypeId} {a:Array Value} (h:W.heap[b]?=some (.cells a t (0,0))):W.frozen? ⟨b,0,none⟩=false∧W.frozen? ⟨b,1,none⟩=false∧W.frozen? ⟨b,2,none⟩=false∧W.frozen? ⟨b,3,none⟩=false∧W.frozen? ⟨b,4,none⟩=false∧W.frozen? ⟨b,5,none⟩=false∧W.frozen? ⟨b,6,none⟩=false∧W.frozen? ⟨b,7,none⟩=false :=
  ⟨frozen_of_row W b 0 _ _ h,frozen_of_row W b 1 _ _ h,frozen_of_row W b 2 _ _ h,frozen_of_row W b 3 _ _ h,frozen_of_row W b 4 _ _ h,frozen_of_row W b 5 _ _ h,frozen_of_row W b 6 _ _ h,frozen_of_row W b 7 _ _ h⟩
theorem ji {W:World} {b:Nat} {t:TypeId} {fr:Nat × Nat} {c0 c1 c2 c3 c4 c5 c6 c7 c8:Value} (h:W.heap[b]?=some (.cells #[c0,c1,c2,c3,c4,c5,c6,c7,c8] t fr)):W.cell? ⟨b,0,none⟩=some c0∧W.cell? ⟨b,1,none⟩=some c1∧W.cell? ⟨b,2,none⟩=some c2∧W.cell? ⟨b,3,none⟩=some c3∧W.cell? ⟨b,4,none⟩=some c4∧W.cell? ⟨b,5,none⟩=some c5∧W.cell? ⟨b,6,none⟩=some c6∧W.cell? ⟨b,7,none⟩=some c7∧W.cell? ⟨b,8,none⟩=some c8 :=
  ⟨kK h rfl,kK h rfl,kK h rfl,kK h rfl,kK h rfl,kK h rfl,kK h rfl,kK h rfl,kK h rfl⟩
theorem zJ {W:World} {b:Nat} {t:TypeId} {a:Array Value} (h:W.heap[b]?=some (.cells a t (0,0))):W.frozen? ⟨b,0,none⟩=false∧W.frozen? ⟨b,1,none⟩=false∧W.frozen? ⟨b,2,none⟩=false∧W.frozen? ⟨b,3,none⟩=false∧W.frozen? ⟨b,4,none⟩=false∧W.frozen? ⟨b,5,none⟩=false∧W.frozen? ⟨b,6,none⟩=false∧W.frozen? ⟨b,7,none⟩=false∧W.frozen? ⟨b,8,none⟩=false :=
  ⟨frozen_of_row W b 0 _ _ h,frozen_of_row W b 1 _ _ h,frozen_of_row W b 2 _ _ h,frozen_of_row W b 3 _ _ h,frozen_of_row W b 4 _ _ h,frozen_of_row W b 5 _ _ h,frozen_of_row W b 6 _ _ h,frozen_of_row W b 7 _ _ h,frozen_of_row W b 8 _ _ h⟩
theorem cLs2 {W W2:World} {p0 p1:Addr} {v0 v1:Value} (hb:Below W.heap.size W W2) (h0:W.cell? p0=some v0) (h1:W.cell? p1=some v1):W2.cell? p0=some v0∧W2.cell? p1=some v1 :=
  ⟨cL hb h0,cL hb h1⟩
theorem cLs3 {W W2:World} {p0 p1 p2:Addr} {v0 v1 v2:Value} (hb:Below W.heap.size W W2) (h0:W.cell? p0=some v0) (h1:W.cell? p1=some v1) (h2:W.cell? p2=some v2):W2.cell? p0=some v0∧W2.cell? p1=some v1∧W2.cell? p2=some v2 :=
  ⟨cL hb h0,cL hb h1,cL hb h2⟩
theorem cLs4 {W W2:World} {p0 p1 p2 p3:Addr} {v0 v1 v2 v3:Value} (hb:Below W.heap.size W W2) (h0:W.cell? p0=some v0) (h1:W.cell? p1=some v1) (h2:W.cell? p2=some v2) (h3:W.cell? p3=some v3):W2.cell? p0=some v0∧W2.cell? p1=some v1∧W2.cell? p2=some v2∧W2.cell? p3=some v3 :=
  ⟨cL hb h0,cL hb h1,cL hb h2,cL hb h3⟩
theorem kMn {W W2:World} {p0 p1 p2 p3 p4:Addr} {v0 v1 v2 v3 v4:Value} (hb:Below W.heap.size W W2) (h0:W.cell? p0=some v0) (h1:W.cell? p1=some v1) (h2:W.cell? p2=some v2) (h3:W.cell? p3=some v3) (h4:W.cell? p4=some v4):W2.cell? p0=some v0∧W2.cell? p1=some v1∧W2.cell? p2=some v2∧W2.cell? p3=some v3∧W2.cell? p4=some v4 :=
  ⟨cL hb h0,cL hb h1,cL hb h2,cL hb h3,cL hb h4⟩
theorem cLs6 {W W2:World} {p0 p1 p2 p3 p4 p5:Addr} {v0 v1 v2 v3 v4 v5:Value} (hb:Below W.heap.size W W2) (h0:W.cell? p0=some v0) (h1:W.cell? p1=some v1) (h2:W.cell? p2=some v2) (h3:W.cell? p3=some v3) (h4:W.cell? p4=some v4) (h5:W.cell? p5=some v5):W2.cell? p0=some v0∧W2.cell? p1=some v1∧W2.cell? p2=some v2∧W2.cell? p3=some v3∧W2.cell? p4=some v4∧W2.cell? p5=some v5 :=
  ⟨cL hb h0,cL hb h1,cL hb h2,cL hb h3,cL hb h4,cL hb h5⟩
theorem cLs7 {W W2:World} {p0 p1 p2 p3 p4 p5 p6:Addr} {v0 v1 v2 v3 v4 v5 v6:Value} (hb:Below W.heap.size W W2) (h0:W.cell? p0=some v0) (h1:W.cell? p1=some v1) (h2:W.cell? p2=some v2) (h3:W.cell? p3=some v3) (h4:W.cell? p4=some v4) (h5:W.cell? p5=some v5) (h6:W.cell? p6=some v6):W2.cell? p0=some v0∧W2.cell? p1=some v1∧W2.cell? p2=some v2∧W2.cell? p3=some v3∧W2.cell? p4=some v4∧W2.cell? p5=some v5∧W2.cell? p6=some v6 :=
  ⟨cL hb h0,cL hb h1,cL hb h2,cL hb h3,cL hb h4,cL hb h5,cL hb h6⟩
theorem cLs8 {W W2:World} {p0 p1 p2 p3 p4 p5 p6 p7:Addr} {v0 v1 v2 v3 v4 v5 v6 v7:Value} (hb:Below W.heap.size W W2) (h0:W.cell? p0=some v0) (h1:W.cell? p1=some v1) (h2:W.cell? p2=some v2) (h3:W.cell? p3=some v3) (h4:W.cell? p4=some v4) (h5:W.cell? p5=some v5) (h6:W.cell? p6=some v6) (h7:W.cell? p7=some v7):W2.cell? p0=some v0∧W2.cell? p1=some v1∧W2.cell? p2=some v2∧W2.cell? p3=some v3∧W2.cell? p4=some v4∧W2.cell? p5=some v5∧W2.cell? p6=some v6∧W2.cell? p7=some v7 :=
  ⟨cL hb h0,cL hb h1,cL hb h2,cL hb h3,cL hb h4,cL hb h5,cL hb h6,cL hb h7⟩
theorem cLs10 {W W2:World} {p0 p1 p2 p3 p4 p5 p6 p7 p8 p9:Addr} {v0 v1 v2 v3 v4 v5 v6 v7 v8 v9:Value} (hb:Below W.heap.size W W2) (h0:W.cell? p0=some v0) (h1:W.cell? p1=some v1) (h2:W.cell? p2=some v2) (h3:W.cell? p3=some v3) (h4:W.cell? p4=some v4) (h5:W.cell? p5=some v5) (h6:W.cell? p6=some v6) (h7:W.cell? p7=some v7) (h8:W.cell? p8=some v8) (h9:W.cell? p9=some v9):W2.cell? p0=some v0∧W2.cell? p1=some v1∧W2.cell? p2=some v2∧W2.cell? p3=some v3∧W2.cell? p4=some v4∧W2.cell? p5=some v5∧W2.cell? p6=some v6∧W2.cell? p7=some v7∧W2.cell? p8=some v8∧W2.cell? p9=some v9 :=
  ⟨cL hb h0,cL hb h1,cL hb h2,cL hb h3,cL hb h4,cL hb h5,cL hb h6,cL hb h7,cL hb h8,cL hb h9⟩
theorem cLs11 {W W2:World} {p0 p1 p2 p3 p4 p5 p6 p7 p8 p9 p10:Addr} {v0 v1 v2 v3 v4 v5 v6 v7 v8 v9 v10:Value} (hb:Below W.heap.size W W2) (h0:W.cell? p0=some v0) (h1:W.cell? p1=some v1) (h2:W.cell? p2=some v2) (h3:W.cell? p3=some v3) (h4:W.cell? p4=some v4) (h5:W.cell? p5=some v5) (h6:W.cell? p6=some v6) (h7:W.cell? p7=some v7) (h8:W.cell? p8=some v8) (h9:W.cell? p9=some v9) (h10:W.cell? p10=some v10):W2.cell? p0=some v0∧W2.cell? p1=some v1∧W2.cell? p2=some v2∧W2.cell? p3=some v3∧W2.cell? p4=some v4∧W2.cell? p5=some v5∧W2.cell? p6=some v6∧W2.cell? p7=some v7∧W2.cell? p8=some v8∧W2.cell? p9=some v9∧W2.cell? p10=some v10 :=
  ⟨cL hb h0,cL hb h1,cL hb h2,cL hb h3,cL hb h4,cL hb h5,cL hb h6,cL hb h7,cL hb h8,cL hb h9,cL hb h10⟩
theorem cLs17 {W W2:World} {p0 p1 p2 p3 p4 p5 p6 p7 p8 p9 p10 p11 p12 p13 p14 p15 p16:Addr} {v0 v1 v2 v3 v4 v5 v6 v7 v8 v9 v10 v11 v12 v13 v14 v15 v16:Value} (hb:Below W.heap.size W W2) (h0:W.cell? p0=some v0) (h1:W.cell? p1=some v1) (h2:W.cell? p2=some v2) (h3:W.cell? p3=some v3) (h4:W.cell? p4=some v4) (h5:W.cell? p5=some v5) (h6:W.cell? p6=some v6) (h7:W.cell? p7=some v7) (h8:W.cell? p8=some v8) (h9:W.cell? p9=some v9) (h10:W.cell? p10=some v10) (h11:W.cell? p11=some v11) (h12:W.cell? p12=some v12) (h13:W.cell? p13=some v13) (h14:W.cell? p14=some v14) (h15:W.cell? p15=some v15) (h16:W.cell? p16=some v16):W2.cell? p0=some v0∧W2.cell? p1=some v1∧W2.cell? p2=some v2∧W2.cell? p3=some v3∧W2.cell? p4=some v4∧W2.cell? p5=some v5∧W2.cell? p6=some v6∧W2.cell? p7=some v7∧W2.cell? p8=some v8∧W2.cell? p9=some v9∧W2.cell? p10=some v10∧W2.cell? p11=some v11∧W2.cell? p12=some v12∧W2.cell? p13=some v13∧W2.cell? p14=some v14∧W2.cell? p15=some v15∧W2.cell? p16=some v16 :=
  ⟨cL hb h0,cL hb h1,cL hb h2,cL hb h3,cL hb h4,cL hb h5,cL hb h6,cL hb h7,cL hb h8,cL hb h9,cL hb h10,cL hb h11,cL hb h12,cL hb h13,cL hb h14,cL hb h15,cL hb h16⟩
end Go.Proofs.YtlfblpgkegeaeaaGreat

/-
  Slices that are owned: an element's cells, a store into a cell, a store of a whole element, a change behind an element. No program in sight.
-/
import Derived.Test.YtonmjkmaadgceaaGreatBase
set_option linter.unusedVariables false
set_option linter.unusedSimpArgs false
set_option linter.unnecessarySimpa false
namespace Go.Proofs.YtonmjkmaadgceaaGreat
open Go.RowKit
namespace kE
def ku {α:Type} (e:TypeId) (r:kE α) (w:World) (v:Value) (xs:List α) (S:Nat→Prop):Prop :=
  (∀ x∈xs,r.bdd Big x)∧(((∃ a,v=.slice a 0 0)∧xs=[]) ∨
    ∃ (b cap:Nat) (cur:Array Value) (cs tl:List Value),v=.slice (some ⟨b,0,none⟩) xs.length cap∧xs.length≤cap∧cap≤maxLen∧w.heap[b]?=some (.cells cur e (0,0))∧cur.toList=cs++tl∧cur.size=cap * r.n∧S b ∧
      row r true w cs xs (fun k=>S k∧k≠b))
def Src (w:World) (sv:Value) (m:Nat) (cells:List Value):Prop :=
  (m=0∧∃ a c,sv=.slice a 0 c)∨∃ ad c,sv=.slice (some ad) m c∧∀ j u,cells[j]?=some u→w.cell? (ad.add j)=some u
section
variable {α:Type} {r:kE α} {e:TypeId} {w w':World} {v:Value} {xs ys:List α} {S T:Nat→Prop}
theorem ku.own (h:ku e r w v xs S) (hl:xs.length≤Big):(slice e r).own w [v] xs S:=by
 obtain ⟨hb,h⟩:=h
 refine ⟨?_,hl,hb⟩
 rcases h with ⟨⟨a,rfl⟩,rfl⟩|⟨b,cap,cur,cs,tl,rfl,h1,h2,h3,h4,h5,h6,h7⟩
 · exact ⟨a,0,0,rfl,rfl,Nat.le_refl _,Nat.zero_le _,.inl ⟨rfl,fun _=>rfl⟩⟩
 exact ⟨_,_,cap,rfl,rfl,h1,h2,.inr ⟨b,0,rfl,cur,e,(0,0),[],cs,tl,h3,by simpa using h4,rfl,by omega,fun _=>⟨rfl,rfl⟩,h6,yH h7 (fun k hk=>⟨hk.1,fun _=>hk.2⟩)⟩⟩
theorem ku.keep (h:ku e r w v xs S) (k:∀ k,S k→k < w.heap.size→w'.heap[k]?=w.heap[k]?):ku e r w' v xs S:=by
 obtain ⟨hb,h⟩:=h
 refine ⟨hb,?_⟩
 rcases h with h|⟨b,cap,cur,cs,tl,hv,h1,h2,h3,h4,h5,h6,h7⟩
 · exact .inl h
 exact .inr ⟨b,cap,cur,cs,tl,hv,h1,h2,(k b h6 (Array.getElem?_eq_some_iff.1 h3).1).trans h3,h4,h5,h6,yH (yC (zK h7) (fun j I=>k j I.1.1 I.2)) (fun j I=>I.1)⟩
theorem ku.wide (h:ku e r w v xs S) (k:∀ k,S k→T k):ku e r w v xs T:=by
 obtain ⟨hb,h⟩:=h
 refine ⟨hb,?_⟩
 rcases h with h|⟨b,cap,cur,cs,tl,hv,h1,h2,h3,h4,h5,h6,h7⟩
 · exact .inl h
 exact .inr ⟨b,cap,cur,cs,tl,hv,h1,h2,h3,h4,h5,k b h6,yH h7 (fun j I=>⟨k j I.1,I.2⟩)⟩
theorem ku.below (h:ku e r w v xs S) (b:Below w.heap.size w w'):ku e r w' v xs S:=h.keep (fun k _ hk=>b.block k hk)
theorem ku.touch (h:ku e r w v xs S) (b:Touch T w w') (hd:∀ k,S k→¬ T k):ku e r w' v xs S:=h.keep (fun k hk hl=>b.block k hl (hd k hk))
theorem ku.live (h:ku e r w v xs S):ku e r w v xs (fun k=>S k∧k < w.heap.size):=by
 obtain ⟨hb,h⟩:=h
 refine ⟨hb,?_⟩
 rcases h with h|⟨b,cap,cur,cs,tl,hv,h1,h2,h3,h4,h5,h6,h7⟩
 · exact .inl h
 exact .inr ⟨b,cap,cur,cs,tl,hv,h1,h2,h3,h4,h5,⟨h6,(Array.getElem?_eq_some_iff.1 h3).1⟩,yH (zK h7) (fun j I=>⟨⟨I.1.1,I.2⟩,I.1.2⟩)⟩
theorem ku.nil:ku e r w (.slice none 0 0) [] S:=⟨by simp,.inl ⟨⟨_,rfl⟩,rfl⟩⟩
theorem ku.void {a:Option Addr}:ku e r w (.slice a 0 0) [] S:=⟨by simp,.inl ⟨⟨_,rfl⟩,rfl⟩⟩
theorem ku.zL (h:ku e r w v xs S):∃ a cap,v=.slice a xs.length cap:=by
 rcases h.2 with ⟨⟨a,rfl⟩,rfl⟩|⟨b,cap,cur,cs,tl,rfl,_⟩
 · exact ⟨a,0,rfl⟩
 exact ⟨_,cap,rfl⟩
theorem yV {cs:List Value} (hb:∀ x∈xs,r.bdd Big x) (hl:xs.length≤maxLen) (h:row r true w cs xs T) (Y:∀ k,T k→S k) (hS:S w.heap.size) :
    ku e r (w.alloc (.cells cs.toArray e)) (.slice (some ⟨w.heap.size,0,none⟩) xs.length xs.length) xs S:=by
 refine ⟨hb,.inr ⟨w.heap.size,xs.length,cs.toArray,cs,[],rfl,Nat.le_refl _,hl,heap_alloc_new w _,by simp,by simpa using zH h,hS,?_⟩⟩
 exact yH (yC (zK h) (fun k hk=>heap_alloc_old w _ hk.2)) (fun k hk=>⟨Y k hk.1,by omega⟩)
theorem kVc:∀ (n:Nat),row r true w (List.replicate n r.zc).flatten (List.replicate n r.zero) S
  | 0=>by simp [row]
  | n + 1=>by
    simp only [List.replicate_succ,List.flatten_cons]
    exact ⟨r.zc,_,fun _=>False,S,rfl,r.is_zero,kVc n,fun _ h=>h.elim,fun _ h=>h,fun _ _ h=>h.elim⟩
theorem kWt (zc:List Value) (hz:0 < zc.length):∀ n,(madeCells zc.toArray (n * zc.length)).toList=(List.replicate n zc).flatten:=by
 intro n
 apply List.ext_getElem?
 intro j
 simp only [madeCells,Array.toList_map,Array.toList_range,List.getElem?_map]
 have key:∀ (n j:Nat),(List.replicate n zc).flatten[j]?=if j < n * zc.length then zc[j % zc.length]? else none:=by
  intro n
  induction n with
  | zero=>intro j;simp
  | succ n ih =>
    intro j
    simp only [List.replicate_succ,List.flatten_cons]
    by_cases h:j < zc.length
    · rw [List.getElem?_append_left h,Nat.mod_eq_of_lt h,if_pos (by rw [Nat.add_mul];omega)]
    · rw [List.getElem?_append_right bB9,ih,Nat.add_mul,Nat.one_mul]
      have O:(j - zc.length < n * zc.length)↔(j < n * zc.length + zc.length):=bB9
      simp only [O]
      split
      · congr 1
        conv=>rhs;rw [show j=(j - zc.length) + zc.length by omega]
        rw [Nat.add_mod_right]
      · rfl
 rw [key]
 by_cases h:j < n * zc.length
 · rw [if_pos h,List.getElem?_range h]
   have hm:=Nat.mod_lt j hz
   simp [hm]
 rw [if_neg h,List.getElem?_eq_none bA5]
 rfl
theorem own0_make {zs:Array Value} {n:Nat} (hz:zs=r.zc.toArray) (hl:r.zc.length=r.n) (hn:0 < r.n) (hm:n≤maxLen) (hS:S w.heap.size) :
    ku e r (w.alloc (.cells (madeCells zs (n * r.n)) e)) (.slice (some ⟨w.heap.size,0,none⟩) n n) (List.replicate n r.zero) S:=by
 subst hz
 have h:=yV (e:=e) (w:=w) (S:=S) (T:=fun _=>False) (cs:=(List.replicate n r.zc).flatten) (xs:=List.replicate n r.zero) (r:=r) (fun x hx=>by rw [(List.mem_replicate.1 hx).2];exact r.bdd_zero) (by simpa using hm) (kVc n) (fun _ h=>h.elim) hS
 rw [← hl,show madeCells r.zc.toArray (n * r.zc.length)=(List.replicate n r.zc).flatten.toArray from by rw [← kWt _ bB9],]
 simpa using h
theorem kEz {P:Program} {t ty:TypeId} {i:TypeInfo} {z:Value} (ht:P.underlying t=some (.slice e)) (hi:P.info? e=some i) (hz:i.zero=some z) (hsize:i.size=r.n) (hzs:z.cells.size=r.n) (hn:0 < r.n) (hby:i.bytes≤1000)
    (h:ku e r w v xs S) {sv:Value} {m:Nat} {cells:List Value} (hsrc:Src w sv m cells) (hl:cells.length=m * r.n) (h1:∀ u∈cells,u.oneCell'=true) (hlen:xs.length + m≤1000000000) :
    ∃ v' w',(Builtin.append_ #[t,t] ty #[v,sv]).run P w=.ok v' w'∧Touch (fun k=>some k=v.ownBlock∧S k) w w' ∧
      ∀ {ys:List α} {T:Nat→Prop},row r true w cells ys T→(∀ k,S k→T k→False)→(∀ y∈ys,r.bdd Big y) →
        ku e r w' v' (xs++ys) (fun k=>S k∨T k∨(w.heap.size≤k∧k < w'.heap.size)):=by
 obtain ⟨ba,h⟩:=h
 have ck:∀ {ys:List α},(∀ y∈ys,r.bdd Big y)→∀ y∈xs++ys,r.bdd Big y:=by
  intro ys hy y hm
  rcases List.mem_append.1 hm with hm | hm
  · exact ba y hm
  exact hy y hm
 have ee:∀ {ys:List α} {T:Nat→Prop},row r true w cells ys T→ys.length=m:=by
  intro ys T hr
  have:=zH hr
  rw [hl] at this
  exact (Nat.eq_of_mul_eq_mul_right hn this).symm
 by_cases bq:m=0
 · subst bq
   have hc:cells=[]:=List.eq_nil_of_length_eq_zero wI
   subst hc
   have aa:∃ a c,sv=.slice a 0 c:=by
    rcases hsrc with ⟨_,h⟩|⟨ad,c,h,_⟩
    · exact h
    exact ⟨_,_,h⟩
   obtain ⟨a,c,rfl⟩:=aa
   have X:∀ (bs:Option Addr) (l cap:Nat),l≤cap→(bs=none→l=0)→(Builtin.append_ #[t,t] ty #[.slice bs l cap,.slice a 0 c]).run P w=.ok (.slice bs l cap) w:=by
    intro bs l cap Z hb
    cases a <;> cases bs <;> simp [Builtin.append_,run_underlying ht,sizeOf,typeInfo,hi,Builtin.lenOf,Z,Builtin.firstCells,loadCells,loadCellsFrom,storeCells]
   refine ⟨v,w,?_,Touch.refl _ _,?_⟩
   · rcases h with ⟨⟨a0,rfl⟩,rfl⟩|⟨b,cap,cur,cs,tl,rfl,h2,h3,h4,h5,h6,h7,h8⟩
     · exact X a0 0 0 nL (fun _=>rfl)
     exact X _ _ _ h2 bC0
   intro ys T hr _ hy
   have:ys=[]:=List.eq_nil_of_length_eq_zero (ee hr)
   subst this
   rw [List.append_nil]
   exact ku.wide ⟨ba,h⟩ (fun k hk=>.inl hk)
 obtain ⟨ad,c,rfl,ae⟩:∃ ad c,sv=.slice (some ad) m c∧∀ j u,cells[j]?=some u→w.cell? (ad.add j)=some u:=by
  rcases hsrc with ⟨h,_⟩ | h
  · exact absurd h bq
  exact h
 have G:cells.length=m * i.size:=by rw [hsize];exact hl
 have O:(xs.length + m) * i.bytes≤140737488355328:=by
  have:(xs.length + m) * i.bytes≤1000000000 * 1000:=Nat.mul_le_mul hlen hby
  omega
 have an:∀ E,grownCap w (xs.length + m) E e≤maxLen:=fun E=>grownCap_le_maxLen w (xs.length + m) E e vI
 have J:∀ (E:Nat) (cs:List Value),row r true w cs xs S→∀ {ys:List α} {T:Nat→Prop},row r true w cells ys T→(∀ k,S k→T k→False)→(∀ y∈ys,r.bdd Big y) →
     ku e r (w.drew.alloc (.cells (cs.toArray++cells.toArray++Builtin.zeroCells z.cells (grownCap w (xs.length + m) E e - (xs.length + m))) e)) (.slice (some ⟨w.heap.size,0,none⟩) (xs.length + m) (grownCap w (xs.length + m) E e)) (xs++ys)
       (fun k=>S k∨T k∨(w.heap.size≤k∧k < w.heap.size + 1)):=by
   intro E cs Y ys T hr hST hy
   have ak:=grownCap_ge w (xs.length + m) E e
   have U:=ee hr
   refine ⟨ck hy,.inr ⟨w.heap.size,grownCap w (xs.length + m) E e,_,cs++cells,(Builtin.zeroCells z.cells (grownCap w (xs.length + m) E e - (xs.length + m))).toList,by rw [List.length_append,U],by rw [List.length_append,U];exact ak,an E,heap_alloc_new w.drew _,by simp,?_,by simp,?_⟩⟩
   · have:=zH Y
     simp only [Array.size_append,List.size_toArray,size_zeroCells,hzs,hl,this,← Nat.add_mul]
     congr 1;omega
   · have a1:=yH (T:=fun k=>S k∧k < w.heap.size) (yC (w':=w.drew.alloc (.cells (cs.toArray++cells.toArray++Builtin.zeroCells z.cells (grownCap w (xs.length + m) E e - (xs.length + m))) e)) (zK Y) (fun k hk=>heap_alloc_old w.drew _ hk.2)) (fun k hk=>hk)
     have a2:=yH (T:=fun k=>T k∧k < w.heap.size) (yC (w':=w.drew.alloc (.cells (cs.toArray++cells.toArray++Builtin.zeroCells z.cells (grownCap w (xs.length + m) E e - (xs.length + m))) e)) (zK hr) (fun k hk=>heap_alloc_old w.drew _ hk.2)) (fun k hk=>hk)
     exact kAg a1 a2 (fun k hk=>⟨.inl hk.1,by omega⟩) (fun k hk=>⟨.inr (.inl hk.1),by omega⟩) (fun _ k h1 h2=>hST k h1.1 h2.1)
 rcases h with ⟨⟨a0,rfl⟩,rfl⟩|⟨b,cap,cur,cs,tl,rfl,h2,h3,h4,h5,h6,h7,h8⟩
 · cases a0 with
   | none =>
     have hr:=run_append_nil (P:=P) w t ty e i z ht hi hz ad m c cells G ae bB9 (by simp at hlen;omega) (by simp only [List.length_nil,Nat.zero_add] at O;omega)
     refine ⟨_,_,hr,⟨rfl,rfl,rfl,by simp,fun k hk _=>heap_alloc_old w.drew _ hk⟩,?_⟩
     intro ys T H hST hy
     have:=J 0 [] rfl H hST hy
     simp only [List.length_nil,Nat.zero_add,Array.empty_append,List.nil_append] at this ⊢
     simpa using this
   | some a1 =>
     have hr:=run_append_grow (P:=P) w t ty e i z ht hi hz a1 0 0 [] bC0 bC0 ad m c cells G ae bB9 bB9 (growslice_fits bB9 bA8)
     refine ⟨_,_,hr,⟨rfl,rfl,rfl,by simp,fun k hk _=>heap_alloc_old w.drew _ hk⟩,?_⟩
     intro ys T H hST hy
     have:=J 0 [] rfl H hST hy
     simpa using this
 have N:=zH h8
 by_cases D:xs.length + m≤cap
 · have R:xs.length * i.size + cells.length≤cur.size:=by rw [hsize,hl,h6,← Nat.add_mul];exact Nat.mul_le_mul_right _ D
   have hr:=run_append_room (P:=P) w t ty e i ht hi b xs.length cap cur h4 ad m c cells G ae h1 D R
   refine ⟨_,_,hr,⟨rfl,rfl,rfl,by simp,fun k _ hk=>setRow_other w b k _ (fun q=>hk ⟨by simp [Value.ownBlock,q],q ▸ h7⟩)⟩,?_⟩
   intro ys T H hST hy
   have U:=ee H
   have V:cur.toList.take (xs.length * i.size)=cs:=by rw [h5,hsize,← N];simp
   have W:cur.toList.drop (xs.length * i.size + cells.length)=tl.drop cells.length:=by rw [h5,hsize,← N,List.drop_append];simp
   have b0:cur.size=cs.length + tl.length:=by rw [← Array.length_toList,h5,List.length_append]
   refine ⟨ck hy,.inr ⟨b,cap,_,cs++cells,tl.drop cells.length,by rw [List.length_append,U],by rw [List.length_append,U];exact D,h3,setRow_heap w b cur _ e _ h4,?_,?_,.inl h7,?_⟩⟩
   · rw [V,W]
   · rw [V,W,← h6,b0]
     rw [hsize,← N] at R
     simp only [List.size_toArray,List.length_append,List.length_drop]
     omega
   have a1:=yC (w':=w.setRow b (cur.toList.take (xs.length * i.size)++cells++cur.toList.drop (xs.length * i.size + cells.length)).toArray) h8 (fun k hk=>setRow_other w b k _ hk.2)
   have a2:=yC (w':=w.setRow b (cur.toList.take (xs.length * i.size)++cells++cur.toList.drop (xs.length * i.size + cells.length)).toArray) H (fun k hk=>setRow_other w b k _ (fun q=>hST b h7 (q ▸ hk)))
   exact kAg a1 a2 (fun k hk=>⟨.inl hk.1,hk.2⟩) (fun k hk=>⟨.inr (.inl hk),fun q=>hST b h7 (q ▸ hk)⟩) (fun _ k h1 h2=>hST k h1.1 h2)
 have L:∀ j u,cs[j]?=some u→w.cell? ((⟨b,0,none⟩:Addr).add j)=some u:=by
  intro j u I
  have F:(⟨b,0,none⟩:Addr).add j=⟨b,j,none⟩:=qN
  rw [F,cell_of_row w b j cur e (0,0) h4,← Array.getElem?_toList,h5,List.getElem?_append_left (List.getElem?_eq_some_iff.1 I).1]
  exact I
 have hr:=run_append_grow (P:=P) w t ty e i z ht hi hz ⟨b,0,none⟩ xs.length cap cs vR L ad m c cells G ae bB9 bB9 (growslice_fits bB9 O)
 refine ⟨_,_,hr,⟨rfl,rfl,rfl,by simp,fun k hk _=>heap_alloc_old w.drew _ hk⟩,?_⟩
 intro ys T H hST hy
 have:=J cap cs (yH h8 (fun k hk=>hk.1)) H hST hy
 simpa using this
theorem wpList_push {P:Program} {ops:Array Oper} {rest:List Oper} {o:Oper} {a:Act} {Q:Exit→Act→World→Prop} (D:o.guard=none) (s x:Operand) (t:TypeId)
    (ho:o.op=.call { callee:=.builtin .append,args:=#[s,x],argTypes:=#[t,t] })
    {i:TypeInfo} {z:Value} (ht:P.underlying t=some (.slice e)) (hi:P.info? e=some i) (hz:i.zero=some z) (hsize:i.size=r.n) (hzs:z.cells.size=r.n) (hn:0 < r.n) (hby:i.bytes≤1000)
    (hown:ku e r w v xs S) (hs:a.eval s=v) {sv:Value} {m:Nat} {cells:List Value} (hx:a.eval x=sv) (hsrc:Src w sv m cells) (hrow:row r true w cells ys T) (hl:ys.length=m)
    (hST:∀ k,S k→T k→False) (hy:∀ y∈ys,r.bdd Big y) (hlen:xs.length + ys.length≤1000000000)
    (h:∀ v' w',ku e r w' v' (xs++ys) (fun k=>S k∨T k∨(w.heap.size≤k∧k < w'.heap.size))→Touch (fun k=>some k=v.ownBlock∧S k) w w'→wpList P ops Q rest (a.put o.dst v') w'):wpList P ops Q (o :: rest) a w:=by
 refine wpList_plain D fun _ J=>?_
 obtain ⟨v',w',hr,h2,h3⟩:=kEz (P:=P) (ty:=o.type) ht hi hz hsize hzs hn hby hown hsrc (by rw [← hl];exact zH hrow) (row_one hrow) bB9
 unfold Oper.wp execOp
 simp only [ho,resolve,invoke,builtin,Sem.run_bind,Sem.run_pure,Result.andThen_ok,List.map_toArray,List.map_cons,List.map_nil,hs,hx,hr]
 exact J _ _ (h v' w' (h3 hrow hST hy) h2)
end
end kE
theorem kG {w:World} {o:Obj} {b:Nat} (h:b=w.heap.size):(w.alloc o).heap[b]?=some o:=h ▸ heap_alloc_new w o
theorem jC {w:World} {o A:Obj} {b:Nat} (h:w.heap[b]?=some o):(w.alloc A).heap[b]?=some o:=(heap_alloc_old w A (Array.getElem?_eq_some_iff.1 h).1).trans h
theorem kD {W W':World} {b:Nat} {o:Obj} (h:W.heap[b]?=some o) (d:Below W.heap.size W W'):W'.heap[b]?=some o:=(d.block b (Array.getElem?_eq_some_iff.1 h).1).trans h
theorem Touch.kD {S:Nat→Prop} {W W':World} (d:Touch S W W') {b:Nat} {o:Obj} (h:W.heap[b]?=some o) (hb:¬ S b):W'.heap[b]?=some o:=(d.block b (Array.getElem?_eq_some_iff.1 h).1 hb).trans h
theorem kF {W:World} {b:Nat} {cs:Array Value} {t:TypeId} {fr:Nat × Nat} (h:W.heap[b]?=some (.cells cs t fr)) {j:Nat} {v:Value} (hv:cs[j]?=some v):W.cell? ⟨b,j,none⟩=some v:=(cell_of_row W b j cs t fr h).trans hv
namespace kE
def setCells (w:World) (b p:Nat):List Value→World
  | []=>w
  | c :: cs=>setCells (w.setCell ⟨b,p,none⟩ c) b (p + 1) cs
theorem kBb:∀ (cs:List Value) (w:World) (b p k:Nat),k≠b→(setCells w b p cs).heap[k]?=w.heap[k]?
  | [],_,_,_,_,_=>rfl
  | c :: cs,w,b,p,k,h=>by
    rw [setCells,kBb cs _ b (p + 1) k h]
    exact heap_setCell_other w ⟨b,p,none⟩ k c h
theorem setCells_size:∀ (cs:List Value) (w:World) (b p:Nat),(setCells w b p cs).heap.size=w.heap.size
  | [],_,_,_=>rfl
  | c :: cs,w,b,p=>by rw [setCells,setCells_size cs];simp [World.setCell]
theorem kEw:∀ (cs:List Value) (w:World) (b p:Nat),(setCells w b p cs).os=w.os∧(setCells w b p cs).tape=w.tape∧(setCells w b p cs).output=w.output
  | [],_,_,_=>⟨rfl,rfl,rfl⟩
  | c :: cs,w,b,p=>by rw [setCells];exact kEw cs _ b (p + 1)
theorem zn (cs:List Value) (w:World) (b p:Nat):Touch (fun k=>k=b) w (setCells w b p cs) :=
  ⟨(kEw cs w b p).1,(kEw cs w b p).2.1,(kEw cs w b p).2.2,by rw [setCells_size];exact Nat.le_refl _,fun k _ hk=>kBb cs w b p k hk⟩
theorem kCw {e:TypeId}:∀ (cs c hd tl:List Value) (w:World) (b p:Nat),w.heap[b]?=some (.cells (hd++(c++tl)).toArray e (0,0))→hd.length=p→c.length=cs.length →
    (setCells w b p cs).heap[b]?=some (.cells (hd++(cs++tl)).toArray e (0,0))
  | [],c,hd,tl,w,b,p,h,hp,hc=>by
    have:c=[]:=List.eq_nil_of_length_eq_zero wN
    subst this
    exact h
  | v :: cs,[],hd,tl,w,b,p,h,hp,hc=>by simp at hc
  | v :: cs,u :: c,hd,tl,w,b,p,h,hp,hc=>by
    rw [setCells]
    have h1:=heap_setCell_same w b p _ e v h
    have h2:((hd++(u :: c++tl)).toArray.setIfInBounds p v)=((hd++[v])++(c++tl)).toArray:=by
      subst hp
      simp
    rw [h2] at h1
    have:=kCw cs c (hd++[v]) tl _ b (p + 1) h1 (by simp [hp]) wN
    simpa using this
section
variable {α:Type} {r:kE α} {e:TypeId} {w w':World} {b off len cap:Nat} {xs:List α} {S T:Nat→Prop}
theorem kNm (h:(slice e r).own w [.slice (some ⟨b,off,none⟩) len cap] xs S) (hne:0 < xs.length) :
    len=xs.length∧len≤cap∧cap≤maxLen∧xs.length≤Big∧(∀ x∈xs,r.bdd Big x)∧∃ (hd cs tl:List Value),w.heap[b]?=some (.cells (hd++(cs++tl)).toArray e (0,0))∧hd.length=off∧off + cap * r.n≤(hd++(cs++tl)).length∧S b ∧
      row r true w cs xs (fun k=>S k∧k≠b):=by
 obtain ⟨⟨a',H,cap',h0,h1,h2,h3,h4⟩,hb⟩:=h
 simp only [List.cons.injEq,Value.slice.injEq,and_true] at h0
 obtain ⟨rfl,rfl,rfl⟩:=h0
 rcases h4 with ⟨rfl,_⟩|⟨b',off',ha,cur,e',fr,p,c,q,hb',hc,hp,hl,hf,hS,hx⟩
 · simp at hne
 simp only [Option.some.injEq,Addr.mk.injEq,and_true] at ha
 obtain ⟨rfl,rfl⟩:=ha
 obtain ⟨rfl,rfl⟩:=hf rfl
 have L:cur=(p++(c++q)).toArray:=by rw [← hc]
 subst L
 exact ⟨h1,h2,h3,hb.1,hb.2,p,c,q,hb',hp,by simpa using hl,hS,yH hx (fun k hk=>⟨hk.1,hk.2 rfl⟩)⟩
theorem own_shut {hd cs tl:List Value} (h1:len=xs.length) (h2:len≤cap) (h3:cap≤maxLen) (h4:xs.length≤Big) (h5:∀ x∈xs,r.bdd Big x) (h6:w.heap[b]?=some (.cells (hd++(cs++tl)).toArray e (0,0))) (h7:hd.length=off)
    (h8:off + cap * r.n≤(hd++(cs++tl)).length) (h9:S b) (E:row r true w cs xs (fun k=>S k∧k≠b)):(slice e r).own w [.slice (some ⟨b,off,none⟩) len cap] xs S :=
  ⟨⟨_,_,_,rfl,h1,h2,h3,.inr ⟨b,off,rfl,_,e,(0,0),hd,cs,tl,h6,rfl,h7,by simpa using h8,fun _=>⟨rfl,rfl⟩,h9,yH E (fun k hk=>⟨hk.1,fun _=>hk.2⟩)⟩⟩,h4,h5⟩
theorem bdd_set {i:Nat} {y:α} (h5:∀ x∈xs,r.bdd Big x) (hy:r.bdd Big y):∀ x∈xs.set i y,r.bdd Big x:=by
 intro x hx
 rcases List.mem_or_eq_of_mem_set hx with h | h
 · exact h5 x h
 exact h ▸ hy
theorem own_get (h:(slice e r).own w [.slice (some ⟨b,off,none⟩) len cap] xs S) {i:Nat} (hi:i < xs.length) :
    ∃ c B,r.own w c xs[i] B∧(∀ k,B k→S k∧k≠b)∧S b∧(∀ j v,c[j]?=some v→w.cell? ⟨b,off + i * r.n + j,none⟩=some v)∧(∀ j,w.frozen? ⟨b,j,none⟩=false) ∧
      (∀ {w':World} {y:α},r.own w' c y B→Touch B w w'→(slice e r).own w' [.slice (some ⟨b,off,none⟩) len cap] (xs.set i y) S):=by
 have F:=h.raw
 obtain ⟨h1,h2,h3,h4,h5,hd,cs,tl,h6,h7,h8,h9,E⟩:=kNm h bB9
 obtain ⟨p,c,q,A,B,C,rfl,hp,ra,rb,rc,hA,hB,hC,D⟩:=kOu E hi
 have hlt:b < w.heap.size:=(Array.getElem?_eq_some_iff.1 h6).1
 refine ⟨c,fun k=>B k∧k < w.heap.size,⟨r.live rb,h5 _ (List.getElem_mem hi)⟩,fun k hk=>hB k hk.1,h9,?_,fun j=>frozen_of_row w b j _ e h6,?_⟩
 · intro j v I
   have av:=(List.getElem?_eq_some_iff.1 I).1
   rw [cell_of_row w b _ _ e (0,0) h6]
   simp only [List.getElem?_toArray]
   rw [List.getElem?_append_right bB9,List.append_assoc,List.getElem?_append_right bB9,List.append_assoc,List.getElem?_append_left bB9]
   rw [← I];congr 1;omega
 intro w' y hy ht
 have hb':w'.heap[b]?=w.heap[b]?:=ht.block b hlt (fun q=>(hB b q.1).2 rfl)
 refine own_shut wM h2 h3 (by simpa using h4) (bdd_set h5 hy.2) (hb'.trans h6) h7 h8 h9 ?_
 have H:=yC (w':=w') (zK ra) (fun k hk=>ht.block k hk.2 (fun q=>(D rfl k).1 hk.1 q.1))
 have G:=yC (w':=w') (zK rc) (fun k hk=>ht.block k hk.2 (fun q=>(D rfl k).2.2 q.1 hk.1))
 exact kWp hi H hy.1 G (fun k hk=>hA k hk.1) (fun k hk=>hB k hk.1) (fun k hk=>hC k hk.1) (fun _ k=>⟨fun a b=>(D rfl k).1 a.1 b.1,fun a c=>(D rfl k).2.1 a.1 c.1,fun b c=>(D rfl k).2.2 b.1 c.1⟩)
theorem kQj (h:(slice e r).own w [.slice (some ⟨b,off,none⟩) len cap] xs S) {i j:Nat} {v:Value} {y:α} (hi:i < xs.length) (I:j < r.n)
    (hy:∀ {w:World} {cs:List Value} {S:Nat→Prop},r.is true w cs xs[i] S→r.is true w (cs.set j v) y S) (hby:r.bdd Big y) :
    (slice e r).own (w.setCell ⟨b,off + i * r.n + j,none⟩ v) [.slice (some ⟨b,off,none⟩) len cap] (xs.set i y) S∧Touch (fun k=>k=b) w (w.setCell ⟨b,off + i * r.n + j,none⟩ v):=by
 obtain ⟨h1,h2,h3,h4,h5,hd,cs,tl,h6,h7,h8,h9,E⟩:=kNm h bB9
 obtain ⟨p,c,q,A,B,C,rfl,hp,ra,rb,rc,hA,hB,hC,D⟩:=kOu E hi
 have ho:∀ k,k≠b→(w.setCell ⟨b,off + i * r.n + j,none⟩ v).heap[k]?=w.heap[k]?:=fun k hk=>heap_setCell_other w ⟨b,_,none⟩ k v hk
 have hc:=r.len rb
 refine ⟨?_,⟨rfl,rfl,rfl,by simp [World.setCell],fun k _ hk=>ho k hk⟩⟩
 have F:=heap_setCell_same w b (off + i * r.n + j) _ e v h6
 have L:((hd++((p++(c++q))++tl)).toArray.setIfInBounds (off + i * r.n + j) v)=(hd++((p++(c.set j v++q))++tl)).toArray:=by
  apply Array.ext'
  simp only [Array.toList_setIfInBounds]
  rw [List.set_append_right _ _ bB9,List.append_assoc,List.set_append_right _ _ bB9,List.append_assoc,List.set_append_left _ _ bB9]
  rw [show off + i * r.n + j - hd.length - p.length=j by omega]
  simp
 rw [L] at F
 refine own_shut wM h2 h3 (by simpa using h4) (bdd_set h5 hby) F h7 (by simpa using h8) h9 ?_
 exact kWp hi (yC ra (fun k hk=>ho k (hA k hk).2)) (r.mono (hy rb) (fun k hk=>ho k (hB k hk).2)) (yC rc (fun k hk=>ho k (hC k hk).2)) hA hB hC D
theorem own_frozen (h:(slice e r).own w [.slice (some ⟨b,off,none⟩) len cap] xs S) (hne:0 < xs.length) (j:Nat):w.frozen? ⟨b,j,none⟩=false:=by
 obtain ⟨_,_,_,_,_,hd,cs,tl,h6,_⟩:=kNm h hne
 exact frozen_of_row w b j _ e h6
theorem kHv {a:Option Addr} (h:(slice e r).own w [.slice a len cap] xs S) (hne:0 < xs.length):len=xs.length∧∃ b off,a=some ⟨b,off,none⟩∧S b∧b < w.heap.size:=by
 obtain ⟨⟨a',H,cap',h0,h1,h2,h3,h4⟩,hb⟩:=h
 simp only [List.cons.injEq,Value.slice.injEq,and_true] at h0
 obtain ⟨rfl,rfl,rfl⟩:=h0
 rcases h4 with ⟨rfl,_⟩|⟨b',off',ha,cur,e',fr,p,c,q,hb',hc,hp,hl,hf,hS,hx⟩
 · simp at hne
 exact ⟨h1,b',off',ha,hS,(Array.getElem?_eq_some_iff.1 hb').1⟩
variable {β:Type} {q:kE β} {cs ds:List Value} {x:α} {y:β} {A B:Nat→Prop}
theorem own.setCell (h:r.own w cs x S) {p:Addr} {v:Value} (hp:¬ S p.block):r.own (w.setCell p v) cs x S :=
  h.keep (fun k hk _=>heap_setCell_other w p k v (fun q=>hp (q ▸ hk)))
theorem own.alloc (h:r.own w cs x S) (o:Obj):r.own (w.alloc o) cs x S:=h.below (zD w o)
theorem own.drew (h:r.own w cs x S):r.own w.drew cs x S:=h.below (kMt w)
theorem ku.setCell {v:Value} (h:ku e r w v xs S) {p:Addr} {u:Value} (hp:¬ S p.block):ku e r (w.setCell p u) v xs S :=
  h.keep (fun k hk _=>heap_setCell_other w p k u (fun q=>hp (q ▸ hk)))
theorem ku.alloc {v:Value} (h:ku e r w v xs S) (o:Obj):ku e r (w.alloc o) v xs S:=h.below (zD w o)
theorem ku.drew {v:Value} (h:ku e r w v xs S):ku e r w.drew v xs S:=h.below (kMt w)
theorem own.out {lo hi:Nat} (h:r.own w cs x (jR lo hi)) (k:∀ j,lo≤j→j < hi→w'.heap[j]?=w.heap[j]?):r.own w' cs x (jR lo hi):=h.keep (fun j I _=>k j I.1 I.2)
def flat (r:kE α) (cs:List Value) (x:α):Prop:=∀ w,r.own w cs x (fun _=>False)
theorem ky {n:Int} (h:-9223372036854775808≤n∧n≤9223372036854775807):int.flat [.int .i64 n] n:=fun _=>⟨⟨rfl,h⟩,trivial⟩
theorem kVu (b:Bool):bool.flat [.bool b] b:=fun _=>⟨rfl,trivial⟩
theorem kVt (b:UInt8):byte.flat [.int .u8 b.toNat] b:=fun _=>⟨rfl,trivial⟩
theorem kCy {s:ByteArray} (h:s.size≤Big):str.flat [.string s] s:=fun _=>⟨⟨rfl,by unfold maxLen;unfold Big at h;omega⟩,h⟩
theorem jr (h:r.flat cs x) (k:q.flat ds y):(pair r q).flat (cs++ds) (x,y):=fun w =>
  ⟨⟨cs,ds,_,_,rfl,(h w).1,(k w).1,fun _ h=>h,fun _ h=>h,fun _ _ h _=>h⟩,(h w).2,(k w).2⟩
theorem flat.own (h:r.flat cs x):r.own w cs x S:=(h w).wide (fun _ h=>h.elim)
theorem flat.raw (h:r.flat cs x):r.raw w cs x:=(h w).raw
theorem flat.rd (h:r.flat cs x):r.rd w cs x:=(h w).rd
theorem ja (h:r.own w cs x A) (k:q.own w ds y B) (hA:∀ k,A k→S k) (hB:∀ k,B k→S k) (hd:∀ k,A k→B k→False):(pair r q).own w (cs++ds) (x,y) S :=
  ⟨⟨cs,ds,A,B,rfl,h.1,k.1,hA,hB,fun _=>hd⟩,h.2,k.2⟩
theorem jw (h:r.own w cs x S) (k:q.flat ds y):(pair r q).own w (cs++ds) (x,y) S :=
  ja h (k w) (fun _ h=>h) (fun _ h=>h.elim) (fun _ _ h=>h)
theorem kBe (h:r.flat cs x) (k:q.own w ds y S):(pair r q).own w (cs++ds) (x,y) S :=
  ja (h w) k (fun _ h=>h.elim) (fun _ h=>h) (fun _ h _=>h)
theorem kCe {z:α × β} (h:(pair r q).own w cs z S):∃ c d A B,cs=c++d∧r.own w c z.1 A∧q.own w d z.2 B∧(∀ k,A k→S k)∧(∀ k,B k→S k)∧(∀ k,A k→B k→False):=by
 obtain ⟨⟨c,d,A,B,rfl,h1,h2,hA,hB,hd⟩,hb⟩:=h
 exact ⟨c,d,A,B,rfl,⟨h1,hb.1⟩,⟨h2,hb.2⟩,hA,hB,hd rfl⟩
theorem jm {z:α × β} (h:(pair r q).raw w cs z):∃ c d,cs=c++d∧r.raw w c z.1∧q.raw w d z.2:=by
 obtain ⟨c,d,A,B,rfl,h1,h2,hA,hB,hd⟩:=h
 exact ⟨c,d,rfl,r.wide h1 (fun _ _=>trivial),q.wide h2 (fun _ _=>trivial)⟩
theorem yz {n:Int} (h:int.raw w cs n):cs=[.int .i64 n]∧-9223372036854775808≤n∧n≤9223372036854775807:=h
theorem bool_raw {b:Bool} (h:bool.raw w cs b):cs=[.bool b]:=h
theorem kOg {b:UInt8} (h:byte.raw w cs b):cs=[.int .u8 b.toNat]:=h
theorem yY {s:ByteArray} (h:str.raw w cs s):cs=[.string s]∧s.size≤maxLen:=h
theorem zy {xs:List α} (h:(slice e r).raw w cs xs):∃ v,cs=[v]∧(slice e r).raw w [v] xs:=by
 obtain ⟨a,cap,rfl,_⟩:=kAx h
 exact ⟨_,rfl,h⟩
end
def Sub {α β:Type} (r:kE α) (q:kE β) (E:α→β) (put:α→β→α) (i:Nat):Prop :=
  ∀ {w:World} {cs:List Value} {x:α} {B:Nat→Prop},r.own w cs x B→∃ A,q.own w ((cs.drop i).take q.n) (E x) A∧(∀ k,A k→B k) ∧
    ∀ {w':World} {y:β},q.own w' ((cs.drop i).take q.n) y A→Touch A w w'→r.own w' cs (put x y) B
theorem Sub.refl {α:Type} (r:kE α):Sub r r (fun x=>x) (fun _ y=>y) 0:=by
 intro w cs x B h
 have e:(cs.drop 0).take r.n=cs:=by rw [List.drop_zero,List.take_of_length_le (by rw [r.len h.1];exact Nat.le_refl _)]
 rw [e]
 exact ⟨B,h,fun _ h=>h,fun h _=>h⟩
theorem Sub.left {α β γ:Type} {r:kE α} {q:kE β} {p:kE γ} {E:α→γ} {put:α→γ→α} {i:Nat} (s:Sub r p E put i) (hi:i + p.n≤r.n):Sub (pair r q) p (fun z=>E z.1) (fun z y=>(put z.1 y,z.2)) i:=by
 intro w cs z B h
 obtain ⟨c,d,A,D,rfl,h1,h2,hA,F,hd⟩:=kCe h
 obtain ⟨J,h3,h4,h5⟩:=s h1
 have hc:=r.len h1.1
 have e:((c++d).drop i).take p.n=(c.drop i).take p.n:=by
  rw [List.drop_append_of_le_length bB9,List.take_append_of_le_length (by rw [List.length_drop];omega)]
 rw [e]
 exact ⟨J,h3,fun k hk=>hA k (h4 k hk),fun h6 t=>ja (h5 h6 t) (h2.touch t (fun k hk q=>hd k (h4 k q) hk)) hA F hd⟩
theorem Sub.right {α β γ:Type} {r:kE α} {q:kE β} {p:kE γ} {E:β→γ} {put:β→γ→β} {i j:Nat} (s:Sub q p E put i) (I:j=r.n + i):Sub (pair r q) p (fun z=>E z.2) (fun z y=>(z.1,put z.2 y)) j:=by
 subst I
 intro w cs z B h
 obtain ⟨c,d,A,D,rfl,h1,h2,hA,F,hd⟩:=kCe h
 obtain ⟨J,h3,h4,h5⟩:=s h2
 have hc:=r.len h1.1
 have e:((c++d).drop (r.n + i)).take p.n=(d.drop i).take p.n:=by
  rw [← hc,← List.drop_drop,List.drop_left]
 rw [e]
 exact ⟨J,h3,fun k hk=>F k (h4 k hk),fun h6 t=>ja (h1.touch t (fun k hk q=>hd k hk (h4 k q))) (h5 h6 t) hA F hd⟩
theorem at3 {α:Type} {r:kE α} {w:World} {e:TypeId} {b len cap:Nat} {xs:List α} (h:(slice e r).raw w [.slice (some ⟨b,0,none⟩) len cap] xs) {i:Nat} (hi:i < xs.length) (hn:r.n=3) :
    ∃ c0 c1 c2,r.raw w [c0,c1,c2] xs[i]∧w.cell? ⟨b,i * 3,none⟩=some c0∧w.cell? ⟨b,i * 3 + 1,none⟩=some c1∧w.cell? ⟨b,i * 3 + 2,none⟩=some c2:=by
 obtain ⟨b',off',ha,c0,c1,c2,hr,h0,h1,h2⟩:=kDv h hi hn
 simp only [Option.some.injEq,Addr.mk.injEq,and_true] at ha
 obtain ⟨rfl,rfl⟩:=ha
 simp only [Nat.zero_add] at h0 h1 h2
 exact ⟨c0,c1,c2,hr,h0,h1,h2⟩
theorem at6 {α:Type} {r:kE α} {w:World} {e:TypeId} {b len cap:Nat} {xs:List α} (h:(slice e r).raw w [.slice (some ⟨b,0,none⟩) len cap] xs) {i:Nat} (hi:i < xs.length) (hn:r.n=6) :
    ∃ c0 c1 c2 c3 c4 c5,r.raw w [c0,c1,c2,c3,c4,c5] xs[i]∧w.cell? ⟨b,i * 6,none⟩=some c0∧w.cell? ⟨b,i * 6 + 1,none⟩=some c1∧w.cell? ⟨b,i * 6 + 2,none⟩=some c2∧w.cell? ⟨b,i * 6 + 3,none⟩=some c3∧w.cell? ⟨b,i * 6 + 4,none⟩=some c4∧w.cell? ⟨b,i * 6 + 5,none⟩=some c5:=by
 obtain ⟨b',off',ha,c0,c1,c2,c3,c4,c5,hr,h0,h1,h2,h3,h4,h5⟩:=get6 h hi hn
 simp only [Option.some.injEq,Addr.mk.injEq,and_true] at ha
 obtain ⟨rfl,rfl⟩:=ha
 simp only [Nat.zero_add] at h0 h1 h2 h3 h4 h5
 exact ⟨c0,c1,c2,c3,c4,c5,hr,h0,h1,h2,h3,h4,h5⟩
end kE
def kCk {α:Type} (r:kE α) (x:α) (w:World) (e:Ending) (w':World):Prop:=∃ v,e=.returned v∧r.own w' [v] x (jR w.heap.size w'.heap.size)∧Below w.heap.size w w'
def kAn {α:Type} (r:kE α) (x:α) (w:World) (e:Ending) (w':World):Prop:=∃ cs,e=.returned (.agg cs.toArray)∧r.own w' cs x (jR w.heap.size w'.heap.size)∧Below w.heap.size w w'
theorem jc {W:World} {b:Nat} {t:TypeId} {fr:Nat × Nat} {c0 c1:Value} (h:W.heap[b]?=some (.cells #[c0,c1] t fr)):W.cell? ⟨b,0,none⟩=some c0∧W.cell? ⟨b,1,none⟩=some c1 :=
  ⟨kF h rfl,kF h rfl⟩
theorem kAo {W:World} {b:Nat} {t:TypeId} {a:Array Value} (h:W.heap[b]?=some (.cells a t (0,0))):W.frozen? ⟨b,0,none⟩=false∧W.frozen? ⟨b,1,none⟩=false :=
  ⟨frozen_of_row W b 0 _ _ h,frozen_of_row W b 1 _ _ h⟩
theorem rowC3 {W:World} {b:Nat} {t:TypeId} {fr:Nat × Nat} {c0 c1 c2:Value} (h:W.heap[b]?=some (.cells #[c0,c1,c2] t fr)):W.cell? ⟨b,0,none⟩=some c0∧W.cell? ⟨b,1,none⟩=some c1∧W.cell? ⟨b,2,none⟩=some c2 :=
  ⟨kF h rfl,kF h rfl,kF h rfl⟩
theorem rowF3 {W:World} {b:Nat} {t:TypeId} {a:Array Value} (h:W.heap[b]?=some (.cells a t (0,0))):W.frozen? ⟨b,0,none⟩=false∧W.frozen? ⟨b,1,none⟩=false∧W.frozen? ⟨b,2,none⟩=false :=
  ⟨frozen_of_row W b 0 _ _ h,frozen_of_row W b 1 _ _ h,frozen_of_row W b 2 _ _ h⟩
theorem kAh {W:World} {b:Nat} {t:TypeId} {fr:Nat × Nat} {c0 c1 c2 c3:Value} (h:W.heap[b]?=some (.cells #[c0,c1,c2,c3] t fr)):W.cell? ⟨b,0,none⟩=some c0∧W.cell? ⟨b,1,none⟩=some c1∧W.cell? ⟨b,2,none⟩=some c2∧W.cell? ⟨b,3,none⟩=some c3 :=
  ⟨kF h rfl,kF h rfl,kF h rfl,kF h rfl⟩
theorem kNk {W:World} {b:Nat} {t:TypeId} {a:Array Value} (h:W.heap[b]?=some (.cells a t (0,0))):W.frozen? ⟨b,0,none⟩=false∧W.frozen? ⟨b,1,none⟩=false∧W.frozen? ⟨b,2,none⟩=false∧W.frozen? ⟨b,3,none⟩=false :=
  ⟨frozen_of_row W b 0 _ _ h,frozen_of_row W b 1 _ _ h,frozen_of_row W b 2 _ _ h,frozen_of_row W b 3 _ _ h⟩
theorem jU {W:World} {b:Nat} {t:TypeId} {fr:Nat × Nat} {c0 c1 c2 c3 c4:Value} (h:W.heap[b]?=some (.cells #[c0,c1,c2,c3,c4] t fr)):W.cell? ⟨b,0,none⟩=some c0∧W.cell? ⟨b,1,none⟩=some c1∧W.cell? ⟨b,2,none⟩=some c2∧W.cell? ⟨b,3,none⟩=some c3∧W.cell? ⟨b,4,none⟩=some c4 :=
  ⟨kF h rfl,kF h rfl,kF h rfl,kF h rfl,kF h rfl⟩
theorem zh {W:World} {b:Nat} {t:TypeId} {a:Array Value} (h:W.heap[b]?=some (.cells a t (0,0))):W.frozen? ⟨b,0,none⟩=false∧W.frozen? ⟨b,1,none⟩=false∧W.frozen? ⟨b,2,none⟩=false∧W.frozen? ⟨b,3,none⟩=false∧W.frozen? ⟨b,4,none⟩=false :=
  ⟨frozen_of_row W b 0 _ _ h,frozen_of_row W b 1 _ _ h,frozen_of_row W b 2 _ _ h,frozen_of_row W b 3 _ _ h,frozen_of_row W b 4 _ _ h⟩
theorem rowC6 {W:World} {b:Nat} {t:TypeId} {fr:Nat × Nat} {c0 c1 c2 c3 c4 c5:Value} (h:W.heap[b]?=some (.cells #[c0,c1,c2,c3,c4,c5] t fr)):W.cell? ⟨b,0,none⟩=some c0∧W.cell? ⟨b,1,none⟩=some c1∧W.cell? ⟨b,2,none⟩=some c2∧W.cell? ⟨b,3,none⟩=some c3∧W.cell? ⟨b,4,none⟩=some c4∧W.cell? ⟨b,5,none⟩=some c5 :=
  ⟨kF h rfl,kF h rfl,kF h rfl,kF h rfl,kF h rfl,kF h rfl⟩
theorem zt {W:World} {b:Nat} {t:TypeId} {fr:Nat × Nat} {c0 c1 c2 c3 c4 c5 N D:Value} (h:W.heap[b]?=some (.cells #[c0,c1,c2,c3,c4,c5,N,D] t fr)):W.cell? ⟨b,0,none⟩=some c0∧W.cell? ⟨b,1,none⟩=some c1∧W.cell? ⟨b,2,none⟩=some c2∧W.cell? ⟨b,3,none⟩=some c3∧W.cell? ⟨b,4,none⟩=some c4∧W.cell? ⟨b,5,none⟩=some c5∧W.cell? ⟨b,6,none⟩=some N∧W.cell? ⟨b,7,none⟩=some D :=
  ⟨kF h rfl,kF h rfl,kF h rfl,kF h rfl,kF h rfl,kF h rfl,kF h rfl,kF h rfl⟩
theorem kGn {W:World} {b:Nat} {t:TypeId} {a:Array Value} (h:W.heap[b]?=some (.cells a t (0,0))):W.frozen? ⟨b,0,none⟩=false∧W.frozen? ⟨b,1,none⟩=false∧W.frozen? ⟨b,2,none⟩=false∧W.frozen? ⟨b,3,none⟩=false∧W.frozen? ⟨b,4,none⟩=false∧W.frozen? ⟨b,5,none⟩=false∧W.frozen? ⟨b,6,none⟩=false∧W.frozen? ⟨b,7,none⟩=false :=
  ⟨frozen_of_row W b 0 _ _ h,frozen_of_row W b 1 _ _ h,frozen_of_row W b 2 _ _ h,frozen_of_row W b 3 _ _ h,frozen_of_row W b 4 _ _ h,frozen_of_row W b 5 _ _ h,frozen_of_row W b 6 _ _ h,frozen_of_row W b 7 _ _ h⟩
theorem kBi {W:World} {b:Nat} {t:TypeId} {fr:Nat × Nat} {c0 c1 c2 c3 c4 c5 N D c8:Value} (h:W.heap[b]?=some (.cells #[c0,c1,c2,c3,c4,c5,N,D,c8] t fr)):W.cell? ⟨b,0,none⟩=some c0∧W.cell? ⟨b,1,none⟩=some c1∧W.cell? ⟨b,2,none⟩=some c2∧W.cell? ⟨b,3,none⟩=some c3∧W.cell? ⟨b,4,none⟩=some c4∧W.cell? ⟨b,5,none⟩=some c5∧W.cell? ⟨b,6,none⟩=some N∧W.cell? ⟨b,7,none⟩=some D∧W.cell? ⟨b,8,none⟩=some c8 :=
  ⟨kF h rfl,kF h rfl,kF h rfl,kF h rfl,kF h rfl,kF h rfl,kF h rfl,kF h rfl,kF h rfl⟩
theorem kFw {W:World} {b:Nat} {t:TypeId} {a:Array Value} (h:W.heap[b]?=some (.cells a t (0,0))):W.frozen? ⟨b,0,none⟩=false∧W.frozen? ⟨b,1,none⟩=false∧W.frozen? ⟨b,2,none⟩=false∧W.frozen? ⟨b,3,none⟩=false∧W.frozen? ⟨b,4,none⟩=false∧W.frozen? ⟨b,5,none⟩=false∧W.frozen? ⟨b,6,none⟩=false∧W.frozen? ⟨b,7,none⟩=false∧W.frozen? ⟨b,8,none⟩=false :=
  ⟨frozen_of_row W b 0 _ _ h,frozen_of_row W b 1 _ _ h,frozen_of_row W b 2 _ _ h,frozen_of_row W b 3 _ _ h,frozen_of_row W b 4 _ _ h,frozen_of_row W b 5 _ _ h,frozen_of_row W b 6 _ _ h,frozen_of_row W b 7 _ _ h,frozen_of_row W b 8 _ _ h⟩
theorem cLs2 {W D:World} {p0 p1:Addr} {v0 v1:Value} (hb:Below W.heap.size W D) (h0:W.cell? p0=some v0) (h1:W.cell? p1=some v1):D.cell? p0=some v0∧D.cell? p1=some v1 :=
  ⟨cL hb h0,cL hb h1⟩
theorem kMs {W D:World} {p0 p1 p2:Addr} {v0 v1 v2:Value} (hb:Below W.heap.size W D) (h0:W.cell? p0=some v0) (h1:W.cell? p1=some v1) (h2:W.cell? p2=some v2):D.cell? p0=some v0∧D.cell? p1=some v1∧D.cell? p2=some v2 :=
  ⟨cL hb h0,cL hb h1,cL hb h2⟩
theorem kLd {W D:World} {p0 p1 p2 p3:Addr} {v0 v1 v2 v3:Value} (hb:Below W.heap.size W D) (h0:W.cell? p0=some v0) (h1:W.cell? p1=some v1) (h2:W.cell? p2=some v2) (h3:W.cell? p3=some v3):D.cell? p0=some v0∧D.cell? p1=some v1∧D.cell? p2=some v2∧D.cell? p3=some v3 :=
  ⟨cL hb h0,cL hb h1,cL hb h2,cL hb h3⟩
theorem cLs5 {W D:World} {p0 p1 p2 p3 N:Addr} {v0 v1 v2 v3 v4:Value} (hb:Below W.heap.size W D) (h0:W.cell? p0=some v0) (h1:W.cell? p1=some v1) (h2:W.cell? p2=some v2) (h3:W.cell? p3=some v3) (h4:W.cell? N=some v4):D.cell? p0=some v0∧D.cell? p1=some v1∧D.cell? p2=some v2∧D.cell? p3=some v3∧D.cell? N=some v4 :=
  ⟨cL hb h0,cL hb h1,cL hb h2,cL hb h3,cL hb h4⟩
theorem cLs6 {W D:World} {p0 p1 p2 p3 N R:Addr} {v0 v1 v2 v3 v4 v5:Value} (hb:Below W.heap.size W D) (h0:W.cell? p0=some v0) (h1:W.cell? p1=some v1) (h2:W.cell? p2=some v2) (h3:W.cell? p3=some v3) (h4:W.cell? N=some v4) (h5:W.cell? R=some v5):D.cell? p0=some v0∧D.cell? p1=some v1∧D.cell? p2=some v2∧D.cell? p3=some v3∧D.cell? N=some v4∧D.cell? R=some v5 :=
  ⟨cL hb h0,cL hb h1,cL hb h2,cL hb h3,cL hb h4,cL hb h5⟩
theorem cLs7 {W D:World} {p0 p1 p2 p3 N R F:Addr} {v0 v1 v2 v3 v4 v5 v6:Value} (hb:Below W.heap.size W D) (h0:W.cell? p0=some v0) (h1:W.cell? p1=some v1) (h2:W.cell? p2=some v2) (h3:W.cell? p3=some v3) (h4:W.cell? N=some v4) (h5:W.cell? R=some v5) (h6:W.cell? F=some v6):D.cell? p0=some v0∧D.cell? p1=some v1∧D.cell? p2=some v2∧D.cell? p3=some v3∧D.cell? N=some v4∧D.cell? R=some v5∧D.cell? F=some v6 :=
  ⟨cL hb h0,cL hb h1,cL hb h2,cL hb h3,cL hb h4,cL hb h5,cL hb h6⟩
theorem cLs8 {W D:World} {p0 p1 p2 p3 N R F H:Addr} {v0 v1 v2 v3 v4 v5 v6 G:Value} (hb:Below W.heap.size W D) (h0:W.cell? p0=some v0) (h1:W.cell? p1=some v1) (h2:W.cell? p2=some v2) (h3:W.cell? p3=some v3) (h4:W.cell? N=some v4) (h5:W.cell? R=some v5) (h6:W.cell? F=some v6) (h7:W.cell? H=some G):D.cell? p0=some v0∧D.cell? p1=some v1∧D.cell? p2=some v2∧D.cell? p3=some v3∧D.cell? N=some v4∧D.cell? R=some v5∧D.cell? F=some v6∧D.cell? H=some G :=
  ⟨cL hb h0,cL hb h1,cL hb h2,cL hb h3,cL hb h4,cL hb h5,cL hb h6,cL hb h7⟩
theorem cLs9 {W D:World} {p0 p1 p2 p3 N R F H J:Addr} {v0 v1 v2 v3 v4 v5 v6 G v8:Value} (hb:Below W.heap.size W D) (h0:W.cell? p0=some v0) (h1:W.cell? p1=some v1) (h2:W.cell? p2=some v2) (h3:W.cell? p3=some v3) (h4:W.cell? N=some v4) (h5:W.cell? R=some v5) (h6:W.cell? F=some v6) (h7:W.cell? H=some G) (h8:W.cell? J=some v8):D.cell? p0=some v0∧D.cell? p1=some v1∧D.cell? p2=some v2∧D.cell? p3=some v3∧D.cell? N=some v4∧D.cell? R=some v5∧D.cell? F=some v6∧D.cell? H=some G∧D.cell? J=some v8 :=
  ⟨cL hb h0,cL hb h1,cL hb h2,cL hb h3,cL hb h4,cL hb h5,cL hb h6,cL hb h7,cL hb h8⟩
theorem cLs10 {W D:World} {p0 p1 p2 p3 N R F H J O:Addr} {v0 v1 v2 v3 v4 v5 v6 G v8 v9:Value} (hb:Below W.heap.size W D) (h0:W.cell? p0=some v0) (h1:W.cell? p1=some v1) (h2:W.cell? p2=some v2) (h3:W.cell? p3=some v3) (h4:W.cell? N=some v4) (h5:W.cell? R=some v5) (h6:W.cell? F=some v6) (h7:W.cell? H=some G) (h8:W.cell? J=some v8) (h9:W.cell? O=some v9):D.cell? p0=some v0∧D.cell? p1=some v1∧D.cell? p2=some v2∧D.cell? p3=some v3∧D.cell? N=some v4∧D.cell? R=some v5∧D.cell? F=some v6∧D.cell? H=some G∧D.cell? J=some v8∧D.cell? O=some v9 :=
  ⟨cL hb h0,cL hb h1,cL hb h2,cL hb h3,cL hb h4,cL hb h5,cL hb h6,cL hb h7,cL hb h8,cL hb h9⟩
theorem cLs11 {W D:World} {p0 p1 p2 p3 N R F H J O I:Addr} {v0 v1 v2 v3 v4 v5 v6 G v8 v9 L:Value} (hb:Below W.heap.size W D) (h0:W.cell? p0=some v0) (h1:W.cell? p1=some v1) (h2:W.cell? p2=some v2) (h3:W.cell? p3=some v3) (h4:W.cell? N=some v4) (h5:W.cell? R=some v5) (h6:W.cell? F=some v6) (h7:W.cell? H=some G) (h8:W.cell? J=some v8) (h9:W.cell? O=some v9) (E:W.cell? I=some L):D.cell? p0=some v0∧D.cell? p1=some v1∧D.cell? p2=some v2∧D.cell? p3=some v3∧D.cell? N=some v4∧D.cell? R=some v5∧D.cell? F=some v6∧D.cell? H=some G∧D.cell? J=some v8∧D.cell? O=some v9∧D.cell? I=some L :=
  ⟨cL hb h0,cL hb h1,cL hb h2,cL hb h3,cL hb h4,cL hb h5,cL hb h6,cL hb h7,cL hb h8,cL hb h9,cL hb E⟩
theorem cLs12 {W D:World} {p0 p1 p2 p3 N R F H J O I V:Addr} {v0 v1 v2 v3 v4 v5 v6 G v8 v9 L U:Value} (hb:Below W.heap.size W D) (h0:W.cell? p0=some v0) (h1:W.cell? p1=some v1) (h2:W.cell? p2=some v2) (h3:W.cell? p3=some v3) (h4:W.cell? N=some v4) (h5:W.cell? R=some v5) (h6:W.cell? F=some v6) (h7:W.cell? H=some G) (h8:W.cell? J=some v8) (h9:W.cell? O=some v9) (E:W.cell? I=some L) (X:W.cell? V=some U):D.cell? p0=some v0∧D.cell? p1=some v1∧D.cell? p2=some v2∧D.cell? p3=some v3∧D.cell? N=some v4∧D.cell? R=some v5∧D.cell? F=some v6∧D.cell? H=some G∧D.cell? J=some v8∧D.cell? O=some v9∧D.cell? I=some L∧D.cell? V=some U :=
  ⟨cL hb h0,cL hb h1,cL hb h2,cL hb h3,cL hb h4,cL hb h5,cL hb h6,cL hb h7,cL hb h8,cL hb h9,cL hb E,cL hb X⟩
end Go.Proofs.YtonmjkmaadgceaaGreat

/-
  Slices that are owned: at their block's head; append, make, a store into an element, a cell, a slice of a slice. No program in sight.
-/
import Derived.Test.YthpgoddjglnoiaaGreatDoorBase
set_option linter.unusedVariables false
set_option linter.unusedSimpArgs false
set_option linter.unnecessarySimpa false
namespace Go.Proofs.YthpgoddjglnoiaaGreatDoor
open Go.RowKit
namespace Rep
def kH {α:Type} (e:TypeId) (r:Rep α) (w:World) (v:Value) (xs:List α) (S:Nat→Prop):Prop :=
  (∀ x∈xs,r.bdd Big x)∧(((∃ a,v=.slice a 0 0)∧xs=[]) ∨
    ∃ (b cap:Nat) (cur:Array Value) (cs tl:List Value),v=.slice (some ⟨b,0,none⟩) xs.length cap∧xs.length≤cap∧cap≤maxLen∧w.heap[b]?=some (.cells cur e (0,0))∧cur.toList=cs++tl∧cur.size=cap * r.n∧S b ∧
      row r true w cs xs (fun k=>S k∧k≠b))
def Src (w:World) (sv:Value) (m:Nat) (cells:List Value):Prop :=
  (m=0∧∃ a c,sv=.slice a 0 c)∨∃ ad c,sv=.slice (some ad) m c∧∀ j u,cells[j]?=some u→w.cell? (ad.add j)=some u
section
variable {α:Type} {r:Rep α} {e:TypeId} {w w':World} {v:Value} {xs ys:List α} {S T:Nat→Prop}
theorem kH.own (h:kH e r w v xs S) (hl:xs.length≤Big):(slice e r).own w [v] xs S:=by
 obtain ⟨hb,h⟩:=h
 refine ⟨?_,hl,hb⟩
 rcases h with ⟨⟨a,rfl⟩,rfl⟩|⟨b,cap,cur,cs,tl,rfl,h1,h2,h3,h4,h5,h6,h7⟩
 · exact ⟨a,0,0,rfl,rfl,Nat.le_refl _,Nat.zero_le _,.inl ⟨rfl,fun _=>rfl⟩⟩
 exact ⟨_,_,cap,rfl,rfl,h1,h2,.inr ⟨b,0,rfl,cur,e,(0,0),[],cs,tl,h3,by simpa using h4,rfl,by omega,fun _=>⟨rfl,rfl⟩,h6,ko h7 (fun k hk=>⟨hk.1,fun _=>hk.2⟩)⟩⟩
theorem kH.keep (h:kH e r w v xs S) (k:∀ k,S k→k < w.heap.size→w'.heap[k]?=w.heap[k]?):kH e r w' v xs S:=by
 obtain ⟨hb,h⟩:=h
 refine ⟨hb,?_⟩
 rcases h with h|⟨b,cap,cur,cs,tl,hv,h1,h2,h3,h4,h5,h6,h7⟩
 · exact .inl h
 exact .inr ⟨b,cap,cur,cs,tl,hv,h1,h2,(k b h6 (Array.getElem?_eq_some_iff.1 h3).1).trans h3,h4,h5,h6,ko (kw (jM h7) (fun j hj=>k j hj.1.1 hj.2)) (fun j hj=>hj.1)⟩
theorem kH.wide (h:kH e r w v xs S) (k:∀ k,S k→T k):kH e r w v xs T:=by
 obtain ⟨hb,h⟩:=h
 refine ⟨hb,?_⟩
 rcases h with h|⟨b,cap,cur,cs,tl,hv,h1,h2,h3,h4,h5,h6,h7⟩
 · exact .inl h
 exact .inr ⟨b,cap,cur,cs,tl,hv,h1,h2,h3,h4,h5,k b h6,ko h7 (fun j hj=>⟨k j hj.1,hj.2⟩)⟩
theorem kH.below (h:kH e r w v xs S) (b:Below w.heap.size w w'):kH e r w' v xs S:=h.keep (fun k _ hk=>b.block k hk)
theorem kH.touch (h:kH e r w v xs S) (b:Touch T w w') (hd:∀ k,S k→¬ T k):kH e r w' v xs S:=h.keep (fun k hk hl=>b.block k hl (hd k hk))
theorem kH.live (h:kH e r w v xs S):kH e r w v xs (fun k=>S k∧k < w.heap.size):=by
 obtain ⟨hb,h⟩:=h
 refine ⟨hb,?_⟩
 rcases h with h|⟨b,cap,cur,cs,tl,hv,h1,h2,h3,h4,h5,h6,h7⟩
 · exact .inl h
 exact .inr ⟨b,cap,cur,cs,tl,hv,h1,h2,h3,h4,h5,⟨h6,(Array.getElem?_eq_some_iff.1 h3).1⟩,ko (jM h7) (fun j hj=>⟨⟨hj.1.1,hj.2⟩,hj.1.2⟩)⟩
theorem kH.nil:kH e r w (.slice none 0 0) [] S:=⟨by simp,.inl ⟨⟨_,rfl⟩,rfl⟩⟩
theorem kH.void {a:Option Addr}:kH e r w (.slice a 0 0) [] S:=⟨by simp,.inl ⟨⟨_,rfl⟩,rfl⟩⟩
theorem kH.zG (h:kH e r w v xs S):∃ a cap,v=.slice a xs.length cap:=by
 rcases h.2 with ⟨⟨a,rfl⟩,rfl⟩|⟨b,cap,cur,cs,tl,rfl,_⟩
 · exact ⟨a,0,rfl⟩
 exact ⟨_,cap,rfl⟩
theorem je {cs:List Value} (hb:∀ x∈xs,r.bdd Big x) (hl:xs.length≤maxLen) (h:row r true w cs xs T) (hT:∀ k,T k→S k) (hS:S w.heap.size) :
    kH e r (w.alloc (.cells cs.toArray e)) (.slice (some ⟨w.heap.size,0,none⟩) xs.length xs.length) xs S:=by
 refine ⟨hb,.inr ⟨w.heap.size,xs.length,cs.toArray,cs,[],rfl,Nat.le_refl _,hl,heap_alloc_new w _,by simp,by simpa using jP h,hS,?_⟩⟩
 exact ko (kw (jM h) (fun k hk=>heap_alloc_old w _ hk.2)) (fun k hk=>⟨hT k hk.1,by omega⟩)
theorem kDp {P:Program} {t ty:TypeId} {i:TypeInfo} {z:Value} (ht:P.underlying t=some (.slice e)) (hi:P.info? e=some i) (hz:i.zero=some z) (hsize:i.size=r.n) (hzs:z.cells.size=r.n) (hn:0 < r.n) (hby:i.bytes≤1000)
    (h:kH e r w v xs S) {sv:Value} {m:Nat} {cells:List Value} (hsrc:Src w sv m cells) (hl:cells.length=m * r.n) (h1:∀ u∈cells,u.oneCell'=true) (hlen:xs.length + m≤1000000000) :
    ∃ v' w',(Builtin.append_ #[t,t] ty #[v,sv]).run P w=.ok v' w'∧Touch (fun k=>some k=v.ownBlock∧S k) w w' ∧
      ∀ {ys:List α} {T:Nat→Prop},row r true w cells ys T→(∀ k,S k→T k→False)→(∀ y∈ys,r.bdd Big y) →
        kH e r w' v' (xs++ys) (fun k=>S k∨T k∨(w.heap.size≤k∧k < w'.heap.size)):=by
 obtain ⟨hbx,h⟩:=h
 have hbb:∀ {ys:List α},(∀ y∈ys,r.bdd Big y)→∀ y∈xs++ys,r.bdd Big y:=by
  intro ys hy y hm
  rcases List.mem_append.1 hm with hm | hm
  · exact hbx y hm
  exact hy y hm
 have hml:∀ {ys:List α} {T:Nat→Prop},row r true w cells ys T→ys.length=m:=by
  intro ys T hr
  have:=jP hr
  rw [hl] at this
  exact (Nat.eq_of_mul_eq_mul_right hn this).symm
 by_cases hm0:m=0
 · subst hm0
   have hc:cells=[]:=List.eq_nil_of_length_eq_zero fE
   subst hc
   have hsv:∃ a c,sv=.slice a 0 c:=by
    rcases hsrc with ⟨_,h⟩|⟨ad,c,h,_⟩
    · exact h
    exact ⟨_,_,h⟩
   obtain ⟨a,c,rfl⟩:=hsv
   have hrun:∀ (bs:Option Addr) (l cap:Nat),l≤cap→(bs=none→l=0)→(Builtin.append_ #[t,t] ty #[.slice bs l cap,.slice a 0 c]).run P w=.ok (.slice bs l cap) w:=by
    intro bs l cap hlc hb
    cases a <;> cases bs <;> simp [Builtin.append_,run_underlying ht,sizeOf,typeInfo,hi,Builtin.lenOf,hlc,Builtin.firstCells,loadCells,loadCellsFrom,storeCells]
   refine ⟨v,w,?_,Touch.refl _ _,?_⟩
   · rcases h with ⟨⟨a0,rfl⟩,rfl⟩|⟨b,cap,cur,cs,tl,rfl,h2,h3,h4,h5,h6,h7,h8⟩
     · exact hrun a0 0 0 nL (fun _=>rfl)
     exact hrun _ _ _ h2 fZ
   intro ys T hr _ hy
   have:ys=[]:=List.eq_nil_of_length_eq_zero (hml hr)
   subst this
   rw [List.append_nil]
   exact kH.wide ⟨hbx,h⟩ (fun k hk=>.inl hk)
 obtain ⟨ad,c,rfl,hcell⟩:∃ ad c,sv=.slice (some ad) m c∧∀ j u,cells[j]?=some u→w.cell? (ad.add j)=some u:=by
  rcases hsrc with ⟨h,_⟩ | h
  · exact absurd h hm0
  exact h
 have hl':cells.length=m * i.size:=by rw [hsize];exact hl
 have hby2:(xs.length + m) * i.bytes≤140737488355328:=by
  have:(xs.length + m) * i.bytes≤1000000000 * 1000:=Nat.mul_le_mul hlen hby
  omega
 have hcm:∀ old,grownCap w (xs.length + m) old e≤maxLen:=fun old=>grownCap_le_maxLen w (xs.length + m) old e dU
 have grown:∀ (old:Nat) (cs:List Value),row r true w cs xs S→∀ {ys:List α} {T:Nat→Prop},row r true w cells ys T→(∀ k,S k→T k→False)→(∀ y∈ys,r.bdd Big y) →
     kH e r (w.drew.alloc (.cells (cs.toArray++cells.toArray++Builtin.zeroCells z.cells (grownCap w (xs.length + m) old e - (xs.length + m))) e)) (.slice (some ⟨w.heap.size,0,none⟩) (xs.length + m) (grownCap w (xs.length + m) old e)) (xs++ys)
       (fun k=>S k∨T k∨(w.heap.size≤k∧k < w.heap.size + 1)):=by
   intro old cs hxs ys T hr hST hy
   have hge:=grownCap_ge w (xs.length + m) old e
   have hym:=hml hr
   refine ⟨hbb hy,.inr ⟨w.heap.size,grownCap w (xs.length + m) old e,_,cs++cells,(Builtin.zeroCells z.cells (grownCap w (xs.length + m) old e - (xs.length + m))).toList,by rw [List.length_append,hym],by rw [List.length_append,hym];exact hge,hcm old,heap_alloc_new w.drew _,by simp,?_,by simp,?_⟩⟩
   · have:=jP hxs
     simp only [Array.size_append,List.size_toArray,size_zeroCells,hzs,hl,this,← Nat.add_mul]
     congr 1;omega
   · have a1:=ko (T:=fun k=>S k∧k < w.heap.size) (kw (w':=w.drew.alloc (.cells (cs.toArray++cells.toArray++Builtin.zeroCells z.cells (grownCap w (xs.length + m) old e - (xs.length + m))) e)) (jM hxs) (fun k hk=>heap_alloc_old w.drew _ hk.2)) (fun k hk=>hk)
     have a2:=ko (T:=fun k=>T k∧k < w.heap.size) (kw (w':=w.drew.alloc (.cells (cs.toArray++cells.toArray++Builtin.zeroCells z.cells (grownCap w (xs.length + m) old e - (xs.length + m))) e)) (jM hr) (fun k hk=>heap_alloc_old w.drew _ hk.2)) (fun k hk=>hk)
     exact jR a1 a2 (fun k hk=>⟨.inl hk.1,by omega⟩) (fun k hk=>⟨.inr (.inl hk.1),by omega⟩) (fun _ k h1 h2=>hST k h1.1 h2.1)
 rcases h with ⟨⟨a0,rfl⟩,rfl⟩|⟨b,cap,cur,cs,tl,rfl,h2,h3,h4,h5,h6,h7,h8⟩
 · cases a0 with
   | none =>
     have hr:=run_append_nil (P:=P) w t ty e i z ht hi hz ad m c cells hl' hcell fV (by simp at hlen;omega) (by simp only [List.length_nil,Nat.zero_add] at hby2;omega)
     refine ⟨_,_,hr,⟨rfl,rfl,rfl,by simp,fun k hk _=>heap_alloc_old w.drew _ hk⟩,?_⟩
     intro ys T hrw hST hy
     have:=grown 0 [] rfl hrw hST hy
     simp only [List.length_nil,Nat.zero_add,Array.empty_append,List.nil_append] at this ⊢
     simpa using this
   | some a1 =>
     have hr:=run_append_grow (P:=P) w t ty e i z ht hi hz a1 0 0 [] fZ fZ ad m c cells hl' hcell fV fV (growslice_fits fV (by simpa using hby2))
     refine ⟨_,_,hr,⟨rfl,rfl,rfl,by simp,fun k hk _=>heap_alloc_old w.drew _ hk⟩,?_⟩
     intro ys T hrw hST hy
     have:=grown 0 [] rfl hrw hST hy
     simpa using this
 have hcsl:=jP h8
 by_cases hroom:xs.length + m≤cap
 · have hfit:xs.length * i.size + cells.length≤cur.size:=by rw [hsize,hl,h6,← Nat.add_mul];exact Nat.mul_le_mul_right _ hroom
   have hr:=run_append_room (P:=P) w t ty e i ht hi b xs.length cap cur h4 ad m c cells hl' hcell h1 hroom hfit
   refine ⟨_,_,hr,⟨rfl,rfl,rfl,by simp,fun k _ hk=>setRow_other w b k _ (fun q=>hk ⟨by simp [Value.ownBlock,q],q ▸ h7⟩)⟩,?_⟩
   intro ys T hrw hST hy
   have hym:=hml hrw
   have htk:cur.toList.take (xs.length * i.size)=cs:=by rw [h5,hsize,← hcsl];simp
   have hdr:cur.toList.drop (xs.length * i.size + cells.length)=tl.drop cells.length:=by rw [h5,hsize,← hcsl,List.drop_append];simp
   have hsz:cur.size=cs.length + tl.length:=by rw [← Array.length_toList,h5,List.length_append]
   refine ⟨hbb hy,.inr ⟨b,cap,_,cs++cells,tl.drop cells.length,by rw [List.length_append,hym],by rw [List.length_append,hym];exact hroom,h3,setRow_heap w b cur _ e _ h4,?_,?_,.inl h7,?_⟩⟩
   · rw [htk,hdr]
   · rw [htk,hdr,← h6,hsz]
     rw [hsize,← hcsl] at hfit
     simp only [List.size_toArray,List.length_append,List.length_drop]
     omega
   have a1:=kw (w':=w.setRow b (cur.toList.take (xs.length * i.size)++cells++cur.toList.drop (xs.length * i.size + cells.length)).toArray) h8 (fun k hk=>setRow_other w b k _ hk.2)
   have a2:=kw (w':=w.setRow b (cur.toList.take (xs.length * i.size)++cells++cur.toList.drop (xs.length * i.size + cells.length)).toArray) hrw (fun k hk=>setRow_other w b k _ (fun q=>hST b h7 (q ▸ hk)))
   exact jR a1 a2 (fun k hk=>⟨.inl hk.1,hk.2⟩) (fun k hk=>⟨.inr (.inl hk),fun q=>hST b h7 (q ▸ hk)⟩) (fun _ k h1 h2=>hST k h1.1 h2)
 have hcells:∀ j u,cs[j]?=some u→w.cell? ((⟨b,0,none⟩:Addr).add j)=some u:=by
  intro j u hj
  have hadd:(⟨b,0,none⟩:Addr).add j=⟨b,j,none⟩:=cB
  rw [hadd,cell_of_row w b j cur e (0,0) h4,← Array.getElem?_toList,h5,List.getElem?_append_left (List.getElem?_eq_some_iff.1 hj).1]
  exact hj
 have hr:=run_append_grow (P:=P) w t ty e i z ht hi hz ⟨b,0,none⟩ xs.length cap cs (by rw [hsize];exact hcsl) hcells ad m c cells hl' hcell fV fV (growslice_fits fV hby2)
 refine ⟨_,_,hr,⟨rfl,rfl,rfl,by simp,fun k hk _=>heap_alloc_old w.drew _ hk⟩,?_⟩
 intro ys T hrw hST hy
 have:=grown cap cs (ko h8 (fun k hk=>hk.1)) hrw hST hy
 simpa using this
theorem wpList_push {P:Program} {ops:Array Oper} {rest:List Oper} {o:Oper} {a:Act} {Q:Exit→Act→World→Prop} (hgd:o.guard=none) (s x:Operand) (t:TypeId)
    (ho:o.op=.call { callee:=.builtin .append,args:=#[s,x],argTypes:=#[t,t] })
    {i:TypeInfo} {z:Value} (ht:P.underlying t=some (.slice e)) (hi:P.info? e=some i) (hz:i.zero=some z) (hsize:i.size=r.n) (hzs:z.cells.size=r.n) (hn:0 < r.n) (hby:i.bytes≤1000)
    (hown:kH e r w v xs S) (hs:a.eval s=v) {sv:Value} {m:Nat} {cells:List Value} (hx:a.eval x=sv) (hsrc:Src w sv m cells) (hrow:row r true w cells ys T) (hl:ys.length=m)
    (hST:∀ k,S k→T k→False) (hy:∀ y∈ys,r.bdd Big y) (hlen:xs.length + ys.length≤1000000000)
    (h:∀ v' w',kH e r w' v' (xs++ys) (fun k=>S k∨T k∨(w.heap.size≤k∧k < w'.heap.size))→Touch (fun k=>some k=v.ownBlock∧S k) w w'→wpList P ops Q rest (a.put o.dst v') w'):wpList P ops Q (o :: rest) a w:=by
 refine wpList_plain hgd fun _ hK=>?_
 obtain ⟨v',w',hr,h2,h3⟩:=kDp (P:=P) (ty:=o.type) ht hi hz hsize hzs hn hby hown hsrc (by rw [← hl];exact jP hrow) (row_one hrow) fV
 unfold Oper.wp execOp
 simp only [ho,resolve,invoke,builtin,Sem.run_bind,Sem.run_pure,Result.andThen_ok,List.map_toArray,List.map_cons,List.map_nil,hs,hx,hr]
 exact hK _ _ (h v' w' (h3 hrow hST hy) h2)
end
end Rep
end Go.Proofs.YthpgoddjglnoiaaGreatDoor

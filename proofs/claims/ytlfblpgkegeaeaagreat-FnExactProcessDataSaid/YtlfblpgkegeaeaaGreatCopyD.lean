/-
  Reading with a known footprint, and lists under construction whose elements are read in an elder world. No program in sight.
  The capacity of a slice. No program in sight.
  A region that draws its order, where two operations may come up at one time: both ways are walked. No program in sight.
  A nonce that was seen is kept.
  Copies of interests and data.
-/
import Derived.Test.YtlfblpgkegeaeaaGreatCopyP
import Derived.ArgAppend
set_option linter.unusedVariables false
set_option linter.unusedSimpArgs false
set_option linter.unnecessarySimpa false
set_option maxRecDepth 100000
set_option maxHeartbeats 4000000
namespace Go.Proofs.YtlfblpgkegeaeaaGreat
open Go.RowKit
namespace Rep
section
variable {α β:Type} {r:Rep α} {q:Rep β} {e:TypeId} {w w' W W':World} {v:Value} {cs ds:List Value} {x:α} {xs:List α} {S T F G:Nat→Prop}
def rdB (r:Rep α) (w:World) (cs:List Value) (x:α) (S:Nat→Prop):Prop:=r.is false w cs x S∧r.bdd Big x
theorem rdB.rd (h:r.rdB w cs x S):r.rd w cs x:=⟨r.wide h.1 (fun _ _=>trivial),h.2⟩
theorem rdB.wide (h:r.rdB w cs x S) (k:∀ k,S k→T k):r.rdB w cs x T:=⟨r.wide h.1 k,h.2⟩
theorem rdB.keep (h:r.rdB w cs x S) (k:∀ k,S k→k < w.heap.size→w'.heap[k]?=w.heap[k]?):r.rdB w' cs x S :=
  ⟨r.wide (r.mono (r.live h.1) (fun j hj=>k j hj.1 hj.2)) (fun j hj=>hj.1),h.2⟩
theorem rdB.below (h:r.rdB w cs x S) (b:Below w.heap.size w w'):r.rdB w' cs x S:=h.keep (fun k _ hk=>b.block k hk)
theorem rdB.touch (h:r.rdB w cs x S) (b:Touch T w w') (hd:∀ k,S k→¬ T k):r.rdB w' cs x S:=h.keep (fun k hk hl=>b.block k hl (hd k hk))
theorem own.rdB (h:r.own w cs x S):r.rdB w cs x S:=⟨r.weak h.1,h.2⟩
theorem kg.rdB (h:kg e r w v xs S) (hl:xs.length≤Big):(slice e r).rdB w [v] xs S:=(h.own hl).rdB
theorem flat.rdB (h:r.flat cs x):r.rdB w cs x S:=(flat.own h).rdB
theorem drop_own {b off len cap:Nat} (h:(slice e r).own w [.slice (some ⟨b,off,none⟩) len cap] xs S) {k:Nat} (hk:k < xs.length):(slice e r).own w [.slice (some ⟨b,off + k * r.n,none⟩) (len - k) (cap - k)] (xs.drop k) S:=by
 obtain ⟨⟨a',len',cap',h0,h1,h2,h3,h4⟩,hl1,hb1⟩:=h
 simp only [List.cons.injEq,Value.slice.injEq,and_true] at h0
 obtain ⟨rfl,rfl,rfl⟩:=h0
 refine ⟨⟨_,_,_,rfl,by simp;omega,by omega,by omega,?_⟩,by rw [List.length_drop];omega,fun x hx=>hb1 x (List.mem_of_mem_drop hx)⟩
 rcases h4 with ⟨rfl,_⟩|⟨b',off',ha,cur,e',fr,p,c,q,hb,hc,hp,hl,hf,hS,hx⟩
 · simp at hk
 simp only [Option.some.injEq,Addr.mk.injEq,and_true] at ha
 obtain ⟨rfl,rfl⟩:=ha
 obtain ⟨c1,c2,rfl,hcl,r1,r2⟩:=row_cut hx (Nat.le_of_lt hk)
 refine .inr ⟨b,off + k * r.n,rfl,cur,e',fr,p++c1,c2,q,hb,by rw [hc];simp,by simp [hp,hcl],?_,hf,hS,r2⟩
 have:k * r.n≤cap * r.n:=Nat.mul_le_mul_right _ rP
 rw [Nat.sub_mul];omega
end
end Rep
namespace Rep
end Rep
namespace Rep
section
variable {α β:Type} {r:Rep α} {q:Rep β} {w:World} {c c' d d':List Value} {x x':α} {y y':β} {S T:Nat→Prop}
theorem set_left (h:(pair r q).own w (c++d) (x,y) S) (hc:c.length=r.n) (hx:r.own w c' x' T) (hd:∀ k,S k→T k→False):(pair r q).own w (c'++d) (x',y) (fun k=>S k∨T k):=by
 obtain ⟨⟨c1,d1,A,B,he,h1,h2,hA,hB,hAB⟩,hb⟩:=h
 obtain ⟨rfl,rfl⟩:=List.append_inj he (by rw [hc,r.len h1])
 exact ⟨⟨c',d,T,B,rfl,hx.1,h2,fun k=>.inr,fun k hk=>.inl (hB k hk),fun _ k a b=>hd k (hB k b) a⟩,hx.2,hb.2⟩
theorem set_right (h:(pair r q).own w (c++d) (x,y) S) (hc:c.length=r.n) (f:∀ B:Nat→Prop,(∀ k,B k→S k)→q.own w d y B→q.own w d' y' (fun k=>B k∨T k)) (hd:∀ k,S k→T k→False):(pair r q).own w (c++d') (x,y') (fun k=>S k∨T k):=by
 obtain ⟨⟨c1,d1,A,B,he,h1,h2,hA,hB,hAB⟩,hb⟩:=h
 obtain ⟨rfl,rfl⟩:=List.append_inj he (by rw [hc,r.len h1])
 have hf:=f B hB ⟨h2,hb.2⟩
 exact ⟨⟨c,d',A,_,rfl,h1,hf.1,fun k hk=>.inl (hA k hk),fun k hk=>hk.imp (hB k) id,fun _ k a b=>b.elim (hAB rfl k a) (fun q=>hd k (hA k a) q)⟩,hb.1,hf.2⟩
end
section
variable {α:Type} {r:Rep α} {e:TypeId} {w:World} {v:Value} {xs ys:List α} {S T:Nat→Prop}
end
end Rep
namespace Rep
theorem kKh:∀ (cs:List Value) (w:World) (b p:Nat),w.setCells b p cs=setCells w b p cs
  | [],_,_,_=>rfl
  | v :: cs,w,b,p=>by unfold World.setCells setCells;exact kKh cs _ b (p + 1)
section
variable {α:Type} {r:Rep α} {e:TypeId} {w:World} {xs ys:List α} {S T:Nat→Prop}
theorem run_pushG {P:Program} {t ty:TypeId} {z:Value} {bytes:Nat} (ht:P.underlying t=some (.slice e)) (hinf:(P.info? e).map (fun i=>(i.zero,i.size,i.bytes))=some (some z,r.n,bytes)) (hzs:z.cells.size=r.n) (hn:0 < r.n) (hby:bytes≤1000)
    {a:Option Addr} {len cap:Nat} (hown:(slice e r).own w [.slice a len cap] xs S) {sv:Value} {m:Nat} {cells:List Value} (hsrc:Src w sv m cells) (hrow:row r true w cells ys T) (hm:ys.length=m) (hb:∀ y∈ys,r.bdd Big y) (hd:∀ k,S k→T k→False) (hlen:xs.length + ys.length≤16777216) :
    ∃ v' w',(Builtin.append_ #[t,t] ty #[.slice a len cap,sv]).run P w=.ok v' w'∧(slice e r).own w' [v'] (xs++ys) (fun k=>S k∨T k∨(w.heap.size≤k∧k < w'.heap.size))∧Touch S w w':=by
 obtain ⟨i,hi,hz,hsize,hbytes⟩:=info_parts hinf
 have hlB:∀ n,n≤16777216→n≤Big:=fun n h=>by unfold Big;omega
 obtain ⟨⟨a',len',cap',h0,h1,h2,h3,h4⟩,hl0,hb0⟩:=hown
 simp only [List.cons.injEq,Value.slice.injEq,and_true] at h0
 obtain ⟨rfl,rfl,rfl⟩:=h0
 subst h1
 have hbb:∀ y∈xs++ys,r.bdd Big y:=by
  intro y hy
  rcases List.mem_append.1 hy with q | q
  · exact hb0 y q
  exact hb y q
 rcases h4 with ⟨rfl,hc0⟩|⟨b,off,rfl,cur,e',fr,p,cs,tl,g1,g2,g3,g4,g5,g6,g7⟩
 · obtain rfl:=hc0 rfl
   obtain ⟨v',w',hr,ht',ho⟩:=kFe (P:=P) (ty:=ty) (r:=r) ht hi hz hsize hzs hn rP (kg.void (a:=a) (S:=S)) hsrc (by rw [kAc hrow,hm]) (row_one hrow) (by simp at hlen ⊢;omega)
   exact ⟨v',w',hr,(ho hrow hd hb).own (hlB _ (by simpa using hlen)),ht'.wide (fun k hk=>hk.2)⟩
 obtain ⟨he,hfr⟩:=g5 rfl
 rw [he,hfr] at g1
 have hcl:=kAc g7
 have hsl:=kAc hrow
 by_cases hm0:m=0
 · have hy0:ys=[]:=List.eq_nil_of_length_eq_zero rP
   subst hy0
   have hc:cells=[]:=hrow
   subst hc
   obtain ⟨a1,c1,rfl⟩:∃ a c,sv=.slice a 0 c:=by
    rcases hsrc with ⟨_,h⟩|⟨ad,c,h,_⟩
    · exact h
    exact ⟨_,_,by rw [h,hm0]⟩
   refine ⟨.slice (some ⟨b,off,none⟩) xs.length cap,w,?_,?_,Touch.refl _ _⟩
   · cases a1 <;> simp [Builtin.append_,run_underlying ht,sizeOf,typeInfo,hi,Builtin.lenOf,h2,Builtin.firstCells,loadCells,loadCellsFrom,storeCells]
   rw [List.append_nil]
   refine ⟨⟨_,_,cap,rfl,rfl,h2,h3,.inr ⟨b,off,rfl,cur,e,(0,0),p,cs,tl,g1,g2,g3,g4,fun _=>⟨rfl,rfl⟩,.inl g6,yS g7 (fun k hk=>⟨.inl hk.1,hk.2⟩)⟩⟩,hl0,hb0⟩
 obtain ⟨ad,c,rfl,hcell⟩:∃ ad c,sv=.slice (some ad) m c∧∀ j u,cells[j]?=some u→w.cell? (ad.add j)=some u:=by
  rcases hsrc with ⟨h,_⟩ | h
  · exact absurd h hm0
  exact h
 have hl':cells.length=m * i.size:=by rw [hsize,hsl,hm]
 have hcurl:cur.toList.length=p.length + (cs.length + tl.length):=by rw [g2];simp
 have hcs:cur.size=p.length + (cs.length + tl.length):=by rw [← hcurl,Array.length_toList]
 by_cases hroom:xs.length + m≤cap
 · have hmul:(xs.length + m) * r.n≤cap * r.n:=Nat.mul_le_mul_right _ hroom
   rw [Nat.add_mul] at hmul
   have hml:m * r.n=cells.length:=by rw [hl',hsize]
   have hpos:off + xs.length * i.size=(p++cs).length:=by rw [List.length_append,g3,hcl,hsize]
   have hr:=run_append_room_cells (P:=P) (w:=w) t ty e i ht hi b off xs.length cap ad m c cells hl' hcell (row_one hrow) hroom
     (fun j hj=>by
       rw [cell_of_row w b _ cur e (0,0) g1]
       have:off + xs.length * i.size + j < cur.size:=by rw [hpos,List.length_append];omega
       simp [this])
     (fun j _=>frozen_of_row w b _ _ _ g1)
   rw [kKh] at hr
   have hheap:=yI (e:=e) cells (tl.take cells.length) (p++cs) (tl.drop cells.length) w b (off + xs.length * i.size) (by rw [g1,List.append_assoc,List.take_append_drop,← g2]) hpos.symm (by rw [List.length_take];omega)
   refine ⟨_,_,hr,?_,(jq cells w b _).wide (fun k hk=>by rw [hk];exact g6)⟩
   have hko:∀ k,k≠b→(setCells w b (off + xs.length * i.size) cells).heap[k]?=w.heap[k]?:=fun k hk=>kBx cells w b _ k hk
   refine ⟨⟨_,_,cap,rfl,by rw [List.length_append,hm],hroom,h3,.inr ⟨b,off,rfl,_,e,(0,0),p,cs++cells,tl.drop cells.length,hheap,by simp,g3,?_,fun _=>⟨rfl,rfl⟩,.inl g6,?_⟩⟩,hlB _ (by rw [List.length_append];exact hlen),hbb⟩
   · simp only [List.size_toArray,List.length_append,List.length_drop];omega
   have a1:=yO (w':=setCells w b (off + xs.length * i.size) cells) g7 (fun k hk=>hko k (hk.2 rfl))
   have a2:=yO (w':=setCells w b (off + xs.length * i.size) cells) hrow (fun k hk=>hko k (fun q=>hd b g6 (q ▸ hk)))
   exact kBz a1 a2 (fun k hk=>⟨.inl hk.1,hk.2⟩) (fun k hk=>⟨.inr (.inl hk),fun _ q=>hd b g6 (q ▸ hk)⟩) (fun _ k q1 q2=>hd k q1.1 q2)
 have hcells:∀ j u,cs[j]?=some u→w.cell? ((⟨b,off,none⟩:Addr).add j)=some u:=by
  intro j u hj
  have hadd:(⟨b,off,none⟩:Addr).add j=⟨b,off + j,none⟩:=mD
  have hjl:=(List.getElem?_eq_some_iff.1 hj).1
  rw [hadd,cell_of_row w b _ cur e (0,0) g1,← Array.getElem?_toList,g2,List.getElem?_append_right rP,List.getElem?_append_left rP]
  rw [← hj];congr 1;omega
 have hby2:(xs.length + m) * i.bytes≤140737488355328:=by
  have:(xs.length + m) * i.bytes≤16777216 * 1000:=Nat.mul_le_mul rP rP
  omega
 have hr:=run_append_grow (P:=P) w t ty e i z ht hi hz ⟨b,off,none⟩ xs.length cap cs (by rw [hsize];exact hcl) hcells ad m c cells hl' hcell rP rP (growslice_fits rP hby2)
 refine ⟨_,_,hr,?_,⟨rfl,rfl,rfl,by simp,fun k hk _=>heap_alloc_old w.drew _ hk⟩⟩
 have hge:=grownCap_ge w (xs.length + m) cap e
 have hcm:=grownCap_le_maxLen w (xs.length + m) cap e pW
 refine ⟨⟨_,_,_,rfl,by rw [List.length_append,hm],hge,hcm,.inr ⟨w.heap.size,0,rfl,_,e,(0,0),[],cs++cells,(Builtin.zeroCells z.cells (grownCap w (xs.length + m) cap e - (xs.length + m))).toList,heap_alloc_new w.drew _,by simp,rfl,?_,fun _=>⟨rfl,rfl⟩,.inr (.inr ⟨Nat.le_refl _,by simp⟩),?_⟩⟩,hlB _ (by rw [List.length_append];exact hlen),hbb⟩
 · simp only [Array.size_append,List.size_toArray,size_zeroCells,hzs,hl',hcl,hsize,← Nat.add_mul]
   have:xs.length + m + (grownCap w (xs.length + m) cap e - (xs.length + m))=grownCap w (xs.length + m) cap e:=by omega
   rw [this];omega
 have a1:=yS (T:=fun k=>S k∧k < w.heap.size) (yO (w':=w.drew.alloc (.cells (cs.toArray++cells.toArray++Builtin.zeroCells z.cells (grownCap w (xs.length + m) cap e - (xs.length + m))) e)) (kAr g7) (fun k hk=>heap_alloc_old w.drew _ hk.2)) (fun k hk=>⟨hk.1.1,hk.2⟩)
 have a2:=yS (T:=fun k=>T k∧k < w.heap.size) (yO (w':=w.drew.alloc (.cells (cs.toArray++cells.toArray++Builtin.zeroCells z.cells (grownCap w (xs.length + m) cap e - (xs.length + m))) e)) (kAr hrow) (fun k hk=>heap_alloc_old w.drew _ hk.2)) (fun k hk=>hk)
 exact kBz a1 a2 (fun k hk=>⟨.inl hk.1,fun _=>by omega⟩) (fun k hk=>⟨.inr (.inl hk.1),fun _=>by omega⟩) (fun _ k q1 q2=>hd k q1.1 q2.1)
theorem kRi {P:Program} {t ty:TypeId} {z:Value} {bytes:Nat} (ht:P.underlying t=some (.slice e)) (hinf:(P.info? e).map (fun i=>(i.zero,i.size,i.bytes))=some (some z,r.n,bytes)) (hzs:z.cells.size=r.n) (hn:0 < r.n) (hby:bytes≤1000)
    {a:Option Addr} {len cap:Nat} (hown:(slice e r).own w [.slice a len cap] xs S) {u:World} (hu:Below w.heap.size w u) {cx:List Value} {x:α} (hx:r.own u cx x T) (hd:∀ k,S k→T k→False) (hlen:xs.length < 16777216) {c:Nat} :
    ∃ v' w',(Builtin.append_ #[t,t] ty #[.slice a len cap,.slice (some ⟨u.heap.size,0,none⟩) 1 c]).run P (u.alloc (.cells cx.toArray e))=.ok v' w'∧(slice e r).own w' [v'] (xs++[x]) (fun k=>S k∨T k∨(u.heap.size≤k∧k < w'.heap.size))∧Touch (fun k=>S k∧k < w.heap.size) u w':=by
 have hub:Below u.heap.size u (u.alloc (.cells cx.toArray e)):=bR.alloc nL _
 have hS:(slice e r).own u [.slice a len cap] xs (fun k=>S k∧k < w.heap.size):=⟨(slice e r).mono ((slice e r).live hown.1) (fun k hk=>hu.block k hk.2),hown.2⟩
 have hrow:row r true (u.alloc (.cells cx.toArray e)) cx [x] (fun k=>T k∧k < u.heap.size):=kRj (r.mono (r.live hx.1) (fun k hk=>hub.block k hk.2))
 have hsrc:Src (u.alloc (.cells cx.toArray e)) (.slice (some ⟨u.heap.size,0,none⟩) 1 c) 1 cx:=by
  refine .inr ⟨_,_,rfl,fun j v hj=>?_⟩
  have hadd:(⟨u.heap.size,0,none⟩:Addr).add j=⟨u.heap.size,j,none⟩:=mD
  rw [hadd,cell_of_row _ _ j cx.toArray e (0,0) (heap_alloc_new u _)]
  simpa using hj
 obtain ⟨v',w',hr,ho,htt⟩:=run_pushG (ty:=ty) ht hinf hzs hn hby (hS.below hub) hsrc hrow rfl (fun y hy=>by rw [List.mem_singleton.1 hy];exact hx.2) (fun k h1 h2=>hd k h1.1 h2.1) rG
 have hs1:(u.alloc (.cells cx.toArray e)).heap.size=u.heap.size + 1:=rQ
 refine ⟨v',w',hr,⟨(slice e r).wide ho.1 ?_,ho.2⟩,(Touch.of_below hub).trans htt⟩
 rintro k (hk | hk | hk)
 · exact .inl hk.1
 · exact .inr (.inl hk.1)
 exact .inr (.inr ⟨by omega,hk.2⟩)
end
end Rep
theorem Touch.cellT {S:Nat→Prop} {W W':World} (d:Touch S W W') {b j:Nat} {v:Value} (h:W.cell? ⟨b,j,none⟩=some v) (hb:¬ S b):W'.cell? ⟨b,j,none⟩=some v:=by
 have e1:W'.heap[b]?=W.heap[b]?:=d.block _ (World.block_lt_of_cell? _ _ h) hb
 rw [← h];unfold World.cell?;simp only [e1]
theorem jF {w:World} {b:Nat} {a:Array Value} {t:TypeId} {v:Value} (h:w.heap[b]?=some (.cells a t (0,0))) (j:Nat):(w.setCell ⟨b,j,none⟩ v).heap[b]?=some (.cells (a.setIfInBounds j v) t (0,0)):=heap_setCell_same w b j a t v h
theorem kC (w:World) (b j:Nat) (v:Value):Touch (fun k=>k=b) w (w.setCell ⟨b,j,none⟩ v):=Rep.jq [v] w b j
namespace Rep
variable {α:Type} {r:Rep α} {e:TypeId} {w:World} {a:Option Addr} {len cap:Nat} {xs:List α}
theorem kMl (h:(slice e r).raw w [.slice a len cap] xs):xs.length≤cap∧cap≤9223372036854775807:=by
 obtain ⟨a',len',cap',h0,h1,h2,h3,h4⟩:=h
 simp only [List.cons.injEq,Value.slice.injEq,and_true] at h0
 obtain ⟨rfl,rfl,rfl⟩:=h0
 unfold maxLen at h3
 exact ⟨by omega,by omega⟩
end Rep
end Go.Proofs.YtlfblpgkegeaeaaGreat
namespace Go.Proofs.YtlfblpgkegeaeaaGreat
open Go
section
variable {P:Program} {l:List Oper} {S:World→Prop} {Q:Exit→Act→World→Prop} {fuel:Nat} {listed:List Bool} {a:Act} {w:World}
@[irreducible] def tree (P:Program) (l:List Oper) (S:World→Prop) (Q:Exit→Act→World→Prop) (fuel:Nat) (listed:List Bool) (a:Act) (w:World):Prop:=wpAnyH P .any l.toArray Q S fuel listed.toArray a w
theorem kRw (k:Nat):listed.toArray.setIfInBounds k true=(listed.set k true).toArray:=by simp
theorem kDh {id:Nat} (S:World→Prop) (hm:P.follows .mixedOrders=true) (hS:S { w with drawn:=w.drawn + 1 })
    (h:∀ w',S w'→tree P l S Q l.length (List.replicate l.length false) a w'):(Code.region id l.toArray true).wp P Q a w:=by
 have h:=h _ hS
 unfold tree at h
 refine wp_region_held (S:=S) hm ?_
 have e:(Array.replicate l.toArray.size false)=(List.replicate l.length false).toArray:=rQ
 rw [e,show l.toArray.size=l.length by simp]
 exact h
theorem kPg {id:Nat} (S:World→Prop) (hm:P.follows .mixedOrders=true) (hS:S { w with drawn:=w.drawn + 1 })
    (h:∀ w',w'=w.drew→S w'→tree P l S Q l.length (List.replicate l.length false) a w'):(Code.region id l.toArray true).wp P Q a w:=by
 have h:=h _ rfl hS
 unfold tree at h
 refine wp_region_held (S:=S) hm ?_
 have e:(Array.replicate l.toArray.size false)=(List.replicate l.length false).toArray:=rQ
 rw [e,show l.toArray.size=l.length by simp]
 exact h
theorem tree_read {k:Nat} {o:Oper} {v:Value} (h0:l[k]?=some o) (hc:(Region.noSelect l.toArray && (Region.free .any l.toArray listed.toArray k && (Region.ready .any l.toArray listed.toArray).contains k))=true)
    (hQ:∀ c a d v w,Q (.panic c) (Act.put a d v) w→Q (.panic c) a w) (hg:Region.wanted o (yielded l.toArray a.tmps)=true) (hS:S w)
    (hv:∀ w,S w→(execOp a.eval o).run P w=.ok (.value v) w) (h:tree P l S Q fuel (listed.set k true) (a.put o.dst v) w):tree P l S Q (fuel + 1) listed a w:=by
 unfold tree at h ⊢
 simp only [Bool.and_eq_true] at hc
 rw [← kRw] at h
 exact wpAnyH_take qV hc.1 hc.2.1 hc.2.2 (fun c a w=>hQ c a _ _ w) (.inl ⟨hg,hv⟩) hS h
theorem ja (k : Nat) {o : Oper} {v : Value} (h : tree P l S Q fuel (listed.set k true) (a.put o.dst v) w) (h0 : l[k]? = some o := by rfl) (hc : (Region.noSelect l.toArray && (Region.free .any l.toArray listed.toArray k && (Region.ready .any l.toArray listed.toArray).contains k)) = true := by kernel_rfl)
    (hQ:∀ c a d v w,Q (.panic c) (Act.put a d v) w→Q (.panic c) a w:=by exact fun c a d v w h=>by cases d <;> exact h) (hg:Region.wanted o (yielded l.toArray a.tmps)=true:=by rfl) (hS:S w:=by exact HS)
    (hv:∀ w,S w→(execOp a.eval o).run P w=.ok (.value v) w:=by intro W hW;(try have A:=FX.out W hW);clear hW;go_simp;try with_reducible rfl):tree P l S Q (fuel + 1) listed a w:=tree_read h0 hc hQ hg hS hv h
theorem kVl {k:Nat} {o:Oper} (h0:l[k]?=some o) (hg:Region.wanted o (yielded l.toArray a.tmps)=true)
    (h:∀ K:Act→World→Prop,(∀ a' w',S w'→tree P l S Q fuel (listed.set k true) a' w'→K a' w')→o.wp P a w K Q) :
    wpOp P l.toArray Q k (fun a' w'=>S w'∧wpAnyH P .any l.toArray Q S fuel (listed.toArray.setIfInBounds k true) a' w') a w:=by
 unfold wpOp
 rw [show l.toArray[k]?=some o by simpa using h0]
 simp only [hg,if_true]
 refine .inl (h _ (fun a' w' h1 h2=>⟨h1,?_⟩))
 unfold tree at h2
 rw [kRw]
 exact h2
theorem kV {k:Nat} {o:Oper} (h0:l[k]?=some o) (hr:(Region.ready .any l.toArray listed.toArray==[k])=true) (hg:Region.wanted o (yielded l.toArray a.tmps)=true)
    (h:∀ K:Act→World→Prop,(∀ a' w',S w'→tree P l S Q fuel (listed.set k true) a' w'→K a' w')→o.wp P a w K Q):tree P l S Q (fuel + 1) listed a w:=by
 unfold tree
 refine wpAnyH_all (by simpa using hr) rQ ?_
 intro j hj
 obtain rfl:j=k:=qY
 exact kVl h0 hg h
theorem zT {i j:Nat} {oi oj:Oper} (hi:l[i]?=some oi) (hj:l[j]?=some oj) (hr:(Region.ready .any l.toArray listed.toArray==[i,j])=true) (hgi:Region.wanted oi (yielded l.toArray a.tmps)=true) (hgj:Region.wanted oj (yielded l.toArray a.tmps)=true)
    (h1:∀ K:Act→World→Prop,(∀ a' w',S w'→tree P l S Q fuel (listed.set i true) a' w'→K a' w')→oi.wp P a w K Q)
    (h2:∀ K:Act→World→Prop,(∀ a' w',S w'→tree P l S Q fuel (listed.set j true) a' w'→K a' w')→oj.wp P a w K Q):tree P l S Q (fuel + 1) listed a w:=by
 unfold tree
 refine wpAnyH_all (by simpa using hr) rQ ?_
 intro k hk
 rcases List.mem_cons.1 hk with rfl | hk
 · exact kVl hi hgi h1
 obtain rfl:k=j:=by simpa using hk
 exact kVl hj hgj h2
theorem yN (hr:(Region.ready .any l.toArray listed.toArray==[])=true) (h:Q .normal a w):tree P l S Q fuel listed a w:=by
 unfold tree
 exact wpAnyH_done (by simpa using hr) h fuel
theorem share {G:Prop} {R:Nat→Value→Value→Value→Value→World→Prop} (F:Nat→World→Prop) (walk:(∀ b v1 v2 v3 v4 W,F b W→R b v1 v2 v3 v4 W)→G) (cont:∀ b v1 v2 v3 v4 W,F b W→R b v1 v2 v3 v4 W):G:=walk cont
end
end Go.Proofs.YtlfblpgkegeaeaaGreat
namespace Go.Proofs.YtlfblpgkegeaeaaGreat
open Go.RowKit
def zY (l:List jK) (n:kW) (x:Int):List jK:=if (24:Nat) < (l++[(n,x)]).length then (l++[(n,x)]).drop 1 else l++[(n,x)]
theorem kFd {w:World} {vl:Value} {l:List jK} (hl:(Rep.slice 178 kJ).rd w [vl] l) (hlen:l.length≤2000000) {cn:List Value} {n:kW} (hn:kL.rd w cn n) {x:Int} (hx:-9223372036854775808≤x∧x≤9223372036854775807) :
    Calls Tryz.prog 65 #[vl,.agg cn.toArray,.int .i64 x] w (zH (Rep.slice 178 kJ) (zY l n x) w):=by
 have HL:=yD hl
 have HN:=yD hn
 have HX:=yD hx
 obtain ⟨la,lp,rfl,ll⟩:=Rep.sl hl.1
 obtain ⟨av,rfl,a_0⟩:=kM hn.1
 obtain ⟨na,np,rfl,_⟩:=Rep.sl a_0
 clear hl hn a_0 hx
 go_enter Tryz.func65,Tryz.ntmps65
 go_upto_region 1 with fail
 generalize hwB:World.alloc w _=wB
 have EB:Below w.heap.size w wB:=by rw [← hwB];exact bH
 have hzB:w.heap.size + 1≤wB.heap.size:=qK
 have K0:wB.cell? ⟨w.heap.size,0,none⟩=some (.slice na n.length np):=nV
 clear hwB
 have FX:=yD (fun (W:World) (hW:Below wB.heap.size wB W)=>cL hW K0)
 refine yG (fun W=>Below wB.heap.size wB W) [(0,true),(2,true),(4,true),(1,false),(3,false),(5,true),(6,false),(7,false),(8,true)] rF rF gX (bR.drew) ?_
 intro wS HS
 simp only [jY,List.getElem?_cons_succ,List.getElem?_cons_zero,List.map_cons,List.map_nil]
 iterate 3
  all_goals refine wkR ?_
 all_goals first|(refine kU rfl HS ?_)|(refine ky rfl (fun K hK=>?_);go_simp;refine (kKc (HL.out.below (tQ EB HS))).mono ?_;rintro e wA ⟨v1,rfl,O1,hbA⟩;have hzS1:=HS.size;have hzA:=hbA.size;have hwS1:=HS;obtain ⟨va,vn,vc,hv1,HVN⟩:=O1.parts;obtain rfl:=hv1;have HO1:=yD O1;clear O1;replace HS:=(tQ HS hbA);refine hK _ _ HS ?_;clear hK K hbA)
 all_goals refine wkP ?_
 all_goals first|(refine kU rfl HS ?_)|(refine ky rfl (fun K hK=>?_);go_simp;refine (kAj (HN.out.below (tQ EB HS))).mono ?_;rintro e wC ⟨tc,rfl,O3,hbC⟩;have hzC:=hbC.size;obtain ⟨tv,rfl,t_0⟩:=kM O3.raw;obtain ⟨ta,tp,rfl,_⟩:=Rep.sl t_0;clear t_0;have HO3:=yD O3;clear O3;replace HO1:=yD (HO1.out.below hbC);have hvn:=HVN.out;subst hvn;clear HVN;replace HS:=(tQ HS hbC);refine hK _ _ HS ?_;clear hK K hbC)
 all_goals refine wkP ?_
 all_goals refine wkR ?_
 all_goals first|(refine kU rfl HS ?_)|(refine ky rfl (fun K hK=>?_);go_simp;refine hK _ _ (HS.alloc HS.size _) ?_;clear hK K)
 all_goals refine wkP ?_
 all_goals first|(refine kU rfl HS ?_)|(refine ky rfl (fun K hK=>?_);obtain ⟨v7,w7,hr7,ho7,ht7⟩:=Rep.kRi (P:=Tryz.prog) (t:=52) (ty:=52) (r:=kJ) (e:=178) (w:=wC) (xs:=l) (c:=1) Tryz.underlying52 kEt rfl rM rM (HO1.out.own qF) bR (Rep.jy (r:=kL) (q:=Rep.int) (cs:=[.slice ta n.length tp]) (ds:=[.int .i64 x]) (x:=n) (y:=x) HO3.out (Rep.jG HX.out)) gK rP;refine Rep.jR _ _ _ rfl rR rR hr7 ?_;have hz7:=ht7.size;have HS7:Below wB.heap.size wB w7:=HS.trans (ht7.below HS.size (fun j q=>by have:=q.1.1;omega));clear hr7;generalize hq_:l++[(n,x)]=q at *;have HQL:Hid (q.length=l.length + 1):=yD (by rw [← hq_];simp);obtain ⟨a7,c7,rfl,_⟩:=Rep.sl ho7.raw;have HO7:=yD (ho7.wide (T:=Btw w.heap.size w7.heap.size) (fun j q=>by rcases q with q | q | q;exact ⟨by have:=q.1;omega,by have:=q.2;omega⟩;exact ⟨by have:=q.1;omega,by have:=q.2;omega⟩;exact ⟨by have:=q.1;omega,q.2⟩));clear ho7 ht7;have HQE:=yD hq_;clear hq_;refine hK _ _ HS7 ?_;clear hK K HS)
 all_goals refine wkP ?_
 all_goals refine wkR ?_
 all_goals refine jA ?_
 have EF:=(tQ EB HS7)
 by_cases h24:24 < q.length
 · obtain ⟨_,b,off,rfl,hSb,hbl⟩:=Rep.zw HO7.out rP
   have hcp:=(Rep.kMl HO7.out.raw)
   have h24I:(24:Int) < q.length:=rP
   have h1I:(1:Int)≤q.length:=rP
   have hc1:¬ c7=1:=rP
   have hcI:(q.length:Int)≤c7:=rP
   have hcI2:c7≤9223372036854775807:=hcp.2
   have HD:=yD (Rep.drop_own HO7.out (k:=1) rP)
   have HAD:Hid (zY l n x=q.drop 1):=yD (by unfold zY;rw [HQE.out,if_pos h24])
   clear HO7 HQE
   go_wp2
   go_ret
   refine ⟨_,rfl,?_,EF⟩
   rw [HAD.out]
   exact HD.out
 have h24I:¬ (24:Int) < q.length:=rP
 have HAD:Hid (zY l n x=q):=yD (by unfold zY;rw [HQE.out,if_neg h24])
 clear HQE
 go_wp2
 go_ret
 refine ⟨_,rfl,?_,EF⟩
 rw [HAD.out]
 exact HO7.out
theorem kFi {w:World} {vl:Value} {l:List jK} (hl:(Rep.slice 178 kJ).rd w [vl] l) (hlen:l.length≤2000000) {cn:List Value} {n:kW} (hn:kL.rd w cn n) {x:Int} (hx:-9223372036854775808≤x∧x≤9223372036854775807) :
    Calls Tryz.prog 73 #[vl,.agg cn.toArray,.int .i64 x] w (zH (Rep.slice 178 kJ) (zY l n x) w):=by
 have HL:=yD hl
 have HN:=yD hn
 have HX:=yD hx
 obtain ⟨la,lp,rfl,ll⟩:=Rep.sl hl.1
 obtain ⟨av,rfl,a_0⟩:=kM hn.1
 obtain ⟨na,np,rfl,_⟩:=Rep.sl a_0
 clear hl hn a_0 hx
 go_enter Tryz.func73,Tryz.ntmps73
 go_upto_region 1 with fail
 generalize hwB:World.alloc w _=wB
 have EB:Below w.heap.size w wB:=by rw [← hwB];exact bH
 have hzB:w.heap.size + 1≤wB.heap.size:=qK
 have K0:wB.cell? ⟨w.heap.size,0,none⟩=some (.slice na n.length np):=nV
 clear hwB
 have FX:=yD (fun (W:World) (hW:Below wB.heap.size wB W)=>cL hW K0)
 refine yG (fun W=>Below wB.heap.size wB W) [(0,true),(2,true),(4,true),(1,false),(3,false),(5,true),(6,false),(7,false),(8,true)] rF rF gX (bR.drew) ?_
 intro wS HS
 simp only [jY,List.getElem?_cons_succ,List.getElem?_cons_zero,List.map_cons,List.map_nil]
 iterate 3
  all_goals refine wkR ?_
 all_goals first|(refine kU rfl HS ?_)|(refine ky rfl (fun K hK=>?_);go_simp;refine (kIm (HL.out.below (tQ EB HS))).mono ?_;rintro e wA ⟨v1,rfl,O1,hbA⟩;have hzS1:=HS.size;have hzA:=hbA.size;have hwS1:=HS;obtain ⟨va,vn,vc,hv1,HVN⟩:=O1.parts;obtain rfl:=hv1;have HO1:=yD O1;clear O1;replace HS:=(tQ HS hbA);refine hK _ _ HS ?_;clear hK K hbA)
 all_goals refine wkP ?_
 all_goals first|(refine kU rfl HS ?_)|(refine ky rfl (fun K hK=>?_);go_simp;refine (zW (HN.out.below (tQ EB HS))).mono ?_;rintro e wC ⟨tc,rfl,O3,hbC⟩;have hzC:=hbC.size;obtain ⟨tv,rfl,t_0⟩:=kM O3.raw;obtain ⟨ta,tp,rfl,_⟩:=Rep.sl t_0;clear t_0;have HO3:=yD O3;clear O3;replace HO1:=yD (HO1.out.below hbC);have hvn:=HVN.out;subst hvn;clear HVN;replace HS:=(tQ HS hbC);refine hK _ _ HS ?_;clear hK K hbC)
 all_goals refine wkP ?_
 all_goals refine wkR ?_
 all_goals first|(refine kU rfl HS ?_)|(refine ky rfl (fun K hK=>?_);go_simp;refine hK _ _ (HS.alloc HS.size _) ?_;clear hK K)
 all_goals refine wkP ?_
 all_goals first|(refine kU rfl HS ?_)|(refine ky rfl (fun K hK=>?_);obtain ⟨v7,w7,hr7,ho7,ht7⟩:=Rep.kRi (P:=Tryz.prog) (t:=52) (ty:=52) (r:=kJ) (e:=178) (w:=wC) (xs:=l) (c:=1) Tryz.underlying52 kEt rfl rM rM (HO1.out.own qF) bR (Rep.jy (r:=kL) (q:=Rep.int) (cs:=[.slice ta n.length tp]) (ds:=[.int .i64 x]) (x:=n) (y:=x) HO3.out (Rep.jG HX.out)) gK rP;refine Rep.jR _ _ _ rfl rR rR hr7 ?_;have hz7:=ht7.size;have HS7:Below wB.heap.size wB w7:=HS.trans (ht7.below HS.size (fun j q=>by have:=q.1.1;omega));clear hr7;generalize hq_:l++[(n,x)]=q at *;have HQL:Hid (q.length=l.length + 1):=yD (by rw [← hq_];simp);obtain ⟨a7,c7,rfl,_⟩:=Rep.sl ho7.raw;have HO7:=yD (ho7.wide (T:=Btw w.heap.size w7.heap.size) (fun j q=>by rcases q with q | q | q;exact ⟨by have:=q.1;omega,by have:=q.2;omega⟩;exact ⟨by have:=q.1;omega,by have:=q.2;omega⟩;exact ⟨by have:=q.1;omega,q.2⟩));clear ho7 ht7;have HQE:=yD hq_;clear hq_;refine hK _ _ HS7 ?_;clear hK K HS)
 all_goals refine wkP ?_
 all_goals refine wkR ?_
 all_goals refine jA ?_
 have EF:=(tQ EB HS7)
 by_cases h24:24 < q.length
 · obtain ⟨_,b,off,rfl,hSb,hbl⟩:=Rep.zw HO7.out rP
   have hcp:=(Rep.kMl HO7.out.raw)
   have h24I:(24:Int) < q.length:=rP
   have h1I:(1:Int)≤q.length:=rP
   have hc1:¬ c7=1:=rP
   have hcI:(q.length:Int)≤c7:=rP
   have hcI2:c7≤9223372036854775807:=hcp.2
   have HD:=yD (Rep.drop_own HO7.out (k:=1) rP)
   have HAD:Hid (zY l n x=q.drop 1):=yD (by unfold zY;rw [HQE.out,if_pos h24])
   clear HO7 HQE
   go_wp2
   go_ret
   refine ⟨_,rfl,?_,EF⟩
   rw [HAD.out]
   exact HD.out
 have h24I:¬ (24:Int) < q.length:=rP
 have HAD:Hid (zY l n x=q):=yD (by unfold zY;rw [HQE.out,if_neg h24])
 clear HQE
 go_wp2
 go_ret
 refine ⟨_,rfl,?_,EF⟩
 rw [HAD.out]
 exact HO7.out
theorem kCb {w:World} {cx:List Value} {x:jJ} (hx:kP.rd w cx x):Calls Tryz.prog 72 #[.agg cx.toArray] w (yM kP x w):=by
 obtain ⟨hx,hbd⟩:=hx
 obtain ⟨v0,v1,v2,rfl,a_0,a_1,a_2,a_3,a_4,a_5,a_6⟩:=kY hx
 obtain ⟨x0,x1,x2,x3,x4⟩:=x
 obtain ⟨a0,p0,rfl,_⟩:=Rep.sl a_1
 obtain ⟨a1,p1,rfl,_⟩:=Rep.sl a_2
 obtain ⟨a2,p2,rfl,_⟩:=Rep.sl a_4
 have r0:kL.rd w _ x0:=⟨a_0,hbd.1⟩
 have r1:(Rep.slice 5 Rep.byte).rd w _ x1:=⟨a_2,hbd.2.1⟩
 have r2:kL.rd w _ x2:=⟨a_3,hbd.2.2.1⟩
 have N3:=yD a_5
 have N4:=yD a_6
 clear hbd hx a_0 a_1 a_2 a_3 a_4 a_5 a_6
 go_enter Tryz.func72,Tryz.ntmps72
 go_upto_region 1 with fail
 generalize hwB:World.alloc (World.alloc w _) _=v0
 have E0:Below w.heap.size w v0:=by rw [← hwB];exact bH
 have hz0:v0.heap.size=w.heap.size + 2:=qK
 have XT:Hid (v0.heap[w.heap.size]?=some (.cells #[.slice a0 (x0).length p0,.slice a1 x1.length p1,.slice a2 (x2).length p2,.int .i64 x3,.int .i64 x4] 66 (0,0))):=yD nQ
 have XR:Hid (v0.heap[w.heap.size + 1]?=some (.cells #[.slice none 0 0,.slice none 0 0,.slice none 0 0,.int .i64 0,.int .i64 0] 66 (0,0))):=yD nK
 clear hwB
 have K0_0:=kK (b:=w.heap.size) XT.out (j:=0) (v:=.slice a0 (x0).length p0) rfl
 go_wp2_with fail
 refine (zW (r0.below E0)).mono ?_
 rintro e w1 ⟨tc,rfl,O1,hb1⟩
 obtain ⟨t1v0,rfl,t1_0⟩:=kM O1.raw
 obtain ⟨t1a0,t1p0,rfl,t1l0⟩:=Rep.sl t1_0
 clear t1_0
 have HO1:=yD O1;clear O1
 have hz1:=hb1.size
 have F1:=(tQ E0 hb1)
 replace XT:=yD (kD XT.out hb1)
 replace XR:=yD (kD XR.out hb1)
 clear hb1 K0_0
 have M1_0:=kK (b:=w.heap.size) XT.out (j:=0) (v:=.slice a0 (x0).length p0) rfl
 have Z1_0:=frozen_of_row w1 (w.heap.size) 0 _ _ XT.out
 go_upto_region 2 with fail
 generalize hws:(w1.setCell ⟨w.heap.size,0,none⟩ (.slice t1a0 x0.length t1p0))=v1
 have XT2:v1.heap[w.heap.size]?=some (.cells #[.slice t1a0 x0.length t1p0,.slice a1 x1.length p1,.slice a2 (x2).length p2,.int .i64 x3,.int .i64 x4] 66 (0,0)):=by
  rw [← hws]
  have y0:=heap_setCell_same _ (w.heap.size) 0 _ 66 (.slice t1a0 x0.length t1p0) XT.out
  exact y0
 replace XR:=yD (show v1.heap[w.heap.size + 1]?=some (.cells #[.slice none 0 0,.slice none 0 0,.slice none 0 0,.int .i64 0,.int .i64 0] 66 (0,0)) from by rw [← hws];exact ((heap_setCell_other _ ⟨w.heap.size,0,none⟩ (w.heap.size + 1) _ (show w.heap.size + 1≠w.heap.size by omega)).trans XR.out))
 replace XT:=yD XT2;clear XT2
 have E1:Below w.heap.size w v1:=by rw [← hws];exact (F1.setCell gM _)
 have HY1:Hid (v1.heap.size=w1.heap.size):=yD mV
 replace HO1:=yD (Rep.own.out (w':=v1) HO1.out (fun j h1 h2=>by rw [← hws];simp (discharger:=(simp;omega)) only [heap_setCell_other]))
 clear hws F1 M1_0 Z1_0
 have K1_0:=kK (b:=w.heap.size) XT.out (j:=1) (v:=.slice a1 x1.length p1) rfl
 go_wp2_with fail
 refine (kWj (r1.below E1)).mono ?_
 rintro e w2 ⟨tv,rfl,O2,hb2⟩
 obtain ⟨ta2,tp2,rfl,_⟩:=Rep.sl O2.raw
 have HO2:=yD O2;clear O2
 have hz2:=hb2.size
 have F2:=(tQ E1 hb2)
 replace XT:=yD (kD XT.out hb2)
 replace XR:=yD (kD XR.out hb2)
 replace HO1:=yD (HO1.out.below hb2)
 clear hb2 K1_0
 have M2_0:=kK (b:=w.heap.size) XT.out (j:=1) (v:=.slice a1 x1.length p1) rfl
 have Z2_0:=frozen_of_row w2 (w.heap.size) 1 _ _ XT.out
 go_upto_region 3 with fail
 generalize hws:(w2.setCell ⟨w.heap.size,1,none⟩ (.slice ta2 x1.length tp2))=v2
 have XT2:v2.heap[w.heap.size]?=some (.cells #[.slice t1a0 x0.length t1p0,.slice ta2 x1.length tp2,.slice a2 (x2).length p2,.int .i64 x3,.int .i64 x4] 66 (0,0)):=by
  rw [← hws]
  have y0:=heap_setCell_same _ (w.heap.size) 1 _ 66 (.slice ta2 x1.length tp2) XT.out
  exact y0
 replace XR:=yD (show v2.heap[w.heap.size + 1]?=some (.cells #[.slice none 0 0,.slice none 0 0,.slice none 0 0,.int .i64 0,.int .i64 0] 66 (0,0)) from by rw [← hws];exact ((heap_setCell_other _ ⟨w.heap.size,1,none⟩ (w.heap.size + 1) _ (show w.heap.size + 1≠w.heap.size by omega)).trans XR.out))
 replace XT:=yD XT2;clear XT2
 have E2:Below w.heap.size w v2:=by rw [← hws];exact (F2.setCell gM _)
 have HY2:Hid (v2.heap.size=w2.heap.size):=yD mV
 replace HO1:=yD (Rep.own.out (w':=v2) HO1.out cZ)
 replace HO2:=yD (Rep.own.out (w':=v2) HO2.out cZ)
 clear hws F2 M2_0 Z2_0
 have K2_0:=kK (b:=w.heap.size) XT.out (j:=2) (v:=.slice a2 (x2).length p2) rfl
 go_wp2_with fail
 refine (zW (r2.below E2)).mono ?_
 rintro e w3 ⟨tc,rfl,O3,hb3⟩
 obtain ⟨t3v0,rfl,t3_0⟩:=kM O3.raw
 obtain ⟨t3a0,t3p0,rfl,t3l0⟩:=Rep.sl t3_0
 clear t3_0
 have HO3:=yD O3;clear O3
 have hz3:=hb3.size
 have F3:=(tQ E2 hb3)
 replace XT:=yD (kD XT.out hb3)
 replace XR:=yD (kD XR.out hb3)
 replace HO1:=yD (HO1.out.below hb3)
 replace HO2:=yD (HO2.out.below hb3)
 clear hb3 K2_0
 have M3_0:=kK (b:=w.heap.size) XT.out (j:=2) (v:=.slice a2 (x2).length p2) rfl
 have Z3_0:=frozen_of_row w3 (w.heap.size) 2 _ _ XT.out
 go_upto_region 4 with fail
 generalize hws:(w3.setCell ⟨w.heap.size,2,none⟩ (.slice t3a0 x2.length t3p0))=v3
 have XT2:v3.heap[w.heap.size]?=some (.cells #[.slice t1a0 x0.length t1p0,.slice ta2 x1.length tp2,.slice t3a0 x2.length t3p0,.int .i64 x3,.int .i64 x4] 66 (0,0)):=by
  rw [← hws]
  have y0:=heap_setCell_same _ (w.heap.size) 2 _ 66 (.slice t3a0 x2.length t3p0) XT.out
  exact y0
 replace XR:=yD (show v3.heap[w.heap.size + 1]?=some (.cells #[.slice none 0 0,.slice none 0 0,.slice none 0 0,.int .i64 0,.int .i64 0] 66 (0,0)) from by rw [← hws];exact ((heap_setCell_other _ ⟨w.heap.size,2,none⟩ (w.heap.size + 1) _ (show w.heap.size + 1≠w.heap.size by omega)).trans XR.out))
 replace XT:=yD XT2;clear XT2
 have E3:Below w.heap.size w v3:=by rw [← hws];exact (F3.setCell gM _)
 have HY3:Hid (v3.heap.size=w3.heap.size):=yD mV
 replace HO1:=yD (Rep.own.out (w':=v3) HO1.out bV)
 replace HO2:=yD (Rep.own.out (w':=v3) HO2.out bV)
 replace HO3:=yD (Rep.own.out (w':=v3) HO3.out bV)
 clear hws F3 M3_0 Z3_0
 have K0:=kK (b:=w.heap.size) XT.out (j:=0) (v:=.slice t1a0 x0.length t1p0) rfl
 have R0:=kK (b:=w.heap.size + 1) XR.out (j:=0) rfl
 have Z0:=frozen_of_row v3 (w.heap.size + 1) 0 _ _ XR.out
 have K1:=kK (b:=w.heap.size) XT.out (j:=1) (v:=.slice ta2 x1.length tp2) rfl
 have R1:=kK (b:=w.heap.size + 1) XR.out (j:=1) rfl
 have Z1:=frozen_of_row v3 (w.heap.size + 1) 1 _ _ XR.out
 have K2:=kK (b:=w.heap.size) XT.out (j:=2) (v:=.slice t3a0 x2.length t3p0) rfl
 have R2:=kK (b:=w.heap.size + 1) XR.out (j:=2) rfl
 have Z2:=frozen_of_row v3 (w.heap.size + 1) 2 _ _ XR.out
 have K3:=kK (b:=w.heap.size) XT.out (j:=3) (v:=.int .i64 x3) rfl
 have R3:=kK (b:=w.heap.size + 1) XR.out (j:=3) rfl
 have Z3:=frozen_of_row v3 (w.heap.size + 1) 3 _ _ XR.out
 have K4:=kK (b:=w.heap.size) XT.out (j:=4) (v:=.int .i64 x4) rfl
 have R4:=kK (b:=w.heap.size + 1) XR.out (j:=4) rfl
 have Z4:=frozen_of_row v3 (w.heap.size + 1) 4 _ _ XR.out
 go_wp2
 have hy1:=HY1.out
 have hy2:=HY2.out
 have hy3:=HY3.out
 refine bodyPost_ret (v:=.agg #[.slice t1a0 x0.length t1p0,.slice ta2 x1.length tp2,.slice t3a0 x2.length t3p0,.int .i64 x3,.int .i64 x4]) (by simp [results,Tryz.results72,go_sem,R0,Z0,R1,Z1,R2,Z2,R3,Z3,R4,Z4]) rfl ⟨[_,_,_,_,_],rfl,?_,?_⟩
 · refine Rep.own.wide (S:=Btw (v0.heap.size) (w3.heap.size)) ?_ dN
   exact Rep.jW (r:=kL) (q:=(Rep.pair (Rep.slice 5 Rep.byte) (Rep.pair kL (Rep.pair Rep.int Rep.int)))) (cs:=[.slice t1a0 x0.length t1p0]) (ds:=[.slice ta2 x1.length tp2,.slice t3a0 x2.length t3p0,.int .i64 x3,.int .i64 x4]) (x:=x0) (y:=(x1,x2,x3,x4)) (S:=Btw (v0.heap.size) (w3.heap.size)) (Rep.own.out HO1.out dM) (Rep.jW (r:=(Rep.slice 5 Rep.byte)) (q:=(Rep.pair kL (Rep.pair Rep.int Rep.int))) (cs:=[.slice ta2 x1.length tp2]) (ds:=[.slice t3a0 x2.length t3p0,.int .i64 x3,.int .i64 x4]) (x:=x1) (y:=(x2,x3,x4)) (S:=Btw (v1.heap.size) (w3.heap.size)) (Rep.own.out HO2.out dM) (Rep.jy (r:=kL) (q:=(Rep.pair Rep.int Rep.int)) (cs:=[.slice t3a0 x2.length t3p0]) (ds:=[.int .i64 x3,.int .i64 x4]) (x:=x2) (y:=(x3,x4)) (Rep.own.out HO3.out dM) (Rep.kAw (r:=Rep.int) (q:=Rep.int) (cs:=[.int .i64 x3]) (ds:=[.int .i64 x4]) (x:=x3) (y:=x4) (Rep.jG N3.out) (Rep.jG N4.out))) fG fG fP) fG fG fP
 repeat (first|(with_reducible exact E3) | refine Below.setCell ?_ nE _)
theorem kDj {w:World} {cx:List Value} {x:jJ} (hx:kP.rd w cx x):Calls Tryz.prog 64 #[.agg cx.toArray] w (yM kP x w):=by
 obtain ⟨hx,hbd⟩:=hx
 obtain ⟨v0,v1,v2,rfl,a_0,a_1,a_2,a_3,a_4,a_5,a_6⟩:=kY hx
 obtain ⟨x0,x1,x2,x3,x4⟩:=x
 obtain ⟨a0,p0,rfl,_⟩:=Rep.sl a_1
 obtain ⟨a1,p1,rfl,_⟩:=Rep.sl a_2
 obtain ⟨a2,p2,rfl,_⟩:=Rep.sl a_4
 have r0:kL.rd w _ x0:=⟨a_0,hbd.1⟩
 have r1:(Rep.slice 5 Rep.byte).rd w _ x1:=⟨a_2,hbd.2.1⟩
 have r2:kL.rd w _ x2:=⟨a_3,hbd.2.2.1⟩
 have N3:=yD a_5
 have N4:=yD a_6
 clear hbd hx a_0 a_1 a_2 a_3 a_4 a_5 a_6
 go_enter Tryz.func64,Tryz.ntmps64
 go_upto_region 2 with fail
 generalize hwB:World.alloc (World.alloc (World.alloc w _) _) _=v0
 have E0:Below w.heap.size w v0:=by rw [← hwB];exact bH
 have hz0:v0.heap.size=w.heap.size + 3:=qK
 have XB:Hid (v0.heap[w.heap.size]?=some (.cells #[.slice a0 (x0).length p0,.slice a1 x1.length p1,.slice a2 (x2).length p2,.int .i64 x3,.int .i64 x4] 66 (0,0))):=yD mJ
 have XR:Hid (v0.heap[w.heap.size + 1]?=some (.cells #[.slice none 0 0,.slice none 0 0,.slice none 0 0,.int .i64 0,.int .i64 0] 66 (0,0))):=yD mF
 have XT:Hid (v0.heap[w.heap.size + 1 + 1]?=some (.cells #[.slice a0 (x0).length p0,.slice a1 x1.length p1,.slice a2 (x2).length p2,.int .i64 x3,.int .i64 x4] 66 (0,0))):=yD nK
 clear hwB
 have K0_0:=kK (b:=w.heap.size) XB.out (j:=0) (v:=.slice a0 (x0).length p0) rfl
 go_wp2_with fail
 refine (kAj (r0.below E0)).mono ?_
 rintro e w1 ⟨tc,rfl,O1,hb1⟩
 obtain ⟨t1v0,rfl,t1_0⟩:=kM O1.raw
 obtain ⟨t1a0,t1p0,rfl,t1l0⟩:=Rep.sl t1_0
 clear t1_0
 have HO1:=yD O1;clear O1
 have hz1:=hb1.size
 have F1:=(tQ E0 hb1)
 replace XB:=yD (kD XB.out hb1)
 replace XT:=yD (kD XT.out hb1)
 replace XR:=yD (kD XR.out hb1)
 clear hb1 K0_0
 have M1_0:=kK (b:=w.heap.size + 1 + 1) XT.out (j:=0) (v:=.slice a0 (x0).length p0) rfl
 have Z1_0:=frozen_of_row w1 (w.heap.size + 1 + 1) 0 _ _ XT.out
 go_upto_region 3 with fail
 generalize hws:(w1.setCell ⟨w.heap.size + 1 + 1,0,none⟩ (.slice t1a0 x0.length t1p0))=v1
 have XT2:v1.heap[w.heap.size + 1 + 1]?=some (.cells #[.slice t1a0 x0.length t1p0,.slice a1 x1.length p1,.slice a2 (x2).length p2,.int .i64 x3,.int .i64 x4] 66 (0,0)):=by
  rw [← hws]
  have y0:=heap_setCell_same _ (w.heap.size + 1 + 1) 0 _ 66 (.slice t1a0 x0.length t1p0) XT.out
  exact y0
 replace XB:=yD (show v1.heap[w.heap.size]?=some (.cells #[.slice a0 (x0).length p0,.slice a1 x1.length p1,.slice a2 (x2).length p2,.int .i64 x3,.int .i64 x4] 66 (0,0)) from by rw [← hws];exact ((heap_setCell_other _ ⟨w.heap.size + 1 + 1,0,none⟩ (w.heap.size) _ (show w.heap.size≠w.heap.size + 1 + 1 by omega)).trans XB.out))
 replace XR:=yD (show v1.heap[w.heap.size + 1]?=some (.cells #[.slice none 0 0,.slice none 0 0,.slice none 0 0,.int .i64 0,.int .i64 0] 66 (0,0)) from by rw [← hws];exact ((heap_setCell_other _ ⟨w.heap.size + 1 + 1,0,none⟩ (w.heap.size + 1) _ (show w.heap.size + 1≠w.heap.size + 1 + 1 by omega)).trans XR.out))
 replace XT:=yD XT2;clear XT2
 have E1:Below w.heap.size w v1:=by rw [← hws];exact (F1.setCell gM _)
 have HY1:Hid (v1.heap.size=w1.heap.size):=yD mV
 replace HO1:=yD (Rep.own.out (w':=v1) HO1.out (fun j h1 h2=>by rw [← hws];simp (discharger:=(simp;omega)) only [heap_setCell_other]))
 clear hws F1 M1_0 Z1_0
 have K1_0:=kK (b:=w.heap.size) XB.out (j:=1) (v:=.slice a1 x1.length p1) rfl
 replace K1_0:=cL (Rep.zy v1 (.cells #[] 5)) K1_0
 go_wp2_with (at_builtin;refine Rep.je rfl _ _ 40 rfl (r:=Rep.byte) (e:=5) Tryz.underlying40 kCp rfl rM rM flatbyte (B:=v1.heap.size) (Rep.kg.void (S:=fun _=>False)) rR rR ((r1.below E1).alloc _) (fun _ h=>h.elim) rQ (by have:=r1.2.1;simp;unfold Big at this;omega) ?_)
 intro tv w2 hown hbel hz
 have hb2:Below v1.heap.size v1 w2:=(bR.alloc nL _).trans hbel
 obtain ⟨ta2,tp2,htv⟩:=hown.ym;obtain rfl:=htv
 have HO2:=yD (hown.own r1.2.1)
 try simp only [List.nil_append] at HO2
 clear hown hbel hz
 have hz2:=hb2.size
 have F2:=(tQ E1 hb2)
 replace XB:=yD (kD XB.out hb2)
 replace XT:=yD (kD XT.out hb2)
 replace XR:=yD (kD XR.out hb2)
 replace HO1:=yD (HO1.out.below hb2)
 clear hb2 K1_0
 have M2_0:=kK (b:=w.heap.size + 1 + 1) XT.out (j:=1) (v:=.slice a1 x1.length p1) rfl
 have Z2_0:=frozen_of_row w2 (w.heap.size + 1 + 1) 1 _ _ XT.out
 go_upto_region 4 with fail
 generalize hws:(w2.setCell ⟨w.heap.size + 1 + 1,1,none⟩ (.slice ta2 x1.length tp2))=v2
 have XT2:v2.heap[w.heap.size + 1 + 1]?=some (.cells #[.slice t1a0 x0.length t1p0,.slice ta2 x1.length tp2,.slice a2 (x2).length p2,.int .i64 x3,.int .i64 x4] 66 (0,0)):=by
  rw [← hws]
  have y0:=heap_setCell_same _ (w.heap.size + 1 + 1) 1 _ 66 (.slice ta2 x1.length tp2) XT.out
  exact y0
 replace XB:=yD (show v2.heap[w.heap.size]?=some (.cells #[.slice a0 (x0).length p0,.slice a1 x1.length p1,.slice a2 (x2).length p2,.int .i64 x3,.int .i64 x4] 66 (0,0)) from by rw [← hws];exact ((heap_setCell_other _ ⟨w.heap.size + 1 + 1,1,none⟩ (w.heap.size) _ (show w.heap.size≠w.heap.size + 1 + 1 by omega)).trans XB.out))
 replace XR:=yD (show v2.heap[w.heap.size + 1]?=some (.cells #[.slice none 0 0,.slice none 0 0,.slice none 0 0,.int .i64 0,.int .i64 0] 66 (0,0)) from by rw [← hws];exact ((heap_setCell_other _ ⟨w.heap.size + 1 + 1,1,none⟩ (w.heap.size + 1) _ (show w.heap.size + 1≠w.heap.size + 1 + 1 by omega)).trans XR.out))
 replace XT:=yD XT2;clear XT2
 have E2:Below w.heap.size w v2:=by rw [← hws];exact (F2.setCell gM _)
 have HY2:Hid (v2.heap.size=w2.heap.size):=yD mV
 replace HO1:=yD (Rep.own.out (w':=v2) HO1.out cZ)
 replace HO2:=yD (Rep.own.out (w':=v2) HO2.out cZ)
 clear hws F2 M2_0 Z2_0
 have K2_0:=kK (b:=w.heap.size) XB.out (j:=2) (v:=.slice a2 (x2).length p2) rfl
 go_wp2_with fail
 refine (kAj (r2.below E2)).mono ?_
 rintro e w3 ⟨tc,rfl,O3,hb3⟩
 obtain ⟨t3v0,rfl,t3_0⟩:=kM O3.raw
 obtain ⟨t3a0,t3p0,rfl,t3l0⟩:=Rep.sl t3_0
 clear t3_0
 have HO3:=yD O3;clear O3
 have hz3:=hb3.size
 have F3:=(tQ E2 hb3)
 replace XB:=yD (kD XB.out hb3)
 replace XT:=yD (kD XT.out hb3)
 replace XR:=yD (kD XR.out hb3)
 replace HO1:=yD (HO1.out.below hb3)
 replace HO2:=yD (HO2.out.below hb3)
 clear hb3 K2_0
 have M3_0:=kK (b:=w.heap.size + 1 + 1) XT.out (j:=2) (v:=.slice a2 (x2).length p2) rfl
 have Z3_0:=frozen_of_row w3 (w.heap.size + 1 + 1) 2 _ _ XT.out
 go_upto_region 5 with fail
 generalize hws:(w3.setCell ⟨w.heap.size + 1 + 1,2,none⟩ (.slice t3a0 x2.length t3p0))=v3
 have XT2:v3.heap[w.heap.size + 1 + 1]?=some (.cells #[.slice t1a0 x0.length t1p0,.slice ta2 x1.length tp2,.slice t3a0 x2.length t3p0,.int .i64 x3,.int .i64 x4] 66 (0,0)):=by
  rw [← hws]
  have y0:=heap_setCell_same _ (w.heap.size + 1 + 1) 2 _ 66 (.slice t3a0 x2.length t3p0) XT.out
  exact y0
 replace XB:=yD (show v3.heap[w.heap.size]?=some (.cells #[.slice a0 (x0).length p0,.slice a1 x1.length p1,.slice a2 (x2).length p2,.int .i64 x3,.int .i64 x4] 66 (0,0)) from by rw [← hws];exact ((heap_setCell_other _ ⟨w.heap.size + 1 + 1,2,none⟩ (w.heap.size) _ (show w.heap.size≠w.heap.size + 1 + 1 by omega)).trans XB.out))
 replace XR:=yD (show v3.heap[w.heap.size + 1]?=some (.cells #[.slice none 0 0,.slice none 0 0,.slice none 0 0,.int .i64 0,.int .i64 0] 66 (0,0)) from by rw [← hws];exact ((heap_setCell_other _ ⟨w.heap.size + 1 + 1,2,none⟩ (w.heap.size + 1) _ (show w.heap.size + 1≠w.heap.size + 1 + 1 by omega)).trans XR.out))
 replace XT:=yD XT2;clear XT2
 have E3:Below w.heap.size w v3:=by rw [← hws];exact (F3.setCell gM _)
 have HY3:Hid (v3.heap.size=w3.heap.size):=yD mV
 replace HO1:=yD (Rep.own.out (w':=v3) HO1.out bV)
 replace HO2:=yD (Rep.own.out (w':=v3) HO2.out bV)
 replace HO3:=yD (Rep.own.out (w':=v3) HO3.out bV)
 clear hws F3 M3_0 Z3_0
 have K0:=kK (b:=w.heap.size + 1 + 1) XT.out (j:=0) (v:=.slice t1a0 x0.length t1p0) rfl
 have R0:=kK (b:=w.heap.size + 1) XR.out (j:=0) rfl
 have Z0:=frozen_of_row v3 (w.heap.size + 1) 0 _ _ XR.out
 have K1:=kK (b:=w.heap.size + 1 + 1) XT.out (j:=1) (v:=.slice ta2 x1.length tp2) rfl
 have R1:=kK (b:=w.heap.size + 1) XR.out (j:=1) rfl
 have Z1:=frozen_of_row v3 (w.heap.size + 1) 1 _ _ XR.out
 have K2:=kK (b:=w.heap.size + 1 + 1) XT.out (j:=2) (v:=.slice t3a0 x2.length t3p0) rfl
 have R2:=kK (b:=w.heap.size + 1) XR.out (j:=2) rfl
 have Z2:=frozen_of_row v3 (w.heap.size + 1) 2 _ _ XR.out
 have K3:=kK (b:=w.heap.size + 1 + 1) XT.out (j:=3) (v:=.int .i64 x3) rfl
 have R3:=kK (b:=w.heap.size + 1) XR.out (j:=3) rfl
 have Z3:=frozen_of_row v3 (w.heap.size + 1) 3 _ _ XR.out
 have K4:=kK (b:=w.heap.size + 1 + 1) XT.out (j:=4) (v:=.int .i64 x4) rfl
 have R4:=kK (b:=w.heap.size + 1) XR.out (j:=4) rfl
 have Z4:=frozen_of_row v3 (w.heap.size + 1) 4 _ _ XR.out
 go_wp2
 have hy1:=HY1.out
 have hy2:=HY2.out
 have hy3:=HY3.out
 refine bodyPost_ret (v:=.agg #[.slice t1a0 x0.length t1p0,.slice ta2 x1.length tp2,.slice t3a0 x2.length t3p0,.int .i64 x3,.int .i64 x4]) (by simp [results,Tryz.results64,go_sem,R0,Z0,R1,Z1,R2,Z2,R3,Z3,R4,Z4]) rfl ⟨[_,_,_,_,_],rfl,?_,?_⟩
 · refine Rep.own.wide (S:=Btw (v0.heap.size) (w3.heap.size)) ?_ dN
   exact Rep.jW (r:=kL) (q:=(Rep.pair (Rep.slice 5 Rep.byte) (Rep.pair kL (Rep.pair Rep.int Rep.int)))) (cs:=[.slice t1a0 x0.length t1p0]) (ds:=[.slice ta2 x1.length tp2,.slice t3a0 x2.length t3p0,.int .i64 x3,.int .i64 x4]) (x:=x0) (y:=(x1,x2,x3,x4)) (S:=Btw (v0.heap.size) (w3.heap.size)) (Rep.own.out HO1.out dM) (Rep.jW (r:=(Rep.slice 5 Rep.byte)) (q:=(Rep.pair kL (Rep.pair Rep.int Rep.int))) (cs:=[.slice ta2 x1.length tp2]) (ds:=[.slice t3a0 x2.length t3p0,.int .i64 x3,.int .i64 x4]) (x:=x1) (y:=(x2,x3,x4)) (S:=Btw (v1.heap.size) (w3.heap.size)) (Rep.own.out HO2.out dM) (Rep.jy (r:=kL) (q:=(Rep.pair Rep.int Rep.int)) (cs:=[.slice t3a0 x2.length t3p0]) (ds:=[.int .i64 x3,.int .i64 x4]) (x:=x2) (y:=(x3,x4)) (Rep.own.out HO3.out dM) (Rep.kAw (r:=Rep.int) (q:=Rep.int) (cs:=[.int .i64 x3]) (ds:=[.int .i64 x4]) (x:=x3) (y:=x4) (Rep.jG N3.out) (Rep.jG N4.out))) fG fG fP) fG fG fP
 repeat (first|(with_reducible exact E3) | refine Below.setCell ?_ nE _)
end Go.Proofs.YtlfblpgkegeaeaaGreat

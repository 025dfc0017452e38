/-
  An element of an owned list appended to that list again: the list is read from then on. No program in sight.
-/
import Derived.Test.YtpgnbablhdknnaaDrawB
set_option linter.unusedVariables false
set_option linter.unusedSimpArgs false
set_option linter.unnecessarySimpa false
namespace Go.Proofs.Ytpgnbablhdknnaa
open Go.RowKit
namespace Rep
section
variable {α β:Type} {r:Rep α} {q:Rep β} {e:TypeId} {w w' W W':World} {v:Value} {cs ds:List Value} {x:α} {xs ys:List α} {S T F G:Nat→Prop}
theorem run_pushD {P:Program} {t ty:TypeId} {z:Value} {bytes:Nat} (ht:P.underlying t=some (.slice e)) (hinf:(P.info? e).map (fun i=>(i.zero,i.size,i.bytes))=some (some z,r.n,bytes)) (hzs:z.cells.size=r.n) (hn:0 < r.n) (hby:bytes≤1000)
    {a:Option Addr} {len cap:Nat} (hown:(slice e r).own w [.slice a len cap] xs S) {sv:Value} {m:Nat} {cells:List Value} (hsrc:Src w sv m cells) (hrow:row r false w cells ys T) (hm:ys.length=m) (hb:∀ y∈ys,r.bdd Big y) (hd:∀ b off,a=some ⟨b,off,none⟩→¬ T b) (hne:0 < xs.length) (hlen:xs.length + ys.length≤16777216) :
    ∃ v' w',(Builtin.append_ #[t,t] ty #[.slice a len cap,sv]).run P w=.ok v' w'∧(slice e r).rdB w' [v'] (xs++ys) (fun k=>S k∨T k∨(w.heap.size≤k∧k < w'.heap.size))∧Touch S w w':=by
 obtain ⟨i,hi,hz,hsize,hbytes⟩:=info_parts hinf
 have hlB:∀ n,n≤16777216→n≤Big:=fun n h=>by unfold Big;omega
 obtain ⟨⟨a',len',cap',h0,h1,h2,h3,h4⟩,hl0,hb0⟩:=hown
 simp only [List.cons.injEq,Value.slice.injEq,and_true] at h0
 obtain ⟨rfl,rfl,rfl⟩:=h0
 subst h1
 have hbb:∀ y∈xs++ys,r.bdd Big y:=by
  intro y hy
  rcases List.mem_append.1 hy with q | q
  · exact hb0 y q
  exact hb y q
 rcases h4 with ⟨rfl,hc0⟩|⟨b,off,rfl,cur,e',fr,p,cs,tl,g1,g2,g3,g4,g5,g6,g7⟩
 · simp at hne
 obtain ⟨he,hfr⟩:=g5 rfl
 rw [he,hfr] at g1
 have hcl:=jK g7
 have hsl:=jK hrow
 by_cases hm0:m=0
 · have hy0:ys=[]:=List.eq_nil_of_length_eq_zero gV
   subst hy0
   have hc:cells=[]:=hrow
   subst hc
   obtain ⟨a1,c1,rfl⟩:∃ a c,sv=.slice a 0 c:=by
    rcases hsrc with ⟨_,h⟩|⟨ad,c,h,_⟩
    · exact h
    exact ⟨_,_,by rw [h,hm0]⟩
   refine ⟨.slice (some ⟨b,off,none⟩) xs.length cap,w,?_,?_,Touch.refl _ _⟩
   · cases a1 <;> simp [Builtin.append_,run_underlying ht,sizeOf,typeInfo,hi,Builtin.lenOf,h2,Builtin.firstCells,loadCells,loadCellsFrom,storeCells]
   rw [List.append_nil]
   refine ⟨⟨_,_,cap,rfl,rfl,h2,h3,.inr ⟨b,off,rfl,cur,e,(0,0),p,cs,tl,g1,g2,g3,g4,fun _=>⟨rfl,rfl⟩,.inl g6,jD (kCl g7) bY⟩⟩,hl0,hb0⟩
 obtain ⟨ad,c,rfl,hcell⟩:∃ ad c,sv=.slice (some ad) m c∧∀ j u,cells[j]?=some u→w.cell? (ad.add j)=some u:=by
  rcases hsrc with ⟨h,_⟩ | h
  · exact absurd h hm0
  exact h
 have hl':cells.length=m * i.size:=by rw [hsize,hsl,hm]
 have hcurl:cur.toList.length=p.length + (cs.length + tl.length):=by rw [g2];simp
 have hcs:cur.size=p.length + (cs.length + tl.length):=by rw [← hcurl,Array.length_toList]
 by_cases hroom:xs.length + m≤cap
 · have hmul:(xs.length + m) * r.n≤cap * r.n:=Nat.mul_le_mul_right _ hroom
   rw [Nat.add_mul] at hmul
   have hml:m * r.n=cells.length:=by rw [hl',hsize]
   have hpos:off + xs.length * i.size=(p++cs).length:=by rw [List.length_append,g3,hcl,hsize]
   have hr:=run_append_room_cells (P:=P) (w:=w) t ty e i ht hi b off xs.length cap ad m c cells hl' hcell (row_one hrow) hroom
     (fun j hj=>by
       rw [cell_of_row w b _ cur e (0,0) g1]
       have:off + xs.length * i.size + j < cur.size:=by rw [hpos,List.length_append];omega
       simp [this])
     (fun j _=>frozen_of_row w b _ _ _ g1)
   rw [kAq] at hr
   have hheap:=yO (e:=e) cells (tl.take cells.length) (p++cs) (tl.drop cells.length) w b (off + xs.length * i.size) (by rw [g1,List.append_assoc,List.take_append_drop,← g2]) hpos.symm dR
   refine ⟨_,_,hr,?_,(je cells w b _).wide (fun k hk=>by rw [hk];exact g6)⟩
   have hko:∀ k,k≠b→(setCells w b (off + xs.length * i.size) cells).heap[k]?=w.heap[k]?:=fun k hk=>jq cells w b _ k hk
   refine ⟨⟨_,_,cap,rfl,by rw [List.length_append,hm],hroom,h3,.inr ⟨b,off,rfl,_,e,(0,0),p,cs++cells,tl.drop cells.length,hheap,by simp,g3,?_,fun _=>⟨rfl,rfl⟩,.inl g6,?_⟩⟩,hlB _ dB,hbb⟩
   · simp only [List.size_toArray,List.length_append,List.length_drop];omega
   have a1:=kv (w':=setCells w b (off + xs.length * i.size) cells) g7 (fun k hk=>hko k (hk.2 rfl))
   have a2:=kv (w':=setCells w b (off + xs.length * i.size) cells) hrow (fun k hk=>hko k (fun q=>hd b off rfl (q ▸ hk)))
   exact jY (kCl a1) a2 bY (fun k hk=>⟨.inr (.inl hk),fun h=>by cases h⟩) (fun h=>by cases h)
 have hcells:∀ j u,cs[j]?=some u→w.cell? ((⟨b,off,none⟩:Addr).add j)=some u:=by
  intro j u hj
  have hadd:(⟨b,off,none⟩:Addr).add j=⟨b,off + j,none⟩:=dA
  have hjl:=(List.getElem?_eq_some_iff.1 hj).1
  rw [hadd,cell_of_row w b _ cur e (0,0) g1,← Array.getElem?_toList,g2,List.getElem?_append_right gV,List.getElem?_append_left gV]
  rw [← hj];congr 1;omega
 have hby2:(xs.length + m) * i.bytes≤140737488355328:=by
  have:(xs.length + m) * i.bytes≤16777216 * 1000:=Nat.mul_le_mul gV gV
  omega
 have hr:=run_append_grow (P:=P) w t ty e i z ht hi hz ⟨b,off,none⟩ xs.length cap cs (by rw [hsize];exact hcl) hcells ad m c cells hl' hcell gV gV (growslice_fits gV hby2)
 refine ⟨_,_,hr,?_,⟨rfl,rfl,rfl,by simp,fun k hk _=>heap_alloc_old w.drew _ hk⟩⟩
 have hge:=grownCap_ge w (xs.length + m) cap e
 have hcm:=grownCap_le_maxLen w (xs.length + m) cap e fO
 refine ⟨⟨_,_,_,rfl,by rw [List.length_append,hm],hge,hcm,.inr ⟨w.heap.size,0,rfl,_,e,(0,0),[],cs++cells,(Builtin.zeroCells z.cells (grownCap w (xs.length + m) cap e - (xs.length + m))).toList,heap_alloc_new w.drew _,by simp,rfl,?_,fun _=>⟨rfl,rfl⟩,.inr (.inr ⟨Nat.le_refl _,by simp⟩),?_⟩⟩,hlB _ dB,hbb⟩
 · simp only [Array.size_append,List.size_toArray,size_zeroCells,hzs,hl',hcl,hsize,← Nat.add_mul]
   have:xs.length + m + (grownCap w (xs.length + m) cap e - (xs.length + m))=grownCap w (xs.length + m) cap e:=by omega
   rw [this];omega
 have a1:=jD (T:=fun k=>S k∧k < w.heap.size) (kv (w':=w.drew.alloc (.cells (cs.toArray++cells.toArray++Builtin.zeroCells z.cells (grownCap w (xs.length + m) cap e - (xs.length + m))) e)) (jO g7) (fun k hk=>heap_alloc_old w.drew _ hk.2)) (fun k hk=>⟨hk.1.1,hk.2⟩)
 have a2:=jD (T:=fun k=>T k∧k < w.heap.size) (kv (w':=w.drew.alloc (.cells (cs.toArray++cells.toArray++Builtin.zeroCells z.cells (grownCap w (xs.length + m) cap e - (xs.length + m))) e)) (jO hrow) (fun k hk=>heap_alloc_old w.drew _ hk.2)) (fun k hk=>hk)
 exact jY (kCl a1) a2 bY (fun k hk=>⟨.inr (.inl hk.1),fun h=>by cases h⟩) (fun h=>by cases h)
theorem rdB.live (h:r.rdB w cs x S):r.rdB w cs x (fun k=>S k∧k < w.heap.size):=⟨r.live h.1,h.2⟩
theorem rdB_get {a:Option Addr} {len cap:Nat} (h:(slice e r).rdB w [.slice a len cap] xs S) {i:Nat} (hi:i < xs.length) :
    ∃ b off,a=some ⟨b,off,none⟩∧∃ cs,r.rdB w cs xs[i] S∧∀ j c,cs[j]?=some c→w.cell? ⟨b,off + i * r.n + j,none⟩=some c:=by
 obtain ⟨⟨a',len',cap',h0,h1,h2,h3,h4⟩,hl1,hb1⟩:=h
 simp only [List.cons.injEq,Value.slice.injEq,and_true] at h0
 obtain ⟨rfl,rfl,rfl⟩:=h0
 rcases h4 with ⟨rfl,_⟩|⟨b,off,ha,cur,e',fr,p,c,q,hb,hc,hp,hl,hf,hS,hx⟩
 · simp at hi
 obtain ⟨p',c',q',A,B,C,rfl,hp',_,hr,_,_,hB,_⟩:=kDv hx hi
 refine ⟨b,off,ha,c',⟨r.wide hr (fun k hk=>(hB k hk).1),hb1 _ (List.getElem_mem hi)⟩,?_⟩
 intro j v hj
 have hjl:j < c'.length:=(List.getElem?_eq_some_iff.1 hj).1
 simp only [World.cell?,hb,Option.isSome_none,Bool.false_eq_true,if_false]
 rw [← Array.getElem?_toList,hc,List.getElem?_append_right gV,List.append_assoc,List.getElem?_append_right gV,List.append_assoc,List.getElem?_append_left gV]
 rw [← hj];congr 1;omega
theorem run_pushD1 {P:Program} {t ty:TypeId} {z:Value} {bytes:Nat} (ht:P.underlying t=some (.slice e)) (hinf:(P.info? e).map (fun i=>(i.zero,i.size,i.bytes))=some (some z,r.n,bytes)) (hzs:z.cells.size=r.n) (hn:0 < r.n) (hby:bytes≤1000)
    {a:Option Addr} {len cap:Nat} (hown:(slice e r).own w [.slice a len cap] xs S) {u:World} (hu:Below w.heap.size w u) {cx:List Value} {x:α} (hx:r.rdB u cx x T) (hd:∀ b off,a=some ⟨b,off,none⟩→¬ T b) (hne:0 < xs.length) (hlen:xs.length < 16777216) {c:Nat} :
    ∃ v' w',(Builtin.append_ #[t,t] ty #[.slice a len cap,.slice (some ⟨u.heap.size,0,none⟩) 1 c]).run P (u.alloc (.cells cx.toArray e))=.ok v' w'∧(slice e r).rdB w' [v'] (xs++[x]) (fun k=>S k∨T k∨(u.heap.size≤k∧k < w'.heap.size))∧Touch (fun k=>S k∧k < w.heap.size) u w':=by
 have hub:Below u.heap.size u (u.alloc (.cells cx.toArray e)):=bR.alloc nL _
 have hS:(slice e r).own u [.slice a len cap] xs (fun k=>S k∧k < w.heap.size):=⟨(slice e r).mono ((slice e r).live hown.1) (fun k hk=>hu.block k hk.2),hown.2⟩
 have hrow:row r false (u.alloc (.cells cx.toArray e)) cx [x] (fun k=>T k∧k < u.heap.size):=zx (r.mono (r.live hx.1) (fun k hk=>hub.block k hk.2))
 have hsrc:Src (u.alloc (.cells cx.toArray e)) (.slice (some ⟨u.heap.size,0,none⟩) 1 c) 1 cx:=by
  refine .inr ⟨_,_,rfl,fun j v hj=>?_⟩
  have hadd:(⟨u.heap.size,0,none⟩:Addr).add j=⟨u.heap.size,j,none⟩:=dA
  rw [hadd,cell_of_row _ _ j cx.toArray e (0,0) (heap_alloc_new u _)]
  simpa using hj
 obtain ⟨v',w',hr,ho,htt⟩:=run_pushD (ty:=ty) ht hinf hzs hn hby (hS.below hub) hsrc hrow rfl (fun y hy=>by rw [List.mem_singleton.1 hy];exact hx.2) (fun b off q h2=>hd b off q h2.1) hne gQ
 have hs1:(u.alloc (.cells cx.toArray e)).heap.size=u.heap.size + 1:=gW
 refine ⟨v',w',hr,⟨(slice e r).wide ho.1 ?_,ho.2⟩,(Touch.of_below hub).trans htt⟩
 rintro k (hk | hk | hk)
 · exact .inl hk.1
 · exact .inr (.inl hk.1)
 exact .inr (.inr ⟨by omega,hk.2⟩)
theorem kHv {P:Program} {ops:Array Oper} {rest:List Oper} {o:Oper} {ac:Act} {Q:Exit→Act→World→Prop} (hgd:o.guard=none) (s x:Operand) (t:TypeId)
    (ho:o.op=.call { callee:=.builtin .append,args:=#[s,x],argTypes:=#[t,t] })
    {z:Value} {bytes:Nat} (ht:P.underlying t=some (.slice e)) (hinf:(P.info? e).map (fun i=>(i.zero,i.size,i.bytes))=some (some z,r.n,bytes)) (hzs:z.cells.size=r.n) (hn:0 < r.n) (hby:bytes≤1000)
    {a:Option Addr} {len cap:Nat} (hown:(slice e r).own w [.slice a len cap] xs S) {u:World} (hu:Below w.heap.size w u) {cx:List Value} {y:α} (hy:r.rdB u cx y T) {c:Nat} (hs:ac.eval s=.slice a len cap) (hx:ac.eval x=.slice (some ⟨u.heap.size,0,none⟩) 1 c) (hd:∀ b off,a=some ⟨b,off,none⟩→¬ T b) (hne:0 < xs.length) (hlen:xs.length < 16777216)
    (h:∀ v' w',(slice e r).rdB w' [v'] (xs++[y]) (fun k=>S k∨T k∨(u.heap.size≤k∧k < w'.heap.size))→Touch (fun k=>S k∧k < w.heap.size) u w'→wpList P ops Q rest (ac.put o.dst v') w'):wpList P ops Q (o :: rest) ac (u.alloc (.cells cx.toArray e)):=by
 refine wpList_plain hgd fun _ hK=>?_
 obtain ⟨v',w',hr,h1,h2⟩:=run_pushD1 (ty:=o.type) (c:=c) ht hinf hzs hn hby hown hu hy hd hne hlen
 exact jW s x t ho hs hx hr (hK _ _ (h v' w' h1 h2))
end
end Rep
end Go.Proofs.Ytpgnbablhdknnaa

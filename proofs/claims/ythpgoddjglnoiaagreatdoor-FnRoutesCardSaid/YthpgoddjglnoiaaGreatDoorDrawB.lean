/-
  Reading with a known footprint, and lists under construction whose elements are read in an elder world. No program in sight.
-/
import Derived.Test.YthpgoddjglnoiaaGreatDoorDrawN
import Derived.ArgAppend
set_option linter.unusedVariables false
set_option linter.unusedSimpArgs false
set_option linter.unnecessarySimpa false
namespace Go.Proofs.YthpgoddjglnoiaaGreatDoor
open Go.RowKit
namespace Rep
section
variable {α β:Type} {r:Rep α} {q:Rep β} {e:TypeId} {w w' W W':World} {v:Value} {cs ds:List Value} {x:α} {xs:List α} {S T F G:Nat→Prop}
def rdB (r:Rep α) (w:World) (cs:List Value) (x:α) (S:Nat→Prop):Prop:=r.is false w cs x S∧r.bdd Big x
theorem rdB.rd (h:r.rdB w cs x S):r.rd w cs x:=⟨r.wide h.1 (fun _ _=>trivial),h.2⟩
theorem rdB.wide (h:r.rdB w cs x S) (k:∀ k,S k→T k):r.rdB w cs x T:=⟨r.wide h.1 k,h.2⟩
theorem rdB.keep (h:r.rdB w cs x S) (k:∀ k,S k→k < w.heap.size→w'.heap[k]?=w.heap[k]?):r.rdB w' cs x S :=
  ⟨r.wide (r.mono (r.live h.1) (fun j hj=>k j hj.1 hj.2)) (fun j hj=>hj.1),h.2⟩
theorem rdB.below (h:r.rdB w cs x S) (b:Below w.heap.size w w'):r.rdB w' cs x S:=h.keep (fun k _ hk=>b.block k hk)
theorem rdB.touch (h:r.rdB w cs x S) (b:Touch T w w') (hd:∀ k,S k→¬ T k):r.rdB w' cs x S:=h.keep (fun k hk hl=>b.block k hl (hd k hk))
theorem own.rdB (h:r.own w cs x S):r.rdB w cs x S:=⟨r.weak h.1,h.2⟩
theorem kH.rdB (h:kH e r w v xs S) (hl:xs.length≤Big):(slice e r).rdB w [v] xs S:=(h.own hl).rdB
theorem flat.rdB (h:r.flat cs x):r.rdB w cs x S:=(flat.own h).rdB
theorem drop_own {b off len cap:Nat} (h:(slice e r).own w [.slice (some ⟨b,off,none⟩) len cap] xs S) {k:Nat} (hk:k < xs.length):(slice e r).own w [.slice (some ⟨b,off + k * r.n,none⟩) (len - k) (cap - k)] (xs.drop k) S:=by
 obtain ⟨⟨a',len',cap',h0,h1,h2,h3,h4⟩,hl1,hb1⟩:=h
 simp only [List.cons.injEq,Value.slice.injEq,and_true] at h0
 obtain ⟨rfl,rfl,rfl⟩:=h0
 refine ⟨⟨_,_,_,rfl,by simp;omega,by omega,by omega,?_⟩,by rw [List.length_drop];omega,fun x hx=>hb1 x (List.mem_of_mem_drop hx)⟩
 rcases h4 with ⟨rfl,_⟩|⟨b',off',ha,cur,e',fr,p,c,q,hb,hc,hp,hl,hf,hS,hx⟩
 · simp at hk
 simp only [Option.some.injEq,Addr.mk.injEq,and_true] at ha
 obtain ⟨rfl,rfl⟩:=ha
 obtain ⟨c1,c2,rfl,hcl,r1,r2⟩:=kIw hx (Nat.le_of_lt hk)
 refine .inr ⟨b,off + k * r.n,rfl,cur,e',fr,p++c1,c2,q,hb,by rw [hc];simp,by simp [hp,hcl],?_,hf,hS,r2⟩
 have:k * r.n≤cap * r.n:=Nat.mul_le_mul_right _ fV
 rw [Nat.sub_mul];omega
end
end Rep
theorem Touch.jU {p b:Nat} {w w1 w2:World} (h:Touch (fun k=>k=p) w w1) (t:Touch (fun k=>k=b) w1 w2) (hb:w.heap.size≤b):Touch (fun k=>k=p) w w2:=by
 refine ⟨t.os.trans h.os,t.tape.trans h.tape,t.output.trans h.output,Nat.le_trans h.size t.size,fun k hk hn=>?_⟩
 exact (t.block k (Nat.lt_of_lt_of_le hk h.size) (fun q=>by omega)).trans (h.block k hk hn)
theorem Touch.kFz {p:Nat} {S:Nat→Prop} {w w1 w2:World} (h:Touch (fun k=>k=p) w w1) (t:Touch S w1 w2) (hb:∀ k,S k→w.heap.size≤k):Touch (fun k=>k=p) w w2:=by
 refine ⟨t.os.trans h.os,t.tape.trans h.tape,t.output.trans h.output,Nat.le_trans h.size t.size,fun k hk hn=>?_⟩
 exact (t.block k (Nat.lt_of_lt_of_le hk h.size) (fun q=>by have:=hb k q;omega)).trans (h.block k hk hn)
namespace Rep
theorem row_strs {w:World} {S:Nat→Prop}:∀ xs:List ByteArray,(∀ x∈xs,x.size≤Big)→row str true w (xs.map Value.string) xs S
  | [],_=>rfl
  | x :: xs,h=>⟨[.string x],xs.map Value.string,S,fun _=>False,rfl,((kAr (h x fZ)) w).1.elim (fun a b=>⟨a,b⟩),row_strs xs (fun y hy=>h y (by simp [hy])),fun _ h=>h,fun _ h=>h.elim,fun _ _ _ h=>h⟩
theorem row_ints {w:World} {S:Nat→Prop}:∀ xs:List Int,(∀ x∈xs,-9223372036854775808≤x∧x≤9223372036854775807)→row int true w (xs.map (Value.int .i64)) xs S
  | [],_=>rfl
  | x :: xs,h=>⟨[.int .i64 x],xs.map (Value.int .i64),S,fun _=>False,rfl,⟨rfl,h x fZ⟩,row_ints xs (fun y hy=>h y (by simp [hy])),fun _ h=>h,fun _ h=>h.elim,fun _ _ _ h=>h⟩
theorem kGb {e:TypeId} (w:World) (xs:List ByteArray) (h:(xs.all fun x=>decide (x.size≤64))=true) (hl:xs.length≤64):(slice e str).own (w.alloc (.cells (xs.map Value.string).toArray e)) [.slice (some ⟨w.heap.size,0,none⟩) xs.length xs.length] xs (fun k=>k=w.heap.size):=by
 have hb:∀ x∈xs,x.size≤Big:=fun x hx=>by have:=List.all_eq_true.1 h x hx;simp at this;unfold Big;omega
 exact (je (S:=fun k=>k=w.heap.size) (T:=fun _=>False) hb dU (row_strs xs hb) (fun _ h=>h.elim) rfl).own dY
theorem kJa {e:TypeId} (w:World) (xs:List Int) (h:(xs.all fun x=>decide (-9223372036854775808≤x) && decide (x≤9223372036854775807))=true) (hl:xs.length≤64):(slice e int).own (w.alloc (.cells (xs.map (Value.int .i64)).toArray e)) [.slice (some ⟨w.heap.size,0,none⟩) xs.length xs.length] xs (fun k=>k=w.heap.size):=by
 have hb:∀ x∈xs,-9223372036854775808≤x∧x≤9223372036854775807:=fun x hx=>by have:=List.all_eq_true.1 h x hx;simpa using this
 exact (je (S:=fun k=>k=w.heap.size) (T:=fun _=>False) (fun _ _=>trivial) dU (row_ints xs hb) (fun _ h=>h.elim) rfl).own dY
theorem lit_one {α:Type} {r:Rep α} {e:TypeId} {cs:List Value} {x:α} (w:World) (h:r.flat cs x):kH e r (w.alloc (.cells cs.toArray e)) (.slice (some ⟨w.heap.size,0,none⟩) 1 1) [x] (fun k=>k=w.heap.size):=by
 have:=je (e:=e) (r:=r) (w:=w) (cs:=cs) (xs:=[x]) (T:=fun _=>False) (S:=fun k=>k=w.heap.size) (fun y hy=>by rw [List.mem_singleton.1 hy];exact (h w).2) (by unfold maxLen;simp) (ze (flat.own (w:=w) (S:=fun _=>False) h).1) (fun _ h=>h.elim) rfl
 exact this
theorem kCf {xs:List ByteArray} {y:ByteArray} (h:(xs.all fun x=>decide (x.size≤64))=true) (hy:y∈xs):y.size≤64:=by have:=List.all_eq_true.1 h y hy;simpa using this
theorem kIz {xs:List Int} {y lo hi:Int} (h:(xs.all fun x=>decide (lo≤x) && decide (x≤hi))=true) (hy:y∈xs):lo≤y∧y≤hi:=by have:=List.all_eq_true.1 h y hy;simpa using this
end Rep
namespace Rep
section
variable {α β:Type} {r:Rep α} {q:Rep β} {w:World} {c c' d d':List Value} {x x':α} {y y':β} {S T:Nat→Prop}
end
section
variable {α:Type} {r:Rep α} {e:TypeId} {w:World} {v:Value} {xs ys:List α} {S T:Nat→Prop}
theorem kHy {P:Program} {t ty:TypeId} {z:Value} {bytes:Nat} (ht:P.underlying t=some (.slice e)) (hinf:(P.info? e).map (fun i=>(i.zero,i.size,i.bytes))=some (some z,r.n,bytes)) (hzs:z.cells.size=r.n) (hn:0 < r.n) (hby:bytes≤1000) (hf:r.kDe)
    (hown:kH e r w v xs S) {av:Option Addr} {len cap:Nat} (hy:(slice e r).rd w [.slice av len cap] ys) (hlen:xs.length + ys.length≤1000000000) :
    ∃ v' w',(Builtin.append_ #[t,t] ty #[v,.slice av len cap]).run P w=.ok v' w'∧kH e r w' v' (xs++ys) (fun k=>S k∨(w.heap.size≤k∧k < w'.heap.size))∧Touch S w w':=by
 obtain ⟨i,hi,hz,hsize,hbytes⟩:=info_parts hinf
 obtain ⟨cells,hsrc,hrow⟩:=raw_src hy.1
 have hrow':row r true w cells ys (fun _=>False):=kGm hf hrow
 obtain ⟨v',w',hr,h2,h3⟩:=kDp (P:=P) (ty:=ty) ht hi hz hsize hzs hn fV hown hsrc (jP hrow) (row_one hrow) hlen
 refine ⟨v',w',hr,(h3 hrow' (fun _ _ h=>h) hy.2.2).wide ?_,h2.wide (fun k hk=>hk.2)⟩
 rintro k (hk | hk | hk)
 · exact .inl hk
 · exact hk.elim
 exact .inr hk
theorem kIl {P:Program} {ops:Array Oper} {rest:List Oper} {o:Oper} {a:Act} {Q:Exit→Act→World→Prop} (hgd:o.guard=none) (s x:Operand) (t:TypeId)
    (ho:o.op=.call { callee:=.builtin .append,args:=#[s,x],argTypes:=#[t,t] })
    {z:Value} {bytes:Nat} (ht:P.underlying t=some (.slice e)) (hinf:(P.info? e).map (fun i=>(i.zero,i.size,i.bytes))=some (some z,r.n,bytes)) (hzs:z.cells.size=r.n) (hn:0 < r.n) (hby:bytes≤1000) (hf:r.kDe)
    (hown:kH e r w v xs S) (hs:a.eval s=v) {av:Option Addr} {len cap:Nat} (hx:a.eval x=.slice av len cap) (hy:(slice e r).rd w [.slice av len cap] ys) (hlen:xs.length + ys.length≤1000000000)
    (h:∀ v' w',kH e r w' v' (xs++ys) (fun k=>S k∨(w.heap.size≤k∧k < w'.heap.size))→Touch S w w'→wpList P ops Q rest (a.put o.dst v') w'):wpList P ops Q (o :: rest) a w:=by
 refine wpList_plain hgd fun _ hK=>?_
 obtain ⟨v',w',hr,h1,h2⟩:=kHy (ty:=o.type) ht hinf hzs hn hby hf hown hy hlen
 exact kM s x t ho hs hx hr (hK _ _ (h v' w' h1 h2))
end
end Rep
namespace Rep
theorem kCn:∀ (cs:List Value) (w:World) (b p:Nat),w.setCells b p cs=setCells w b p cs
  | [],_,_,_=>rfl
  | v :: cs,w,b,p=>by unfold World.setCells setCells;exact kCn cs _ b (p + 1)
section
variable {α:Type} {r:Rep α} {e:TypeId} {w:World} {xs ys:List α} {S T:Nat→Prop}
theorem kHx {P:Program} {t ty:TypeId} {z:Value} {bytes:Nat} (ht:P.underlying t=some (.slice e)) (hinf:(P.info? e).map (fun i=>(i.zero,i.size,i.bytes))=some (some z,r.n,bytes)) (hzs:z.cells.size=r.n) (hn:0 < r.n) (hby:bytes≤1000)
    {a:Option Addr} {len cap:Nat} (hown:(slice e r).own w [.slice a len cap] xs S) {sv:Value} {m:Nat} {cells:List Value} (hsrc:Src w sv m cells) (hrow:row r true w cells ys T) (hm:ys.length=m) (hb:∀ y∈ys,r.bdd Big y) (hd:∀ k,S k→T k→False) (hlen:xs.length + ys.length≤16777216) :
    ∃ v' w',(Builtin.append_ #[t,t] ty #[.slice a len cap,sv]).run P w=.ok v' w'∧(slice e r).own w' [v'] (xs++ys) (fun k=>S k∨T k∨(w.heap.size≤k∧k < w'.heap.size))∧Touch S w w':=by
 obtain ⟨i,hi,hz,hsize,hbytes⟩:=info_parts hinf
 have hlB:∀ n,n≤16777216→n≤Big:=fun n h=>by unfold Big;omega
 obtain ⟨⟨a',len',cap',h0,h1,h2,h3,h4⟩,hl0,hb0⟩:=hown
 simp only [List.cons.injEq,Value.slice.injEq,and_true] at h0
 obtain ⟨rfl,rfl,rfl⟩:=h0
 subst h1
 have hbb:∀ y∈xs++ys,r.bdd Big y:=by
  intro y hy
  rcases List.mem_append.1 hy with q | q
  · exact hb0 y q
  exact hb y q
 rcases h4 with ⟨rfl,hc0⟩|⟨b,off,rfl,cur,e',fr,p,cs,tl,g1,g2,g3,g4,g5,g6,g7⟩
 · obtain rfl:=hc0 rfl
   obtain ⟨v',w',hr,ht',ho⟩:=kDp (P:=P) (ty:=ty) (r:=r) ht hi hz hsize hzs hn fV (kH.void (a:=a) (S:=S)) hsrc (by rw [jP hrow,hm]) (row_one hrow) (by simp at hlen ⊢;omega)
   exact ⟨v',w',hr,(ho hrow hd hb).own (hlB _ (by simpa using hlen)),ht'.wide (fun k hk=>hk.2)⟩
 obtain ⟨he,hfr⟩:=g5 rfl
 rw [he,hfr] at g1
 have hcl:=jP g7
 have hsl:=jP hrow
 by_cases hm0:m=0
 · have hy0:ys=[]:=List.eq_nil_of_length_eq_zero fV
   subst hy0
   have hc:cells=[]:=hrow
   subst hc
   obtain ⟨a1,c1,rfl⟩:∃ a c,sv=.slice a 0 c:=by
    rcases hsrc with ⟨_,h⟩|⟨ad,c,h,_⟩
    · exact h
    exact ⟨_,_,by rw [h,hm0]⟩
   refine ⟨.slice (some ⟨b,off,none⟩) xs.length cap,w,?_,?_,Touch.refl _ _⟩
   · cases a1 <;> simp [Builtin.append_,run_underlying ht,sizeOf,typeInfo,hi,Builtin.lenOf,h2,Builtin.firstCells,loadCells,loadCellsFrom,storeCells]
   rw [List.append_nil]
   refine ⟨⟨_,_,cap,rfl,rfl,h2,h3,.inr ⟨b,off,rfl,cur,e,(0,0),p,cs,tl,g1,g2,g3,g4,fun _=>⟨rfl,rfl⟩,.inl g6,ko g7 (fun k hk=>⟨.inl hk.1,hk.2⟩)⟩⟩,hl0,hb0⟩
 obtain ⟨ad,c,rfl,hcell⟩:∃ ad c,sv=.slice (some ad) m c∧∀ j u,cells[j]?=some u→w.cell? (ad.add j)=some u:=by
  rcases hsrc with ⟨h,_⟩ | h
  · exact absurd h hm0
  exact h
 have hl':cells.length=m * i.size:=by rw [hsize,hsl,hm]
 have hcurl:cur.toList.length=p.length + (cs.length + tl.length):=by rw [g2];simp
 have hcs:cur.size=p.length + (cs.length + tl.length):=by rw [← hcurl,Array.length_toList]
 by_cases hroom:xs.length + m≤cap
 · have hmul:(xs.length + m) * r.n≤cap * r.n:=Nat.mul_le_mul_right _ hroom
   rw [Nat.add_mul] at hmul
   have hml:m * r.n=cells.length:=by rw [hl',hsize]
   have hpos:off + xs.length * i.size=(p++cs).length:=by rw [List.length_append,g3,hcl,hsize]
   have hr:=run_append_room_cells (P:=P) (w:=w) t ty e i ht hi b off xs.length cap ad m c cells hl' hcell (row_one hrow) hroom
     (fun j hj=>by
       rw [cell_of_row w b _ cur e (0,0) g1]
       have:off + xs.length * i.size + j < cur.size:=by rw [hpos,List.length_append];omega
       simp [this])
     (fun j _=>frozen_of_row w b _ _ _ g1)
   rw [kCn] at hr
   have hheap:=jI (e:=e) cells (tl.take cells.length) (p++cs) (tl.drop cells.length) w b (off + xs.length * i.size) (by rw [g1,List.append_assoc,List.take_append_drop,← g2]) hpos.symm (by rw [List.length_take];omega)
   refine ⟨_,_,hr,?_,(jK cells w b _).wide (fun k hk=>by rw [hk];exact g6)⟩
   have hko:∀ k,k≠b→(setCells w b (off + xs.length * i.size) cells).heap[k]?=w.heap[k]?:=fun k hk=>jL cells w b _ k hk
   refine ⟨⟨_,_,cap,rfl,by rw [List.length_append,hm],hroom,h3,.inr ⟨b,off,rfl,_,e,(0,0),p,cs++cells,tl.drop cells.length,hheap,by simp,g3,?_,fun _=>⟨rfl,rfl⟩,.inl g6,?_⟩⟩,hlB _ (by rw [List.length_append];exact hlen),hbb⟩
   · simp only [List.size_toArray,List.length_append,List.length_drop];omega
   have a1:=kw (w':=setCells w b (off + xs.length * i.size) cells) g7 (fun k hk=>hko k (hk.2 rfl))
   have a2:=kw (w':=setCells w b (off + xs.length * i.size) cells) hrow (fun k hk=>hko k (fun q=>hd b g6 (q ▸ hk)))
   exact jR a1 a2 (fun k hk=>⟨.inl hk.1,hk.2⟩) (fun k hk=>⟨.inr (.inl hk),fun _ q=>hd b g6 (q ▸ hk)⟩) (fun _ k q1 q2=>hd k q1.1 q2)
 have hcells:∀ j u,cs[j]?=some u→w.cell? ((⟨b,off,none⟩:Addr).add j)=some u:=by
  intro j u hj
  have hadd:(⟨b,off,none⟩:Addr).add j=⟨b,off + j,none⟩:=cB
  have hjl:=(List.getElem?_eq_some_iff.1 hj).1
  rw [hadd,cell_of_row w b _ cur e (0,0) g1,← Array.getElem?_toList,g2,List.getElem?_append_right fV,List.getElem?_append_left fV]
  rw [← hj];congr 1;omega
 have hby2:(xs.length + m) * i.bytes≤140737488355328:=by
  have:(xs.length + m) * i.bytes≤16777216 * 1000:=Nat.mul_le_mul fV fV
  omega
 have hr:=run_append_grow (P:=P) w t ty e i z ht hi hz ⟨b,off,none⟩ xs.length cap cs (by rw [hsize];exact hcl) hcells ad m c cells hl' hcell fV fV (growslice_fits fV hby2)
 refine ⟨_,_,hr,?_,⟨rfl,rfl,rfl,by simp,fun k hk _=>heap_alloc_old w.drew _ hk⟩⟩
 have hge:=grownCap_ge w (xs.length + m) cap e
 have hcm:=grownCap_le_maxLen w (xs.length + m) cap e dU
 refine ⟨⟨_,_,_,rfl,by rw [List.length_append,hm],hge,hcm,.inr ⟨w.heap.size,0,rfl,_,e,(0,0),[],cs++cells,(Builtin.zeroCells z.cells (grownCap w (xs.length + m) cap e - (xs.length + m))).toList,heap_alloc_new w.drew _,by simp,rfl,?_,fun _=>⟨rfl,rfl⟩,.inr (.inr ⟨Nat.le_refl _,by simp⟩),?_⟩⟩,hlB _ (by rw [List.length_append];exact hlen),hbb⟩
 · simp only [Array.size_append,List.size_toArray,size_zeroCells,hzs,hl',hcl,hsize,← Nat.add_mul]
   have:xs.length + m + (grownCap w (xs.length + m) cap e - (xs.length + m))=grownCap w (xs.length + m) cap e:=by omega
   rw [this];omega
 have a1:=ko (T:=fun k=>S k∧k < w.heap.size) (kw (w':=w.drew.alloc (.cells (cs.toArray++cells.toArray++Builtin.zeroCells z.cells (grownCap w (xs.length + m) cap e - (xs.length + m))) e)) (jM g7) (fun k hk=>heap_alloc_old w.drew _ hk.2)) (fun k hk=>⟨hk.1.1,hk.2⟩)
 have a2:=ko (T:=fun k=>T k∧k < w.heap.size) (kw (w':=w.drew.alloc (.cells (cs.toArray++cells.toArray++Builtin.zeroCells z.cells (grownCap w (xs.length + m) cap e - (xs.length + m))) e)) (jM hrow) (fun k hk=>heap_alloc_old w.drew _ hk.2)) (fun k hk=>hk)
 exact jR a1 a2 (fun k hk=>⟨.inl hk.1,fun _=>by omega⟩) (fun k hk=>⟨.inr (.inl hk.1),fun _=>by omega⟩) (fun _ k q1 q2=>hd k q1.1 q2.1)
theorem run_pushG1 {P:Program} {t ty:TypeId} {z:Value} {bytes:Nat} (ht:P.underlying t=some (.slice e)) (hinf:(P.info? e).map (fun i=>(i.zero,i.size,i.bytes))=some (some z,r.n,bytes)) (hzs:z.cells.size=r.n) (hn:0 < r.n) (hby:bytes≤1000)
    {a:Option Addr} {len cap:Nat} (hown:(slice e r).own w [.slice a len cap] xs S) {u:World} (hu:Below w.heap.size w u) {cx:List Value} {x:α} (hx:r.own u cx x T) (hd:∀ k,S k→T k→False) (hlen:xs.length < 16777216) {c:Nat} :
    ∃ v' w',(Builtin.append_ #[t,t] ty #[.slice a len cap,.slice (some ⟨u.heap.size,0,none⟩) 1 c]).run P (u.alloc (.cells cx.toArray e))=.ok v' w'∧(slice e r).own w' [v'] (xs++[x]) (fun k=>S k∨T k∨(u.heap.size≤k∧k < w'.heap.size))∧Touch (fun k=>S k∧k < w.heap.size) u w':=by
 have hub:Below u.heap.size u (u.alloc (.cells cx.toArray e)):=bR.alloc nL _
 have hS:(slice e r).own u [.slice a len cap] xs (fun k=>S k∧k < w.heap.size):=⟨(slice e r).mono ((slice e r).live hown.1) (fun k hk=>hu.block k hk.2),hown.2⟩
 have hrow:row r true (u.alloc (.cells cx.toArray e)) cx [x] (fun k=>T k∧k < u.heap.size):=ze (r.mono (r.live hx.1) (fun k hk=>hub.block k hk.2))
 have hsrc:Src (u.alloc (.cells cx.toArray e)) (.slice (some ⟨u.heap.size,0,none⟩) 1 c) 1 cx:=by
  refine .inr ⟨_,_,rfl,fun j v hj=>?_⟩
  have hadd:(⟨u.heap.size,0,none⟩:Addr).add j=⟨u.heap.size,j,none⟩:=cB
  rw [hadd,cell_of_row _ _ j cx.toArray e (0,0) (heap_alloc_new u _)]
  simpa using hj
 obtain ⟨v',w',hr,ho,htt⟩:=kHx (ty:=ty) ht hinf hzs hn hby (hS.below hub) hsrc hrow rfl (fun y hy=>by rw [List.mem_singleton.1 hy];exact hx.2) (fun k h1 h2=>hd k h1.1 h2.1) fQ
 have hs1:(u.alloc (.cells cx.toArray e)).heap.size=u.heap.size + 1:=fZ
 refine ⟨v',w',hr,⟨(slice e r).wide ho.1 ?_,ho.2⟩,(Touch.of_below hub).trans htt⟩
 rintro k (hk | hk | hk)
 · exact .inl hk.1
 · exact .inr (.inl hk.1)
 exact .inr (.inr ⟨by omega,hk.2⟩)
theorem kHf {P:Program} {ops:Array Oper} {rest:List Oper} {o:Oper} {ac:Act} {Q:Exit→Act→World→Prop} (hgd:o.guard=none) (s x:Operand) (t:TypeId)
    (ho:o.op=.call { callee:=.builtin .append,args:=#[s,x],argTypes:=#[t,t] })
    {z:Value} {bytes:Nat} (ht:P.underlying t=some (.slice e)) (hinf:(P.info? e).map (fun i=>(i.zero,i.size,i.bytes))=some (some z,r.n,bytes)) (hzs:z.cells.size=r.n) (hn:0 < r.n) (hby:bytes≤1000)
    {a:Option Addr} {len cap:Nat} (hown:(slice e r).own w [.slice a len cap] xs S) {u:World} (hu:Below w.heap.size w u) {cx:List Value} {y:α} (hy:r.own u cx y T) {c:Nat} (hs:ac.eval s=.slice a len cap) (hx:ac.eval x=.slice (some ⟨u.heap.size,0,none⟩) 1 c) (hd:∀ k,S k→T k→False) (hlen:xs.length < 16777216)
    (h:∀ v' w',(slice e r).own w' [v'] (xs++[y]) (fun k=>S k∨T k∨(u.heap.size≤k∧k < w'.heap.size))→Touch (fun k=>S k∧k < w.heap.size) u w'→wpList P ops Q rest (ac.put o.dst v') w'):wpList P ops Q (o :: rest) ac (u.alloc (.cells cx.toArray e)):=by
 refine wpList_plain hgd fun _ hK=>?_
 obtain ⟨v',w',hr,h1,h2⟩:=run_pushG1 (ty:=o.type) (c:=c) ht hinf hzs hn hby hown hu hy hd hlen
 exact kM s x t ho hs hx hr (hK _ _ (h v' w' h1 h2))
theorem run_pushGO {P:Program} {t ty:TypeId} {z:Value} {bytes:Nat} (ht:P.underlying t=some (.slice e)) (hinf:(P.info? e).map (fun i=>(i.zero,i.size,i.bytes))=some (some z,r.n,bytes)) (hzs:z.cells.size=r.n) (hn:0 < r.n) (hby:bytes≤1000)
    {a:Option Addr} {len cap:Nat} (hown:(slice e r).own w [.slice a len cap] xs S) {sv:Value} (hy:kH e r w sv ys T) (hd:∀ k,S k→T k→False) (hlen:xs.length + ys.length≤16777216) :
    ∃ v' w',(Builtin.append_ #[t,t] ty #[.slice a len cap,sv]).run P w=.ok v' w'∧(slice e r).own w' [v'] (xs++ys) (fun k=>S k∨T k∨(w.heap.size≤k∧k < w'.heap.size))∧Touch S w w':=by
 obtain ⟨hby',h⟩:=hy
 obtain ⟨cells,hsrc,hrow⟩:∃ cells,Src w sv ys.length cells∧row r true w cells ys T:=by
  rcases h with ⟨⟨a,rfl⟩,rfl⟩|⟨b,cap',cur,cs,tl,rfl,h1,h2,h3,h4,h5,h6,h7⟩
  · exact ⟨[],.inl ⟨rfl,_,_,rfl⟩,rfl⟩
  refine ⟨cs,.inr ⟨_,_,rfl,?_⟩,ko h7 (fun k hk=>hk.1)⟩
  intro j u hj
  have hadd:(⟨b,0,none⟩:Addr).add j=⟨b,j,none⟩:=cB
  rw [hadd,cell_of_row w b j cur e (0,0) h3,← Array.getElem?_toList,h4,List.getElem?_append_left (List.getElem?_eq_some_iff.1 hj).1]
  exact hj
 exact kHx ht hinf hzs hn hby hown hsrc hrow rfl hby' hd hlen
theorem kHe {P:Program} {ops:Array Oper} {rest:List Oper} {o:Oper} {ac:Act} {Q:Exit→Act→World→Prop} (hgd:o.guard=none) (s x:Operand) (t:TypeId)
    (ho:o.op=.call { callee:=.builtin .append,args:=#[s,x],argTypes:=#[t,t] })
    {z:Value} {bytes:Nat} (ht:P.underlying t=some (.slice e)) (hinf:(P.info? e).map (fun i=>(i.zero,i.size,i.bytes))=some (some z,r.n,bytes)) (hzs:z.cells.size=r.n) (hn:0 < r.n) (hby:bytes≤1000)
    {a:Option Addr} {len cap:Nat} (hown:(slice e r).own w [.slice a len cap] xs S) {sv:Value} (hy:kH e r w sv ys T) (hs:ac.eval s=.slice a len cap) (hx:ac.eval x=sv) (hd:∀ k,S k→T k→False) (hlen:xs.length + ys.length≤16777216)
    (h:∀ v' w',(slice e r).own w' [v'] (xs++ys) (fun k=>S k∨T k∨(w.heap.size≤k∧k < w'.heap.size))→Touch S w w'→wpList P ops Q rest (ac.put o.dst v') w'):wpList P ops Q (o :: rest) ac w:=by
 refine wpList_plain hgd fun _ hK=>?_
 obtain ⟨v',w',hr,h1,h2⟩:=run_pushGO (ty:=o.type) ht hinf hzs hn hby hown hy hd hlen
 exact kM s x t ho hs hx hr (hK _ _ (h v' w' h1 h2))
end
end Rep
theorem zu {w:World} {b:Nat} {a:Array Value} {t:TypeId} {v:Value} (h:w.heap[b]?=some (.cells a t (0,0))) (j:Nat):(w.setCell ⟨b,j,none⟩ v).heap[b]?=some (.cells (a.setIfInBounds j v) t (0,0)):=heap_setCell_same w b j a t v h
theorem kF (w:World) (b j:Nat) (v:Value):Touch (fun k=>k=b) w (w.setCell ⟨b,j,none⟩ v):=Rep.jK [v] w b j
end Go.Proofs.YthpgoddjglnoiaaGreatDoor

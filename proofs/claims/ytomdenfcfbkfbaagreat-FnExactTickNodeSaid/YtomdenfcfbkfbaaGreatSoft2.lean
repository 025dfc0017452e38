/-
  Thinning an owned slice in place: what is kept, what is stale, what is still to be read. No program in sight.
  Data without memory of its own; appending a whole slice of such data. No program in sight.
  What a copying call hands back: a new slice at the head of its own block. No program in sight.
  Regions with a head in another order than the text's, then a tail in sequence. No program in sight.
-/
import Derived.Test.YtomdenfcfbkfbaaGreatTake
import Derived.Laws.IdiomCopy
import Derived.Test.YtomdenfcfbkfbaaGreatBase
import Derived.Lib.Hide
import Derived.Test.YtomdenfcfbkfbaaGreatSoft
namespace Go.Proofs.YtomdenfcfbkfbaaGreat
open Go.RowKit
set_option linter.unusedVariables false
set_option linter.unusedSimpArgs false
set_option linter.unnecessarySimpa false
namespace Rep
section
variable {α:Type} {r:Rep α} {e:TypeId} {w w':World} {v:Value} {b cap n:Nat} {kept rest xs:List α} {j:Nat} {x:α} {S T:Nat→Prop}
def gap (e:TypeId) (r:Rep α) (w:World) (b cap n:Nat) (kept:List α) (j:Nat) (rest:List α) (S:Nat→Prop):Prop :=
  (∀ x∈kept,r.bdd Big x)∧(∀ x∈rest,r.bdd Big x)∧kept.length + j + rest.length=n∧n≤cap∧cap≤maxLen∧S b ∧
  ∃ (c jk d tl:List Value) (A B:Nat→Prop),w.heap[b]?=some (.cells (c++(jk++(d++tl))).toArray e (0,0))∧(c++(jk++(d++tl))).length=cap * r.n∧jk.length=j * r.n ∧
    row r true w c kept A∧row r true w d rest B∧(∀ k,A k→S k∧k≠b)∧(∀ k,B k→S k∧k≠b)∧(∀ k,A k→B k→False)
theorem gap.lt (h:gap e r w b cap n kept j rest S):b < w.heap.size:=by
 obtain ⟨_,_,_,_,_,_,c,jk,d,tl,A,B,h1,_⟩:=h
 exact (Array.getElem?_eq_some_iff.1 h1).1
theorem gap.mem (h:gap e r w b cap n kept j rest S):S b:=h.2.2.2.2.2.1
theorem gap.len (h:gap e r w b cap n kept j rest S):kept.length + j + rest.length=n∧n≤cap∧cap≤maxLen:=⟨h.2.2.1,h.2.2.2.1,h.2.2.2.2.1⟩
theorem gap.keep (h:gap e r w b cap n kept j rest S) (k:∀ k,S k→k < w.heap.size→w'.heap[k]?=w.heap[k]?):gap e r w' b cap n kept j rest S:=by
 obtain ⟨a1,a2,a3,a4,a5,a6,c,jk,d,tl,A,B,h1,h2,h3,h4,h5,h6,h7,h8⟩:=h
 refine ⟨a1,a2,a3,a4,a5,a6,c,jk,d,tl,(fun k=>A k∧k < w.heap.size),(fun k=>B k∧k < w.heap.size),(k b a6 (Array.getElem?_eq_some_iff.1 h1).1).trans h1,h2,h3,row_mono (row_live h4) (fun i hi=>k i (h6 i hi.1).1 hi.2),row_mono (row_live h5) (fun i hi=>k i (h7 i hi.1).1 hi.2),fun i hi=>h6 i hi.1,fun i hi=>h7 i hi.1,fun i h h'=>h8 i h.1 h'.1⟩
theorem gap.below (h:gap e r w b cap n kept j rest S) (k:Below w.heap.size w w'):gap e r w' b cap n kept j rest S:=h.keep (fun i _ hi=>k.block i hi)
theorem gap.frozen (h:gap e r w b cap n kept j rest S) (i:Nat):w.frozen? ⟨b,i,none⟩=false:=by
 obtain ⟨_,_,_,_,_,_,c,jk,d,tl,A,B,h1,_⟩:=h
 exact frozen_of_row w b i _ _ h1
theorem gap_start (h:own0 e r w v xs S) {i:Nat} (hi:i < xs.length):∃ b cap,v=.slice (some ⟨b,0,none⟩) xs.length cap∧gap e r w b cap xs.length (xs.take i) 0 (xs.drop i) S:=by
 obtain ⟨hb,h⟩:=h
 rcases h with ⟨⟨a,rfl⟩,rfl⟩|⟨b,cap,cur,cs,tl,rfl,h1,h2,h3,h4,h5,h6,h7⟩
 · simp at hi
 refine ⟨b,cap,rfl,fun x hx=>hb x (List.mem_of_mem_take hx),fun x hx=>hb x (List.mem_of_mem_drop hx),by simp;omega,h1,h2,h6,?_⟩
 have e1:xs=xs.take i++xs.drop i:=by simp
 rw [e1] at h7
 obtain ⟨c,d,A,B,rfl,r1,r2,hA,hB,hd⟩:=row_split _ h7
 refine ⟨c,[],d,tl,A,B,?_,?_,by simp,r1,r2,hA,hB,hd rfl⟩
 · rw [h3,show cur=(c++([]++(d++tl))).toArray from by rw [show c++([]++(d++tl))=cur.toList from by rw [h4];simp]]
 rw [← h5,← Array.length_toList,h4];simp
theorem gap.skip (h:gap e r w b cap n kept j (x :: rest) S):gap e r w b cap n kept (j + 1) rest S:=by
 obtain ⟨a1,a2,a3,a4,a5,a6,c,jk,d,tl,A,B,h1,h2,h3,h4,⟨c1,d1,A1,B1,rfl,q1,q2,hA1,hB1,hd1⟩,h6,h7,h8⟩:=h
 refine ⟨a1,fun y hy=>a2 y (by simp [hy]),by simp at a3;omega,a4,a5,a6,c,jk++c1,d1,tl,A,B1,by rw [h1];simp,by rw [← h2];simp,?_,h4,q2,h6,fun k hk=>h7 k (hB1 k hk),fun k h h'=>h8 k h (hB1 k h')⟩
 simp [h3,r.len q1,Nat.add_mul]
theorem gap.next (h:gap e r w b cap n kept j (x :: rest) S):∃ cs,r.raw w cs x∧cs.length=r.n∧r.bdd Big x∧(∀ q c,cs[q]?=some c→w.cell? ⟨b,(kept.length + j) * r.n + q,none⟩=some c) ∧
    ∀ w1,Below w.heap.size w w1→0 < j→∀ p,p=kept.length * r.n→gap e r (setCells w1 b p cs) b cap n (kept++[x]) j rest S∧Touch (fun k=>k=b) w1 (setCells w1 b p cs):=by
 have H0:=h
 obtain ⟨a1,a2,a3,a4,a5,a6,c,jk,d,tl,A,B,h1,h2,h3,h4,⟨c1,d1,A1,B1,rfl,q1,q2,hA1,hB1,hd1⟩,h6,h7,h8⟩:=h
 have hcl:=row_len h4
 have hc1:=r.len q1
 refine ⟨c1,r.wide (r.weak q1) (fun _ _=>trivial),hc1,a2 x (by simp),?_,?_⟩
 · intro q u hq
   have hql:=(List.getElem?_eq_some_iff.1 hq).1
   rw [cell_of_row w b _ _ e (0,0) h1]
   simp only [List.getElem?_toArray]
   rw [List.getElem?_append_right (by rw [hcl,Nat.add_mul];omega),List.getElem?_append_right (by rw [hcl,h3,Nat.add_mul];omega),List.append_assoc,List.getElem?_append_left (by rw [hcl,h3,Nat.add_mul];omega)]
   rw [← hq];congr 1;rw [hcl,h3,Nat.add_mul];omega
 intro w1 hw hj p hp
 refine ⟨?_,touch_setCells _ _ _ _⟩
 obtain ⟨b1,b2,b3,b4,b5,b6,_⟩:=H0
 have hblk:w1.heap[b]?=_:=(hw.block b (Array.getElem?_eq_some_iff.1 h1).1).trans h1
 have hjn:r.n≤jk.length:=by rw [h3];exact Nat.le_mul_of_pos_left _ hj
 have hst:(setCells w1 b p c1).heap[b]?=some (.cells (c++(c1++(jk.drop r.n++((c1++d1)++tl)))).toArray e (0,0)):=by
  refine setCells_heap c1 (jk.take r.n) c (jk.drop r.n++((c1++d1)++tl)) w1 b p ?_ (by rw [hcl,hp]) (by rw [List.length_take,hc1];omega)
  rw [hblk,← List.append_assoc (jk.take r.n),List.take_append_drop]
 have oth:∀ k,k≠b→k < w.heap.size→(setCells w1 b p c1).heap[k]?=w.heap[k]?:=fun k hk hl=>(setCells_other c1 w1 b p k hk).trans (hw.block k hl)
 refine ⟨?_,fun y hy=>a2 y (by simp [hy]),by simp at a3 ⊢;omega,a4,a5,a6,c++c1,jk.drop r.n++c1,d1,tl,(fun k=>(A k∨A1 k)∧k < w.heap.size),(fun k=>B1 k∧k < w.heap.size),by rw [hst];simp,?_,?_,?_,?_,?_,?_,?_⟩
 · intro y hy
   rcases List.mem_append.1 hy with hy | hy
   · exact a1 y hy
   obtain rfl:y=x:=by simpa using hy
   exact a2 y (by simp)
 · rw [← h2];simp;omega
 · rw [List.length_append,List.length_drop,h3,hc1];have:=h3;omega
 · refine row_append (A:=fun k=>A k∧k < w.heap.size) (B:=fun k=>A1 k∧k < w.heap.size) (row_mono (row_live h4) (fun k hk=>oth k (h6 k hk.1).2 hk.2)) (row_mono (row_live (row_single q1)) (fun k hk=>oth k (h7 k (hA1 k hk.1)).2 hk.2)) (fun k hk=>⟨.inl hk.1,hk.2⟩) (fun k hk=>⟨.inr hk.1,hk.2⟩) (fun _ k h h'=>h8 k h.1 (hA1 k h'.1))
 · exact row_mono (row_live q2) (fun k hk=>oth k (h7 k (hB1 k hk.1)).2 hk.2)
 · rintro k ⟨hk | hk,_⟩
   · exact h6 k hk
   exact h7 k (hA1 k hk)
 · intro k hk;exact h7 k (hB1 k hk.1)
 rintro k ⟨hk | hk,_⟩ h'
 · exact h8 k hk (hB1 k h'.1)
 exact hd1 rfl k hk h'.1
theorem setCells_lib:∀ (cs:List Value) (w:World) (b p:Nat),w.setCells b p cs=setCells w b p cs
  | [],_,_,_=>rfl
  | c :: cs,w,b,p=>by
    simp only [World.setCells,setCells]
    exact setCells_lib cs _ b (p + 1)
theorem gap.cells (h:gap e r w b cap n kept j rest S) {i:Nat} (hi:i < cap * r.n):(w.cell? ⟨b,i,none⟩).isSome=true:=by
 obtain ⟨_,_,_,_,_,_,c,jk,d,tl,A,B,h1,h2,_⟩:=h
 rw [cell_of_row w b _ _ e (0,0) h1]
 simp only [List.getElem?_toArray]
 rw [List.getElem?_eq_getElem (by rw [h2];exact hi)]
 rfl
theorem gap.wipe (h:gap e r w b cap n kept j [] S) {zs:List Value} (hz:zs.length=j * r.n) {p:Nat} (hp:p=kept.length * r.n) :
    own0 e r (setCells w b p zs) (.slice (some ⟨b,0,none⟩) kept.length cap) kept S∧Touch (fun k=>k=b) w (setCells w b p zs):=by
 obtain ⟨a1,a2,a3,a4,a5,a6,c,jk,d,tl,A,B,h1,h2,h3,h4,h5,h6,h7,h8⟩:=h
 obtain rfl:d=[]:=h5
 have hcl:=row_len h4
 refine ⟨⟨a1,.inr ⟨b,cap,_,c,zs++tl,rfl,by simp at a3;omega,a5,?_,rfl,?_,a6,?_⟩⟩,touch_setCells _ _ _ _⟩
 · exact setCells_heap zs jk c tl w b p (by simpa using h1) (by rw [hcl,hp]) (by rw [h3,hz])
 · rw [← h2];simp;omega
 exact row_wide (row_mono (row_live h4) (fun k hk=>setCells_other zs w b p k (h6 k hk.1).2)) (fun k hk=>h6 k hk.1)
theorem gap.done (h:gap e r w b cap n kept 0 [] S):own0 e r w (.slice (some ⟨b,0,none⟩) kept.length cap) kept S:=by
 have:=(h.wipe (zs:=[]) (by simp) rfl).1
 exact this
theorem run_clear {P:Program} {t ty:TypeId} {z:Value} (ht:P.underlying t=some (.slice e)) (hv:∀ w,(zeroValue e).run P w=.ok z w) (h1:∀ u∈z.cells,u.oneCell'=true) (b o m c:Nat) (hm:0 < m)
    (hc:∀ j,j < (Builtin.zeroCells z.cells m).size→(w.cell? ⟨b,o + j,none⟩).isSome=true) (hf:∀ j,j < (Builtin.zeroCells z.cells m).size→w.frozen? ⟨b,o + j,none⟩=false) (hz0:0 < z.cells.size) :
    (Builtin.clear_ #[t] ty #[.slice (some ⟨b,o,none⟩) m c]).run P w=.ok (.tuple #[]) (setCells w b o (Builtin.zeroCells z.cells m).toList):=by
 have hone:∀ v∈(Builtin.zeroCells z.cells m).toList,v.oneCell'=true:=by
  intro v hv'
  simp only [Builtin.zeroCells,Array.toList_map,List.mem_map] at hv'
  obtain ⟨i,_,rfl⟩:=hv'
  have hlt:=Nat.mod_lt i hz0
  rw [getElem!_pos z.cells _ hlt]
  exact h1 _ (Array.getElem_mem hlt)
 have hst:=run_storeCells_cells (P:=P) b o (Builtin.zeroCells z.cells m).toList 0 w (by simpa using hc) (by simpa using hf) hone
 simp only [Nat.add_zero] at hst
 obtain ⟨q,rfl⟩:∃ q,m=q + 1:=⟨m - 1,by omega⟩
 rw [← setCells_lib]
 simp [Builtin.clear_,run_underlying ht,hv,hst]
theorem zero_of_info {P:Program} {i:TypeInfo} {z:Value} (hi:P.info? e=some i) (hz:i.zero=some z):∀ w,(zeroValue e).run P w=.ok z w:=by
 intro w
 simp [zeroValue,typeInfo,hi,hz]
theorem gap.run_clear {P:Program} {t ty:TypeId} {z:Value} {bytes:Nat} (h:gap e r w b cap n kept j [] S) (hj:0 < j) (ht:P.underlying t=some (.slice e)) (hinf:(P.info? e).map (fun i=>(i.zero,i.size,i.bytes))=some (some z,r.n,bytes)) (hzs:z.cells.size=r.n) (hn:0 < r.n) (hone:∀ u∈z.cells,u.oneCell'=true)
    {p c:Nat} (hp:p=kept.length * r.n) :
    ∃ w',(Builtin.clear_ #[t] ty #[.slice (some ⟨b,p,none⟩) j c]).run P w=.ok (.tuple #[]) w'∧own0 e r w' (.slice (some ⟨b,0,none⟩) kept.length cap) kept S∧Touch (fun k=>k=b) w w':=by
 obtain ⟨i,hi,hz,hsize,hbytes⟩:=info_parts hinf
 have hsz:(Builtin.zeroCells z.cells j).size=j * r.n:=by rw [size_zeroCells,hzs]
 have hl:=h.len
 have hroom:∀ q,q < j * r.n→p + q < cap * r.n:=by
  intro q hq
  have h1:(kept.length + j) * r.n≤cap * r.n:=Nat.mul_le_mul_right _ (by have:=hl.1;simp at this;omega)
  rw [Nat.add_mul] at h1;omega
 have hr:=Rep.run_clear (P:=P) (ty:=ty) (w:=w) ht (zero_of_info hi hz) hone b p j c hj (fun q hq=>h.cells (hroom q (by rwa [hsz] at hq))) (fun q _=>h.frozen _) (by omega)
 obtain ⟨h1,h2⟩:=h.wipe (zs:=(Builtin.zeroCells z.cells j).toList) (by simpa using hsz) hp
 exact ⟨_,hr,h1,h2⟩
end
end Rep
end Go.Proofs.YtomdenfcfbkfbaaGreat
namespace Go.Proofs.YtomdenfcfbkfbaaGreat
open Go.RowKit
set_option linter.unusedVariables false
namespace Rep
def IsFlat {α:Type} (r:Rep α):Prop:=∀ {o:Bool} {w w':World} {cs:List Value} {x:α} {S:Nat→Prop},r.is o w cs x S→r.is true w' cs x (fun _=>False)
theorem isFlat_int:int.IsFlat:=fun h=>h
theorem isFlat_byte:byte.IsFlat:=fun h=>h
theorem isFlat_str:str.IsFlat:=fun h=>h
theorem isFlat_pair {α β:Type} {r:Rep α} {s:Rep β} (h:r.IsFlat) (k:s.IsFlat):(pair r s).IsFlat:=by
 intro o w w' cs x S q
 obtain ⟨c,d,A,B,rfl,h1,h2,_⟩:=q
 exact ⟨c,d,_,_,rfl,h h1,k h2,fun _ h=>h,fun _ h=>h,fun _ _ h _=>h⟩
section
variable {α:Type} {r:Rep α} {e:TypeId} {w w':World} {v:Value} {xs ys:List α} {S T:Nat→Prop}
theorem row_flat (hr:r.IsFlat) {o:Bool}:∀ {cells:List Value} {ys:List α} {S:Nat→Prop},row r o w cells ys S→row r true w' cells ys (fun _=>False)
  | _,[],_,h=>h
  | _,y :: ys,_,⟨c,d,A,B,h,h1,h2,_⟩=>⟨c,d,_,_,h,hr h1,row_flat hr h2,fun _ h=>h,fun _ h=>h,fun _ _ h _=>h⟩
theorem kU {P:Program} {t ty:TypeId} {z:Value} {bytes:Nat} (ht:P.underlying t=some (.slice e)) (hinf:(P.info? e).map (fun i=>(i.zero,i.size,i.bytes))=some (some z,r.n,bytes)) (hzs:z.cells.size=r.n) (hn:0 < r.n) (hby:bytes≤1000) (hf:r.IsFlat)
    {B:Nat} (hown:own0 e r w v xs S) {av:Option Addr} {len cap:Nat} (hy:(slice e r).rd w [.slice av len cap] ys) (hSB:∀ k,S k→B≤k∧k < w.heap.size) (hB:B≤w.heap.size) (hlen:xs.length + ys.length≤1000000000) :
    ∃ v' w',(Builtin.append_ #[t,t] ty #[v,.slice av len cap]).run P w=.ok v' w'∧own0 e r w' v' (xs++ys) (Btw B w'.heap.size)∧Below B w w'∧w.heap.size≤w'.heap.size:=by
 obtain ⟨i,hi,hz,hsize,hbytes⟩:=info_parts hinf
 obtain ⟨cells,hsrc,hrow⟩:=raw_src hy.1
 have hrow':row r true w cells ys (fun _=>False):=row_flat hf hrow
 obtain ⟨v',w',hr,h2,h3⟩:=run_push (P:=P) (ty:=ty) ht hi hz hsize hzs hn (by omega) hown hsrc (row_len hrow) (row_one hrow) hlen
 refine ⟨v',w',hr,(h3 hrow' (fun _ _ h=>h) hy.2.2).wide ?_,h2.below hB ?_,h2.size⟩
 · intro k hk
   have hs:=h2.size
   rcases hk with hk | hk | hk
   · have:=hSB k hk;exact ⟨this.1,by omega⟩
   · exact hk.elim
   exact ⟨by omega,hk.2⟩
 intro k hk;exact (hSB k hk.2).1
theorem wp_append {P:Program} {o:Oper} {a:Act} {K:Act→World→Prop} {Q:Exit→Act→World→Prop} (s x:Operand) (t:TypeId)
    (ho:o.op=.call { callee:=.builtin .append,args:=#[s,x],argTypes:=#[t,t] }) {v sv v':Value} (hs:a.eval s=v) (hx:a.eval x=sv) {w w':World}
    (hr:(Builtin.append_ #[t,t] o.type #[v,sv]).run P w=.ok v' w') (h:K (a.put o.dst v') w'):o.wp P a w K Q:=by
 unfold Oper.wp execOp
 simp only [ho,resolve,invoke,builtin,Sem.run_bind,Sem.run_pure,Result.andThen_ok,List.map_toArray,List.map_cons,List.map_nil,hs,hx,hr]
 exact h
theorem wpList_pushN {P:Program} {ops:Array Oper} {rest:List Oper} {o:Oper} {a:Act} {Q:Exit→Act→World→Prop} (hgd:o.guard=none) (s x:Operand) (t:TypeId)
    (ho:o.op=.call { callee:=.builtin .append,args:=#[s,x],argTypes:=#[t,t] })
    {z:Value} {bytes:Nat} (ht:P.underlying t=some (.slice e)) (hinf:(P.info? e).map (fun i=>(i.zero,i.size,i.bytes))=some (some z,r.n,bytes)) (hzs:z.cells.size=r.n) (hn:0 < r.n) (hby:bytes≤1000) (hf:r.IsFlat)
    {B:Nat} (hown:own0 e r w v xs S) (hs:a.eval s=v) {av:Option Addr} {len cap:Nat} (hx:a.eval x=.slice av len cap) (hy:(slice e r).rd w [.slice av len cap] ys) (hSB:∀ k,S k→B≤k∧k < w.heap.size) (hB:B≤w.heap.size) (hlen:xs.length + ys.length≤1000000000)
    (h:∀ v' w',own0 e r w' v' (xs++ys) (Btw B w'.heap.size)→Below B w w'→w.heap.size≤w'.heap.size→wpList P ops Q rest (a.put o.dst v') w'):wpList P ops Q (o :: rest) a w:=by
 refine wpList_plain hgd fun _ hK=>?_
 obtain ⟨v',w',hr,h1,h2,h3⟩:=kU (ty:=o.type) ht hinf hzs hn hby hf hown hy hSB hB hlen
 exact wp_append s x t ho hs hx hr (hK _ _ (h v' w' h1 h2 h3))
end
end Rep
end Go.Proofs.YtomdenfcfbkfbaaGreat
namespace Go.Proofs.YtomdenfcfbkfbaaGreat
open Go.RowKit
set_option linter.unusedVariables false
variable {α:Type} {r:Rep α} {e:TypeId} {w w':World} {v:Value} {xs ys:List α} {S:Nat→Prop}
def Made0 (e:TypeId) (r:Rep α) (x:List α) (w:World) (E:Ending) (w':World):Prop:=∃ v,E=.returned v∧Rep.own0 e r w' v x (Btw w.heap.size w'.heap.size)∧Below w.heap.size w w'
theorem Rep.own0.cast (h:Rep.own0 e r w v xs S) (k:xs=ys):Rep.own0 e r w v ys S:=k ▸ h
theorem Rep.own0.parts (h:Rep.own0 e r w v xs S):∃ a n cap,v=.slice a n cap∧Hid (n=xs.length):=by
 obtain ⟨a,cap,h⟩:=h.none_iff
 exact ⟨a,_,cap,h,hD rfl⟩
theorem Made0.post {E:Ending} (h:Made0 e r xs w E w') (hl:xs.length≤Big):MadePost (Rep.slice e r) xs w E w':=by
 obtain ⟨v,rfl,h1,h2⟩:=h
 exact ⟨v,rfl,h1.own hl,h2⟩
theorem filter_yes {α:Type} {p:α→Bool} {l:List α} {k:Nat} (h:k < l.length) (q:p l[k]=true):(l.take (k + 1)).filter p=(l.take k).filter p++[l[k]]:=by
 rw [List.take_succ_eq_append_getElem h,List.filter_append]
 simp [q]
theorem filter_no {α:Type} {p:α→Bool} {l:List α} {k:Nat} (h:k < l.length) (q:p l[k]=false):(l.take (k + 1)).filter p=(l.take k).filter p:=by
 rw [List.take_succ_eq_append_getElem h,List.filter_append]
 simp [q]
theorem filter_take_le {α:Type} {p:α→Bool} {l:List α} {k:Nat} (h:k≤l.length):((l.take k).filter p).length≤k:=by
 have h1:=List.length_filter_le p (l.take k)
 rw [List.length_take_of_le h] at h1
 exact h1
end Go.Proofs.YtomdenfcfbkfbaaGreat
namespace Go.Proofs.YtomdenfcfbkfbaaGreat
open Go
set_option linter.unusedVariables false
section
variable {P:Program} {ops:Array Oper} {S:World→Prop} {Q:Exit→Act→World→Prop}
def softTBP (md:Region.Mode) (ops:Array Oper) (n g:Nat):List (Nat × Bool)→Array Bool→Bool
  | [],listed=>Region.seqB md ops g n listed
  | (k,true) :: p,listed=>(Region.ready md ops listed).contains k && Region.free md ops listed k && softTBP md ops n g p (listed.setIfInBounds k true)
  | (k,false) :: p,listed=>(Region.ready md ops listed==[k]) && softTBP md ops n g p (listed.setIfInBounds k true)
def softTPOk (md:Region.Mode) (ops:Array Oper) (q:List (Nat × Bool)):Bool :=
  Region.noSelect ops && (decide (q.length < ops.size) && (q.all (fun x=>decide (x.1 < q.length)) && (Region.sinkB md ops q.length && (Region.chainB md ops q.length && softTBP md ops q.length (ops.size - q.length) q (Array.replicate ops.size false)))))
theorem wpAnyLS_softP {l:List Oper} {n g:Nat} (hsel:Region.noSelect l.toArray=true) (hQ:∀ c a d v w,Q (.panic c) (Act.put a d v) w→Q (.panic c) a w)
    (hs:Region.sinkB .any l.toArray n=true) (hc:Region.chainB .any l.toArray n=true) (hn:n < l.toArray.size) (hg:n + g=l.length):∀ (q:List (Nat × Bool)) (k:Nat) (listed:Array Bool) (a:Act) (w:World),
    q.all (fun x=>decide (x.1 < n))=true→HeadInv .any l.toArray n listed→softTBP .any l.toArray n g q listed=true→S w→softR P l.toArray S Q k (pickOps l q++l.drop n) (q.map (·.2)) a w →
    wpAnyLS P .any l.toArray Q S n (fun listed a w=>Region.seqB .any l.toArray g n listed=true∧∃ r,(∀ j,r[j]?=l.toArray[n + j]?)∧r.length=g∧wpList P l.toArray Q r a w) q.length listed a w
  | [],k,listed,a,w,_,inv,hB,hS,h=>by
    refine ⟨by simpa [softTBP] using hB,l.drop n,fun j=>by simp [List.getElem?_drop],by simp;omega,?_⟩
    simp only [pickOps,List.nil_append,List.map_nil] at h
    generalize l.drop n=r at h ⊢
    cases r <;> exact h
  | (i,true) :: q,k,listed,a,w,hi,inv,hB,hS,h=>by
    simp only [List.all_cons,Bool.and_eq_true,decide_eq_true_eq] at hi
    have hil:i < l.toArray.size:=Nat.lt_trans hi.1 hn
    have h0:l.toArray[i]?=some l.toArray[i]:=Array.getElem?_eq_getElem hil
    have hp:pickOps l ((i,true) :: q)=l.toArray[i] :: pickOps l q:=by
      have:l[i]?=some l.toArray[i]:=by simp
      simp only [pickOps,this]
    rw [hp] at h
    obtain ⟨v,hy,h⟩:=h
    simp only [softTBP,Bool.and_eq_true] at hB
    have hr:i∈Region.ready .any l.toArray listed:=by simpa using hB.1.1
    exact wpAnyLS_first h0 (Region.noSelect_spec hsel) (fun c a w=>hQ c a _ _ w) hs hc hn hi.1 (fun listed' a' w' hL=>seqB_ready hL.1) q.length listed a w inv (Region.free_spec h0 hB.1.2) hr hy hS
      (wpAnyLS_softP hsel hQ hs hc hn hg q (k + 1) _ _ _ hi.2 (inv.set hr hi.1) hB.2 hS h)
  | (i,false) :: q,k,listed,a,w,hi,inv,hB,hS,h=>by
    simp only [List.all_cons,Bool.and_eq_true,decide_eq_true_eq] at hi
    have hil:i < l.toArray.size:=Nat.lt_trans hi.1 hn
    have h0:l.toArray[i]?=some l.toArray[i]:=Array.getElem?_eq_getElem hil
    have hp:pickOps l ((i,false) :: q)=l.toArray[i] :: pickOps l q:=by
      have:l[i]?=some l.toArray[i]:=by simp
      simp only [pickOps,this]
    rw [hp] at h
    simp only [softTBP,Bool.and_eq_true,beq_iff_eq] at hB
    have hr:i∈Region.ready .any l.toArray listed:=by rw [hB.1];simp
    refine ⟨by rw [hB.1];simp,fun j hj=>?_⟩
    rw [hB.1] at hj
    obtain rfl:j=i:=by simpa using hj
    refine ⟨hi.1,?_⟩
    refine wpOp_mono (fun a' w' h'=>⟨h'.1,wpAnyLS_softP hsel hQ hs hc hn hg q (k + 1) _ _ _ hi.2 (inv.set hr hi.1) hB.2 h'.1 h'.2⟩) (K:=fun a' w'=>S w'∧softR P l.toArray S Q (k + 1) (pickOps l q++l.drop n) (q.map (·.2)) a' w') ?_
    unfold wpOp
    simp only [h0]
    exact h
theorem wp_region_softP_tail {id:Nat} {a:Act} {w:World} {l:List Oper} (S:World→Prop) (q:List (Nat × Bool)) (hm:P.follows .mixedOrders=true) (hB:softTPOk .any l.toArray q=true)
    (hQ:∀ c a d v w,Q (.panic c) (Act.put a d v) w→Q (.panic c) a w) (hS:S { w with drawn:=w.drawn + 1 })
    (h:∀ w',S w'→soft P l.toArray S Q 0 (pickOps l q++l.drop q.length) (q.map (·.2)) a w'):(Code.region id l.toArray true).wp P Q a w:=by
 simp only [softTPOk,Bool.and_eq_true,decide_eq_true_eq] at hB
 have h:=h _ hS
 unfold soft at h
 have hsz:l.toArray.size=l.length:=by simp
 have inv0:HeadInv .any l.toArray q.length (Array.replicate l.toArray.size false) :=
   ⟨by simp,fun j oj _ hl=>(by rw [getD_replicate_false] at hl;cases hl),fun t _ ht=>getD_in (by simpa using ht) (getD_replicate_false _ _)⟩
 have H:=wpAnyLS_softP (g:=l.toArray.size - q.length) hB.1 hQ hB.2.2.2.1 hB.2.2.2.2.1 hB.2.1 (by have:=hB.2.1;omega) q 0 _ a _ hB.2.2.1 inv0 hB.2.2.2.2.2 hS h
 refine wp_region_any hm ?_
 have:=wpAny_of_headS (Q:=Q) (g:=l.toArray.size - q.length) (fun listed a' w' hL=>by
   obtain ⟨hq,l',ho,hl',hw⟩:=hL
   have:=wpAny_of_seq (md:=.any) (Q':=Q) l' q.length listed a' w' ho (by rw [hl'];exact hq) hw
   rwa [hl'] at this) _ _ _ _ H
 rw [show q.length + (l.toArray.size - q.length)=l.toArray.size by have:=hB.2.1;omega] at this
 exact this
end
end Go.Proofs.YtomdenfcfbkfbaaGreat

/-
  Thinning an owned slice in place: what is kept, what is stale, what is still to be read. No program in sight.
-/
import Derived.Test.YthpgoddjglnoiaaGreatDoorNum
import Derived.Laws.IdiomCopy
set_option linter.unusedVariables false
set_option linter.unusedSimpArgs false
set_option linter.unnecessarySimpa false
namespace Go.Proofs.YthpgoddjglnoiaaGreatDoor
open Go.RowKit
namespace Rep
section
variable {α:Type} {r:Rep α} {e:TypeId} {w w':World} {v:Value} {b cap n:Nat} {kept rest xs:List α} {j:Nat} {x:α} {S T:Nat→Prop}
def gap (e:TypeId) (r:Rep α) (w:World) (b cap n:Nat) (kept:List α) (j:Nat) (rest:List α) (S:Nat→Prop):Prop :=
  (∀ x∈kept,r.bdd Big x)∧(∀ x∈rest,r.bdd Big x)∧kept.length + j + rest.length=n∧n≤cap∧cap≤maxLen∧S b ∧
  ∃ (c jk d tl:List Value) (A B:Nat→Prop),w.heap[b]?=some (.cells (c++(jk++(d++tl))).toArray e (0,0))∧(c++(jk++(d++tl))).length=cap * r.n∧jk.length=j * r.n ∧
    row r true w c kept A∧row r true w d rest B∧(∀ k,A k→S k∧k≠b)∧(∀ k,B k→S k∧k≠b)∧(∀ k,A k→B k→False)
theorem gap.lt (h:gap e r w b cap n kept j rest S):b < w.heap.size:=by
 obtain ⟨_,_,_,_,_,_,c,jk,d,tl,A,B,h1,_⟩:=h
 exact (Array.getElem?_eq_some_iff.1 h1).1
theorem gap.mem (h:gap e r w b cap n kept j rest S):S b:=h.2.2.2.2.2.1
theorem gap.len (h:gap e r w b cap n kept j rest S):kept.length + j + rest.length=n∧n≤cap∧cap≤maxLen:=⟨h.2.2.1,h.2.2.2.1,h.2.2.2.2.1⟩
theorem gap.keep (h:gap e r w b cap n kept j rest S) (k:∀ k,S k→k < w.heap.size→w'.heap[k]?=w.heap[k]?):gap e r w' b cap n kept j rest S:=by
 obtain ⟨a1,a2,a3,a4,a5,a6,c,jk,d,tl,A,B,h1,h2,h3,h4,h5,h6,h7,h8⟩:=h
 refine ⟨a1,a2,a3,a4,a5,a6,c,jk,d,tl,(fun k=>A k∧k < w.heap.size),(fun k=>B k∧k < w.heap.size),(k b a6 (Array.getElem?_eq_some_iff.1 h1).1).trans h1,h2,h3,kw (jM h4) (fun i hi=>k i (h6 i hi.1).1 hi.2),kw (jM h5) (fun i hi=>k i (h7 i hi.1).1 hi.2),fun i hi=>h6 i hi.1,fun i hi=>h7 i hi.1,fun i h h'=>h8 i h.1 h'.1⟩
theorem gap.below (h:gap e r w b cap n kept j rest S) (k:Below w.heap.size w w'):gap e r w' b cap n kept j rest S:=h.keep (fun i _ hi=>k.block i hi)
theorem gap.frozen (h:gap e r w b cap n kept j rest S) (i:Nat):w.frozen? ⟨b,i,none⟩=false:=by
 obtain ⟨_,_,_,_,_,_,c,jk,d,tl,A,B,h1,_⟩:=h
 exact frozen_of_row w b i _ _ h1
theorem gap_start (h:kH e r w v xs S) {i:Nat} (hi:i < xs.length):∃ b cap,v=.slice (some ⟨b,0,none⟩) xs.length cap∧gap e r w b cap xs.length (xs.take i) 0 (xs.drop i) S:=by
 obtain ⟨hb,h⟩:=h
 rcases h with ⟨⟨a,rfl⟩,rfl⟩|⟨b,cap,cur,cs,tl,rfl,h1,h2,h3,h4,h5,h6,h7⟩
 · simp at hi
 refine ⟨b,cap,rfl,fun x hx=>hb x (List.mem_of_mem_take hx),fun x hx=>hb x (List.mem_of_mem_drop hx),by simp;omega,h1,h2,h6,?_⟩
 have e1:xs=xs.take i++xs.drop i:=fZ
 rw [e1] at h7
 obtain ⟨c,d,A,B,rfl,r1,r2,hA,hB,hd⟩:=kAl _ h7
 refine ⟨c,[],d,tl,A,B,?_,?_,by simp,r1,r2,hA,hB,hd rfl⟩
 · rw [h3,show cur=(c++([]++(d++tl))).toArray from by rw [show c++([]++(d++tl))=cur.toList from by rw [h4];simp]]
 rw [← h5,← Array.length_toList,h4];simp
theorem gap.skip (h:gap e r w b cap n kept j (x :: rest) S):gap e r w b cap n kept (j + 1) rest S:=by
 obtain ⟨a1,a2,a3,a4,a5,a6,c,jk,d,tl,A,B,h1,h2,h3,h4,⟨c1,d1,A1,B1,rfl,q1,q2,hA1,hB1,hd1⟩,h6,h7,h8⟩:=h
 refine ⟨a1,fun y hy=>a2 y (by simp [hy]),by simp at a3;omega,a4,a5,a6,c,jk++c1,d1,tl,A,B1,by rw [h1];simp,by rw [← h2];simp,?_,h4,q2,h6,fun k hk=>h7 k (hB1 k hk),fun k h h'=>h8 k h (hB1 k h')⟩
 simp [h3,r.len q1,Nat.add_mul]
theorem gap.next (h:gap e r w b cap n kept j (x :: rest) S):∃ cs,r.raw w cs x∧cs.length=r.n∧r.bdd Big x∧(∀ q c,cs[q]?=some c→w.cell? ⟨b,(kept.length + j) * r.n + q,none⟩=some c) ∧
    ∀ w1,Below w.heap.size w w1→0 < j→∀ p,p=kept.length * r.n→gap e r (setCells w1 b p cs) b cap n (kept++[x]) j rest S∧Touch (fun k=>k=b) w1 (setCells w1 b p cs):=by
 have H0:=h
 obtain ⟨a1,a2,a3,a4,a5,a6,c,jk,d,tl,A,B,h1,h2,h3,h4,⟨c1,d1,A1,B1,rfl,q1,q2,hA1,hB1,hd1⟩,h6,h7,h8⟩:=h
 have hcl:=jP h4
 have hc1:=r.len q1
 refine ⟨c1,r.wide (r.weak q1) (fun _ _=>trivial),hc1,a2 x fZ,?_,?_⟩
 · intro q u hq
   have hql:=(List.getElem?_eq_some_iff.1 hq).1
   rw [cell_of_row w b _ _ e (0,0) h1]
   simp only [List.getElem?_toArray]
   rw [List.getElem?_append_right (by rw [hcl,Nat.add_mul];omega),List.getElem?_append_right (by rw [hcl,h3,Nat.add_mul];omega),List.append_assoc,List.getElem?_append_left (by rw [hcl,h3,Nat.add_mul];omega)]
   rw [← hq];congr 1;rw [hcl,h3,Nat.add_mul];omega
 intro w1 hw hj p hp
 refine ⟨?_,jK _ _ _ _⟩
 obtain ⟨b1,b2,b3,b4,b5,b6,_⟩:=H0
 have hblk:w1.heap[b]?=_:=(hw.block b (Array.getElem?_eq_some_iff.1 h1).1).trans h1
 have hjn:r.n≤jk.length:=by rw [h3];exact Nat.le_mul_of_pos_left _ hj
 have hst:(setCells w1 b p c1).heap[b]?=some (.cells (c++(c1++(jk.drop r.n++((c1++d1)++tl)))).toArray e (0,0)):=by
  refine jI c1 (jk.take r.n) c (jk.drop r.n++((c1++d1)++tl)) w1 b p ?_ (by rw [hcl,hp]) (by rw [List.length_take,hc1];omega)
  rw [hblk,← List.append_assoc (jk.take r.n),List.take_append_drop]
 have oth:∀ k,k≠b→k < w.heap.size→(setCells w1 b p c1).heap[k]?=w.heap[k]?:=fun k hk hl=>(jL c1 w1 b p k hk).trans (hw.block k hl)
 refine ⟨?_,fun y hy=>a2 y (by simp [hy]),by simp at a3 ⊢;omega,a4,a5,a6,c++c1,jk.drop r.n++c1,d1,tl,(fun k=>(A k∨A1 k)∧k < w.heap.size),(fun k=>B1 k∧k < w.heap.size),by rw [hst];simp,?_,?_,?_,?_,?_,?_,?_⟩
 · intro y hy
   rcases List.mem_append.1 hy with hy | hy
   · exact a1 y hy
   obtain rfl:y=x:=by simpa using hy
   exact a2 y fZ
 · rw [← h2];simp;omega
 · rw [List.length_append,List.length_drop,h3,hc1];have:=h3;omega
 · refine jR (A:=fun k=>A k∧k < w.heap.size) (B:=fun k=>A1 k∧k < w.heap.size) (kw (jM h4) (fun k hk=>oth k (h6 k hk.1).2 hk.2)) (kw (jM (ze q1)) (fun k hk=>oth k (h7 k (hA1 k hk.1)).2 hk.2)) (fun k hk=>⟨.inl hk.1,hk.2⟩) (fun k hk=>⟨.inr hk.1,hk.2⟩) (fun _ k h h'=>h8 k h.1 (hA1 k h'.1))
 · exact kw (jM q2) (fun k hk=>oth k (h7 k (hB1 k hk.1)).2 hk.2)
 · rintro k ⟨hk | hk,_⟩
   · exact h6 k hk
   exact h7 k (hA1 k hk)
 · intro k hk;exact h7 k (hB1 k hk.1)
 rintro k ⟨hk | hk,_⟩ h'
 · exact h8 k hk (hB1 k h'.1)
 exact hd1 rfl k hk h'.1
theorem zP:∀ (cs:List Value) (w:World) (b p:Nat),w.setCells b p cs=setCells w b p cs
  | [],_,_,_=>rfl
  | c :: cs,w,b,p=>by
    simp only [World.setCells,setCells]
    exact zP cs _ b (p + 1)
theorem gap.cells (h:gap e r w b cap n kept j rest S) {i:Nat} (hi:i < cap * r.n):(w.cell? ⟨b,i,none⟩).isSome=true:=by
 obtain ⟨_,_,_,_,_,_,c,jk,d,tl,A,B,h1,h2,_⟩:=h
 rw [cell_of_row w b _ _ e (0,0) h1]
 simp only [List.getElem?_toArray]
 rw [List.getElem?_eq_getElem (by rw [h2];exact hi)]
 rfl
theorem gap.wipe (h:gap e r w b cap n kept j [] S) {zs:List Value} (hz:zs.length=j * r.n) {p:Nat} (hp:p=kept.length * r.n) :
    kH e r (setCells w b p zs) (.slice (some ⟨b,0,none⟩) kept.length cap) kept S∧Touch (fun k=>k=b) w (setCells w b p zs):=by
 obtain ⟨a1,a2,a3,a4,a5,a6,c,jk,d,tl,A,B,h1,h2,h3,h4,h5,h6,h7,h8⟩:=h
 obtain rfl:d=[]:=h5
 have hcl:=jP h4
 refine ⟨⟨a1,.inr ⟨b,cap,_,c,zs++tl,rfl,by simp at a3;omega,a5,?_,rfl,?_,a6,?_⟩⟩,jK _ _ _ _⟩
 · exact jI zs jk c tl w b p fH (by rw [hcl,hp]) (by rw [h3,hz])
 · rw [← h2];simp;omega
 exact ko (kw (jM h4) (fun k hk=>jL zs w b p k (h6 k hk.1).2)) (fun k hk=>h6 k hk.1)
theorem gap.done (h:gap e r w b cap n kept 0 [] S):kH e r w (.slice (some ⟨b,0,none⟩) kept.length cap) kept S:=by
 have:=(h.wipe (zs:=[]) fZ rfl).1
 exact this
theorem kEk {P:Program} {t ty:TypeId} {z:Value} (ht:P.underlying t=some (.slice e)) (hv:∀ w,(zeroValue e).run P w=.ok z w) (h1:∀ u∈z.cells,u.oneCell'=true) (b o m c:Nat) (hm:0 < m)
    (hc:∀ j,j < (Builtin.zeroCells z.cells m).size→(w.cell? ⟨b,o + j,none⟩).isSome=true) (hf:∀ j,j < (Builtin.zeroCells z.cells m).size→w.frozen? ⟨b,o + j,none⟩=false) (hz0:0 < z.cells.size) :
    (Builtin.clear_ #[t] ty #[.slice (some ⟨b,o,none⟩) m c]).run P w=.ok (.tuple #[]) (setCells w b o (Builtin.zeroCells z.cells m).toList):=by
 have hone:∀ v∈(Builtin.zeroCells z.cells m).toList,v.oneCell'=true:=by
  intro v hv'
  simp only [Builtin.zeroCells,Array.toList_map,List.mem_map] at hv'
  obtain ⟨i,_,rfl⟩:=hv'
  have hlt:=Nat.mod_lt i hz0
  rw [getElem!_pos z.cells _ hlt]
  exact h1 _ (Array.getElem_mem hlt)
 have hst:=run_storeCells_cells (P:=P) b o (Builtin.zeroCells z.cells m).toList 0 w fG fJ hone
 simp only [Nat.add_zero] at hst
 obtain ⟨q,rfl⟩:∃ q,m=q + 1:=⟨m - 1,by omega⟩
 rw [← zP]
 simp [Builtin.clear_,run_underlying ht,hv,hst]
theorem zero_of_info {P:Program} {i:TypeInfo} {z:Value} (hi:P.info? e=some i) (hz:i.zero=some z):∀ w,(zeroValue e).run P w=.ok z w:=by
 intro w
 simp [zeroValue,typeInfo,hi,hz]
theorem gap.kEk {P:Program} {t ty:TypeId} {z:Value} {bytes:Nat} (h:gap e r w b cap n kept j [] S) (hj:0 < j) (ht:P.underlying t=some (.slice e)) (hinf:(P.info? e).map (fun i=>(i.zero,i.size,i.bytes))=some (some z,r.n,bytes)) (hzs:z.cells.size=r.n) (hn:0 < r.n) (hone:∀ u∈z.cells,u.oneCell'=true)
    {p c:Nat} (hp:p=kept.length * r.n) :
    ∃ w',(Builtin.clear_ #[t] ty #[.slice (some ⟨b,p,none⟩) j c]).run P w=.ok (.tuple #[]) w'∧kH e r w' (.slice (some ⟨b,0,none⟩) kept.length cap) kept S∧Touch (fun k=>k=b) w w':=by
 obtain ⟨i,hi,hz,hsize,hbytes⟩:=info_parts hinf
 have hsz:(Builtin.zeroCells z.cells j).size=j * r.n:=by rw [size_zeroCells,hzs]
 have hl:=h.len
 have hroom:∀ q,q < j * r.n→p + q < cap * r.n:=by
  intro q hq
  have h1:(kept.length + j) * r.n≤cap * r.n:=Nat.mul_le_mul_right _ (by have:=hl.1;simp at this;omega)
  rw [Nat.add_mul] at h1;omega
 have hr:=Rep.kEk (P:=P) (ty:=ty) (w:=w) ht (zero_of_info hi hz) hone b p j c hj (fun q hq=>h.cells (hroom q (by rwa [hsz] at hq))) (fun q _=>h.frozen _) fV
 obtain ⟨h1,h2⟩:=h.wipe (zs:=(Builtin.zeroCells z.cells j).toList) (by simpa using hsz) hp
 exact ⟨_,hr,h1,h2⟩
end
end Rep
end Go.Proofs.YthpgoddjglnoiaaGreatDoor

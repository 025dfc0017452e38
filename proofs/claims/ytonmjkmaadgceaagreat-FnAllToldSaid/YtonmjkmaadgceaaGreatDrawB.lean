/-
  Reading with a known footprint, and lists under construction whose elements are read in an elder world. No program in sight.
-/
import Derived.Test.YtonmjkmaadgceaaGreatCopy
set_option linter.unusedVariables false
set_option linter.unusedSimpArgs false
set_option linter.unnecessarySimpa false
set_option maxRecDepth 100000
set_option maxHeartbeats 4000000
namespace Go.Proofs.YtonmjkmaadgceaaGreat
open Go.RowKit _root_.Go.Proofs.Tryz
namespace kE
section
variable {α:Type} {r:kE α} {e:TypeId} {w w':World} {v:Value} {b cap n:Nat} {kept rest xs:List α} {j:Nat} {x:α} {S T:Nat→Prop}
def gap (e:TypeId) (r:kE α) (w:World) (b cap n:Nat) (kept:List α) (j:Nat) (rest:List α) (S:Nat→Prop):Prop :=
  (∀ x∈kept,r.bdd Big x)∧(∀ x∈rest,r.bdd Big x)∧kept.length + j + rest.length=n∧n≤cap∧cap≤maxLen∧S b ∧
  ∃ (c D d tl:List Value) (A B:Nat→Prop),w.heap[b]?=some (.cells (c++(D++(d++tl))).toArray e (0,0))∧(c++(D++(d++tl))).length=cap * r.n∧D.length=j * r.n ∧
    row r true w c kept A∧row r true w d rest B∧(∀ k,A k→S k∧k≠b)∧(∀ k,B k→S k∧k≠b)∧(∀ k,A k→B k→False)
theorem gap.lt (h:gap e r w b cap n kept j rest S):b < w.heap.size:=by
 obtain ⟨_,_,_,_,_,_,c,D,d,tl,A,B,h1,_⟩:=h
 exact (Array.getElem?_eq_some_iff.1 h1).1
theorem gap.mem (h:gap e r w b cap n kept j rest S):S b:=h.2.2.2.2.2.1
theorem gap.len (h:gap e r w b cap n kept j rest S):kept.length + j + rest.length=n∧n≤cap∧cap≤maxLen:=⟨h.2.2.1,h.2.2.2.1,h.2.2.2.2.1⟩
theorem gap.keep (h:gap e r w b cap n kept j rest S) (k:∀ k,S k→k < w.heap.size→w'.heap[k]?=w.heap[k]?):gap e r w' b cap n kept j rest S:=by
 obtain ⟨a1,a2,a3,a4,a5,U,c,D,d,tl,A,B,h1,h2,h3,h4,h5,h6,h7,h8⟩:=h
 refine ⟨a1,a2,a3,a4,a5,U,c,D,d,tl,(fun k=>A k∧k < w.heap.size),(fun k=>B k∧k < w.heap.size),(k b U (Array.getElem?_eq_some_iff.1 h1).1).trans h1,h2,h3,yC (zK h4) (fun i hi=>k i (h6 i hi.1).1 hi.2),yC (zK h5) (fun i hi=>k i (h7 i hi.1).1 hi.2),fun i hi=>h6 i hi.1,fun i hi=>h7 i hi.1,fun i h G=>h8 i h.1 G.1⟩
theorem gap.below (h:gap e r w b cap n kept j rest S) (k:Below w.heap.size w w'):gap e r w' b cap n kept j rest S:=h.keep (fun i _ hi=>k.block i hi)
theorem gap.frozen (h:gap e r w b cap n kept j rest S) (i:Nat):w.frozen? ⟨b,i,none⟩=false:=by
 obtain ⟨_,_,_,_,_,_,c,D,d,tl,A,B,h1,_⟩:=h
 exact frozen_of_row w b i _ _ h1
theorem kFm (h:ku e r w v xs S) {i:Nat} (hi:i < xs.length):∃ b cap,v=.slice (some ⟨b,0,none⟩) xs.length cap∧gap e r w b cap xs.length (xs.take i) 0 (xs.drop i) S:=by
 obtain ⟨hb,h⟩:=h
 rcases h with ⟨⟨a,rfl⟩,rfl⟩|⟨b,cap,cur,cs,tl,rfl,h1,h2,h3,h4,h5,h6,h7⟩
 · simp at hi
 refine ⟨b,cap,rfl,fun x hx=>hb x (List.mem_of_mem_take hx),fun x hx=>hb x (List.mem_of_mem_drop hx),by simp;omega,h1,h2,h6,?_⟩
 have O:xs=xs.take i++xs.drop i:=bC0
 rw [O] at h7
 obtain ⟨c,d,A,B,rfl,r1,r2,hA,hB,hd⟩:=kOt _ h7
 refine ⟨c,[],d,tl,A,B,?_,?_,by simp,r1,r2,hA,hB,hd rfl⟩
 · rw [h3,show cur=(c++([]++(d++tl))).toArray from by rw [show c++([]++(d++tl))=cur.toList from by rw [h4];simp]]
 rw [← h5,← Array.length_toList,h4];simp
theorem gap.skip (h:gap e r w b cap n kept j (x :: rest) S):gap e r w b cap n kept (j + 1) rest S:=by
 obtain ⟨a1,a2,a3,a4,a5,U,c,D,d,tl,A,B,h1,h2,h3,h4,⟨c1,W,A1,B1,rfl,q1,q2,hA1,F,hd1⟩,h6,h7,h8⟩:=h
 refine ⟨a1,fun y hy=>a2 y bB7,by simp at a3;omega,a4,a5,U,c,D++c1,W,tl,A,B1,by rw [h1];simp,by rw [← h2];simp,?_,h4,q2,h6,fun k hk=>h7 k (F k hk),fun k h G=>h8 k h (F k G)⟩
 simp [h3,r.len q1,Nat.add_mul]
theorem gap.next (h:gap e r w b cap n kept j (x :: rest) S):∃ cs,r.raw w cs x∧cs.length=r.n∧r.bdd Big x∧(∀ q c,cs[q]?=some c→w.cell? ⟨b,(kept.length + j) * r.n + q,none⟩=some c) ∧
    ∀ w1,Below w.heap.size w w1→0 < j→∀ p,p=kept.length * r.n→gap e r (setCells w1 b p cs) b cap n (kept++[x]) j rest S∧Touch (fun k=>k=b) w1 (setCells w1 b p cs):=by
 have H0:=h
 obtain ⟨a1,a2,a3,a4,a5,U,c,D,d,tl,A,B,h1,h2,h3,h4,⟨c1,W,A1,B1,rfl,q1,q2,hA1,F,hd1⟩,h6,h7,h8⟩:=h
 have N:=zH h4
 have ag:=r.len q1
 refine ⟨c1,r.wide (r.weak q1) (fun _ _=>trivial),ag,a2 x bC0,?_,?_⟩
 · exact iW
 intro w1 hw I p hp
 refine ⟨?_,zn _ _ _ _⟩
 obtain ⟨b1,b2,O,L,V,X,_⟩:=H0
 have R:w1.heap[b]?=_:=(hw.block b (Array.getElem?_eq_some_iff.1 h1).1).trans h1
 have ab:r.n≤D.length:=by rw [h3];exact Nat.le_mul_of_pos_left _ I
 have H:(setCells w1 b p c1).heap[b]?=some (.cells (c++(c1++(D.drop r.n++((c1++W)++tl)))).toArray e (0,0)):=by
  refine kCw c1 (D.take r.n) c (D.drop r.n++((c1++W)++tl)) w1 b p ?_ (by rw [N,hp]) (by rw [List.length_take,ag];omega)
  rw [R,← List.append_assoc (D.take r.n),List.take_append_drop]
 have E:∀ k,k≠b→k < w.heap.size→(setCells w1 b p c1).heap[k]?=w.heap[k]?:=fun k hk hl=>(kBb c1 w1 b p k hk).trans (hw.block k hl)
 refine ⟨?_,fun y hy=>a2 y bB7,by simp at a3 ⊢;omega,a4,a5,U,c++c1,D.drop r.n++c1,W,tl,(fun k=>(A k∨A1 k)∧k < w.heap.size),(fun k=>B1 k∧k < w.heap.size),by rw [H];simp,?_,?_,?_,?_,?_,?_,?_⟩
 · intro y hy
   rcases List.mem_append.1 hy with hy | hy
   · exact a1 y hy
   obtain rfl:y=x:=by simpa using hy
   exact a2 y bC0
 · rw [← h2];simp;omega
 · rw [List.length_append,List.length_drop,h3,ag];have:=h3;omega
 · refine kAg (A:=fun k=>A k∧k < w.heap.size) (B:=fun k=>A1 k∧k < w.heap.size) (yC (zK h4) (fun k hk=>E k (h6 k hk.1).2 hk.2)) (yC (zK (kFv q1)) (fun k hk=>E k (h7 k (hA1 k hk.1)).2 hk.2)) (fun k hk=>⟨.inl hk.1,hk.2⟩) (fun k hk=>⟨.inr hk.1,hk.2⟩) (fun _ k h G=>h8 k h.1 (hA1 k G.1))
 · exact yC (zK q2) (fun k hk=>E k (h7 k (F k hk.1)).2 hk.2)
 · rintro k ⟨hk | hk,_⟩
   · exact h6 k hk
   exact h7 k (hA1 k hk)
 · intro k hk;exact h7 k (F k hk.1)
 rintro k ⟨hk | hk,_⟩ G
 · exact h8 k hk (F k G.1)
 exact hd1 rfl k hk G.1
theorem kNg:∀ (cs:List Value) (w:World) (b p:Nat),w.setCells b p cs=setCells w b p cs
  | [],_,_,_=>rfl
  | c :: cs,w,b,p=>by
    simp only [World.setCells,setCells]
    exact kNg cs _ b (p + 1)
theorem gap.cells (h:gap e r w b cap n kept j rest S) {i:Nat} (hi:i < cap * r.n):(w.cell? ⟨b,i,none⟩).isSome=true:=by
 obtain ⟨_,_,_,_,_,_,c,D,d,tl,A,B,h1,h2,_⟩:=h
 rw [cell_of_row w b _ _ e (0,0) h1]
 simp only [List.getElem?_toArray]
 rw [List.getElem?_eq_getElem (by rw [h2];exact hi)]
 rfl
theorem gap.wipe (h:gap e r w b cap n kept j [] S) {zs:List Value} (hz:zs.length=j * r.n) {p:Nat} (hp:p=kept.length * r.n) :
    ku e r (setCells w b p zs) (.slice (some ⟨b,0,none⟩) kept.length cap) kept S∧Touch (fun k=>k=b) w (setCells w b p zs):=by
 obtain ⟨a1,a2,a3,a4,a5,U,c,D,d,tl,A,B,h1,h2,h3,h4,h5,h6,h7,h8⟩:=h
 obtain rfl:d=[]:=h5
 have N:=zH h4
 refine ⟨⟨a1,.inr ⟨b,cap,_,c,zs++tl,rfl,by simp at a3;omega,a5,?_,rfl,?_,U,?_⟩⟩,zn _ _ _ _⟩
 · exact kCw zs D c tl w b p wM (by rw [N,hp]) (by rw [h3,hz])
 · rw [← h2];simp;omega
 exact yH (yC (zK h4) (fun k hk=>kBb zs w b p k (h6 k hk.1).2)) (fun k hk=>h6 k hk.1)
theorem gap.done (h:gap e r w b cap n kept 0 [] S):ku e r w (.slice (some ⟨b,0,none⟩) kept.length cap) kept S:=by
 have:=(h.wipe (zs:=[]) bC0 rfl).1
 exact this
theorem kDr {P:Program} {t ty:TypeId} {z:Value} (ht:P.underlying t=some (.slice e)) (hv:∀ w,(zeroValue e).run P w=.ok z w) (h1:∀ u∈z.cells,u.oneCell'=true) (b o m c:Nat) (hm:0 < m)
    (hc:∀ j,j < (Builtin.zeroCells z.cells m).size→(w.cell? ⟨b,o + j,none⟩).isSome=true) (hf:∀ j,j < (Builtin.zeroCells z.cells m).size→w.frozen? ⟨b,o + j,none⟩=false) (bb:0 < z.cells.size) :
    (Builtin.clear_ #[t] ty #[.slice (some ⟨b,o,none⟩) m c]).run P w=.ok (.tuple #[]) (setCells w b o (Builtin.zeroCells z.cells m).toList):=by
 have au:∀ v∈(Builtin.zeroCells z.cells m).toList,v.oneCell'=true:=by
  intro v D
  simp only [Builtin.zeroCells,Array.toList_map,List.mem_map] at D
  obtain ⟨i,_,rfl⟩:=D
  have hlt:=Nat.mod_lt i bb
  rw [getElem!_pos z.cells _ hlt]
  exact h1 _ (Array.getElem_mem hlt)
 have H:=run_storeCells_cells (P:=P) b o (Builtin.zeroCells z.cells m).toList 0 w wN wX au
 simp only [Nat.add_zero] at H
 obtain ⟨q,rfl⟩:∃ q,m=q + 1:=⟨m - 1,by omega⟩
 rw [← kNg]
 simp [Builtin.clear_,run_underlying ht,hv,H]
theorem zero_of_info {P:Program} {i:TypeInfo} {z:Value} (hi:P.info? e=some i) (hz:i.zero=some z):∀ w,(zeroValue e).run P w=.ok z w:=by
 intro w
 simp [zeroValue,typeInfo,hi,hz]
theorem gap.kDr {P:Program} {t ty:TypeId} {z:Value} {bytes:Nat} (h:gap e r w b cap n kept j [] S) (I:0 < j) (ht:P.underlying t=some (.slice e)) (hinf:(P.info? e).map (fun i=>(i.zero,i.size,i.bytes))=some (some z,r.n,bytes)) (hzs:z.cells.size=r.n) (hn:0 < r.n) (au:∀ u∈z.cells,u.oneCell'=true)
    {p c:Nat} (hp:p=kept.length * r.n) :
    ∃ w',(Builtin.clear_ #[t] ty #[.slice (some ⟨b,p,none⟩) j c]).run P w=.ok (.tuple #[]) w'∧ku e r w' (.slice (some ⟨b,0,none⟩) kept.length cap) kept S∧Touch (fun k=>k=b) w w':=by
 obtain ⟨i,hi,hz,hsize,E⟩:=info_parts hinf
 have b0:(Builtin.zeroCells z.cells j).size=j * r.n:=by rw [size_zeroCells,hzs]
 have hl:=h.len
 have D:∀ q,q < j * r.n→p + q < cap * r.n:=by
  intro q hq
  have h1:(kept.length + j) * r.n≤cap * r.n:=Nat.mul_le_mul_right _ (by have:=hl.1;simp at this;omega)
  rw [Nat.add_mul] at h1;omega
 have hr:=kE.kDr (P:=P) (ty:=ty) (w:=w) ht (zero_of_info hi hz) au b p j c I (fun q hq=>h.cells (D q (by rwa [b0] at hq))) (fun q _=>h.frozen _) bB9
 obtain ⟨h1,h2⟩:=h.wipe (zs:=(Builtin.zeroCells z.cells j).toList) (by simpa using b0) hp
 exact ⟨_,hr,h1,h2⟩
theorem run_shift {P:Program} {t ty:TypeId} {i:TypeInfo} (ht:P.underlying t=some (.slice e)) (hi:P.info? e=some i) (hsize:i.size=r.n)
    (h:gap e r w b cap n kept j rest S) {ad:Addr} {c:Nat} (I:rest≠[]→ad=⟨b,(kept.length + j) * r.n,none⟩) (hn:0 < r.n) :
    ∃ w',(Builtin.append_ #[t,t] ty #[.slice (some ⟨b,0,none⟩) kept.length cap,.slice (some ad) rest.length c]).run P w=.ok (.slice (some ⟨b,0,none⟩) (kept.length + rest.length) cap) w' ∧
      gap e r w' b cap n (kept++rest) j [] S∧Touch (fun k=>k=b) w w':=by
 obtain ⟨a1,a2,a3,a4,a5,U,cc,D,d,tl,A,B,h1,h2,h3,h4,h5,h6,h7,h8⟩:=h
 by_cases cf:rest=[]
 · subst cf
   obtain rfl:d=[]:=h5
   refine ⟨w,?_,⟨by simpa using a1,by simp,by simpa using a3,a4,a5,U,cc,D,[],tl,A,B,by simpa using h1,by simpa using h2,h3,by simpa using h4,rfl,h6,h7,h8⟩,Touch.refl _ _⟩
   have Z:kept.length≤cap:=by simp at a3;omega
   simp [Builtin.append_,run_underlying ht,sizeOf,typeInfo,hi,Builtin.lenOf,Z,Builtin.firstCells,loadCells,loadCellsFrom,storeCells]
 obtain rfl:=I cf
 have N:=zH h4
 have Y:=zH h5
 have hne:0 < rest.length:=List.length_pos_iff.2 cf
 have ae:∀ q u,d[q]?=some u→w.cell? ((⟨b,(kept.length + j) * r.n,none⟩:Addr).add q)=some u:=by
  intro q u hq
  have bf:=(List.getElem?_eq_some_iff.1 hq).1
  have F:(⟨b,(kept.length + j) * r.n,none⟩:Addr).add q=⟨b,(kept.length + j) * r.n + q,none⟩:=qN
  rw [F,cell_of_row w b _ _ e (0,0) h1]
  simp only [List.getElem?_toArray]
  rw [List.getElem?_append_right tH,List.getElem?_append_right sF,List.getElem?_append_left sF]
  rw [← hq];congr 1;rw [N,h3,Nat.add_mul];omega
 have R:kept.length * i.size + d.length≤(cc++(D++(d++tl))).toArray.size:=by simp [hsize,N];omega
 have hr:=run_append_room (P:=P) w t ty e i ht hi b kept.length cap _ h1 ⟨b,(kept.length + j) * r.n,none⟩ rest.length c d (by rw [hsize];exact Y) ae (row_one h5) bB9 R
 refine ⟨_,hr,?_,⟨rfl,rfl,rfl,by simp,fun k _ hk=>setRow_other w b k _ hk⟩⟩
 have E:∀ X k,k≠b→(w.setRow b X).heap[k]?=w.heap[k]?:=fun X k hk=>setRow_other w b k _ hk
 have V:(cc++(D++(d++tl))).toArray.toList.take (kept.length * i.size)=cc:=by rw [hsize,← N];simp
 have W:(cc++(D++(d++tl))).toArray.toList.drop (kept.length * i.size + d.length)=(D++(d++tl)).drop d.length:=by rw [hsize,← N];simp
 rw [V,W]
 have H:(D++(d++tl)).drop d.length=(D++d).drop d.length++tl:=by
  rw [← List.append_assoc,List.drop_append_of_le_length bC0]
 refine ⟨?_,by simp,by simp;omega,a4,a5,U,cc++d,(D++d).drop d.length,[],tl,(fun k=>A k∨B k),(fun _=>False),?_,?_,?_,?_,rfl,?_,fun _ h=>h.elim,fun _ _ h=>h⟩
 · intro y hy
   rcases List.mem_append.1 hy with hy | hy
   · exact a1 y hy
   exact a2 y hy
 · rw [setRow_heap w b _ _ e _ h1,H];simp
 · rw [← h2];simp;omega
 · simp [h3]
 · exact kAg (A:=A) (B:=B) (yC h4 (fun k hk=>E _ k (h6 k hk).2)) (yC h5 (fun k hk=>E _ k (h7 k hk).2)) (fun k hk=>.inl hk) (fun k hk=>.inr hk) (fun _ k h G=>h8 k h G)
 rintro k (hk | hk)
 · exact h6 k hk
 exact h7 k hk
end
end kE
variable {α:Type} {r:kE α} {e:TypeId} {w w':World} {v:Value} {xs ys:List α} {S:Nat→Prop}
def zz (e:TypeId) (r:kE α) (x:List α) (w:World) (E:Ending) (w':World):Prop:=∃ v,E=.returned v∧kE.ku e r w' v x (jR w.heap.size w'.heap.size)∧Below w.heap.size w w'
theorem kE.ku.cast (h:kE.ku e r w v xs S) (k:xs=ys):kE.ku e r w v ys S:=k ▸ h
theorem kE.ku.parts (h:kE.ku e r w v xs S):∃ a n cap,v=.slice a n cap∧Hid (n=xs.length):=by
 obtain ⟨a,cap,h⟩:=h.zL
 exact ⟨a,_,cap,h,yD rfl⟩
theorem zz.post {E:Ending} (h:zz e r xs w E w') (hl:xs.length≤Big):kCk (kE.slice e r) xs w E w':=by
 obtain ⟨v,rfl,h1,h2⟩:=h
 exact ⟨v,rfl,h1.own hl,h2⟩
theorem kMp {α:Type} {p:α→Bool} {l:List α} {k:Nat} (h:k < l.length) (q:p l[k]=true):(l.take (k + 1)).filter p=(l.take k).filter p++[l[k]]:=by
 rw [List.take_succ_eq_append_getElem h,List.filter_append]
 simp [q]
theorem kPp {α:Type} {p:α→Bool} {l:List α} {k:Nat} (h:k < l.length) (q:p l[k]=false):(l.take (k + 1)).filter p=(l.take k).filter p:=by
 rw [List.take_succ_eq_append_getElem h,List.filter_append]
 simp [q]
theorem kGa {α:Type} {p:α→Bool} {l:List α} {k:Nat} (h:k≤l.length):((l.take k).filter p).length≤k:=by
 have h1:=List.length_filter_le p (l.take k)
 rw [List.length_take_of_le h] at h1
 exact h1
theorem fm_yes {α β:Type} {p:α→Bool} {g:α→β} {l:List α} {k:Nat} (h:k < l.length) (q:p l[k]=true):((l.take (k + 1)).filter p).map g=((l.take k).filter p).map g++[g l[k]]:=by rw [kMp h q,List.map_append];rfl
theorem fm_no {α β:Type} {p:α→Bool} {g:α→β} {l:List α} {k:Nat} (h:k < l.length) (q:p l[k]=false):((l.take (k + 1)).filter p).map g=((l.take k).filter p).map g:=by rw [kPp h q]
theorem fm_le {α β:Type} {p:α→Bool} {g:α→β} {l:List α} {k:Nat} (h:k≤l.length):(((l.take k).filter p).map g).length≤k:=by rw [List.length_map];exact kGa h
def yM (ps:List ByteArray):Prop:=∀ p∈ps,p.size≤64
theorem yM.snoc {ps:List ByteArray} {y:ByteArray} (h:yM ps) (hy:y.size≤64):yM (ps++[y]):=fun p hp=>by
  rcases List.mem_append.1 hp with hp | hp
  · exact h p hp
  · rw [List.mem_singleton.1 hp];exact hy
theorem yM.nil:yM []:=fun p hp=>by simp at hp
theorem yM.drop {ps:List ByteArray} (h:yM ps) (k:Nat):yM (ps.drop k):=fun p hp=>h p (List.mem_of_mem_drop hp)
def kCd (M:Nat) (ps:List ByteArray):Prop:=∀ p∈ps,p.size≤M
theorem kCd.nil {M:Nat}:kCd M []:=fun p hp=>by simp at hp
theorem kCd.drop {M:Nat} {ps:List ByteArray} (h:kCd M ps) (k:Nat):kCd M (ps.drop k):=fun p hp=>h p (List.mem_of_mem_drop hp)
theorem kCd.cut {M:Nat} {ps:List ByteArray} {s:ByteArray} (h:kCd M ps) (hs:s.size≤M) (m k:Nat):kCd M (ps++[s.extract m k]):=fun p hp=>by
  rcases List.mem_append.1 hp with hp | hp
  · exact h p hp
  · rw [List.mem_singleton.1 hp];simp only [ByteArray.size_extract];omega
theorem kLl {w:World} {s:ByteArray} {M:Nat} (hM:M≤1000) (hs:s.size≤M) {by0:Nat} (hb:by0 < 256) :
    Calls prog 164 #[.string s,.int .u8 by0] w fun e w'=>∃ v,e=.returned v∧∃ ps,kE.ku 9 kE.str w' v ps (jR w.heap.size w'.heap.size)∧0 < ps.length∧ps.length≤M + 1∧kCd M ps∧Below w.heap.size w w':=by
 go_enter func164,ntmps164
 go_wp2
 go_loopw [5,6,7] (fun v f i wr=>∃ (k m:Nat) (ps:List ByteArray),k≤s.size + 1∧m≤k∧i=.int .i64 k∧f=.int .i64 m∧ps.length≤k∧(k=s.size + 1→0 < ps.length)∧Hid (kCd M ps)∧Hid (kE.ku 9 kE.str wr v ps (jR w.heap.size wr.heap.size))∧Below w.heap.size w wr) (fun _ _ i _=>s.size + 1 - (intOf i).toNat)
 case atStart=>exact ⟨0,0,[],by omega,by omega,rfl,rfl,by simp,by omega,yD kCd.nil,yD kE.ku.void,bR.alloc nL _⟩
 obtain ⟨k,m,ps,hk,hm,rfl,rfl,dz,b7,ah,L,D⟩:=hrel
 obtain ⟨oa,on,oc,ho,bl⟩:=L.out.parts;obtain rfl:=ho
 have dh:=D.size
 have di:=Int.natCast_nonneg k
 have bq:=Int.natCast_nonneg m
 by_cases am:k≤s.size
 · have F:(k:Int)≤s.size:=bB9
   by_cases he:k=s.size
   · have H:(k:Int)=s.size:=bB9
     have fb:(m:Int)≤k:=bB9
     go_wp2_with (at_builtin;refine kE.jK rfl _ _ 39 rfl (r:=kE.str) (e:=9) underlying39 kCp rfl bB8 bB8 (B:=w.heap.size) L.out bC1 bC1 rfl (kE.flat.own (S:=fun _=>False) (kE.kCy (s:=s.extract m s.size) gQ)) rfl (fun _ _ h=>h) rE (fun _ h=>h.elim) bB9 bB9 ?_)
     intro v2 V G ab an
     have ag:=yD G
     obtain ⟨pa,pn,pc,hp,a7⟩:=G.parts;obtain rfl:=hp
     have Y:=D.trans ab
     clear G ab
     go_wp2
     go_roundw
     case rel=>exact ⟨k + 1,k + 1,_,by omega,by omega,by go_num,by go_num,by simp;omega,by simp,yD (ah.out.cut hs m s.size),ag,Y⟩
     simp [intOf];omega
   have H:¬ (k:Int)=s.size:=bB9
   have bj:(k:Int) < s.size:=bB9
   have aa:k < s.size:=bB9
   have fb:(m:Int)≤k:=bB9
   go_upto_region 6 with fail
   refine kz (fun W=>Below wr.heap.size wr W) [true,true,true,true,true,true,true,true,true,true,true] (bR) ?_
   intro wS E
   iterate 4
    all_goals refine kS ?_
   all_goals (have O:=True.intro;first|(refine yT (fun b O=>?_);cases b;all_goals first | exact Bool.noConfusion O | simp only [zU,zV] at O | skip) | refine kS ?_)
   all_goals refine kX ?_
   iterate 5
    all_goals refine kS ?_
   all_goals (have J:=True.intro;first|(refine yT (fun b J=>?_);cases b;all_goals first | exact Bool.noConfusion J | simp only [zU,zV] at J | skip) | refine kS ?_)
   all_goals refine kX ?_
   all_goals refine kZ ?_
   all_goals replace D:=(tQ D E)
   all_goals replace L:=yD ((L.out.below E).wide (T:=jR w.heap.size wS.heap.size) (fun j I=>⟨I.1,by have:=I.2;have:=E.size;omega⟩))
   all_goals have dh:=D.size
   all_goals clear E
   all_goals first
     | (go_wp2;go_roundw;(case rel=>exact ⟨k + 1,m,ps,by omega,by omega,by go_num,rfl,by omega,by omega,ah,L,D⟩);(case measure=>simp [intOf];omega))
     | skip
   all_goals
     go_wp2_with (at_builtin;refine kE.jK rfl _ _ 39 rfl (r:=kE.str) (e:=9) underlying39 kCp rfl bB8 bB8 (B:=w.heap.size) L.out bC1 bC1 rfl (kE.flat.own (S:=fun _=>False) (kE.kCy (s:=s.extract m k) gQ)) rfl (fun _ _ h=>h) rE (fun _ h=>h.elim) bB9 bB9 ?_)
     intro v2 V G ab an
     have ag:=yD G
     obtain ⟨pa,pn,pc,hp,a7⟩:=G.parts;obtain rfl:=hp
     have Y:=D.trans ab
     clear G ab
     go_wp2
     go_roundw
     case rel=>exact ⟨k + 1,k + 1,_,by omega,by omega,by go_num,by go_num,by simp;omega,by simp,yD (ah.out.cut hs m k),ag,Y⟩
     case measure=>simp [intOf];omega
 have F:¬ (k:Int)≤s.size:=bB9
 have hp:=b7 bB9
 go_wp2
 go_ret
 exact ⟨_,rfl,ps,L.out,hp,by omega,ah.out,D⟩
theorem kLk {w:World} {s:ByteArray} (hs:s.size≤64) {by0:Nat} (hb:by0 < 256) :
    Calls prog 164 #[.string s,.int .u8 by0] w fun e w'=>∃ v,e=.returned v∧∃ ps,kE.ku 9 kE.str w' v ps (jR w.heap.size w'.heap.size)∧0 < ps.length∧ps.length≤65∧yM ps∧Below w.heap.size w w':=kLl (M:=64) bB8 hs hb
namespace kE
section
variable {α β:Type} {r:kE α} {q:kE β} {e:TypeId} {w w' W W':World} {v:Value} {cs ds:List Value} {x:α} {xs:List α} {S T F G:Nat→Prop}
def jY (r:kE α) (w:World) (cs:List Value) (x:α) (S:Nat→Prop):Prop:=r.is false w cs x S∧r.bdd Big x
theorem jY.rd (h:r.jY w cs x S):r.rd w cs x:=⟨r.wide h.1 (fun _ _=>trivial),h.2⟩
theorem jY.wide (h:r.jY w cs x S) (k:∀ k,S k→T k):r.jY w cs x T:=⟨r.wide h.1 k,h.2⟩
theorem jY.keep (h:r.jY w cs x S) (k:∀ k,S k→k < w.heap.size→w'.heap[k]?=w.heap[k]?):r.jY w' cs x S :=
  ⟨r.wide (r.mono (r.live h.1) (fun j I=>k j I.1 I.2)) (fun j I=>I.1),h.2⟩
theorem jY.below (h:r.jY w cs x S) (b:Below w.heap.size w w'):r.jY w' cs x S:=h.keep (fun k _ hk=>b.block k hk)
theorem jY.touch (h:r.jY w cs x S) (b:Touch T w w') (hd:∀ k,S k→¬ T k):r.jY w' cs x S:=h.keep (fun k hk hl=>b.block k hl (hd k hk))
theorem own.jY (h:r.own w cs x S):r.jY w cs x S:=⟨r.weak h.1,h.2⟩
theorem ku.jY (h:ku e r w v xs S) (hl:xs.length≤Big):(slice e r).jY w [v] xs S:=(h.own hl).jY
theorem flat.jY (h:r.flat cs x):r.jY w cs x S:=(flat.own h).jY
theorem kAi {z:α × β} (h:r.jY w cs z.1 S) (k:q.jY w ds z.2 S):(pair r q).jY w (cs++ds) z S :=
  ⟨⟨cs,ds,S,S,rfl,h.1,k.1,fun _ h=>h,fun _ h=>h,fun h=>by cases h⟩,h.2,k.2⟩
theorem kCx {z:α × β} (h:(pair r q).jY w cs z S):∃ c d,cs=c++d∧r.jY w c z.1 S∧q.jY w d z.2 S:=by
 obtain ⟨⟨c,d,A,B,rfl,h1,h2,hA,hB,_⟩,h3,h4⟩:=h
 exact ⟨c,d,rfl,⟨r.wide h1 hA,h3⟩,⟨q.wide h2 hB,h4⟩⟩
theorem kOc {b off len cap:Nat} (h:(slice e r).own w [.slice (some ⟨b,off,none⟩) len cap] xs S) {k:Nat} (hk:k < xs.length):(slice e r).own w [.slice (some ⟨b,off + k * r.n,none⟩) (len - k) (cap - k)] (xs.drop k) S:=by
 obtain ⟨⟨a',H,cap',h0,h1,h2,h3,h4⟩,fc,O⟩:=h
 simp only [List.cons.injEq,Value.slice.injEq,and_true] at h0
 obtain ⟨rfl,rfl,rfl⟩:=h0
 refine ⟨⟨_,_,_,rfl,by simp;omega,by omega,by omega,?_⟩,by rw [List.length_drop];omega,fun x hx=>O x (List.mem_of_mem_drop hx)⟩
 rcases h4 with ⟨rfl,_⟩|⟨b',off',ha,cur,e',fr,p,c,q,hb,hc,hp,hl,hf,hS,hx⟩
 · simp at hk
 simp only [Option.some.injEq,Addr.mk.injEq,and_true] at ha
 obtain ⟨rfl,rfl⟩:=ha
 obtain ⟨c1,c2,rfl,N,r1,r2⟩:=row_cut hx (Nat.le_of_lt hk)
 refine .inr ⟨b,off + k * r.n,rfl,cur,e',fr,p++c1,c2,q,hb,by rw [hc];simp,by simp [hp,N],?_,hf,hS,r2⟩
 have:k * r.n≤cap * r.n:=Nat.mul_le_mul_right _ bB9
 rw [Nat.sub_mul];omega
end
end kE
theorem Touch.jJ {p b:Nat} {w w1 V:World} (h:Touch (fun k=>k=p) w w1) (t:Touch (fun k=>k=b) w1 V) (hb:w.heap.size≤b):Touch (fun k=>k=p) w V:=by
 refine ⟨t.os.trans h.os,t.tape.trans h.tape,t.output.trans h.output,Nat.le_trans h.size t.size,fun k hk hn=>?_⟩
 exact (t.block k (Nat.lt_of_lt_of_le hk h.size) bB1).trans (h.block k hk hn)
theorem Touch.kBj {p:Nat} {S:Nat→Prop} {w w1 V:World} (h:Touch (fun k=>k=p) w w1) (t:Touch S w1 V) (hb:∀ k,S k→w.heap.size≤k):Touch (fun k=>k=p) w V:=by
 refine ⟨t.os.trans h.os,t.tape.trans h.tape,t.output.trans h.output,Nat.le_trans h.size t.size,fun k hk hn=>?_⟩
 exact (t.block k (Nat.lt_of_lt_of_le hk h.size) (fun q=>by have:=hb k q;omega)).trans (h.block k hk hn)
namespace kE
theorem row_strs {w:World} {S:Nat→Prop}:∀ xs:List ByteArray,(∀ x∈xs,x.size≤Big)→row str true w (xs.map Value.string) xs S
  | [],_=>rfl
  | x :: xs,h=>⟨[.string x],xs.map Value.string,S,fun _=>False,rfl,((kCy (h x bC0)) w).1.elim (fun a b=>⟨a,b⟩),row_strs xs sV,fun _ h=>h,fun _ h=>h.elim,fun _ _ _ h=>h⟩
theorem row_ints {w:World} {S:Nat→Prop}:∀ xs:List Int,(∀ x∈xs,-9223372036854775808≤x∧x≤9223372036854775807)→row int true w (xs.map (Value.int .i64)) xs S
  | [],_=>rfl
  | x :: xs,h=>⟨[.int .i64 x],xs.map (Value.int .i64),S,fun _=>False,rfl,⟨rfl,h x bC0⟩,row_ints xs sV,fun _ h=>h,fun _ h=>h.elim,fun _ _ _ h=>h⟩
theorem kAw {e:TypeId} (w:World) (xs:List ByteArray) (h:(xs.all fun x=>decide (x.size≤64))=true) (hl:xs.length≤64):(slice e str).own (w.alloc (.cells (xs.map Value.string).toArray e)) [.slice (some ⟨w.heap.size,0,none⟩) xs.length xs.length] xs (fun k=>k=w.heap.size):=by
 have hb:∀ x∈xs,x.size≤Big:=fun x hx=>by have:=List.all_eq_true.1 h x hx;simp at this;unfold Big;omega
 exact (yV (S:=fun k=>k=w.heap.size) (T:=fun _=>False) hb vI (row_strs xs hb) (fun _ h=>h.elim) rfl).own vV
theorem kGs {e:TypeId} (w:World) (xs:List Int) (h:(xs.all fun x=>decide (-9223372036854775808≤x) && decide (x≤9223372036854775807))=true) (hl:xs.length≤64):(slice e int).own (w.alloc (.cells (xs.map (Value.int .i64)).toArray e)) [.slice (some ⟨w.heap.size,0,none⟩) xs.length xs.length] xs (fun k=>k=w.heap.size):=by
 have hb:∀ x∈xs,-9223372036854775808≤x∧x≤9223372036854775807:=fun x hx=>by have:=List.all_eq_true.1 h x hx;simpa using this
 exact (yV (S:=fun k=>k=w.heap.size) (T:=fun _=>False) (fun _ _=>trivial) vI (row_ints xs hb) (fun _ h=>h.elim) rfl).own vV
theorem kGr {α:Type} {r:kE α} {e:TypeId} {cs:List Value} {x:α} (w:World) (h:r.flat cs x):ku e r (w.alloc (.cells cs.toArray e)) (.slice (some ⟨w.heap.size,0,none⟩) 1 1) [x] (fun k=>k=w.heap.size):=by
 have:=yV (e:=e) (r:=r) (w:=w) (cs:=cs) (xs:=[x]) (T:=fun _=>False) (S:=fun k=>k=w.heap.size) (fun y hy=>by rw [List.mem_singleton.1 hy];exact (h w).2) (by unfold maxLen;simp) (kFv (flat.own (w:=w) (S:=fun _=>False) h).1) (fun _ h=>h.elim) rfl
 exact this
theorem kBz {xs:List ByteArray} {y:ByteArray} (h:(xs.all fun x=>decide (x.size≤64))=true) (hy:y∈xs):y.size≤64:=by have:=List.all_eq_true.1 h y hy;simpa using this
theorem kGq {xs:List Int} {y lo hi:Int} (h:(xs.all fun x=>decide (lo≤x) && decide (x≤hi))=true) (hy:y∈xs):lo≤y∧y≤hi:=by have:=List.all_eq_true.1 h y hy;simpa using this
end kE
namespace kE
section
variable {α β:Type} {r:kE α} {q:kE β} {w:World} {c c' d d':List Value} {x x':α} {y y':β} {S T:Nat→Prop}
theorem set_left (h:(pair r q).own w (c++d) (x,y) S) (hc:c.length=r.n) (hx:r.own w c' x' T) (hd:∀ k,S k→T k→False):(pair r q).own w (c'++d) (x',y) (fun k=>S k∨T k):=by
 obtain ⟨⟨c1,W,A,B,he,h1,h2,hA,hB,D⟩,hb⟩:=h
 obtain ⟨rfl,rfl⟩:=List.append_inj he (by rw [hc,r.len h1])
 exact ⟨⟨c',d,T,B,rfl,hx.1,h2,fun k=>.inr,fun k hk=>.inl (hB k hk),fun _ k a b=>hd k (hB k b) a⟩,hx.2,hb.2⟩
theorem set_right (h:(pair r q).own w (c++d) (x,y) S) (hc:c.length=r.n) (f:∀ B:Nat→Prop,(∀ k,B k→S k)→q.own w d y B→q.own w d' y' (fun k=>B k∨T k)) (hd:∀ k,S k→T k→False):(pair r q).own w (c++d') (x,y') (fun k=>S k∨T k):=by
 obtain ⟨⟨c1,W,A,B,he,h1,h2,hA,hB,D⟩,hb⟩:=h
 obtain ⟨rfl,rfl⟩:=List.append_inj he (by rw [hc,r.len h1])
 have hf:=f B hB ⟨h2,hb.2⟩
 exact ⟨⟨c,d',A,_,rfl,h1,hf.1,fun k hk=>.inl (hA k hk),fun k hk=>hk.imp (hB k) id,fun _ k a b=>b.elim (D rfl k a) (fun q=>hd k (hA k a) q)⟩,hb.1,hf.2⟩
end
section
variable {α:Type} {r:kE α} {e:TypeId} {w:World} {v:Value} {xs ys:List α} {S T:Nat→Prop}
theorem kVb {P:Program} {t ty:TypeId} {z:Value} {bytes:Nat} (ht:P.underlying t=some (.slice e)) (hinf:(P.info? e).map (fun i=>(i.zero,i.size,i.bytes))=some (some z,r.n,bytes)) (hzs:z.cells.size=r.n) (hn:0 < r.n) (hby:bytes≤1000) (hf:r.kDq)
    (hown:ku e r w v xs S) {av:Option Addr} {len cap:Nat} (hy:(slice e r).rd w [.slice av len cap] ys) (hlen:xs.length + ys.length≤1000000000) :
    ∃ v' w',(Builtin.append_ #[t,t] ty #[v,.slice av len cap]).run P w=.ok v' w'∧ku e r w' v' (xs++ys) (fun k=>S k∨(w.heap.size≤k∧k < w'.heap.size))∧Touch S w w':=by
 obtain ⟨i,hi,hz,hsize,E⟩:=info_parts hinf
 obtain ⟨cells,hsrc,hrow⟩:=kWq hy.1
 have D:row r true w cells ys (fun _=>False):=kNj hf hrow
 obtain ⟨v',w',hr,h2,h3⟩:=kEz (P:=P) (ty:=ty) ht hi hz hsize hzs hn bB9 hown hsrc (zH hrow) (row_one hrow) hlen
 refine ⟨v',w',hr,(h3 D (fun _ _ h=>h) hy.2.2).wide ?_,h2.wide (fun k hk=>hk.2)⟩
 rintro k (hk | hk | hk)
 · exact .inl hk
 · exact hk.elim
 exact .inr hk
theorem kWb {P:Program} {ops:Array Oper} {rest:List Oper} {o:Oper} {a:Act} {Q:Exit→Act→World→Prop} (D:o.guard=none) (s x:Operand) (t:TypeId)
    (ho:o.op=.call { callee:=.builtin .append,args:=#[s,x],argTypes:=#[t,t] })
    {z:Value} {bytes:Nat} (ht:P.underlying t=some (.slice e)) (hinf:(P.info? e).map (fun i=>(i.zero,i.size,i.bytes))=some (some z,r.n,bytes)) (hzs:z.cells.size=r.n) (hn:0 < r.n) (hby:bytes≤1000) (hf:r.kDq)
    (hown:ku e r w v xs S) (hs:a.eval s=v) {av:Option Addr} {len cap:Nat} (hx:a.eval x=.slice av len cap) (hy:(slice e r).rd w [.slice av len cap] ys) (hlen:xs.length + ys.length≤1000000000)
    (h:∀ v' w',ku e r w' v' (xs++ys) (fun k=>S k∨(w.heap.size≤k∧k < w'.heap.size))→Touch S w w'→wpList P ops Q rest (a.put o.dst v') w'):wpList P ops Q (o :: rest) a w:=by
 refine wpList_plain D fun _ J=>?_
 obtain ⟨v',w',hr,h1,h2⟩:=kVb (ty:=o.type) ht hinf hzs hn hby hf hown hy hlen
 exact jP s x t ho hs hx hr (J _ _ (h v' w' h1 h2))
end
end kE
namespace kE
theorem kHe:∀ (cs:List Value) (w:World) (b p:Nat),w.setCells b p cs=setCells w b p cs
  | [],_,_,_=>rfl
  | v :: cs,w,b,p=>by unfold World.setCells setCells;exact kHe cs _ b (p + 1)
section
variable {α:Type} {r:kE α} {e:TypeId} {w:World} {xs ys:List α} {S T:Nat→Prop}
theorem kVa {P:Program} {t ty:TypeId} {z:Value} {bytes:Nat} (ht:P.underlying t=some (.slice e)) (hinf:(P.info? e).map (fun i=>(i.zero,i.size,i.bytes))=some (some z,r.n,bytes)) (hzs:z.cells.size=r.n) (hn:0 < r.n) (hby:bytes≤1000)
    {a:Option Addr} {len cap:Nat} (hown:(slice e r).own w [.slice a len cap] xs S) {sv:Value} {m:Nat} {cells:List Value} (hsrc:Src w sv m cells) (hrow:row r true w cells ys T) (hm:ys.length=m) (hb:∀ y∈ys,r.bdd Big y) (hd:∀ k,S k→T k→False) (hlen:xs.length + ys.length≤16777216) :
    ∃ v' w',(Builtin.append_ #[t,t] ty #[.slice a len cap,sv]).run P w=.ok v' w'∧(slice e r).own w' [v'] (xs++ys) (fun k=>S k∨T k∨(w.heap.size≤k∧k < w'.heap.size))∧Touch S w w':=by
 obtain ⟨i,hi,hz,hsize,E⟩:=info_parts hinf
 have V:∀ n,n≤16777216→n≤Big:=fun n h=>by unfold Big;omega
 obtain ⟨⟨a',H,cap',h0,h1,h2,h3,h4⟩,da,dc⟩:=hown
 simp only [List.cons.injEq,Value.slice.injEq,and_true] at h0
 obtain ⟨rfl,rfl,rfl⟩:=h0
 subst h1
 have ck:∀ y∈xs++ys,r.bdd Big y:=by
  intro y hy
  rcases List.mem_append.1 hy with q | q
  · exact dc y q
  exact hb y q
 rcases h4 with ⟨rfl,hc0⟩|⟨b,off,rfl,cur,e',fr,p,cs,tl,g1,g2,g3,g4,g5,g6,g7⟩
 · obtain rfl:=hc0 rfl
   obtain ⟨v',w',hr,Y,ho⟩:=kEz (P:=P) (ty:=ty) (r:=r) ht hi hz hsize hzs hn bB9 (ku.void (a:=a) (S:=S)) hsrc (by rw [zH hrow,hm]) (row_one hrow) (by simp at hlen ⊢;omega)
   exact ⟨v',w',hr,(ho hrow hd hb).own (V _ vY),Y.wide (fun k hk=>hk.2)⟩
 obtain ⟨he,ah⟩:=g5 rfl
 rw [he,ah] at g1
 have N:=zH g7
 have e7:=zH hrow
 by_cases bq:m=0
 · have b6:ys=[]:=List.eq_nil_of_length_eq_zero bB9
   subst b6
   have hc:cells=[]:=hrow
   subst hc
   obtain ⟨a1,c1,rfl⟩:∃ a c,sv=.slice a 0 c:=by
    rcases hsrc with ⟨_,h⟩|⟨ad,c,h,_⟩
    · exact h
    exact ⟨_,_,by rw [h,bq]⟩
   refine ⟨.slice (some ⟨b,off,none⟩) xs.length cap,w,?_,?_,Touch.refl _ _⟩
   · cases a1 <;> simp [Builtin.append_,run_underlying ht,sizeOf,typeInfo,hi,Builtin.lenOf,h2,Builtin.firstCells,loadCells,loadCellsFrom,storeCells]
   rw [List.append_nil]
   refine ⟨⟨_,_,cap,rfl,rfl,h2,h3,.inr ⟨b,off,rfl,cur,e,(0,0),p,cs,tl,g1,g2,g3,g4,fun _=>⟨rfl,rfl⟩,.inl g6,yH g7 (fun k hk=>⟨.inl hk.1,hk.2⟩)⟩⟩,da,dc⟩
 obtain ⟨ad,c,rfl,ae⟩:∃ ad c,sv=.slice (some ad) m c∧∀ j u,cells[j]?=some u→w.cell? (ad.add j)=some u:=by
  rcases hsrc with ⟨h,_⟩ | h
  · exact absurd h bq
  exact h
 obtain ⟨G,R,ac⟩:=BH
 by_cases D:xs.length + m≤cap
 · have W:(xs.length + m) * r.n≤cap * r.n:=Nat.mul_le_mul_right _ D
   rw [Nat.add_mul] at W
   obtain ⟨ee,J⟩:=EG
   have hr:=run_append_room_cells (P:=P) (w:=w) t ty e i ht hi b off xs.length cap ad m c cells G ae (row_one hrow) D
     (fun j I=>by
       rw [cell_of_row w b _ cur e (0,0) g1]
       have:off + xs.length * i.size + j < cur.size:=by rw [J,List.length_append];omega
       simp [this])
     (fun j _=>frozen_of_row w b _ _ _ g1)
   rw [kHe] at hr
   have U:=kCw (e:=e) cells (tl.take cells.length) (p++cs) (tl.drop cells.length) w b (off + xs.length * i.size) gM J.symm sI
   refine ⟨_,_,hr,?_,(zn cells w b _).wide (fun k hk=>by rw [hk];exact g6)⟩
   have X:∀ k,k≠b→(setCells w b (off + xs.length * i.size) cells).heap[k]?=w.heap[k]?:=fun k hk=>kBb cells w b _ k hk
   refine ⟨⟨_,_,cap,rfl,by rw [List.length_append,hm],D,h3,.inr ⟨b,off,rfl,_,e,(0,0),p,cs++cells,tl.drop cells.length,U,by simp,g3,?_,fun _=>⟨rfl,rfl⟩,.inl g6,?_⟩⟩,V _ qO,ck⟩
   · simp only [List.size_toArray,List.length_append,List.length_drop];omega
   have a1:=yC (w':=setCells w b (off + xs.length * i.size) cells) g7 (fun k hk=>X k (hk.2 rfl))
   have a2:=yC (w':=setCells w b (off + xs.length * i.size) cells) hrow (fun k hk=>X k (fun q=>hd b g6 (q ▸ hk)))
   exact kAg a1 a2 (fun k hk=>⟨.inl hk.1,hk.2⟩) (fun k hk=>⟨.inr (.inl hk),fun _ q=>hd b g6 (q ▸ hk)⟩) (fun _ k q1 q2=>hd k q1.1 q2)
 have L:∀ j u,cs[j]?=some u→w.cell? ((⟨b,off,none⟩:Addr).add j)=some u:=by
  exact aY
 have O:(xs.length + m) * i.bytes≤140737488355328:=by
  have:(xs.length + m) * i.bytes≤16777216 * 1000:=Nat.mul_le_mul bB9 bB9
  omega
 have hr:=run_append_grow (P:=P) w t ty e i z ht hi hz ⟨b,off,none⟩ xs.length cap cs vR L ad m c cells G ae bB9 bB9 (growslice_fits bB9 O)
 refine ⟨_,_,hr,?_,⟨rfl,rfl,rfl,by simp,fun k hk _=>heap_alloc_old w.drew _ hk⟩⟩
 have ak:=grownCap_ge w (xs.length + m) cap e
 have an:=grownCap_le_maxLen w (xs.length + m) cap e vI
 refine ⟨⟨_,_,_,rfl,by rw [List.length_append,hm],ak,an,.inr ⟨w.heap.size,0,rfl,_,e,(0,0),[],cs++cells,(Builtin.zeroCells z.cells (grownCap w (xs.length + m) cap e - (xs.length + m))).toList,heap_alloc_new w.drew _,by simp,rfl,?_,fun _=>⟨rfl,rfl⟩,.inr (.inr ⟨Nat.le_refl _,by simp⟩),?_⟩⟩,V _ qO,ck⟩
 · exact aZ
 obtain ⟨a1,a2⟩:=uB
 exact kAg a1 a2 (fun k hk=>⟨.inl hk.1,fun _=>by omega⟩) (fun k hk=>⟨.inr (.inl hk.1),fun _=>by omega⟩) (fun _ k q1 q2=>hd k q1.1 q2.1)
theorem kFu {P:Program} {t ty:TypeId} {z:Value} {bytes:Nat} (ht:P.underlying t=some (.slice e)) (hinf:(P.info? e).map (fun i=>(i.zero,i.size,i.bytes))=some (some z,r.n,bytes)) (hzs:z.cells.size=r.n) (hn:0 < r.n) (hby:bytes≤1000)
    {a:Option Addr} {len cap:Nat} (hown:(slice e r).own w [.slice a len cap] xs S) {u:World} (hu:Below w.heap.size w u) {cx:List Value} {x:α} (hx:r.own u cx x T) (hd:∀ k,S k→T k→False) (hlen:xs.length < 16777216) {c:Nat} :
    ∃ v' w',(Builtin.append_ #[t,t] ty #[.slice a len cap,.slice (some ⟨u.heap.size,0,none⟩) 1 c]).run P (u.alloc (.cells cx.toArray e))=.ok v' w'∧(slice e r).own w' [v'] (xs++[x]) (fun k=>S k∨T k∨(u.heap.size≤k∧k < w'.heap.size))∧Touch (fun k=>S k∧k < w.heap.size) u w':=by
 obtain ⟨H,hS⟩:=A7
 have hrow:row r true (u.alloc (.cells cx.toArray e)) cx [x] (fun k=>T k∧k < u.heap.size):=kFv (r.mono (r.live hx.1) (fun k hk=>H.block k hk.2))
 have hsrc:Src (u.alloc (.cells cx.toArray e)) (.slice (some ⟨u.heap.size,0,none⟩) 1 c) 1 cx:=by
  exact bB
 obtain ⟨v',w',hr,ho,D⟩:=kVa (ty:=ty) ht hinf hzs hn hby (hS.below H) hsrc hrow rfl gX (fun k h1 h2=>hd k h1.1 h2.1) bB5
 exact bC
theorem zO {P:Program} {ops:Array Oper} {rest:List Oper} {o:Oper} {E:Act} {Q:Exit→Act→World→Prop} (D:o.guard=none) (s x:Operand) (t:TypeId)
    (ho:o.op=.call { callee:=.builtin .append,args:=#[s,x],argTypes:=#[t,t] })
    {z:Value} {bytes:Nat} (ht:P.underlying t=some (.slice e)) (hinf:(P.info? e).map (fun i=>(i.zero,i.size,i.bytes))=some (some z,r.n,bytes)) (hzs:z.cells.size=r.n) (hn:0 < r.n) (hby:bytes≤1000)
    {a:Option Addr} {len cap:Nat} (hown:(slice e r).own w [.slice a len cap] xs S) {u:World} (hu:Below w.heap.size w u) {cx:List Value} {y:α} (hy:r.own u cx y T) {c:Nat} (hs:E.eval s=.slice a len cap) (hx:E.eval x=.slice (some ⟨u.heap.size,0,none⟩) 1 c) (hd:∀ k,S k→T k→False) (hlen:xs.length < 16777216)
    (h:∀ v' w',(slice e r).own w' [v'] (xs++[y]) (fun k=>S k∨T k∨(u.heap.size≤k∧k < w'.heap.size))→Touch (fun k=>S k∧k < w.heap.size) u w'→wpList P ops Q rest (E.put o.dst v') w'):wpList P ops Q (o :: rest) E (u.alloc (.cells cx.toArray e)):=by
 refine wpList_plain D fun _ J=>?_
 obtain ⟨v',w',hr,h1,h2⟩:=kFu (ty:=o.type) (c:=c) ht hinf hzs hn hby hown hu hy hd hlen
 exact jP s x t ho hs hx hr (J _ _ (h v' w' h1 h2))
theorem run_pushGO {P:Program} {t ty:TypeId} {z:Value} {bytes:Nat} (ht:P.underlying t=some (.slice e)) (hinf:(P.info? e).map (fun i=>(i.zero,i.size,i.bytes))=some (some z,r.n,bytes)) (hzs:z.cells.size=r.n) (hn:0 < r.n) (hby:bytes≤1000)
    {a:Option Addr} {len cap:Nat} (hown:(slice e r).own w [.slice a len cap] xs S) {sv:Value} (hy:ku e r w sv ys T) (hd:∀ k,S k→T k→False) (hlen:xs.length + ys.length≤16777216) :
    ∃ v' w',(Builtin.append_ #[t,t] ty #[.slice a len cap,sv]).run P w=.ok v' w'∧(slice e r).own w' [v'] (xs++ys) (fun k=>S k∨T k∨(w.heap.size≤k∧k < w'.heap.size))∧Touch S w w':=by
 obtain ⟨D,h⟩:=hy
 obtain ⟨cells,hsrc,hrow⟩:∃ cells,Src w sv ys.length cells∧row r true w cells ys T:=by
  rcases h with ⟨⟨a,rfl⟩,rfl⟩|⟨b,cap',cur,cs,tl,rfl,h1,h2,h3,h4,h5,h6,h7⟩
  · exact ⟨[],.inl ⟨rfl,_,_,rfl⟩,rfl⟩
  refine ⟨cs,.inr ⟨_,_,rfl,?_⟩,yH h7 (fun k hk=>hk.1)⟩
  intro j u I
  have F:(⟨b,0,none⟩:Addr).add j=⟨b,j,none⟩:=qN
  rw [F,cell_of_row w b j cur e (0,0) h3,← Array.getElem?_toList,h4,List.getElem?_append_left (List.getElem?_eq_some_iff.1 I).1]
  exact I
 exact kVa ht hinf hzs hn hby hown hsrc hrow rfl D hd hlen
theorem kLh {P:Program} {ops:Array Oper} {rest:List Oper} {o:Oper} {E:Act} {Q:Exit→Act→World→Prop} (D:o.guard=none) (s x:Operand) (t:TypeId)
    (ho:o.op=.call { callee:=.builtin .append,args:=#[s,x],argTypes:=#[t,t] })
    {z:Value} {bytes:Nat} (ht:P.underlying t=some (.slice e)) (hinf:(P.info? e).map (fun i=>(i.zero,i.size,i.bytes))=some (some z,r.n,bytes)) (hzs:z.cells.size=r.n) (hn:0 < r.n) (hby:bytes≤1000)
    {a:Option Addr} {len cap:Nat} (hown:(slice e r).own w [.slice a len cap] xs S) {sv:Value} (hy:ku e r w sv ys T) (hs:E.eval s=.slice a len cap) (hx:E.eval x=sv) (hd:∀ k,S k→T k→False) (hlen:xs.length + ys.length≤16777216)
    (h:∀ v' w',(slice e r).own w' [v'] (xs++ys) (fun k=>S k∨T k∨(w.heap.size≤k∧k < w'.heap.size))→Touch S w w'→wpList P ops Q rest (E.put o.dst v') w'):wpList P ops Q (o :: rest) E w:=by
 refine wpList_plain D fun _ J=>?_
 obtain ⟨v',w',hr,h1,h2⟩:=run_pushGO (ty:=o.type) ht hinf hzs hn hby hown hy hd hlen
 exact jP s x t ho hs hx hr (J _ _ (h v' w' h1 h2))
end
end kE
theorem Touch.kJl {S:Nat→Prop} {W W':World} (d:Touch S W W') {b j:Nat} {v:Value} (h:W.cell? ⟨b,j,none⟩=some v) (hb:¬ S b):W'.cell? ⟨b,j,none⟩=some v:=by
 have O:W'.heap[b]?=W.heap[b]?:=d.block _ (World.block_lt_of_cell? _ _ h) hb
 rw [← h];unfold World.cell?;simp only [O]
theorem kH {w:World} {b:Nat} {a:Array Value} {t:TypeId} {v:Value} (h:w.heap[b]?=some (.cells a t (0,0))) (j:Nat):(w.setCell ⟨b,j,none⟩ v).heap[b]?=some (.cells (a.setIfInBounds j v) t (0,0)):=heap_setCell_same w b j a t v h
theorem kC (w:World) (b j:Nat) (v:Value):Touch (fun k=>k=b) w (w.setCell ⟨b,j,none⟩ v):=kE.zn [v] w b j
end Go.Proofs.YtonmjkmaadgceaaGreat

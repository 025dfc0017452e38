/-
  Thinning an owned slice in place: what is kept, what is stale, what is still to be read. No program in sight.
  What a copying call hands back: a new slice at the head of its own block. No program in sight.
  Names as the reference draws them.
-/
import Derived.Laws.IdiomCopy
import Derived.Test.YtpgnbablhdknnaaCopy
import Derived.Test.YtpgnbablhdknnaaCur
import Derived.Test.YtpgnbablhdknnaaVName
set_option linter.unusedVariables false
set_option linter.unusedSimpArgs false
set_option linter.unnecessarySimpa false
set_option maxRecDepth 100000
set_option maxHeartbeats 4000000
namespace Go.Proofs.Ytpgnbablhdknnaa
open Go.RowKit
namespace Rep
section
variable {α:Type} {r:Rep α} {e:TypeId} {w w':World} {v:Value} {b cap n:Nat} {kept rest xs:List α} {j:Nat} {x:α} {S T:Nat→Prop}
def gap (e:TypeId) (r:Rep α) (w:World) (b cap n:Nat) (kept:List α) (j:Nat) (rest:List α) (S:Nat→Prop):Prop :=
  (∀ x∈kept,r.bdd Big x)∧(∀ x∈rest,r.bdd Big x)∧kept.length + j + rest.length=n∧n≤cap∧cap≤maxLen∧S b ∧
  ∃ (c jk d tl:List Value) (A B:Nat→Prop),w.heap[b]?=some (.cells (c++(jk++(d++tl))).toArray e (0,0))∧(c++(jk++(d++tl))).length=cap * r.n∧jk.length=j * r.n ∧
    row r true w c kept A∧row r true w d rest B∧(∀ k,A k→S k∧k≠b)∧(∀ k,B k→S k∧k≠b)∧(∀ k,A k→B k→False)
theorem gap.lt (h:gap e r w b cap n kept j rest S):b < w.heap.size:=by
 obtain ⟨_,_,_,_,_,_,c,jk,d,tl,A,B,h1,_⟩:=h
 exact (Array.getElem?_eq_some_iff.1 h1).1
theorem gap.mem (h:gap e r w b cap n kept j rest S):S b:=h.2.2.2.2.2.1
theorem gap.len (h:gap e r w b cap n kept j rest S):kept.length + j + rest.length=n∧n≤cap∧cap≤maxLen:=⟨h.2.2.1,h.2.2.2.1,h.2.2.2.2.1⟩
theorem gap.keep (h:gap e r w b cap n kept j rest S) (k:∀ k,S k→k < w.heap.size→w'.heap[k]?=w.heap[k]?):gap e r w' b cap n kept j rest S:=by
 obtain ⟨a1,a2,a3,a4,a5,a6,c,jk,d,tl,A,B,h1,h2,h3,h4,h5,h6,h7,h8⟩:=h
 refine ⟨a1,a2,a3,a4,a5,a6,c,jk,d,tl,(fun k=>A k∧k < w.heap.size),(fun k=>B k∧k < w.heap.size),(k b a6 (Array.getElem?_eq_some_iff.1 h1).1).trans h1,h2,h3,kv (jO h4) (fun i hi=>k i (h6 i hi.1).1 hi.2),kv (jO h5) (fun i hi=>k i (h7 i hi.1).1 hi.2),fun i hi=>h6 i hi.1,fun i hi=>h7 i hi.1,fun i h h'=>h8 i h.1 h'.1⟩
theorem gap.below (h:gap e r w b cap n kept j rest S) (k:Below w.heap.size w w'):gap e r w' b cap n kept j rest S:=h.keep (fun i _ hi=>k.block i hi)
theorem gap.frozen (h:gap e r w b cap n kept j rest S) (i:Nat):w.frozen? ⟨b,i,none⟩=false:=by
 obtain ⟨_,_,_,_,_,_,c,jk,d,tl,A,B,h1,_⟩:=h
 exact frozen_of_row w b i _ _ h1
theorem kCy (h:kT e r w v xs S) {i:Nat} (hi:i < xs.length):∃ b cap,v=.slice (some ⟨b,0,none⟩) xs.length cap∧gap e r w b cap xs.length (xs.take i) 0 (xs.drop i) S:=by
 obtain ⟨hb,h⟩:=h
 rcases h with ⟨⟨a,rfl⟩,rfl⟩|⟨b,cap,cur,cs,tl,rfl,h1,h2,h3,h4,h5,h6,h7⟩
 · simp at hi
 refine ⟨b,cap,rfl,fun x hx=>hb x (List.mem_of_mem_take hx),fun x hx=>hb x (List.mem_of_mem_drop hx),by simp;omega,h1,h2,h6,?_⟩
 have e1:xs=xs.take i++xs.drop i:=gW
 rw [e1] at h7
 obtain ⟨c,d,A,B,rfl,r1,r2,hA,hB,hd⟩:=kCu _ h7
 refine ⟨c,[],d,tl,A,B,?_,?_,by simp,r1,r2,hA,hB,hd rfl⟩
 · rw [h3,show cur=(c++([]++(d++tl))).toArray from by rw [show c++([]++(d++tl))=cur.toList from by rw [h4];simp]]
 rw [← h5,← Array.length_toList,h4];simp
theorem gap.skip (h:gap e r w b cap n kept j (x :: rest) S):gap e r w b cap n kept (j + 1) rest S:=by
 obtain ⟨a1,a2,a3,a4,a5,a6,c,jk,d,tl,A,B,h1,h2,h3,h4,⟨c1,d1,A1,B1,rfl,q1,q2,hA1,hB1,hd1⟩,h6,h7,h8⟩:=h
 refine ⟨a1,fun y hy=>a2 y (by simp [hy]),by simp at a3;omega,a4,a5,a6,c,jk++c1,d1,tl,A,B1,by rw [h1];simp,by rw [← h2];simp,?_,h4,q2,h6,fun k hk=>h7 k (hB1 k hk),fun k h h'=>h8 k h (hB1 k h')⟩
 simp [h3,r.len q1,Nat.add_mul]
theorem gap.next (h:gap e r w b cap n kept j (x :: rest) S):∃ cs,r.raw w cs x∧cs.length=r.n∧r.bdd Big x∧(∀ q c,cs[q]?=some c→w.cell? ⟨b,(kept.length + j) * r.n + q,none⟩=some c) ∧
    ∀ w1,Below w.heap.size w w1→0 < j→∀ p,p=kept.length * r.n→gap e r (setCells w1 b p cs) b cap n (kept++[x]) j rest S∧Touch (fun k=>k=b) w1 (setCells w1 b p cs):=by
 have H0:=h
 obtain ⟨a1,a2,a3,a4,a5,a6,c,jk,d,tl,A,B,h1,h2,h3,h4,⟨c1,d1,A1,B1,rfl,q1,q2,hA1,hB1,hd1⟩,h6,h7,h8⟩:=h
 have hcl:=jK h4
 have hc1:=r.len q1
 refine ⟨c1,r.wide (r.weak q1) (fun _ _=>trivial),hc1,a2 x gW,?_,?_⟩
 · intro q u hq
   have hql:=(List.getElem?_eq_some_iff.1 hq).1
   rw [cell_of_row w b _ _ e (0,0) h1]
   simp only [List.getElem?_toArray]
   rw [List.getElem?_append_right (by rw [hcl,Nat.add_mul];omega),List.getElem?_append_right dQ,List.append_assoc,List.getElem?_append_left dQ]
   rw [← hq];congr 1;rw [hcl,h3,Nat.add_mul];omega
 intro w1 hw hj p hp
 refine ⟨?_,je _ _ _ _⟩
 obtain ⟨b1,b2,b3,b4,b5,b6,_⟩:=H0
 have hblk:w1.heap[b]?=_:=(hw.block b (Array.getElem?_eq_some_iff.1 h1).1).trans h1
 have hjn:r.n≤jk.length:=by rw [h3];exact Nat.le_mul_of_pos_left _ hj
 have hst:(setCells w1 b p c1).heap[b]?=some (.cells (c++(c1++(jk.drop r.n++((c1++d1)++tl)))).toArray e (0,0)):=by
  refine yO c1 (jk.take r.n) c (jk.drop r.n++((c1++d1)++tl)) w1 b p ?_ (by rw [hcl,hp]) (by rw [List.length_take,hc1];omega)
  rw [hblk,← List.append_assoc (jk.take r.n),List.take_append_drop]
 have oth:∀ k,k≠b→k < w.heap.size→(setCells w1 b p c1).heap[k]?=w.heap[k]?:=fun k hk hl=>(jq c1 w1 b p k hk).trans (hw.block k hl)
 refine ⟨?_,fun y hy=>a2 y (by simp [hy]),by simp at a3 ⊢;omega,a4,a5,a6,c++c1,jk.drop r.n++c1,d1,tl,(fun k=>(A k∨A1 k)∧k < w.heap.size),(fun k=>B1 k∧k < w.heap.size),by rw [hst];simp,?_,?_,?_,?_,?_,?_,?_⟩
 · intro y hy
   rcases List.mem_append.1 hy with hy | hy
   · exact a1 y hy
   obtain rfl:y=x:=by simpa using hy
   exact a2 y gW
 · rw [← h2];simp;omega
 · rw [List.length_append,List.length_drop,h3,hc1];have:=h3;omega
 · refine jY (A:=fun k=>A k∧k < w.heap.size) (B:=fun k=>A1 k∧k < w.heap.size) (kv (jO h4) (fun k hk=>oth k (h6 k hk.1).2 hk.2)) (kv (jO (zx q1)) (fun k hk=>oth k (h7 k (hA1 k hk.1)).2 hk.2)) (fun k hk=>⟨.inl hk.1,hk.2⟩) (fun k hk=>⟨.inr hk.1,hk.2⟩) (fun _ k h h'=>h8 k h.1 (hA1 k h'.1))
 · exact kv (jO q2) (fun k hk=>oth k (h7 k (hB1 k hk.1)).2 hk.2)
 · rintro k ⟨hk | hk,_⟩
   · exact h6 k hk
   exact h7 k (hA1 k hk)
 · intro k hk;exact h7 k (hB1 k hk.1)
 rintro k ⟨hk | hk,_⟩ h'
 · exact h8 k hk (hB1 k h'.1)
 exact hd1 rfl k hk h'.1
theorem kEh:∀ (cs:List Value) (w:World) (b p:Nat),w.setCells b p cs=setCells w b p cs
  | [],_,_,_=>rfl
  | c :: cs,w,b,p=>by
    simp only [World.setCells,setCells]
    exact kEh cs _ b (p + 1)
theorem gap.cells (h:gap e r w b cap n kept j rest S) {i:Nat} (hi:i < cap * r.n):(w.cell? ⟨b,i,none⟩).isSome=true:=by
 obtain ⟨_,_,_,_,_,_,c,jk,d,tl,A,B,h1,h2,_⟩:=h
 rw [cell_of_row w b _ _ e (0,0) h1]
 simp only [List.getElem?_toArray]
 rw [List.getElem?_eq_getElem (by rw [h2];exact hi)]
 rfl
theorem gap.wipe (h:gap e r w b cap n kept j [] S) {zs:List Value} (hz:zs.length=j * r.n) {p:Nat} (hp:p=kept.length * r.n) :
    kT e r (setCells w b p zs) (.slice (some ⟨b,0,none⟩) kept.length cap) kept S∧Touch (fun k=>k=b) w (setCells w b p zs):=by
 obtain ⟨a1,a2,a3,a4,a5,a6,c,jk,d,tl,A,B,h1,h2,h3,h4,h5,h6,h7,h8⟩:=h
 obtain rfl:d=[]:=h5
 have hcl:=jK h4
 refine ⟨⟨a1,.inr ⟨b,cap,_,c,zs++tl,rfl,by simp at a3;omega,a5,?_,rfl,?_,a6,?_⟩⟩,je _ _ _ _⟩
 · exact yO zs jk c tl w b p gG (by rw [hcl,hp]) (by rw [h3,hz])
 · rw [← h2];simp;omega
 exact jD (kv (jO h4) (fun k hk=>jq zs w b p k (h6 k hk.1).2)) (fun k hk=>h6 k hk.1)
theorem gap.done (h:gap e r w b cap n kept 0 [] S):kT e r w (.slice (some ⟨b,0,none⟩) kept.length cap) kept S:=by
 have:=(h.wipe (zs:=[]) gW rfl).1
 exact this
theorem kAz {P:Program} {t ty:TypeId} {z:Value} (ht:P.underlying t=some (.slice e)) (hv:∀ w,(zeroValue e).run P w=.ok z w) (h1:∀ u∈z.cells,u.oneCell'=true) (b o m c:Nat) (hm:0 < m)
    (hc:∀ j,j < (Builtin.zeroCells z.cells m).size→(w.cell? ⟨b,o + j,none⟩).isSome=true) (hf:∀ j,j < (Builtin.zeroCells z.cells m).size→w.frozen? ⟨b,o + j,none⟩=false) (hz0:0 < z.cells.size) :
    (Builtin.clear_ #[t] ty #[.slice (some ⟨b,o,none⟩) m c]).run P w=.ok (.tuple #[]) (setCells w b o (Builtin.zeroCells z.cells m).toList):=by
 have hone:∀ v∈(Builtin.zeroCells z.cells m).toList,v.oneCell'=true:=by
  intro v hv'
  simp only [Builtin.zeroCells,Array.toList_map,List.mem_map] at hv'
  obtain ⟨i,_,rfl⟩:=hv'
  have hlt:=Nat.mod_lt i hz0
  rw [getElem!_pos z.cells _ hlt]
  exact h1 _ (Array.getElem_mem hlt)
 have hst:=run_storeCells_cells (P:=P) b o (Builtin.zeroCells z.cells m).toList 0 w (by simpa using hc) gI hone
 simp only [Nat.add_zero] at hst
 obtain ⟨q,rfl⟩:∃ q,m=q + 1:=⟨m - 1,by omega⟩
 rw [← kEh]
 simp [Builtin.clear_,run_underlying ht,hv,hst]
theorem zero_of_info {P:Program} {i:TypeInfo} {z:Value} (hi:P.info? e=some i) (hz:i.zero=some z):∀ w,(zeroValue e).run P w=.ok z w:=by
 intro w
 simp [zeroValue,typeInfo,hi,hz]
theorem gap.kAz {P:Program} {t ty:TypeId} {z:Value} {bytes:Nat} (h:gap e r w b cap n kept j [] S) (hj:0 < j) (ht:P.underlying t=some (.slice e)) (hinf:(P.info? e).map (fun i=>(i.zero,i.size,i.bytes))=some (some z,r.n,bytes)) (hzs:z.cells.size=r.n) (hn:0 < r.n) (hone:∀ u∈z.cells,u.oneCell'=true)
    {p c:Nat} (hp:p=kept.length * r.n) :
    ∃ w',(Builtin.clear_ #[t] ty #[.slice (some ⟨b,p,none⟩) j c]).run P w=.ok (.tuple #[]) w'∧kT e r w' (.slice (some ⟨b,0,none⟩) kept.length cap) kept S∧Touch (fun k=>k=b) w w':=by
 obtain ⟨i,hi,hz,hsize,hbytes⟩:=info_parts hinf
 have hsz:(Builtin.zeroCells z.cells j).size=j * r.n:=by rw [size_zeroCells,hzs]
 have hl:=h.len
 have hroom:∀ q,q < j * r.n→p + q < cap * r.n:=by
  intro q hq
  have h1:(kept.length + j) * r.n≤cap * r.n:=Nat.mul_le_mul_right _ (by have:=hl.1;simp at this;omega)
  rw [Nat.add_mul] at h1;omega
 have hr:=Rep.kAz (P:=P) (ty:=ty) (w:=w) ht (zero_of_info hi hz) hone b p j c hj (fun q hq=>h.cells (hroom q (by rwa [hsz] at hq))) (fun q _=>h.frozen _) gV
 obtain ⟨h1,h2⟩:=h.wipe (zs:=(Builtin.zeroCells z.cells j).toList) (by simpa using hsz) hp
 exact ⟨_,hr,h1,h2⟩
theorem run_shift {P:Program} {t ty:TypeId} {i:TypeInfo} (ht:P.underlying t=some (.slice e)) (hi:P.info? e=some i) (hsize:i.size=r.n)
    (h:gap e r w b cap n kept j rest S) {ad:Addr} {c:Nat} (had:rest≠[]→ad=⟨b,(kept.length + j) * r.n,none⟩) (hn:0 < r.n) :
    ∃ w',(Builtin.append_ #[t,t] ty #[.slice (some ⟨b,0,none⟩) kept.length cap,.slice (some ad) rest.length c]).run P w=.ok (.slice (some ⟨b,0,none⟩) (kept.length + rest.length) cap) w' ∧
      gap e r w' b cap n (kept++rest) j [] S∧Touch (fun k=>k=b) w w':=by
 obtain ⟨a1,a2,a3,a4,a5,a6,cc,jk,d,tl,A,B,h1,h2,h3,h4,h5,h6,h7,h8⟩:=h
 by_cases hr0:rest=[]
 · subst hr0
   obtain rfl:d=[]:=h5
   refine ⟨w,?_,⟨by simpa using a1,by simp,by simpa using a3,a4,a5,a6,cc,jk,[],tl,A,B,by simpa using h1,by simpa using h2,h3,by simpa using h4,rfl,h6,h7,h8⟩,Touch.refl _ _⟩
   have hlc:kept.length≤cap:=by simp at a3;omega
   simp [Builtin.append_,run_underlying ht,sizeOf,typeInfo,hi,Builtin.lenOf,hlc,Builtin.firstCells,loadCells,loadCellsFrom,storeCells]
 obtain rfl:=had hr0
 have hcl:=jK h4
 have hdl:=jK h5
 have hne:0 < rest.length:=List.length_pos_iff.2 hr0
 have hcell:∀ q u,d[q]?=some u→w.cell? ((⟨b,(kept.length + j) * r.n,none⟩:Addr).add q)=some u:=by
  intro q u hq
  have hql:=(List.getElem?_eq_some_iff.1 hq).1
  have hadd:(⟨b,(kept.length + j) * r.n,none⟩:Addr).add q=⟨b,(kept.length + j) * r.n + q,none⟩:=dA
  rw [hadd,cell_of_row w b _ _ e (0,0) h1]
  simp only [List.getElem?_toArray]
  rw [List.getElem?_append_right (by rw [hcl,Nat.add_mul];omega),List.getElem?_append_right dQ,List.getElem?_append_left dQ]
  rw [← hq];congr 1;rw [hcl,h3,Nat.add_mul];omega
 have hfit:kept.length * i.size + d.length≤(cc++(jk++(d++tl))).toArray.size:=by simp [hsize,hcl];omega
 have hr:=run_append_room (P:=P) w t ty e i ht hi b kept.length cap _ h1 ⟨b,(kept.length + j) * r.n,none⟩ rest.length c d (by rw [hsize];exact hdl) hcell (row_one h5) gV hfit
 refine ⟨_,hr,?_,⟨rfl,rfl,rfl,by simp,fun k _ hk=>setRow_other w b k _ hk⟩⟩
 have oth:∀ X k,k≠b→(w.setRow b X).heap[k]?=w.heap[k]?:=fun X k hk=>setRow_other w b k _ hk
 have htk:(cc++(jk++(d++tl))).toArray.toList.take (kept.length * i.size)=cc:=by rw [hsize,← hcl];simp
 have hdr:(cc++(jk++(d++tl))).toArray.toList.drop (kept.length * i.size + d.length)=(jk++(d++tl)).drop d.length:=by rw [hsize,← hcl];simp
 rw [htk,hdr]
 have hjd:(jk++(d++tl)).drop d.length=(jk++d).drop d.length++tl:=by
  rw [← List.append_assoc,List.drop_append_of_le_length gW]
 refine ⟨?_,by simp,by simp;omega,a4,a5,a6,cc++d,(jk++d).drop d.length,[],tl,(fun k=>A k∨B k),(fun _=>False),?_,?_,?_,?_,rfl,?_,fun _ h=>h.elim,fun _ _ h=>h⟩
 · intro y hy
   rcases List.mem_append.1 hy with hy | hy
   · exact a1 y hy
   exact a2 y hy
 · rw [setRow_heap w b _ _ e _ h1,hjd];simp
 · rw [← h2];simp;omega
 · simp [h3]
 · exact jY (A:=A) (B:=B) (kv h4 (fun k hk=>oth _ k (h6 k hk).2)) (kv h5 (fun k hk=>oth _ k (h7 k hk).2)) (fun k hk=>.inl hk) (fun k hk=>.inr hk) (fun _ k h h'=>h8 k h h')
 rintro k (hk | hk)
 · exact h6 k hk
 exact h7 k hk
end
end Rep
variable {α:Type} {r:Rep α} {e:TypeId} {w w':World} {v:Value} {xs ys:List α} {S:Nat→Prop}
def kFz (e:TypeId) (r:Rep α) (x:List α) (w:World) (E:Ending) (w':World):Prop:=∃ v,E=.returned v∧Rep.kT e r w' v x (Btw w.heap.size w'.heap.size)∧Below w.heap.size w w'
theorem Rep.kT.cast (h:Rep.kT e r w v xs S) (k:xs=ys):Rep.kT e r w v ys S:=k ▸ h
theorem Rep.kT.parts (h:Rep.kT e r w v xs S):∃ a n cap,v=.slice a n cap∧Hid (n=xs.length):=by
 obtain ⟨a,cap,h⟩:=h.zO
 exact ⟨a,_,cap,h,yD rfl⟩
theorem kFz.post {E:Ending} (h:kFz e r xs w E w') (hl:xs.length≤Big):zT (Rep.slice e r) xs w E w':=by
 obtain ⟨v,rfl,h1,h2⟩:=h
 exact ⟨v,rfl,h1.own hl,h2⟩
theorem kHn {α:Type} {p:α→Bool} {l:List α} {k:Nat} (h:k < l.length) (q:p l[k]=true):(l.take (k + 1)).filter p=(l.take k).filter p++[l[k]]:=by
 rw [List.take_succ_eq_append_getElem h,List.filter_append]
 simp [q]
theorem kFo {α:Type} {p:α→Bool} {l:List α} {k:Nat} (h:k < l.length) (q:p l[k]=false):(l.take (k + 1)).filter p=(l.take k).filter p:=by
 rw [List.take_succ_eq_append_getElem h,List.filter_append]
 simp [q]
theorem kHw {w:World} {s:ByteArray} (hs:s.size≤64) {by0:Nat} (hb:by0 < 256) :
    Calls Try.prog 99 #[.string s,.int .u8 by0] w fun e w'=>∃ v,e=.returned v∧∃ ps,Rep.kT 9 Rep.str w' v ps (Btw w.heap.size w'.heap.size)∧0 < ps.length∧ps.length≤65∧Below w.heap.size w w':=by
 go_enter Try.func99,Try.ntmps99
 go_wp2
 go_loopw [5,6,7] (fun v f i wr=>∃ (k m:Nat) (ps:List ByteArray),k≤s.size + 1∧m≤k∧i=.int .i64 k∧f=.int .i64 m∧ps.length≤k∧(k=s.size + 1→0 < ps.length)∧Hid (Rep.kT 9 Rep.str wr v ps (Btw w.heap.size wr.heap.size))∧Below w.heap.size w wr) (fun _ _ i _=>s.size + 1 - (intOf i).toNat)
 case atStart=>exact ⟨0,0,[],by omega,by omega,rfl,rfl,by simp,by omega,yD Rep.kT.void,bR.alloc nL _⟩
 obtain ⟨k,m,ps,hk,hm,rfl,rfl,hpl,hp0,HO,hbel⟩:=hrel
 obtain ⟨oa,on,oc,ho,HON⟩:=HO.out.parts;obtain rfl:=ho
 have hzr:=hbel.size
 have hk0:=Int.natCast_nonneg k
 have hm0:=Int.natCast_nonneg m
 by_cases hle:k≤s.size
 · have hleI:(k:Int)≤s.size:=gV
   by_cases he:k=s.size
   · have heI:(k:Int)=s.size:=gV
     have hmk:(m:Int)≤k:=gV
     go_wp2_with (at_builtin;refine Rep.jH rfl _ _ 25 rfl (r:=Rep.str) (e:=9) Try.underlying25 yM rfl gU gU (B:=w.heap.size) HO.out gX gX rfl (Rep.flat.own (S:=fun _=>False) (Rep.zy (s:=s.extract m s.size) (by simp only [ByteArray.size_extract];unfold Big;omega))) rfl (fun _ _ h=>h) dC (fun _ h=>h.elim) gV gV ?_)
     intro v2 w2 ho2 hb2 hz2
     have HO2:=yD ho2
     obtain ⟨pa,pn,pc,hp,HPN⟩:=ho2.parts;obtain rfl:=hp
     have hbel2:=hbel.trans hb2
     clear ho2 hb2
     go_wp2
     go_roundw
     case rel=>exact ⟨k + 1,k + 1,_,by omega,by omega,by go_num,by go_num,by simp;omega,by simp,HO2,hbel2⟩
     simp [intOf];omega
   have heI:¬ (k:Int)=s.size:=gV
   have hklI:(k:Int) < s.size:=gV
   have hkl:k < s.size:=gV
   have hmk:(m:Int)≤k:=gV
   go_upto_region 6 with fail
   refine kS (fun W=>Below wr.heap.size wr W) [true,true,true,true,true,true,true,true,true,true,true] (bR) ?_
   intro wS HS
   iterate 4
    all_goals refine wkR ?_
   all_goals (have hg4:=True.intro;first|(refine wkG (fun b hg4=>?_);cases b;all_goals first | exact Bool.noConfusion hg4 | simp only [zU,zV] at hg4 | skip) | refine wkR ?_)
   all_goals refine wkP ?_
   iterate 5
    all_goals refine wkR ?_
   all_goals (have hg10:=True.intro;first|(refine wkG (fun b hg10=>?_);cases b;all_goals first | exact Bool.noConfusion hg10 | simp only [zU,zV] at hg10 | skip) | refine wkR ?_)
   all_goals refine wkP ?_
   all_goals refine kN ?_
   all_goals replace hbel:=(tQ hbel HS)
   all_goals replace HO:=yD ((HO.out.below HS).wide (T:=Btw w.heap.size wS.heap.size) (fun j hj=>⟨hj.1,by have:=hj.2;have:=HS.size;omega⟩))
   all_goals have hzr:=hbel.size
   all_goals clear HS
   all_goals first
     | (go_wp2;go_roundw;(case rel=>exact ⟨k + 1,m,ps,by omega,by omega,by go_num,rfl,by omega,by omega,HO,hbel⟩);(case measure=>simp [intOf];omega))
     | skip
   all_goals
     go_wp2_with (at_builtin;refine Rep.jH rfl _ _ 25 rfl (r:=Rep.str) (e:=9) Try.underlying25 yM rfl gU gU (B:=w.heap.size) HO.out gX gX rfl (Rep.flat.own (S:=fun _=>False) (Rep.zy (s:=s.extract m k) (by simp only [ByteArray.size_extract];unfold Big;omega))) rfl (fun _ _ h=>h) dC (fun _ h=>h.elim) gV gV ?_)
     intro v2 w2 ho2 hb2 hz2
     have HO2:=yD ho2
     obtain ⟨pa,pn,pc,hp,HPN⟩:=ho2.parts;obtain rfl:=hp
     have hbel2:=hbel.trans hb2
     clear ho2 hb2
     go_wp2
     go_roundw
     case rel=>exact ⟨k + 1,k + 1,_,by omega,by omega,by go_num,by go_num,by simp;omega,by simp,HO2,hbel2⟩
     case measure=>simp [intOf];omega
 have hleI:¬ (k:Int)≤s.size:=gV
 have hp:=hp0 gV
 go_wp2
 go_ret
 exact ⟨_,rfl,ps,HO.out,hp,by omega,hbel⟩
end Go.Proofs.Ytpgnbablhdknnaa

/-
  Owned slices at their block's head: a store into an element; two parts appended to a new slice. No program in sight.
  Slices that stand at the head of their own block, as parts of data; an owned list, one of whose elements gets another part. No program in sight.
  Pending interests copied, the requesters at the head of their own blocks.
  slices.DeleteFunc and slices.Delete over owned slices.
-/
import Derived.Test.YtomdenfcfbkfbaaGreatCopyP
set_option linter.unusedVariables false
set_option linter.unusedSimpArgs false
set_option linter.unnecessarySimpa false
set_option maxRecDepth 100000
set_option maxHeartbeats 4000000
namespace Go.Proofs.YtomdenfcfbkfbaaGreat
open Go.RowKit
namespace Rep
section
variable {α:Type} {r:Rep α} {e:TypeId} {w w' u:World} {v:Value} {b cap len n:Nat} {kept rest xs:List α} {j i:Nat} {x:α} {S T:Nat→Prop}
theorem kCj (h:kQ e r w v xs S) (hi:i < xs.length):∃ b cap,v=.slice (some ⟨b,0,none⟩) xs.length cap∧S b∧b < w.heap.size∧xs.length≤cap∧cap≤9223372036854775807:=by
 obtain ⟨hb,h⟩:=h
 rcases h with ⟨⟨a,rfl⟩,rfl⟩|⟨b,cap,cur,cs,tl,rfl,h1,h2,h3,h4,h5,h6,h7⟩
 · simp at hi
 exact ⟨b,cap,rfl,h6,(Array.getElem?_eq_some_iff.1 h3).1,h1,by unfold maxLen at h2;omega⟩
theorem kUw (h:kQ e r w (.slice (some ⟨b,0,none⟩) len cap) xs S) (hi:0 < xs.length):∃ cur,w.heap[b]?=some (.cells cur e (0,0))∧cur.size=cap * r.n:=by
 obtain ⟨hb,h⟩:=h
 rcases h with ⟨⟨a,h0⟩,rfl⟩|⟨b,cap,cur,cs,tl,h0,h1,h2,h3,h4,h5,h6,h7⟩
 · simp at hi
 simp only [Value.slice.injEq,Option.some.injEq,Addr.mk.injEq,and_true] at h0
 obtain ⟨rfl,rfl,rfl⟩:=h0
 exact ⟨cur,h3,h5⟩
theorem own_own0 (h:(slice e r).own w [.slice (some ⟨b,0,none⟩) len cap] xs S) (hne:0 < xs.length) {cur:Array Value} (hc:w.heap[b]?=some (.cells cur e (0,0))) (hs:cur.size=cap * r.n) :
    kQ e r w (.slice (some ⟨b,0,none⟩) len cap) xs S:=by
 obtain ⟨h1,h2,h3,h4,h5,hd,cs,tl,h6,h7,h8,h9,h10⟩:=kHt h hne
 obtain rfl:hd=[]:=List.eq_nil_of_length_eq_zero h7
 rw [hc] at h6
 simp only [Option.some.injEq,Obj.cells.injEq,and_true] at h6
 subst h6
 exact ⟨h5,.inr ⟨b,cap,_,cs,tl,by rw [h1],by omega,h3,hc,by simp,hs,h9,h10⟩⟩
theorem kQ.kBj (h:kQ e r w v xs S):(slice e r).raw w [v] xs:=by
 obtain ⟨hb,h⟩:=h
 have k:(slice e r).is true w [v] xs S:=by
  rcases h with ⟨⟨a,rfl⟩,rfl⟩|⟨b,cap,cur,cs,tl,rfl,h1,h2,h3,h4,h5,h6,h7⟩
  · exact ⟨a,0,0,rfl,rfl,Nat.le_refl _,Nat.zero_le _,.inl ⟨rfl,fun _=>rfl⟩⟩
  exact ⟨_,_,cap,rfl,rfl,h1,h2,.inr ⟨b,0,rfl,cur,e,(0,0),[],cs,tl,h3,by simpa using h4,rfl,by omega,fun _=>⟨rfl,rfl⟩,h6,yM h7 (fun k hk=>⟨hk.1,fun _=>hk.2⟩)⟩⟩
 exact (slice e r).wide ((slice e r).weak k) (fun _ _=>trivial)
theorem kLv {j p:Nat} {y:α} {u:Value} (h:kQ e r w (.slice (some ⟨b,0,none⟩) len cap) xs S) (hl:xs.length≤Big) (hi:i < xs.length) (hj:j < r.n)
    (hy:∀ {w:World} {cs:List Value} {S:Nat→Prop},r.is true w cs xs[i] S→r.is true w (cs.set j u) y S) (hby:r.bdd Big y) (hp:p=i * r.n + j) :
    kQ e r (w.setCell ⟨b,p,none⟩ u) (.slice (some ⟨b,0,none⟩) len cap) (xs.set i y) S∧Touch (fun k=>k=b) w (w.setCell ⟨b,p,none⟩ u):=by
 obtain ⟨cur,hc,hs⟩:=kUw h rJ
 obtain ⟨h1,h2⟩:=kEz (h.own hl) hi hj hy hby
 rw [Nat.zero_add,← hp] at h1 h2
 have h3:=heap_setCell_same w b p cur e u hc
 exact ⟨own_own0 h1 (by simpa using (by omega:0 < xs.length)) h3 (by simpa using hs),h2⟩
theorem kHu (h:kQ e r w (.slice (some ⟨b,0,none⟩) len cap) xs S) (hi:0 < xs.length) (q:Nat):w.frozen? ⟨b,q,none⟩=false:=by
 obtain ⟨cur,hc,_⟩:=kUw h hi
 exact frozen_of_row w b q _ _ hc
theorem wpList_append_run {P:Program} {ops:Array Oper} {rest':List Oper} {o:Oper} {a:Act} {Q:Exit→Act→World→Prop} (hgd:o.guard=none) (s x:Operand) (t:TypeId)
    (ho:o.op=.call { callee:=.builtin .append,args:=#[s,x],argTypes:=#[t,t] }) {v sv v':Value} (hs:a.eval s=v) (hx:a.eval x=sv)
    (hr:(Builtin.append_ #[t,t] o.type #[v,sv]).run P w=.ok v' w') (h:wpList P ops Q rest' (a.put o.dst v') w'):wpList P ops Q (o :: rest') a w :=
  wpList_plain hgd fun _ hK=>kX s x t ho hs hx hr (hK _ _ h)
end
end Rep
namespace Rep
section
variable {α β:Type} {r q:Rep α} {e:TypeId} {w w':World} {v:Value} {xs:List α} {S T:Nat→Prop}
def headed (e:TypeId) (n:Nat) (w:World) (cs:List Value):Prop :=
  ∀ a len cap,cs=[.slice a len cap]→(len=0∧cap=0)∨∃ b cur,a=some ⟨b,0,none⟩∧w.heap[b]?=some (.cells cur e (0,0))∧cur.size=cap * n
theorem headed_keep {cs:List Value} (h:(slice e r).is true w cs xs S) (hh:headed e r.n w cs) (k:∀ k,S k→w'.heap[k]?=w.heap[k]?):headed e r.n w' cs:=by
 intro a len cap hc
 rcases hh a len cap hc with h1|⟨b,cur,rfl,h2,h3⟩
 · exact .inl h1
 obtain ⟨a',len',cap',h0,h4,h5,h6,h7⟩:=h
 rw [hc] at h0
 simp only [List.cons.injEq,Value.slice.injEq,and_true] at h0
 obtain ⟨rfl,rfl,rfl⟩:=h0
 rcases h7 with ⟨h8,h9⟩|⟨b',off,hb,cur',e',fr,hd,cs',tl,g1,g2,g3,g4,g5,g6,g7⟩
 · have:=h9 rfl;exact .inl ⟨by omega,this⟩
 simp only [Option.some.injEq,Addr.mk.injEq,and_true] at hb
 obtain ⟨rfl,rfl⟩:=hb
 exact .inr ⟨b,cur,rfl,(k b g6).trans h2,h3⟩
def kKl {α:Type} (e:TypeId) (r:Rep α):Rep (List α) :=
  { slice e r with
    is:=fun o w cs xs S=>(slice e r).is o w cs xs S∧(o=true→headed e r.n w cs)
    len:=fun h=>(slice e r).len h.1
    one:=fun h=>(slice e r).one h.1
    mono:=by
      intro o w w' cs xs S h k
      refine ⟨(slice e r).mono h.1 k,fun ho=>?_⟩
      subst ho
      exact headed_keep h.1 (h.2 rfl) k
    wide:=fun h k=>⟨(slice e r).wide h.1 k,h.2⟩
    weak:=fun h=>⟨(slice e r).weak h.1,fun q=>by cases q⟩
    live:=fun h=>⟨(slice e r).live h.1,h.2⟩
    is_zero:=⟨(slice e r).is_zero,fun _ a len cap h=>by
      have h':([.slice none 0 0]:List Value)=[.slice a len cap]:=h
      simp only [List.cons.injEq,Value.slice.injEq,and_true] at h'
      exact .inl ⟨h'.2.1.symm,h'.2.2.symm⟩⟩ }
theorem kQ.own0h (h:kQ e r w v xs S) (hl:xs.length≤Big):(kKl e r).own w [v] xs S:=by
 have h1:=h.own hl
 refine ⟨⟨h1.1,fun _ a len cap hc=>?_⟩,h1.2⟩
 obtain ⟨hb,h⟩:=h
 simp only [List.cons.injEq,and_true] at hc
 rcases h with ⟨⟨a',rfl⟩,rfl⟩|⟨b,cap',cur,cs,tl,rfl,g1,g2,g3,g4,g5,g6,g7⟩
 · simp only [Value.slice.injEq] at hc;exact .inl ⟨hc.2.1.symm,hc.2.2.symm⟩
 simp only [Value.slice.injEq] at hc
 obtain ⟨rfl,rfl,rfl⟩:=hc
 exact .inr ⟨b,cur,rfl,g3,g5⟩
theorem own0_of (h:(kKl e r).own w [v] xs S):kQ e r w v xs S:=by
 obtain ⟨⟨⟨a,len,cap,hv,rfl,h2,h3,h4⟩,hh⟩,hl,hb⟩:=h
 simp only [List.cons.injEq,and_true] at hv
 subst hv
 refine ⟨hb,?_⟩
 rcases h4 with ⟨rfl,h5⟩|⟨b,off,rfl,cur,e',fr,hd,cs,tl,g1,g2,g3,g4,g5,g6,g7⟩
 · exact .inl ⟨⟨a,by rw [h5 rfl];rfl⟩,rfl⟩
 rcases hh rfl _ _ _ rfl with ⟨k1,k2⟩|⟨b',cur',k1,k2,k3⟩
 · have:xs=[]:=List.length_eq_zero_iff.1 k1
   subst this;subst k2
   exact .inl ⟨⟨_,rfl⟩,rfl⟩
 simp only [Option.some.injEq,Addr.mk.injEq,and_true] at k1
 obtain ⟨rfl,rfl⟩:=k1
 rw [g1] at k2
 simp only [Option.some.injEq,Obj.cells.injEq] at k2
 obtain ⟨rfl,rfl,rfl⟩:=k2
 have:hd=[]:=List.length_eq_zero_iff.1 g3
 subst this
 exact .inr ⟨b,cap,cur,cs,tl,rfl,h2,h3,g1,by simpa using g2,k3,g6,yM g7 (fun k hk=>⟨hk.1,hk.2 rfl⟩)⟩
theorem row_to (hn:∀ {cs:List Value} {x:α} {S:Nat→Prop},r.is true w cs x S→q.is true w cs x S):∀ {cells:List Value} {ys:List α} {S:Nat→Prop},row r true w cells ys S→row q true w cells ys S
  | _,[],_,h=>h
  | _,y :: ys,_,⟨c,d,A,B,h,h1,h2,hA,hB,hd⟩=>⟨c,d,A,B,h,hn h1,row_to hn h2,hA,hB,hd⟩
theorem kQ.to (hn:∀ {cs:List Value} {x:α} {S:Nat→Prop},r.is true w cs x S→q.is true w cs x S) (hb:∀ x,r.bdd Big x→q.bdd Big x) (hq:q.n=r.n) (h:kQ e r w v xs S):kQ e q w v xs S:=by
 obtain ⟨h0,h⟩:=h
 refine ⟨fun x hx=>hb x (h0 x hx),?_⟩
 rcases h with h|⟨b,cap,cur,cs,tl,g0,g1,g2,g3,g4,g5,g6,g7⟩
 · exact .inl h
 exact .inr ⟨b,cap,cur,cs,tl,g0,g1,g2,g3,g4,by rw [hq];exact g5,g6,row_to hn g7⟩
theorem own0_part {b cap len i j p:Nat} (h:kQ e r w (.slice (some ⟨b,0,none⟩) len cap) xs S) (hi:i < xs.length) (hj:j < r.n) (hp:p=i * r.n + j) :
    ∃ (cs:List Value) (B:Nat→Prop),r.is true w cs xs[i] B∧(∀ k,B k→S k∧k≠b)∧(∀ c,cs[j]?=some c→w.cell? ⟨b,p,none⟩=some c)∧w.frozen? ⟨b,p,none⟩=false∧S b∧b < w.heap.size ∧
      ∀ (w':World) (u:Value) (y:α) (T:Nat→Prop),(∀ k,S k→¬ B k→w'.heap[k]?=w.heap[k]?)→r.is true w' (cs.set j u) y T→(∀ k,T k→B k∨¬ S k)→r.bdd Big y →
        kQ e r (w'.setCell ⟨b,p,none⟩ u) (.slice (some ⟨b,0,none⟩) len cap) (xs.set i y) (fun k=>S k∨T k):=by
 subst hp
 obtain ⟨hb,h⟩:=h
 rcases h with ⟨⟨a,h0⟩,rfl⟩|⟨b',cap',cur,cs,tl,h0,h1,h2,h3,h4,h5,h6,h7⟩
 · simp at hi
 simp only [Value.slice.injEq,Option.some.injEq,Addr.mk.injEq,and_true] at h0
 obtain ⟨rfl,rfl,rfl⟩:=h0
 obtain ⟨c1,c,c2,A,B,C,rfl,hl,r1,r2,r3,hA,hB,hC,hd⟩:=kKm h7 hi
 have hc:=r.len r2
 have hcur:cur=((c1++(c++c2))++tl).toArray:=by rw [← h4]
 refine ⟨c,B,r2,hB,?_,frozen_of_row w b _ _ _ h3,h6,(Array.getElem?_eq_some_iff.1 h3).1,?_⟩
 · intro u hu
   have hju:=(List.getElem?_eq_some_iff.1 hu).1
   rw [cell_of_row w b _ _ e (0,0) h3,hcur]
   simp only [List.getElem?_toArray]
   rw [List.append_assoc,List.getElem?_append_right rJ,hl,show i * r.n + j - i * r.n=j by omega,List.append_assoc,List.getElem?_append_left rJ]
   exact hu
 intro w' u y T hw hy hT hby
 have hbT:∀ k,T k→k≠b:=fun k hk q=>by
   subst q
   rcases hT _ hk with t | t
   · exact (hB _ t).2 rfl
   · exact t h6
 have hb':w'.heap[b]?=some (.cells cur e (0,0)):=(hw b h6 (fun t=>(hB b t).2 rfl)).trans h3
 subst hcur
 have hset:=heap_setCell_same w' b (i * r.n + j) _ e u hb'
 refine ⟨?_,.inr ⟨b,cap,_,c1++(c.set j u++c2),tl,by rw [List.length_set],by rw [List.length_set];exact h1,h2,hset,?_,?_,.inl h6,?_⟩⟩
 · intro z hz
   rcases List.mem_or_eq_of_mem_set hz with q | q
   · exact hb z q
   rw [q];exact hby
 · simp only [Array.toList_setIfInBounds,List.toList_toArray]
   rw [List.append_assoc,List.append_assoc,List.set_append_right _ _ rJ,hl,show i * r.n + j - i * r.n=j by omega,List.set_append_left _ _ rJ]
   simp
 · simpa using h5
 have oth:∀ k,k≠b→(w'.setCell ⟨b,i * r.n + j,none⟩ u).heap[k]?=w'.heap[k]?:=fun k hk=>heap_setCell_other w' ⟨b,i * r.n + j,none⟩ k u hk
 have keep:∀ {D:Nat→Prop},(∀ k,D k→S k∧k≠b)→(∀ k,D k→B k→False)→∀ k,D k→(w'.setCell ⟨b,i * r.n + j,none⟩ u).heap[k]?=w.heap[k]?:=fun hD hx k hk=>(oth k (hD k hk).2).trans (hw k (hD k hk).1 (fun t=>hx k hk t))
 refine kLt (A:=A) (B:=T) (C:=C) hi (yB r1 (keep hA (fun k a t=>(hd rfl k).1 a t))) (r.mono hy (fun k hk=>oth k (hbT k hk))) (yB r3 (keep hC (fun k a t=>(hd rfl k).2.2 t a))) ?_ ?_ ?_ ?_
 · exact fun k hk=>⟨.inl (hA k hk).1,(hA k hk).2⟩
 · exact fun k hk=>⟨.inr hk,hbT k hk⟩
 · exact fun k hk=>⟨.inl (hC k hk).1,(hC k hk).2⟩
 refine fun _ k=>⟨fun a t=>?_,(hd rfl k).2.1,fun t a=>?_⟩
 · rcases hT k t with q | q
   · exact (hd rfl k).1 a q
   exact q (hA k a).1
 rcases hT k t with q | q
 · exact (hd rfl k).2.2 q a
 exact q (hC k a).1
end
end Rep
def kDr:Rep kJ:=Rep.pair kZ (Rep.pair (Rep.kKl 81 kF) Rep.int)
theorem pend_to {w:World} {cs:List Value} {x:kJ} {S:Nat→Prop} (h:kDr.is true w cs x S):kD.is true w cs x S:=by
 obtain ⟨c,d,A,B,rfl,h1,⟨c2,d2,A2,B2,rfl,h2,h3,k1,k2,k3⟩,k4,k5,k6⟩:=h
 exact ⟨c,c2++d2,A,B,rfl,h1,⟨c2,d2,A2,B2,rfl,h2.1,h3,k1,k2,k3⟩,k4,k5,k6⟩
theorem kEg {w:World} {v:Value} {l:List kJ} {S:Nat→Prop} {e:TypeId} (h:Rep.kQ e kDr w v l S):Rep.kQ e kD w v l S :=
  Rep.kQ.to (q:=kD) pend_to (fun _ h=>h) rfl h
theorem pend_part {e:TypeId} {w:World} {b cap len k:Nat} {l:List kJ} {S:Nat→Prop} (h:Rep.kQ e kDr w (.slice (some ⟨b,0,none⟩) len cap) l S) (hk:k < l.length) :
    ∃ (ra:Option Addr) (rp:Nat) (B:Nat→Prop),w.cell? ⟨b,k * 3 + 1,none⟩=some (.slice ra l[k].2.1.length rp)∧Rep.kQ 81 kF w (.slice ra l[k].2.1.length rp) l[k].2.1 B∧(∀ j,B j→S j∧j≠b)∧w.frozen? ⟨b,k * 3 + 1,none⟩=false∧S b∧b < w.heap.size ∧
      ∀ (w':World) (v':Value) (xs':List kS) (T:Nat→Prop),(∀ j,S j→¬ B j→w'.heap[j]?=w.heap[j]?)→Rep.kQ 81 kF w' v' xs' T→(∀ j,T j→B j∨¬ S j)→xs'.length≤Big →
        Rep.kQ e kDr (w'.setCell ⟨b,k * 3 + 1,none⟩ v') (.slice (some ⟨b,0,none⟩) len cap) (l.set k (l[k].1,xs',l[k].2.2)) (fun j=>S j∨T j):=by
 have hbx:=h.1 l[k] (List.getElem_mem hk)
 obtain ⟨cs,D,his,hD,hcell,hfr,hSb,hbz,hset⟩:=Rep.own0_part h hk (j:=1) (p:=k * 3 + 1) rG rfl
 obtain ⟨c,d,A,B,rfl,h1,⟨c2,d2,A2,B2,rfl,h2,h3,k1,k2,k3⟩,k4,k5,k6⟩:=his
 have hc1:c.length=1:=kZ.len h1
 obtain ⟨cn,rfl⟩:=List.length_eq_one_iff.1 hc1
 obtain ⟨ra,ln,rp,rfl,rfl,hrest⟩:=h2.1
 have ho:=Rep.own0_of (e:=81) (r:=kF) (w:=w) (v:=.slice ra l[k].2.1.length rp) (xs:=l[k].2.1) (S:=A2) ⟨h2,hbx.2.1⟩
 refine ⟨ra,rp,A2,hcell _ rfl,ho,fun j hj=>hD j (k5 j (k1 j hj)),hfr,hSb,hbz,?_⟩
 intro w' v' xs' T hw hv hT hl
 have hoth:∀ j,D j→¬ A2 j→w'.heap[j]?=w.heap[j]?:=fun j hj hn=>hw j (hD j hj).1 hn
 have hdis:∀ j,T j→A j→False:=fun j ht ha=>by
   rcases hT j ht with q | q
   · exact k6 rfl j ha (k1 j q)
   · exact q (hD j (k4 j ha)).1
 refine (hset w' v' (l[k].1,xs',l[k].2.2) (fun j=>A j∨T j) (fun j hs hn=>hw j hs (fun q=>hn (k5 j (k1 j q)))) ?_ ?_ ⟨hbx.1,(hv.own0h hl).2,trivial⟩).wide ?_
 · refine ⟨[cn],v' :: d2,A,T,rfl,kZ.mono h1 (fun j hj=>hoth j (k4 j hj) (fun q=>k6 rfl j hj (k1 j q))),?_,fun j=>.inl,fun j=>.inr,fun _ j a t=>hdis j t a⟩
   exact ⟨[v'],d2,T,fun _=>False,rfl,(hv.own0h hl).1,h3,fun j hj=>hj,fun j hj=>hj.elim,fun _ j _ hj=>hj⟩
 · rintro j (hj | hj)
   · exact .inl (k4 j hj)
   rcases hT j hj with q | q
   · exact .inl (k5 j (k1 j q))
   exact .inr q
 rintro j (hj | hj | hj)
 · exact .inl hj
 · exact .inl (hD j (k4 j hj)).1
 exact .inr hj
theorem kMy {w:World} {va:Value} {x:List kS} (ha:(Rep.slice 81 kF).rd w [va] x):Calls Tryz.prog 192 #[va] w (kDc 81 kF x w):=by
 obtain ⟨aa,capa,rfl,la⟩:=Rep.sl ha.1
 have HA:=yD ha
 have hnil:=fun (W:World) (a:Option Addr) (n c:Nat)=>Lib.run_eql_slice_nil (P:=Tryz.prog) W 75 81 a n c 0 0 Tryz.underlying75
 cases aa with
 | none =>
   have hx:x=[]:=by
     cases x with
     | nil=>rfl
     | cons y ys =>
       obtain ⟨b,off,h,_⟩:=Rep.kCt ha.1 (i:=0) rM
       cases h
   subst hx
   clear ha
   go_enter Tryz.func192,Tryz.ntmps192
   go_wp2
   go_ret
   exact ⟨_,rfl,Rep.kQ.void,bR⟩
 | some a =>
   have hb:x.length≤16777216:=ha.2.1
   clear ha
   go_enter Tryz.func192,Tryz.ntmps192
   have O0:Rep.kQ 81 kF (w.alloc (.cells #[] 81)) (.slice (some ⟨w.heap.size,0,none⟩) 0 0) [] (fun k=>k=w.heap.size):=Rep.yS (cs:=[]) (xs:=[]) (T:=fun _=>False) rM rM rfl (fun _ h=>h.elim) rfl
   go_wp2_with (at_builtin;refine Rep.kAb rfl _ _ 75 rfl (r:=kF) (e:=81) Tryz.underlying75 yO rfl rG rG kBw (B:=w.heap.size) O0 rO rO (HA.out.alloc _) gZ rM rC ?_)
   intro v2 w2 hown hbel hz
   have HO:=yD hown
   obtain ⟨a2,c2,hv⟩:=hown.zR
   obtain rfl:=hv
   have EG:Below w.heap.size w w2:=Below.trans bD hbel
   clear hown O0 hbel
   go_wp2
   go_ret
   exact ⟨_,rfl,by simpa using HO.out,EG⟩
theorem kMf {w:World} {vl:Value} {l:List kJ} (hl:(Rep.slice 77 kD).rd w [vl] l) :
    Calls Tryz.prog 127 #[vl] w (kDc 77 kDr l w):=by
 have HL:=yD hl
 obtain ⟨la,lp,rfl,ll⟩:=Rep.sl hl.1
 have hlb:l.length≤16777216:=hl.2.1
 clear hl
 go_enter Tryz.func127,Tryz.ntmps127
 go_wp2
 have O0:Rep.kQ 77 kDr (w.alloc (.cells #[] 77)) (.slice (some ⟨w.heap.size,0,none⟩) 0 0) [] (Btw w.heap.size (w.alloc (.cells #[] 77)).heap.size) :=
   Rep.yS (e:=77) (r:=kDr) (w:=w) (cs:=[]) (xs:=[]) (T:=fun _=>False) rM rM rfl (fun _ h=>h.elim) ⟨Nat.le_refl _,by simp⟩
 go_loopw [3,9] (fun v i wr=>∃ k:Nat,k≤l.length∧i=.int .i64 k∧Hid (Rep.kQ 77 kDr wr v (l.take k) (Btw w.heap.size wr.heap.size))∧Below w.heap.size w wr) (fun _ i _=>l.length - (intOf i).toNat)
 case atStart=>exact ⟨0,Nat.zero_le _,rfl,yD O0,bR.alloc nL _⟩
 clear O0
 obtain ⟨k,hk,rfl,HO,hbel⟩:=hrel
 obtain ⟨oa,on,oc,ho,HON⟩:=HO.out.parts;obtain rfl:=ho
 have hlk:(l.take k).length≤k:=rC
 by_cases hlt:k < l.length
 · obtain ⟨qb,qo,rfl,qc0,qc1,qc2,qr,Aq0,Aq1,Aq2⟩:=Rep.zT (HL.out.1.below hbel) hlt rfl
   have hbd:=Rep.jq HL.out hlt
   have hsn:=List.take_succ_eq_append_getElem hlt
   generalize l[k]=x at *
   have HSN:=yD hsn;clear hsn
   obtain ⟨x0,x1,x2⟩:=x
   obtain ⟨qv0,qv1,qhe,q_0,q_1,q_2,q_3⟩:=kz qr
   simp only [List.cons.injEq,and_true] at qhe
   obtain ⟨rfl,rfl,rfl⟩:=qhe
   obtain ⟨qa0,qp0,rfl,ql0⟩:=Rep.sl q_1
   obtain ⟨qa1,qp1,rfl,ql1⟩:=Rep.sl q_2
   have px0:kZ.rd wr _ x0:=⟨q_0,hbd.1⟩
   have px1:(Rep.slice 81 kF).rd wr _ x1:=⟨q_2,hbd.2.1⟩
   go_upto_region 5 with fail
   generalize hwC:World.alloc wr _=wC
   have EC:Below wr.heap.size wr wC:=mE
   have hzC:wC.heap.size=wr.heap.size + 1:=qH
   have M0:wC.cell? ⟨wr.heap.size,0,none⟩=some (.slice qa0 (x0).length qp0):=nK
   have M1:wC.cell? ⟨wr.heap.size,1,none⟩=some (.slice qa1 (x1).length qp1):=nK
   have M2:wC.cell? ⟨wr.heap.size,2,none⟩=some (.int .i64 x2):=nK
   clear hwC
   have FX:=yD (fun (W:World) (hW:Below wC.heap.size wC W)=>cLs3 hW M0 M1 M2)
   refine jw (fun W=>Below wC.heap.size wC W) [(0,true),(1,true),(2,true),(4,true),(5,true),(7,true),(8,true),(3,false),(6,false),(9,true),(10,false)] rA rA gI (bR.drew) ?_
   intro wS HS
   simp only [jO,List.length_cons,List.length_nil,List.getElem?_cons_succ,List.getElem?_cons_zero,List.map_cons,List.map_nil,List.cons_append,List.nil_append,List.drop_succ_cons,List.drop_zero]
   iterate 7
    all_goals refine wkR ?_
   all_goals first|(refine kL rfl HS ?_)|(refine jE rfl (fun K hK=>?_);go_simp;refine (yI (px0.below (tQ EC HS))).mono ?_;rintro e wT0 ⟨t0_c,rfl,OT0,hbT⟩;obtain ⟨t0_qv0,rfl,t0_q_0⟩:=kR OT0.raw;obtain ⟨t0_qa0,t0_qp0,rfl,t0_ql0⟩:=Rep.sl t0_q_0;skip;clear t0_q_0;replace OT0:=yD OT0;have hs0:=hbT.size;have hr0:=HS.size;replace HS:=(tQ HS hbT);refine hK _ _ HS ?_;clear hK K hbT)
   all_goals refine wkP ?_
   all_goals first|(refine kL rfl HS ?_)|(refine jE rfl (fun K hK=>?_);go_simp;refine (kMy (px1.below (tQ EC HS))).mono ?_;rintro e wT1 ⟨t1_v,rfl,OT1,hbT⟩;obtain ⟨t1_a,t1_p,rfl,_⟩:=Rep.sl OT1.kBj;skip;replace OT1:=yD OT1;have hs1:=hbT.size;have hr1:=HS.size;replace OT0:=yD (OT0.out.below hbT);replace HS:=(tQ HS hbT);refine hK _ _ HS ?_;clear hK K hbT)
   all_goals refine wkP ?_
   all_goals refine wkR ?_
   all_goals first|(refine kL rfl HS ?_)|(refine jE rfl (fun K hK=>?_);go_simp;refine hK _ _ (HS.alloc HS.size _) ?_;clear hK K)
   all_goals refine wkP ?_
   all_goals refine yF ?_
   have hsW:=HS.size
   have hsC:=EC.size
   have hrC:=hbel.size
   have hbS:Below wr.heap.size wr _:=(tQ EC HS)
   replace HO:=yD (HO.out.below hbS)
   have hbW:=(tQ hbel hbS)
   go_wp2_with (at_builtin;refine Rep.jU rfl _ _ 37 rfl (r:=kDr) (e:=77) Tryz.underlying37 zW rfl rG rG (B:=w.heap.size) HO.out rO rO rfl (Rep.own.wide (T:=Btw wr.heap.size wT1.heap.size) (Rep.jZ (S:=Btw (wS.heap.size) (wT1.heap.size)) (OT0.out) (Rep.jv (OT1.out.own0h px1.2.1) (Rep.kr q_3)) dM dM dX) dM) rfl dX gP dM rJ mZ ?_)
   intro v2 w2 hown2 hbel2 hz2
   replace hown2:=Rep.kQ.cast hown2 (HSN.out.symm)
   have HO2:=yD hown2
   have hbel3:=hbW.trans hbel2
   clear hown2 HO hbel2
   go_wp2
   go_roundw
   case rel=>exact ⟨k + 1,by omega,by go_num,HO2,hbel3⟩
   simp [intOf];omega
 obtain rfl:k=l.length:=rJ
 go_wp2
 go_ret
 exact ⟨_,rfl,Rep.kQ.cast HO.out rM,hbel⟩
theorem kIb {α:Type} (p:α→Bool) (x:List α):(idxOf p x=-1∧∀ j (h:j < x.length),p x[j]=false)∨∃ k,∃ h:k < x.length,idxOf p x=(k:Int)∧p x[k]=true∧∀ j (h:j < k) (h2:j < x.length),p x[j]=false:=by
 unfold idxOf
 cases hf:x.findIdx? p with
 | none =>
   refine .inl ⟨rfl,fun j h=>?_⟩
   rw [List.findIdx?_eq_none_iff] at hf
   exact hf _ (List.getElem_mem h)
 | some k =>
   obtain ⟨h1,h2,h3⟩:=List.findIdx?_eq_some_iff_getElem.1 hf
   exact .inr ⟨k,h1,rfl,h2,fun j h h4=>by simpa using h3 j h⟩
theorem kIf {α:Type} {p:α→Bool} {x:List α} (h:∀ j (h:j < x.length),p x[j]=false):x.filter (fun y=>!p y)=x:=by
 rw [List.filter_eq_self]
 intro y hy
 obtain ⟨j,hj,rfl⟩:=List.getElem_of_mem hy
 simp [h j hj]
theorem kFi {α:Type} {p:α→Bool} {x:List α} {k:Nat} (hk:k < x.length) (h:∀ j (h:j < k) (h2:j < x.length),p x[j]=false):(x.take k).filter (fun y=>!p y)=x.take k:=by
 rw [List.filter_eq_self]
 intro y hy
 obtain ⟨j,hj,rfl⟩:=List.getElem_of_mem hy
 simp only [List.length_take] at hj
 simp only [List.getElem_take]
 simp [h j rJ rJ]
theorem kQn (z:Value) (h:(z.cells.toList.all fun u=>u.oneCell')=true):∀ u∈z.cells,u.oneCell'=true:=by
 intro u hu
 exact List.all_eq_true.1 h u (by simpa using hu)
theorem kLj {w:World} {v:Value} {l:List jD} {g:FuncId} {cp:Array Value} {S:Nat→Prop} (p:jD→Bool) (hg:jB Tryz.prog g) (hl:Rep.kQ 159 kM w v l S) (hlen:l.length≤16777216)
    (hcl:∀ wr,Touch S w wr→∀ x cs,kM.raw wr cs x→Calls Tryz.prog g (#[.agg cs.toArray]++cp) wr (fun e w'=>e=.returned (.bool (p x))∧Below wr.heap.size wr w')) :
    Calls Tryz.prog 198 #[v,.func (.func g) #[] cp] w fun e w'=>∃ v',e=.returned v'∧Rep.kQ 159 kM w' v' (l.filter (fun x=>!p x)) S∧Touch S w w':=by
 have HCL:=yD hcl;clear hcl
 have HO:=yD hl
 unfold jB at hg
 have HI:Hid (∀ va,v=va→Calls Tryz.prog 226 #[va,.func (.func g) #[] cp] w fun e w'=>e=.returned (.int .i64 (idxOf p l))∧Below w.heap.size w w'):=yD (fun va hv=>by
   subst hv
   exact kMx p hg (HO.out.own hlen).raw (fun wr hb i h cs hr=>HCL.out wr (Touch.of_below hb) _ cs hr))
 rcases kIb p l with ⟨hi,hno⟩|⟨i,hil,hi,hyes,hno⟩
 · obtain ⟨oa,on,oc,ho,HON⟩:=hl.parts;obtain rfl:=ho
   rw [hi] at HI
   have HF:=yD (kIf hno).symm
   clear hno hi hl
   go_enter Tryz.func198,Tryz.ntmps198
   go_wp2_with fail
   refine (HI.out _ rfl).mono ?_
   rintro e w1 ⟨rfl,hb1⟩
   have HO1:=yD (HO.out.below hb1)
   go_wp2
   go_ret
   exact ⟨_,rfl,HO1.out.cast HF.out,Touch.of_below hb1⟩
 obtain ⟨b,cap,rfl,hgap⟩:=Rep.kNy hl hil
 rw [hi] at HI
 rw [List.drop_eq_getElem_cons hil] at hgap
 have hgap1:=hgap.skip
 have HK0:=yD (kFi hil hno)
 have HNY:=yD (kBr (p:=fun y=>!p y) hil (by simp [hyes]))
 have HSb:=yD hgap.mem
 have hcap:=hgap.len
 simp only [List.length_take,List.length_cons,List.length_drop] at hcap
 have hcap2:l.length≤cap:=hcap.2.1
 have hcap3:cap≤9223372036854775807:=fG
 clear hno hi hl hgap hyes HO hcap
 have hi1:((i:Int)==-1)=false:=mF
 go_enter Tryz.func198,Tryz.ntmps198
 go_wp2_with fail
 refine (HI.out _ rfl).mono ?_
 rintro e w1 ⟨rfl,hb1⟩
 have G1:=yD (hgap1.below hb1)
 have E1:=yD (Touch.of_below (S:=S) hb1)
 clear hgap1 HI
 go_wp2
 go_loopw [5,6] (fun q c wr=>∃ m kn:Nat,m≤l.length∧kn + 1≤m∧q=.int .i64 kn∧c=.int .i64 m∧Hid (kn=((l.take m).filter (fun y=>!p y)).length)∧Hid (Rep.gap 159 kM wr b cap l.length ((l.take m).filter (fun y=>!p y)) (m - kn) (l.drop m) S)∧Hid (Touch S w wr)) (fun _ c _=>l.length - (intOf c).toNat)
 case atStart =>
  refine ⟨i + 1,i,by omega,by omega,rfl,by go_num,yD mD,yD ?_,E1⟩
  rw [HNY.out,HK0.out,show i + 1 - i=0 + 1 by omega]
  exact G1.out
 clear E1 G1 HNY HK0 hb1
 obtain ⟨m,kn,hm,hkn,rfl,rfl,HKN,G,E⟩:=hrel
 by_cases hlt:m < l.length
 · have hG:=G.out
   rw [List.drop_eq_getElem_cons hlt] at hG
   have hfy:=fun q=>kDe (p:=fun y=>!p y) hlt q
   have hfn:=fun q=>kBr (p:=fun y=>!p y) hlt q
   obtain ⟨cs,hr,hcl,hbd,hcell,hnext⟩:=hG.next
   have hskip:=hG.skip
   have hfz:=hG.frozen
   generalize l[m]=x at *
   have HFY:=yD hfy;have HFN:=yD hfn;clear hfy hfn hG
   rw [← HKN.out] at hcell hnext
   rw [show kn + (m - kn)=m by omega] at hcell
   obtain ⟨c0,c1,c2,rfl⟩:∃ c0 c1 c2,cs=[c0,c1,c2]:=by
    have hl2:=kM.len hr
    match cs,hl2 with
    | [c0,c1,c2],_=>exact ⟨_,_,_,rfl⟩
   have A0:wr.cell? ⟨b,m * 3,none⟩=some c0:=hcell 0 c0 rfl
   have A1:wr.cell? ⟨b,m * 3 + 1,none⟩=some c1:=hcell 1 c1 rfl
   have A2:wr.cell? ⟨b,m * 3 + 2,none⟩=some c2:=hcell 2 c2 rfl
   have hroom:∀ q,q < 3→kn * 3 + q < cap * 3:=by intro q hq;omega
   obtain ⟨o0,O0⟩:=Option.isSome_iff_exists.1 (G.out.cells (i:=kn * 3) (by have:=hroom 0 rJ;simp only [show kM.n=3 from rfl];omega))
   have Z0:=hfz (kn * 3)
   obtain ⟨o1,O1⟩:=Option.isSome_iff_exists.1 (G.out.cells (i:=kn * 3 + 1) (by have:=hroom 1 rJ;simp only [show kM.n=3 from rfl];omega))
   have Z1:=hfz (kn * 3 + 1)
   obtain ⟨o2,O2⟩:=Option.isSome_iff_exists.1 (G.out.cells (i:=kn * 3 + 2) (by have:=hroom 2 rJ;simp only [show kM.n=3 from rfl];omega))
   have Z2:=hfz (kn * 3 + 2)
   have HR:=yD hr
   obtain ⟨rv0,rhe,r_0,r_1,r_2,r_3⟩:=jK hr
   simp only [List.cons.injEq,and_true] at rhe
   obtain ⟨rfl,rfl,rfl⟩:=rhe
   obtain ⟨ra0,rp0,rfl,rl0⟩:=Rep.sl r_1
   clear r_0 r_1 r_2 r_3 hr hcl hcell hroom hfz
   have HNX:=yD hnext;have HSK:=yD hskip;clear hnext hskip
   have HB:=yD (G.out.lt)
   go_wp2_with fail
   generalize hwC:World.alloc wr _=wC
   have EC:Below wr.heap.size wr wC:=mE
   have M0:wC.cell? ⟨wr.heap.size,0,none⟩=some (.slice ra0 (x.1).length rp0):=nK
   have M1:wC.cell? ⟨wr.heap.size,1,none⟩=some (.int .i64 x.2.1):=nK
   have M2:wC.cell? ⟨wr.heap.size,2,none⟩=some (.int .i64 x.2.2):=nK
   clear hwC
   refine (HCL.out wC (E.out.trans (Touch.of_below EC)) _ _ (HR.out.below EC)).mono ?_
   rintro e w5 ⟨rfl,hb5⟩
   have E5:=yD (tQ EC hb5)
   replace M0:=cL hb5 M0
   replace M1:=cL hb5 M1
   replace M2:=cL hb5 M2
   clear EC hb5
   cases hp:p x
   · have HT:=yD (HFY.out rF)
     replace O0:=cL E5.out O0
     replace Z0:=(E5.out.frozen (p:=⟨b,kn * 3,none⟩) HB.out).trans Z0
     replace O1:=cL E5.out O1
     replace Z1:=(E5.out.frozen (p:=⟨b,kn * 3 + 1,none⟩) HB.out).trans Z1
     replace O2:=cL E5.out O2
     replace Z2:=(E5.out.frozen (p:=⟨b,kn * 3 + 2,none⟩) HB.out).trans Z2
     obtain ⟨hg1,hg2⟩:=HNX.out w5 E5.out rJ _ rfl
     simp only [show kM.n=3 from rfl] at hg1 hg2
     have HG1:=yD hg1;have HG2:=yD hg2;clear hg1 hg2 HNX HSK HFN HFY
     go_wp2
     go_roundw
     case rel =>
      refine ⟨m + 1,kn + 1,by omega,by omega,by go_num,by go_num,yD dY,yD ?_,yD ((E.out.trans (Touch.of_below E5.out)).trans (HG2.out.wide (fun j hj=>hj ▸ HSb.out)))⟩
      rw [HT.out,show m + 1 - (kn + 1)=m - kn by omega]
      exact HG1.out
     simp [intOf];omega
   have HT:=yD (HFN.out rF)
   go_wp2
   go_roundw
   case rel =>
    refine ⟨m + 1,kn,by omega,by omega,rfl,by go_num,yD (by rw [HT.out];exact HKN.out),yD ?_,yD (E.out.trans (Touch.of_below E5.out))⟩
    rw [HT.out,show m + 1 - kn=(m - kn) + 1 by omega]
    exact HSK.out.below E5.out
   simp [intOf];omega
 obtain rfl:m=l.length:=rJ
 have hG:=G.out
 rw [List.drop_length,List.take_length] at hG
 rw [List.take_length] at HKN
 have HG:=yD hG;clear hG G
 have hknI:(kn:Int)≤l.length:=rJ
 have hknC:(kn:Int)≤cap:=rJ
 have hknN:kn≤l.length:=rJ
 have hlcI:(l.length:Int)≤cap:=rJ
 have hj0:0 < l.length - kn:=rJ
 obtain ⟨w6,hrun,h6,t6⟩:=HG.out.kFq (P:=Tryz.prog) (t:=39) (ty:=0) (c:=cap - kn) (p:=kn * 3) hj0 Tryz.underlying39 kDl rfl rG (kQn _ rG) (by simp only [show kM.n=3 from rfl];rw [← HKN.out])
 have H6:=yD h6;have T6:=yD t6;clear h6 t6 HG
 go_wp2
 go_ret
 exact ⟨_,rfl,by rw [HKN.out];exact H6.out,E.out.trans (T6.out.wide (fun j hj=>hj ▸ HSb.out))⟩
theorem kGx {w:World} {v:Value} {l:List kS} {g:FuncId} {cp:Array Value} {S:Nat→Prop} (p:kS→Bool) (hg:jB Tryz.prog g) (hl:Rep.kQ 81 kF w v l S) (hlen:l.length≤16777216)
    (hcl:∀ wr,Touch S w wr→∀ x cs,kF.raw wr cs x→Calls Tryz.prog g (#[.agg cs.toArray]++cp) wr (fun e w'=>e=.returned (.bool (p x))∧Below wr.heap.size wr w')) :
    Calls Tryz.prog 131 #[v,.func (.func g) #[] cp] w fun e w'=>∃ v',e=.returned v'∧Rep.kQ 81 kF w' v' (l.filter (fun x=>!p x)) S∧Touch S w w':=by
 have HCL:=yD hcl;clear hcl
 have HO:=yD hl
 unfold jB at hg
 have HI:Hid (∀ va,v=va→Calls Tryz.prog 175 #[va,.func (.func g) #[] cp] w fun e w'=>e=.returned (.int .i64 (idxOf p l))∧Below w.heap.size w w'):=yD (fun va hv=>by
   subst hv
   exact kBd p hg (HO.out.own hlen).raw (fun wr hb i h cs hr=>HCL.out wr (Touch.of_below hb) _ cs hr))
 rcases kIb p l with ⟨hi,hno⟩|⟨i,hil,hi,hyes,hno⟩
 · obtain ⟨oa,on,oc,ho,HON⟩:=hl.parts;obtain rfl:=ho
   rw [hi] at HI
   have HF:=yD (kIf hno).symm
   clear hno hi hl
   go_enter Tryz.func131,Tryz.ntmps131
   go_wp2_with fail
   refine (HI.out _ rfl).mono ?_
   rintro e w1 ⟨rfl,hb1⟩
   have HO1:=yD (HO.out.below hb1)
   go_wp2
   go_ret
   exact ⟨_,rfl,HO1.out.cast HF.out,Touch.of_below hb1⟩
 obtain ⟨b,cap,rfl,hgap⟩:=Rep.kNy hl hil
 rw [hi] at HI
 rw [List.drop_eq_getElem_cons hil] at hgap
 have hgap1:=hgap.skip
 have HK0:=yD (kFi hil hno)
 have HNY:=yD (kBr (p:=fun y=>!p y) hil (by simp [hyes]))
 have HSb:=yD hgap.mem
 have hcap:=hgap.len
 simp only [List.length_take,List.length_cons,List.length_drop] at hcap
 have hcap2:l.length≤cap:=hcap.2.1
 have hcap3:cap≤9223372036854775807:=fG
 clear hno hi hl hgap hyes HO hcap
 have hi1:((i:Int)==-1)=false:=mF
 go_enter Tryz.func131,Tryz.ntmps131
 go_wp2_with fail
 refine (HI.out _ rfl).mono ?_
 rintro e w1 ⟨rfl,hb1⟩
 have G1:=yD (hgap1.below hb1)
 have E1:=yD (Touch.of_below (S:=S) hb1)
 clear hgap1 HI
 go_wp2
 go_loopw [5,6] (fun q c wr=>∃ m kn:Nat,m≤l.length∧kn + 1≤m∧q=.int .i64 kn∧c=.int .i64 m∧Hid (kn=((l.take m).filter (fun y=>!p y)).length)∧Hid (Rep.gap 81 kF wr b cap l.length ((l.take m).filter (fun y=>!p y)) (m - kn) (l.drop m) S)∧Hid (Touch S w wr)) (fun _ c _=>l.length - (intOf c).toNat)
 case atStart =>
  refine ⟨i + 1,i,by omega,by omega,rfl,by go_num,yD mD,yD ?_,E1⟩
  rw [HNY.out,HK0.out,show i + 1 - i=0 + 1 by omega]
  exact G1.out
 clear E1 G1 HNY HK0 hb1
 obtain ⟨m,kn,hm,hkn,rfl,rfl,HKN,G,E⟩:=hrel
 by_cases hlt:m < l.length
 · have hG:=G.out
   rw [List.drop_eq_getElem_cons hlt] at hG
   have hfy:=fun q=>kDe (p:=fun y=>!p y) hlt q
   have hfn:=fun q=>kBr (p:=fun y=>!p y) hlt q
   obtain ⟨cs,hr,hcl,hbd,hcell,hnext⟩:=hG.next
   have hskip:=hG.skip
   have hfz:=hG.frozen
   generalize l[m]=x at *
   have HFY:=yD hfy;have HFN:=yD hfn;clear hfy hfn hG
   rw [← HKN.out] at hcell hnext
   rw [show kn + (m - kn)=m by omega] at hcell
   obtain ⟨c0,c1,c2,rfl⟩:∃ c0 c1 c2,cs=[c0,c1,c2]:=by
    have hl2:=kF.len hr
    match cs,hl2 with
    | [c0,c1,c2],_=>exact ⟨_,_,_,rfl⟩
   have A0:wr.cell? ⟨b,m * 3,none⟩=some c0:=hcell 0 c0 rfl
   have A1:wr.cell? ⟨b,m * 3 + 1,none⟩=some c1:=hcell 1 c1 rfl
   have A2:wr.cell? ⟨b,m * 3 + 2,none⟩=some c2:=hcell 2 c2 rfl
   have hroom:∀ q,q < 3→kn * 3 + q < cap * 3:=by intro q hq;omega
   obtain ⟨o0,O0⟩:=Option.isSome_iff_exists.1 (G.out.cells (i:=kn * 3) (by have:=hroom 0 rJ;simp only [show kF.n=3 from rfl];omega))
   have Z0:=hfz (kn * 3)
   obtain ⟨o1,O1⟩:=Option.isSome_iff_exists.1 (G.out.cells (i:=kn * 3 + 1) (by have:=hroom 1 rJ;simp only [show kF.n=3 from rfl];omega))
   have Z1:=hfz (kn * 3 + 1)
   obtain ⟨o2,O2⟩:=Option.isSome_iff_exists.1 (G.out.cells (i:=kn * 3 + 2) (by have:=hroom 2 rJ;simp only [show kF.n=3 from rfl];omega))
   have Z2:=hfz (kn * 3 + 2)
   have HR:=yD hr
   obtain ⟨rhe,r_0,r_1,r_2⟩:=yA hr
   simp only [List.cons.injEq,and_true] at rhe
   obtain ⟨rfl,rfl,rfl⟩:=rhe
   clear r_0 r_1 r_2 hr hcl hcell hroom hfz
   have HNX:=yD hnext;have HSK:=yD hskip;clear hnext hskip
   have HB:=yD (G.out.lt)
   go_wp2_with fail
   generalize hwC:World.alloc wr _=wC
   have EC:Below wr.heap.size wr wC:=mE
   have M0:wC.cell? ⟨wr.heap.size,0,none⟩=some (.int .i64 x.1):=nK
   have M1:wC.cell? ⟨wr.heap.size,1,none⟩=some (.int .i64 x.2.1):=nK
   have M2:wC.cell? ⟨wr.heap.size,2,none⟩=some (.int .i64 x.2.2):=nK
   clear hwC
   refine (HCL.out wC (E.out.trans (Touch.of_below EC)) _ _ (HR.out.below EC)).mono ?_
   rintro e w5 ⟨rfl,hb5⟩
   have E5:=yD (tQ EC hb5)
   replace M0:=cL hb5 M0
   replace M1:=cL hb5 M1
   replace M2:=cL hb5 M2
   clear EC hb5
   cases hp:p x
   · have HT:=yD (HFY.out rF)
     replace O0:=cL E5.out O0
     replace Z0:=(E5.out.frozen (p:=⟨b,kn * 3,none⟩) HB.out).trans Z0
     replace O1:=cL E5.out O1
     replace Z1:=(E5.out.frozen (p:=⟨b,kn * 3 + 1,none⟩) HB.out).trans Z1
     replace O2:=cL E5.out O2
     replace Z2:=(E5.out.frozen (p:=⟨b,kn * 3 + 2,none⟩) HB.out).trans Z2
     obtain ⟨hg1,hg2⟩:=HNX.out w5 E5.out rJ _ rfl
     simp only [show kF.n=3 from rfl] at hg1 hg2
     have HG1:=yD hg1;have HG2:=yD hg2;clear hg1 hg2 HNX HSK HFN HFY
     go_wp2
     go_roundw
     case rel =>
      refine ⟨m + 1,kn + 1,by omega,by omega,by go_num,by go_num,yD dY,yD ?_,yD ((E.out.trans (Touch.of_below E5.out)).trans (HG2.out.wide (fun j hj=>hj ▸ HSb.out)))⟩
      rw [HT.out,show m + 1 - (kn + 1)=m - kn by omega]
      exact HG1.out
     simp [intOf];omega
   have HT:=yD (HFN.out rF)
   go_wp2
   go_roundw
   case rel =>
    refine ⟨m + 1,kn,by omega,by omega,rfl,by go_num,yD (by rw [HT.out];exact HKN.out),yD ?_,yD (E.out.trans (Touch.of_below E5.out))⟩
    rw [HT.out,show m + 1 - kn=(m - kn) + 1 by omega]
    exact HSK.out.below E5.out
   simp [intOf];omega
 obtain rfl:m=l.length:=rJ
 have hG:=G.out
 rw [List.drop_length,List.take_length] at hG
 rw [List.take_length] at HKN
 have HG:=yD hG;clear hG G
 have hknI:(kn:Int)≤l.length:=rJ
 have hknC:(kn:Int)≤cap:=rJ
 have hknN:kn≤l.length:=rJ
 have hlcI:(l.length:Int)≤cap:=rJ
 have hj0:0 < l.length - kn:=rJ
 obtain ⟨w6,hrun,h6,t6⟩:=HG.out.kFq (P:=Tryz.prog) (t:=75) (ty:=0) (c:=cap - kn) (p:=kn * 3) hj0 Tryz.underlying75 yO rfl rG (kQn _ rG) (by simp only [show kF.n=3 from rfl];rw [← HKN.out])
 have H6:=yD h6;have T6:=yD t6;clear h6 t6 HG
 go_wp2
 go_ret
 exact ⟨_,rfl,by rw [HKN.out];exact H6.out,E.out.trans (T6.out.wide (fun j hj=>hj ▸ HSb.out))⟩
end Go.Proofs.YtomdenfcfbkfbaaGreat

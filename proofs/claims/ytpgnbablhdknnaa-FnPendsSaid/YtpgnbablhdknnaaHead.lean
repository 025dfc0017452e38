/-
  Slices that stand at the head of their own block, as parts of data; an owned list, one of whose elements gets another part. No program in sight.
-/
import Derived.Test.YtpgnbablhdknnaaSoft3
set_option linter.unusedVariables false
set_option linter.unusedSimpArgs false
set_option linter.unnecessarySimpa false
namespace Go.Proofs.Ytpgnbablhdknnaa
open Go.RowKit
namespace Rep
section
variable {α β:Type} {r q:Rep α} {e:TypeId} {w w':World} {v:Value} {xs:List α} {S T:Nat→Prop}
def headed (e:TypeId) (n:Nat) (w:World) (cs:List Value):Prop :=
  ∀ a len cap,cs=[.slice a len cap]→(len=0∧cap=0)∨∃ b cur,a=some ⟨b,0,none⟩∧w.heap[b]?=some (.cells cur e (0,0))∧cur.size=cap * n
theorem headed_keep {cs:List Value} (h:(slice e r).is true w cs xs S) (hh:headed e r.n w cs) (k:∀ k,S k→w'.heap[k]?=w.heap[k]?):headed e r.n w' cs:=by
 intro a len cap hc
 rcases hh a len cap hc with h1|⟨b,cur,rfl,h2,h3⟩
 · exact .inl h1
 obtain ⟨a',len',cap',h0,h4,h5,h6,h7⟩:=h
 rw [hc] at h0
 simp only [List.cons.injEq,Value.slice.injEq,and_true] at h0
 obtain ⟨rfl,rfl,rfl⟩:=h0
 rcases h7 with ⟨h8,h9⟩|⟨b',off,hb,cur',e',fr,hd,cs',tl,g1,g2,g3,g4,g5,g6,g7⟩
 · have:=h9 rfl;exact .inl ⟨by omega,this⟩
 simp only [Option.some.injEq,Addr.mk.injEq,and_true] at hb
 obtain ⟨rfl,rfl⟩:=hb
 exact .inr ⟨b,cur,rfl,(k b g6).trans h2,h3⟩
def kDu {α:Type} (e:TypeId) (r:Rep α):Rep (List α) :=
  { slice e r with
    is:=fun o w cs xs S=>(slice e r).is o w cs xs S∧(o=true→headed e r.n w cs)
    len:=fun h=>(slice e r).len h.1
    one:=fun h=>(slice e r).one h.1
    mono:=by
      intro o w w' cs xs S h k
      refine ⟨(slice e r).mono h.1 k,fun ho=>?_⟩
      subst ho
      exact headed_keep h.1 (h.2 rfl) k
    wide:=fun h k=>⟨(slice e r).wide h.1 k,h.2⟩
    weak:=fun h=>⟨(slice e r).weak h.1,fun q=>by cases q⟩
    live:=fun h=>⟨(slice e r).live h.1,h.2⟩
    is_zero:=⟨(slice e r).is_zero,fun _ a len cap h=>by
      have h':([.slice none 0 0]:List Value)=[.slice a len cap]:=h
      simp only [List.cons.injEq,Value.slice.injEq,and_true] at h'
      exact .inl ⟨h'.2.1.symm,h'.2.2.symm⟩⟩ }
theorem kT.own0h (h:kT e r w v xs S) (hl:xs.length≤Big):(kDu e r).own w [v] xs S:=by
 have h1:=h.own hl
 refine ⟨⟨h1.1,fun _ a len cap hc=>?_⟩,h1.2⟩
 obtain ⟨hb,h⟩:=h
 simp only [List.cons.injEq,and_true] at hc
 rcases h with ⟨⟨a',rfl⟩,rfl⟩|⟨b,cap',cur,cs,tl,rfl,g1,g2,g3,g4,g5,g6,g7⟩
 · simp only [Value.slice.injEq] at hc;exact .inl ⟨hc.2.1.symm,hc.2.2.symm⟩
 simp only [Value.slice.injEq] at hc
 obtain ⟨rfl,rfl,rfl⟩:=hc
 exact .inr ⟨b,cur,rfl,g3,g5⟩
theorem own0_of (h:(kDu e r).own w [v] xs S):kT e r w v xs S:=by
 obtain ⟨⟨⟨a,len,cap,hv,rfl,h2,h3,h4⟩,hh⟩,hl,hb⟩:=h
 simp only [List.cons.injEq,and_true] at hv
 subst hv
 refine ⟨hb,?_⟩
 rcases h4 with ⟨rfl,h5⟩|⟨b,off,rfl,cur,e',fr,hd,cs,tl,g1,g2,g3,g4,g5,g6,g7⟩
 · exact .inl ⟨⟨a,by rw [h5 rfl];rfl⟩,rfl⟩
 rcases hh rfl _ _ _ rfl with ⟨k1,k2⟩|⟨b',cur',k1,k2,k3⟩
 · have:xs=[]:=List.length_eq_zero_iff.1 k1
   subst this;subst k2
   exact .inl ⟨⟨_,rfl⟩,rfl⟩
 simp only [Option.some.injEq,Addr.mk.injEq,and_true] at k1
 obtain ⟨rfl,rfl⟩:=k1
 rw [g1] at k2
 simp only [Option.some.injEq,Obj.cells.injEq] at k2
 obtain ⟨rfl,rfl,rfl⟩:=k2
 have:hd=[]:=List.length_eq_zero_iff.1 g3
 subst this
 exact .inr ⟨b,cap,cur,cs,tl,rfl,h2,h3,g1,by simpa using g2,k3,g6,jD g7 (fun k hk=>⟨hk.1,hk.2 rfl⟩)⟩
theorem row_to (hn:∀ {cs:List Value} {x:α} {S:Nat→Prop},r.is true w cs x S→q.is true w cs x S):∀ {cells:List Value} {ys:List α} {S:Nat→Prop},row r true w cells ys S→row q true w cells ys S
  | _,[],_,h=>h
  | _,y :: ys,_,⟨c,d,A,B,h,h1,h2,hA,hB,hd⟩=>⟨c,d,A,B,h,hn h1,row_to hn h2,hA,hB,hd⟩
theorem kT.to (hn:∀ {cs:List Value} {x:α} {S:Nat→Prop},r.is true w cs x S→q.is true w cs x S) (hb:∀ x,r.bdd Big x→q.bdd Big x) (hq:q.n=r.n) (h:kT e r w v xs S):kT e q w v xs S:=by
 obtain ⟨h0,h⟩:=h
 refine ⟨fun x hx=>hb x (h0 x hx),?_⟩
 rcases h with h|⟨b,cap,cur,cs,tl,g0,g1,g2,g3,g4,g5,g6,g7⟩
 · exact .inl h
 exact .inr ⟨b,cap,cur,cs,tl,g0,g1,g2,g3,g4,by rw [hq];exact g5,g6,row_to hn g7⟩
theorem own0_part {b cap len i j p:Nat} (h:kT e r w (.slice (some ⟨b,0,none⟩) len cap) xs S) (hi:i < xs.length) (hj:j < r.n) (hp:p=i * r.n + j) :
    ∃ (cs:List Value) (B:Nat→Prop),r.is true w cs xs[i] B∧(∀ k,B k→S k∧k≠b)∧(∀ c,cs[j]?=some c→w.cell? ⟨b,p,none⟩=some c)∧w.frozen? ⟨b,p,none⟩=false∧S b∧b < w.heap.size ∧
      ∀ (w':World) (u:Value) (y:α) (T:Nat→Prop),(∀ k,S k→¬ B k→w'.heap[k]?=w.heap[k]?)→r.is true w' (cs.set j u) y T→(∀ k,T k→B k∨¬ S k)→r.bdd Big y →
        kT e r (w'.setCell ⟨b,p,none⟩ u) (.slice (some ⟨b,0,none⟩) len cap) (xs.set i y) (fun k=>S k∨T k):=by
 subst hp
 obtain ⟨hb,h⟩:=h
 rcases h with ⟨⟨a,h0⟩,rfl⟩|⟨b',cap',cur,cs,tl,h0,h1,h2,h3,h4,h5,h6,h7⟩
 · simp at hi
 simp only [Value.slice.injEq,Option.some.injEq,Addr.mk.injEq,and_true] at h0
 obtain ⟨rfl,rfl,rfl⟩:=h0
 obtain ⟨c1,c,c2,A,B,C,rfl,hl,r1,r2,r3,hA,hB,hC,hd⟩:=kDv h7 hi
 have hc:=r.len r2
 have hcur:cur=((c1++(c++c2))++tl).toArray:=by rw [← h4]
 refine ⟨c,B,r2,hB,?_,frozen_of_row w b _ _ _ h3,h6,(Array.getElem?_eq_some_iff.1 h3).1,?_⟩
 · intro u hu
   have hju:=(List.getElem?_eq_some_iff.1 hu).1
   rw [cell_of_row w b _ _ e (0,0) h3,hcur]
   simp only [List.getElem?_toArray]
   rw [List.append_assoc,List.getElem?_append_right gV,hl,show i * r.n + j - i * r.n=j by omega,List.append_assoc,List.getElem?_append_left gV]
   exact hu
 intro w' u y T hw hy hT hby
 have hbT:∀ k,T k→k≠b:=fun k hk q=>by
   subst q
   rcases hT _ hk with t | t
   · exact (hB _ t).2 rfl
   · exact t h6
 have hb':w'.heap[b]?=some (.cells cur e (0,0)):=(hw b h6 (fun t=>(hB b t).2 rfl)).trans h3
 subst hcur
 have hset:=heap_setCell_same w' b (i * r.n + j) _ e u hb'
 refine ⟨?_,.inr ⟨b,cap,_,c1++(c.set j u++c2),tl,by rw [List.length_set],by rw [List.length_set];exact h1,h2,hset,?_,?_,.inl h6,?_⟩⟩
 · intro z hz
   rcases List.mem_or_eq_of_mem_set hz with q | q
   · exact hb z q
   rw [q];exact hby
 · simp only [Array.toList_setIfInBounds,List.toList_toArray]
   rw [List.append_assoc,List.append_assoc,List.set_append_right _ _ gV,hl,show i * r.n + j - i * r.n=j by omega,List.set_append_left _ _ gV]
   simp
 · simpa using h5
 have oth:∀ k,k≠b→(w'.setCell ⟨b,i * r.n + j,none⟩ u).heap[k]?=w'.heap[k]?:=fun k hk=>heap_setCell_other w' ⟨b,i * r.n + j,none⟩ k u hk
 have keep:∀ {D:Nat→Prop},(∀ k,D k→S k∧k≠b)→(∀ k,D k→B k→False)→∀ k,D k→(w'.setCell ⟨b,i * r.n + j,none⟩ u).heap[k]?=w.heap[k]?:=fun hD hx k hk=>(oth k (hD k hk).2).trans (hw k (hD k hk).1 (fun t=>hx k hk t))
 refine kGj (A:=A) (B:=T) (C:=C) hi (kv r1 (keep hA (fun k a t=>(hd rfl k).1 a t))) (r.mono hy (fun k hk=>oth k (hbT k hk))) (kv r3 (keep hC (fun k a t=>(hd rfl k).2.2 t a))) ?_ ?_ ?_ ?_
 · exact fun k hk=>⟨.inl (hA k hk).1,(hA k hk).2⟩
 · exact fun k hk=>⟨.inr hk,hbT k hk⟩
 · exact fun k hk=>⟨.inl (hC k hk).1,(hC k hk).2⟩
 refine fun _ k=>⟨fun a t=>?_,(hd rfl k).2.1,fun t a=>?_⟩
 · rcases hT k t with q | q
   · exact (hd rfl k).1 a q
   exact q (hA k a).1
 rcases hT k t with q | q
 · exact (hd rfl k).2.2 q a
 exact q (hC k a).1
end
end Rep
def yF:Rep kD:=Rep.pair kZ (Rep.pair (Rep.kDu 56 kF) Rep.int)
theorem pend_to {w:World} {cs:List Value} {x:kD} {S:Nat→Prop} (h:yF.is true w cs x S):kE.is true w cs x S:=by
 obtain ⟨c,d,A,B,rfl,h1,⟨c2,d2,A2,B2,rfl,h2,h3,k1,k2,k3⟩,k4,k5,k6⟩:=h
 exact ⟨c,c2++d2,A,B,rfl,h1,⟨c2,d2,A2,B2,rfl,h2.1,h3,k1,k2,k3⟩,k4,k5,k6⟩
theorem zm {w:World} {v:Value} {l:List kD} {S:Nat→Prop} {e:TypeId} (h:Rep.kT e yF w v l S):Rep.kT e kE w v l S :=
  Rep.kT.to (q:=kE) pend_to (fun _ h=>h) rfl h
theorem pend_part {e:TypeId} {w:World} {b cap len k:Nat} {l:List kD} {S:Nat→Prop} (h:Rep.kT e yF w (.slice (some ⟨b,0,none⟩) len cap) l S) (hk:k < l.length) :
    ∃ (ra:Option Addr) (rp:Nat) (B:Nat→Prop),w.cell? ⟨b,k * 3 + 1,none⟩=some (.slice ra l[k].2.1.length rp)∧Rep.kT 56 kF w (.slice ra l[k].2.1.length rp) l[k].2.1 B∧(∀ j,B j→S j∧j≠b)∧w.frozen? ⟨b,k * 3 + 1,none⟩=false∧S b∧b < w.heap.size ∧
      ∀ (w':World) (v':Value) (xs':List kH) (T:Nat→Prop),(∀ j,S j→¬ B j→w'.heap[j]?=w.heap[j]?)→Rep.kT 56 kF w' v' xs' T→(∀ j,T j→B j∨¬ S j)→xs'.length≤Big →
        Rep.kT e yF (w'.setCell ⟨b,k * 3 + 1,none⟩ v') (.slice (some ⟨b,0,none⟩) len cap) (l.set k (l[k].1,xs',l[k].2.2)) (fun j=>S j∨T j):=by
 have hbx:=h.1 l[k] (List.getElem_mem hk)
 obtain ⟨cs,D,his,hD,hcell,hfr,hSb,hbz,hset⟩:=Rep.own0_part h hk (j:=1) (p:=k * 3 + 1) gU rfl
 obtain ⟨c,d,A,B,rfl,h1,⟨c2,d2,A2,B2,rfl,h2,h3,k1,k2,k3⟩,k4,k5,k6⟩:=his
 have hc1:c.length=1:=kZ.len h1
 obtain ⟨cn,rfl⟩:=List.length_eq_one_iff.1 hc1
 obtain ⟨ra,ln,rp,rfl,rfl,hrest⟩:=h2.1
 have ho:=Rep.own0_of (e:=56) (r:=kF) (w:=w) (v:=.slice ra l[k].2.1.length rp) (xs:=l[k].2.1) (S:=A2) ⟨h2,hbx.2.1⟩
 refine ⟨ra,rp,A2,hcell _ rfl,ho,fun j hj=>hD j (k5 j (k1 j hj)),hfr,hSb,hbz,?_⟩
 intro w' v' xs' T hw hv hT hl
 have hoth:∀ j,D j→¬ A2 j→w'.heap[j]?=w.heap[j]?:=fun j hj hn=>hw j (hD j hj).1 hn
 have hdis:∀ j,T j→A j→False:=fun j ht ha=>by
   rcases hT j ht with q | q
   · exact k6 rfl j ha (k1 j q)
   · exact q (hD j (k4 j ha)).1
 refine (hset w' v' (l[k].1,xs',l[k].2.2) (fun j=>A j∨T j) (fun j hs hn=>hw j hs (fun q=>hn (k5 j (k1 j q)))) ?_ ?_ ⟨hbx.1,(hv.own0h hl).2,trivial⟩).wide ?_
 · refine ⟨[cn],v' :: d2,A,T,rfl,kZ.mono h1 (fun j hj=>hoth j (k4 j hj) (fun q=>k6 rfl j hj (k1 j q))),?_,fun j=>.inl,fun j=>.inr,fun _ j a t=>hdis j t a⟩
   exact ⟨[v'],d2,T,fun _=>False,rfl,(hv.own0h hl).1,h3,fun j hj=>hj,fun j hj=>hj.elim,fun _ j _ hj=>hj⟩
 · rintro j (hj | hj)
   · exact .inl (k4 j hj)
   rcases hT j hj with q | q
   · exact .inl (k5 j (k1 j q))
   exact .inr q
 rintro j (hj | hj | hj)
 · exact .inl hj
 · exact .inl (hD j (k4 j hj)).1
 exact .inr hj
end Go.Proofs.Ytpgnbablhdknnaa

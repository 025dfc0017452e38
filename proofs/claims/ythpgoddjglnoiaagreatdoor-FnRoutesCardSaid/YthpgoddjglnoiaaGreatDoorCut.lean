/-
  Owned slices at their block's head: a store into an element; two parts appended to a new slice. No program in sight.
-/
import Derived.Test.YthpgoddjglnoiaaGreatDoorDrawN
set_option linter.unusedVariables false
set_option linter.unusedSimpArgs false
set_option linter.unnecessarySimpa false
namespace Go.Proofs.YthpgoddjglnoiaaGreatDoor
open Go.RowKit
namespace Rep
section
variable {α:Type} {r:Rep α} {e:TypeId} {w w' u:World} {v:Value} {b cap len n:Nat} {kept rest xs:List α} {j i:Nat} {x:α} {S T:Nat→Prop}
theorem kAn (h:kH e r w v xs S) (hi:i < xs.length):∃ b cap,v=.slice (some ⟨b,0,none⟩) xs.length cap∧S b∧b < w.heap.size∧xs.length≤cap∧cap≤9223372036854775807:=by
 obtain ⟨hb,h⟩:=h
 rcases h with ⟨⟨a,rfl⟩,rfl⟩|⟨b,cap,cur,cs,tl,rfl,h1,h2,h3,h4,h5,h6,h7⟩
 · simp at hi
 exact ⟨b,cap,rfl,h6,(Array.getElem?_eq_some_iff.1 h3).1,h1,by unfold maxLen at h2;omega⟩
theorem kIc (h:kH e r w (.slice (some ⟨b,0,none⟩) len cap) xs S) (hi:0 < xs.length):∃ cur,w.heap[b]?=some (.cells cur e (0,0))∧cur.size=cap * r.n:=by
 obtain ⟨hb,h⟩:=h
 rcases h with ⟨⟨a,h0⟩,rfl⟩|⟨b,cap,cur,cs,tl,h0,h1,h2,h3,h4,h5,h6,h7⟩
 · simp at hi
 simp only [Value.slice.injEq,Option.some.injEq,Addr.mk.injEq,and_true] at h0
 obtain ⟨rfl,rfl,rfl⟩:=h0
 exact ⟨cur,h3,h5⟩
theorem own_own0 (h:(slice e r).own w [.slice (some ⟨b,0,none⟩) len cap] xs S) (hne:0 < xs.length) {cur:Array Value} (hc:w.heap[b]?=some (.cells cur e (0,0))) (hs:cur.size=cap * r.n) :
    kH e r w (.slice (some ⟨b,0,none⟩) len cap) xs S:=by
 obtain ⟨h1,h2,h3,h4,h5,hd,cs,tl,h6,h7,h8,h9,h10⟩:=own_open h hne
 obtain rfl:hd=[]:=List.eq_nil_of_length_eq_zero h7
 rw [hc] at h6
 simp only [Option.some.injEq,Obj.cells.injEq,and_true] at h6
 subst h6
 exact ⟨h5,.inr ⟨b,cap,_,cs,tl,by rw [h1],by omega,h3,hc,by simp,hs,h9,h10⟩⟩
theorem kH.zQ (h:kH e r w v xs S):(slice e r).raw w [v] xs:=by
 obtain ⟨hb,h⟩:=h
 have k:(slice e r).is true w [v] xs S:=by
  rcases h with ⟨⟨a,rfl⟩,rfl⟩|⟨b,cap,cur,cs,tl,rfl,h1,h2,h3,h4,h5,h6,h7⟩
  · exact ⟨a,0,0,rfl,rfl,Nat.le_refl _,Nat.zero_le _,.inl ⟨rfl,fun _=>rfl⟩⟩
  exact ⟨_,_,cap,rfl,rfl,h1,h2,.inr ⟨b,0,rfl,cur,e,(0,0),[],cs,tl,h3,by simpa using h4,rfl,by omega,fun _=>⟨rfl,rfl⟩,h6,ko h7 (fun k hk=>⟨hk.1,fun _=>hk.2⟩)⟩⟩
 exact (slice e r).wide ((slice e r).weak k) (fun _ _=>trivial)
theorem kDs {j p:Nat} {y:α} {u:Value} (h:kH e r w (.slice (some ⟨b,0,none⟩) len cap) xs S) (hl:xs.length≤Big) (hi:i < xs.length) (hj:j < r.n)
    (hy:∀ {w:World} {cs:List Value} {S:Nat→Prop},r.is true w cs xs[i] S→r.is true w (cs.set j u) y S) (hby:r.bdd Big y) (hp:p=i * r.n + j) :
    kH e r (w.setCell ⟨b,p,none⟩ u) (.slice (some ⟨b,0,none⟩) len cap) (xs.set i y) S∧Touch (fun k=>k=b) w (w.setCell ⟨b,p,none⟩ u):=by
 obtain ⟨cur,hc,hs⟩:=kIc h fV
 obtain ⟨h1,h2⟩:=own_setCell (h.own hl) hi hj hy hby
 rw [Nat.zero_add,← hp] at h1 h2
 have h3:=heap_setCell_same w b p cur e u hc
 exact ⟨own_own0 h1 (by simpa using (by omega:0 < xs.length)) h3 (by simpa using hs),h2⟩
theorem kFg (h:kH e r w (.slice (some ⟨b,0,none⟩) len cap) xs S) (hi:0 < xs.length) (q:Nat):w.frozen? ⟨b,q,none⟩=false:=by
 obtain ⟨cur,hc,_⟩:=kIc h hi
 exact frozen_of_row w b q _ _ hc
end
end Rep
end Go.Proofs.YthpgoddjglnoiaaGreatDoor

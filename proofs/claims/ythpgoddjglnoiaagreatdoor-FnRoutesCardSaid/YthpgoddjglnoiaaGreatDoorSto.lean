/-
  An owned slice, two of whose elements change places. No program in sight.
  A store of a value of any number of cells into a row; what a comparing function must answer. No program in sight.
-/
import Derived.Test.YthpgoddjglnoiaaGreatDoorSrt
import Derived.Test.YthpgoddjglnoiaaGreatDoorCut
import Derived.Deep.MidRow
set_option linter.unusedVariables false
set_option linter.unusedSimpArgs false
set_option linter.unnecessarySimpa false
namespace Go.Proofs.YthpgoddjglnoiaaGreatDoor
open Go.RowKit
namespace Rep
section
variable {α:Type} {r:Rep α} {e:TypeId} {w w' u:World} {v:Value} {b cap len n i j:Nat} {xs:List α} {x y:α} {S T:Nat→Prop}
theorem row_swap {cells:List Value} {X1 X2 X3:List α} (h:row r true w cells (X1++x :: (X2++y :: X3)) S) :
    ∃ d1 cx d2 cy d3,cells=d1++(cx++(d2++(cy++d3)))∧d1.length=X1.length * r.n∧cx.length=r.n∧d2.length=X2.length * r.n∧cy.length=r.n ∧
      row r true w (d1++(cy++(d2++(cx++d3)))) (X1++y :: (X2++x :: X3)) S:=by
 obtain ⟨d1,e1,A1,B1,rfl,r1,⟨cx,e2,Ax,B2,rfl,rx,q2,hAx,hB2,dx⟩,hA1,hB1,D1⟩:=kAl X1 h
 obtain ⟨d2,e3,A2,B3,rfl,r2,⟨cy,d3,Ay,A3,rfl,ry,r3,hAy,hA3,dy⟩,hA2,hB3,D2⟩:=kAl X2 q2
 refine ⟨d1,cx,d2,cy,d3,rfl,jP r1,r.len rx,jP r2,r.len ry,?_⟩
 have t3:row r true w (cx++d3) (x :: X3) (fun k=>Ax k∨A3 k):=⟨cx,d3,Ax,A3,rfl,rx,r3,fun _=>.inl,fun _=>.inr,fun _ k h1 h2=>dx rfl k h1 (hB3 k (hA3 k h2))⟩
 have t2:row r true w (d2++(cx++d3)) (X2++x :: X3) (fun k=>A2 k∨(Ax k∨A3 k)):=jR r2 t3 (fun _=>.inl) (fun _=>.inr) (fun _ k h1 h2=>h2.elim (fun q=>dx rfl k q (hA2 k h1)) (fun q=>D2 rfl k h1 (hA3 k q)))
 have t1:row r true w (cy++(d2++(cx++d3))) (y :: (X2++x :: X3)) (fun k=>Ay k∨(A2 k∨(Ax k∨A3 k))):=⟨cy,_,Ay,_,rfl,ry,t2,fun _=>.inl,fun _=>.inr,fun _ k h1 h2=>h2.elim (fun q=>D2 rfl k q (hAy k h1)) (fun h2=>h2.elim (fun q=>dx rfl k q (hB3 k (hAy k h1))) (fun q=>dy rfl k h1 q))⟩
 refine jR r1 t1 hA1 ?_ ?_
 · rintro k (q | q | q | q)
   · exact hB1 k (hB2 k (hB3 k (hAy k q)))
   · exact hB1 k (hB2 k (hA2 k q))
   · exact hB1 k (hAx k q)
   exact hB1 k (hB2 k (hB3 k (hA3 k q)))
 rintro _ k h1 (q | q | q | q)
 · exact D1 rfl k h1 (hB2 k (hB3 k (hAy k q)))
 · exact D1 rfl k h1 (hB2 k (hA2 k q))
 · exact D1 rfl k h1 (hAx k q)
 exact D1 rfl k h1 (hB2 k (hB3 k (hA3 k q)))
theorem kHv {l:List α} {i j:Nat} (hij:i < j) (hj:j < l.length):∃ X1 x X2 y X3,l=X1++x :: (X2++y :: X3)∧X1.length=i∧X2.length=j - i - 1:=by
 refine ⟨l.take i,l[i],(l.drop (i + 1)).take (j - i - 1),l[j],l.drop (j + 1),?_,by simp;omega,by simp;omega⟩
 have e1:l=l.take i++l[i] :: l.drop (i + 1):=fZ
 have e2:l.drop (i + 1)=(l.drop (i + 1)).take (j - i - 1)++l[j] :: l.drop (j + 1):=by
  have h1:(l.drop (i + 1)).drop (j - i - 1)=l.drop j:=by rw [List.drop_drop];congr 1;omega
  have h2:l.drop j=l[j] :: l.drop (j + 1):=fZ
  rw [← h2,← h1,List.take_append_drop]
 rw [← e2,← e1]
theorem kDz {cells mid pre suf:List Value} {o:Nat} {cs:List Value} {e:TypeId} (hc:w.heap[b]?=some (.cells cells.toArray e (0,0))) (he:cells=pre++(mid++suf)) (ho:pre.length=o) (hl:cs.length=mid.length)
    (h:∀ q u,cs[q]?=some u→w.cell? ⟨b,o + q,none⟩=some u):cs=mid:=by
 apply List.ext_getElem hl
 intro q h1 h2
 have:=h q cs[q] (by simp [h1])
 rw [cell_of_row w b _ _ e (0,0) hc] at this
 simp only [List.getElem?_toArray] at this
 rw [he,List.getElem?_append_right fV,List.getElem?_append_left fV,show o + q - pre.length=q by omega,List.getElem?_eq_getElem h2] at this
 exact (Option.some.inj this).symm
theorem kCe (h:kH e r w (.slice (some ⟨b,0,none⟩) len cap) xs S) (hi:i < xs.length) (hj:j < xs.length) (hij:i≠j) {ci cj:List Value} (li:ci.length=r.n) (lj:cj.length=r.n)
    (hci:∀ q u,ci[q]?=some u→w.cell? ⟨b,i * r.n + q,none⟩=some u) (hcj:∀ q u,cj[q]?=some u→w.cell? ⟨b,j * r.n + q,none⟩=some u) {pi pj:Nat} (hpi:pi=i * r.n) (hpj:pj=j * r.n) :
    kH e r (setCells (setCells w b pi cj) b pj ci) (.slice (some ⟨b,0,none⟩) len cap) (Srt.sw xs i j) S∧Touch (fun k=>k=b) w (setCells (setCells w b pi cj) b pj ci):=by
 subst hpi hpj
 refine ⟨?_,(jK _ _ _ _).trans (jK _ _ _ _)⟩
 obtain ⟨hb,h⟩:=h
 rcases h with ⟨⟨a,h0⟩,rfl⟩|⟨b',cap',cur,cs,tl,h0,h1,h2,h3,h4,h5,h6,h7⟩
 · simp at hi
 simp only [Value.slice.injEq,Option.some.injEq,Addr.mk.injEq,and_true] at h0
 obtain ⟨rfl,rfl,rfl⟩:=h0
 have hcur:cur=(cs++tl).toArray:=by rw [← h4]
 subst hcur
 have hbs:∀ z∈Srt.sw xs i j,r.bdd Big z:=by
  intro z hz
  rw [Srt.kIp hi hj] at hz
  rcases List.mem_or_eq_of_mem_set hz with q | q
  · rcases List.mem_or_eq_of_mem_set q with q | q
    · exact hb z q
    rw [q];exact hb _ (List.getElem_mem hj)
  rw [q];exact hb _ (List.getElem_mem hi)
 have hlen:=Srt.jr xs i j
 refine ⟨hbs,.inr ⟨b,cap,?_⟩⟩
 suffices hh:∃ cs',(setCells (setCells w b (i * r.n) cj) b (j * r.n) ci).heap[b]?=some (.cells (cs'++tl).toArray e (0,0))∧cs'.length=cs.length∧row r true w cs' (Srt.sw xs i j) (fun k=>S k∧k≠b) by
   obtain ⟨cs',g1,g2,g3⟩:=hh
   refine ⟨_,cs',tl,by rw [hlen],by rw [hlen];exact h1,h2,g1,by simp,?_,h6,?_⟩
   · rw [← h5];simp [g2]
   · exact kw g3 (fun k hk=>by rw [jL _ _ _ _ _ hk.2,jL _ _ _ _ _ hk.2])
 rcases Nat.lt_or_gt_of_ne hij with q | q
 · obtain ⟨X1,x,X2,y,X3,rfl,l1,l2⟩:=kHv q hj
   obtain ⟨d1,cx,d2,cy,d3,rfl,m1,mx,m2,my,hr⟩:=row_swap h7
   have e1:ci=cx:=kDz h3 (show _=d1++(cx++((d2++(cy++d3))++tl)) by simp) (by rw [m1,l1]) fV hci
   have e2:cj=cy:=kDz h3 (show _=(d1++(cx++d2))++(cy++(d3++tl)) by simp) (by
     simp only [List.length_append];rw [m1,mx,m2,l1,l2]
     have:j=i + 1 + (j - i - 1):=by omega
     generalize j - i - 1=t at *
     subst this
     simp only [Nat.add_mul];omega) fV hcj
   subst e1 e2
   have hj':(d1++(cj++d2)).length=j * r.n:=by
    simp only [List.length_append];rw [m1,lj,m2,l1,l2]
    have:j=i + 1 + (j - i - 1):=by omega
    generalize j - i - 1=t at *
    subst this
    simp only [Nat.add_mul];omega
   refine ⟨d1++(cj++(d2++(ci++d3))),?_,by simp;omega,?_⟩
   · have g1:=jI (e:=e) cj ci d1 ((d2++(cj++d3))++tl) w b (i * r.n) (by rw [h3];simp) (by rw [m1,l1]) fV
     have g2:=jI (e:=e) ci cj (d1++(cj++d2)) (d3++tl) _ b (j * r.n) (by rw [g1];simp) hj' fV
     rw [g2];simp
   have es:=Srt.kAi X1 X2 X3 x y (i:=i) (j:=j) l1.symm fV
   rw [show X1++x :: (X2++y :: X3)=X1++x :: X2++y :: X3 by simp,es]
   simpa using hr
 obtain ⟨X1,y,X2,x,X3,rfl,l1,l2⟩:=kHv q hi
 obtain ⟨d1,cy,d2,cx,d3,rfl,m1,my,m2,mx,hr⟩:=row_swap h7
 have hi':∀ z:List Value,z.length=r.n→(d1++(z++d2)).length=i * r.n:=by
  intro z hz
  simp only [List.length_append];rw [m1,hz,m2,l1,l2]
  have:i=j + 1 + (i - j - 1):=by omega
  generalize i - j - 1=t at *
  subst this
  simp only [Nat.add_mul];omega
 have e1:cj=cy:=kDz h3 (show _=d1++(cy++((d2++(cx++d3))++tl)) by simp) (by rw [m1,l1]) fV hcj
 have e2:ci=cx:=kDz h3 (show _=(d1++(cy++d2))++(cx++(d3++tl)) by simp) (hi' _ my) fV hci
 subst e1 e2
 refine ⟨d1++(ci++(d2++(cj++d3))),?_,by simp;omega,?_⟩
 · have g1:=jI (e:=e) cj ci (d1++(cj++d2)) (d3++tl) w b (i * r.n) (by rw [h3];simp) (hi' _ lj) fV
   have g2:=jI (e:=e) ci cj d1 ((d2++(cj++d3))++tl) _ b (j * r.n) (by rw [g1];simp) (by rw [m1,l1]) fV
   rw [g2];simp
 have es:=Srt.kAi X1 X2 X3 y x (i:=j) (j:=i) l1.symm fV
 rw [Srt.kIq,show X1++y :: (X2++x :: X3)=X1++y :: X2++x :: X3 by simp,es]
 simpa using hr
end
end Rep
theorem kEj {P:Program} (w:World) (b o:Nat) (ty:TypeId) (v:Value) (cs:List Value) (hcs:v.cells=cs.toArray) (ht:w.there b o cs.length) (hi:(P.info? ty).map (·.size)=some cs.length) (h1:∀ c∈cs,c.oneCell'=true) :
    (storeVar ty ⟨b,o,none⟩ v).run P w=.ok () (Rep.setCells w b o cs):=by
 have:=run_storeCells_cells (P:=P) b o cs 0 w (fun j hj=>by simpa using (ht j fD).1) (fun j hj=>by simpa using (ht j fD).2) h1
 cases hq:P.info? ty with
 | none=>simp [hq] at hi
 | some i =>
   have hs:cs.length=i.size:=by simp [hq] at hi;omega
   simp only [Nat.add_zero] at this
   rw [← Rep.zP]
   simp [storeVar,sizeOf,typeInfo,hq,hcs,hs,this]
theorem wp_storeV {P:Program} {op:Oper} {a:Act} {w:World} {K:Act→World→Prop} {Q:Exit→Act→World→Prop} (ty:TypeId) (x y:Operand) (ho:op.op=.store ty x y)
    (b o:Nat) (v:Value) (cs:List Value) (hcs:v.cells=cs.toArray) (hx:a.eval x=.pointer (some ⟨b,o,none⟩)) (hy:a.eval y=v)
    (ht:w.there b o cs.length) (hi:(P.info? ty).map (·.size)=some cs.length) (h1:∀ c∈cs,c.oneCell'=true)
    (h:∀ w',w'=Rep.setCells w b o cs→K (a.put op.dst undef) w'):op.wp P a w K Q:=by
 unfold Oper.wp execOp
 simp only [ho,hx,hy,Instr.storeAt,Instr.sureAddr,Sem.run_bind,Sem.run_pure,Result.andThen_ok,kEj w b o ty v cs hcs ht hi h1]
 exact h _ rfl
theorem jH {P:Program} {ops:Array Oper} {rest:List Oper} {op:Oper} {a:Act} {w:World} {Q:Exit→Act→World→Prop} (hgd:op.guard=none) (ty:TypeId) (x y:Operand) (ho:op.op=.store ty x y)
    (b o:Nat) (v:Value) (cs:List Value) (hcs:v.cells=cs.toArray) (hx:a.eval x=.pointer (some ⟨b,o,none⟩)) (hy:a.eval y=v)
    (ht:w.there b o cs.length) (hi:(P.info? ty).map (·.size)=some cs.length) (h1:∀ c∈cs,c.oneCell'=true)
    (h:∀ w',w'=Rep.setCells w b o cs→wpList P ops Q rest (a.put op.dst undef) w'):wpList P ops Q (op :: rest) a w :=
  wpList_plain hgd fun _ hK=>wp_storeV ty x y ho b o v cs hcs hx hy ht hi h1 (fun w' hw=>hK _ _ (h w' hw))
namespace Rep
section
variable {α:Type} {r:Rep α} {e:TypeId} {w w' u:World} {v:Value} {b cap len n i j:Nat} {xs:List α} {x y:α} {S T:Nat→Prop}
theorem kCc {m o p:Nat} {cs:List Value} (h:w.there b o m):(setCells w b p cs).there b o m:=by
 rw [← zP];exact World.there_setCells h b p cs
theorem jl (h:kH e r w (.slice (some ⟨b,0,none⟩) len cap) xs S) (hi:i < xs.length):w.there b (i * r.n) r.n:=by
 obtain ⟨hb,h⟩:=h
 rcases h with ⟨⟨a,h0⟩,rfl⟩|⟨b',cap',cur,cs,tl,h0,h1,h2,h3,h4,h5,h6,h7⟩
 · simp at hi
 simp only [Value.slice.injEq,Option.some.injEq,Addr.mk.injEq,and_true] at h0
 obtain ⟨rfl,rfl,rfl⟩:=h0
 intro j hj
 have hlt:i * r.n + j < cur.size:=by
  rw [h5]
  have:(i + 1) * r.n≤cap * r.n:=Nat.mul_le_mul_right _ fV
  rw [Nat.add_mul] at this;omega
 refine ⟨?_,frozen_of_row w b _ _ _ h3⟩
 rw [cell_of_row w b _ _ e (0,0) h3,Array.getElem?_eq_getElem hlt]
 rfl
theorem kBd (h:kH e r w (.slice (some ⟨b,0,none⟩) len cap) xs S) (hi:i < xs.length):S b∧b < w.heap.size:=by
 obtain ⟨b',cap',h0,h1,h2,_⟩:=kAn h hi
 simp only [Value.slice.injEq,Option.some.injEq,Addr.mk.injEq,and_true] at h0
 obtain ⟨rfl,_,_⟩:=h0
 exact ⟨h1,h2⟩
end
end Rep
theorem kCb {S:Nat→Prop} {b:Nat} {w w':World} (h:Touch (fun k=>k=b) w w') (hb:S b):Touch S w w':=h.wide (fun k hk=>hk ▸ hb)
end Go.Proofs.YthpgoddjglnoiaaGreatDoor

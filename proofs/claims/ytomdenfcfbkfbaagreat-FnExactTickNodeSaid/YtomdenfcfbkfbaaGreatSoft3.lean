/-
  An owned slice, two of whose elements change places. No program in sight.
  A store of a value of any number of cells into a row; what a comparing function must answer. No program in sight.
  Regions with a head and a tail, some of whose head's operations (which look at no memory) may come up after the tail has begun. No program in sight.
-/
import Derived.Test.YtomdenfcfbkfbaaGreatOwn2
import Derived.Test.YtomdenfcfbkfbaaGreatSrt
import Derived.Test.YtomdenfcfbkfbaaGreatCopyP0
import Derived.Deep.MidRow
import Derived.Test.YtomdenfcfbkfbaaGreatSoft2
namespace Go.Proofs.YtomdenfcfbkfbaaGreat
open Go.RowKit
set_option linter.unusedVariables false
set_option linter.unusedSimpArgs false
set_option linter.unnecessarySimpa false
namespace Rep
section
variable {α:Type} {r:Rep α} {e:TypeId} {w w' u:World} {v:Value} {b cap len n i j:Nat} {xs:List α} {x y:α} {S T:Nat→Prop}
theorem row_swap {cells:List Value} {X1 X2 X3:List α} (h:row r true w cells (X1++x :: (X2++y :: X3)) S) :
    ∃ d1 cx d2 cy d3,cells=d1++(cx++(d2++(cy++d3)))∧d1.length=X1.length * r.n∧cx.length=r.n∧d2.length=X2.length * r.n∧cy.length=r.n ∧
      row r true w (d1++(cy++(d2++(cx++d3)))) (X1++y :: (X2++x :: X3)) S:=by
 obtain ⟨d1,e1,A1,B1,rfl,r1,⟨cx,e2,Ax,B2,rfl,rx,q2,hAx,hB2,dx⟩,hA1,hB1,D1⟩:=row_split X1 h
 obtain ⟨d2,e3,A2,B3,rfl,r2,⟨cy,d3,Ay,A3,rfl,ry,r3,hAy,hA3,dy⟩,hA2,hB3,D2⟩:=row_split X2 q2
 refine ⟨d1,cx,d2,cy,d3,rfl,row_len r1,r.len rx,row_len r2,r.len ry,?_⟩
 have t3:row r true w (cx++d3) (x :: X3) (fun k=>Ax k∨A3 k):=⟨cx,d3,Ax,A3,rfl,rx,r3,fun _=>.inl,fun _=>.inr,fun _ k h1 h2=>dx rfl k h1 (hB3 k (hA3 k h2))⟩
 have t2:row r true w (d2++(cx++d3)) (X2++x :: X3) (fun k=>A2 k∨(Ax k∨A3 k)):=row_append r2 t3 (fun _=>.inl) (fun _=>.inr) (fun _ k h1 h2=>h2.elim (fun q=>dx rfl k q (hA2 k h1)) (fun q=>D2 rfl k h1 (hA3 k q)))
 have t1:row r true w (cy++(d2++(cx++d3))) (y :: (X2++x :: X3)) (fun k=>Ay k∨(A2 k∨(Ax k∨A3 k))):=⟨cy,_,Ay,_,rfl,ry,t2,fun _=>.inl,fun _=>.inr,fun _ k h1 h2=>h2.elim (fun q=>D2 rfl k q (hAy k h1)) (fun h2=>h2.elim (fun q=>dx rfl k q (hB3 k (hAy k h1))) (fun q=>dy rfl k h1 q))⟩
 refine row_append r1 t1 hA1 ?_ ?_
 · rintro k (q | q | q | q)
   · exact hB1 k (hB2 k (hB3 k (hAy k q)))
   · exact hB1 k (hB2 k (hA2 k q))
   · exact hB1 k (hAx k q)
   exact hB1 k (hB2 k (hB3 k (hA3 k q)))
 rintro _ k h1 (q | q | q | q)
 · exact D1 rfl k h1 (hB2 k (hB3 k (hAy k q)))
 · exact D1 rfl k h1 (hB2 k (hA2 k q))
 · exact D1 rfl k h1 (hAx k q)
 exact D1 rfl k h1 (hB2 k (hB3 k (hA3 k q)))
theorem split_two {l:List α} {i j:Nat} (hij:i < j) (hj:j < l.length):∃ X1 x X2 y X3,l=X1++x :: (X2++y :: X3)∧X1.length=i∧X2.length=j - i - 1:=by
 refine ⟨l.take i,l[i],(l.drop (i + 1)).take (j - i - 1),l[j],l.drop (j + 1),?_,by simp;omega,by simp;omega⟩
 have e1:l=l.take i++l[i] :: l.drop (i + 1):=by simp
 have e2:l.drop (i + 1)=(l.drop (i + 1)).take (j - i - 1)++l[j] :: l.drop (j + 1):=by
  have h1:(l.drop (i + 1)).drop (j - i - 1)=l.drop j:=by rw [List.drop_drop];congr 1;omega
  have h2:l.drop j=l[j] :: l.drop (j + 1):=by simp
  rw [← h2,← h1,List.take_append_drop]
 rw [← e2,← e1]
theorem cells_eq {cells mid pre suf:List Value} {o:Nat} {cs:List Value} {e:TypeId} (hc:w.heap[b]?=some (.cells cells.toArray e (0,0))) (he:cells=pre++(mid++suf)) (ho:pre.length=o) (hl:cs.length=mid.length)
    (h:∀ q u,cs[q]?=some u→w.cell? ⟨b,o + q,none⟩=some u):cs=mid:=by
 apply List.ext_getElem hl
 intro q h1 h2
 have:=h q cs[q] (by simp [h1])
 rw [cell_of_row w b _ _ e (0,0) hc] at this
 simp only [List.getElem?_toArray] at this
 rw [he,List.getElem?_append_right (by omega),List.getElem?_append_left (by omega),show o + q - pre.length=q by omega,List.getElem?_eq_getElem h2] at this
 exact (Option.some.inj this).symm
theorem own0_swap (h:own0 e r w (.slice (some ⟨b,0,none⟩) len cap) xs S) (hi:i < xs.length) (hj:j < xs.length) (hij:i≠j) {ci cj:List Value} (li:ci.length=r.n) (lj:cj.length=r.n)
    (hci:∀ q u,ci[q]?=some u→w.cell? ⟨b,i * r.n + q,none⟩=some u) (hcj:∀ q u,cj[q]?=some u→w.cell? ⟨b,j * r.n + q,none⟩=some u) {pi pj:Nat} (hpi:pi=i * r.n) (hpj:pj=j * r.n) :
    own0 e r (setCells (setCells w b pi cj) b pj ci) (.slice (some ⟨b,0,none⟩) len cap) (Srt.sw xs i j) S∧Touch (fun k=>k=b) w (setCells (setCells w b pi cj) b pj ci):=by
 subst hpi hpj
 refine ⟨?_,(touch_setCells _ _ _ _).trans (touch_setCells _ _ _ _)⟩
 obtain ⟨hb,h⟩:=h
 rcases h with ⟨⟨a,h0⟩,rfl⟩|⟨b',cap',cur,cs,tl,h0,h1,h2,h3,h4,h5,h6,h7⟩
 · simp at hi
 simp only [Value.slice.injEq,Option.some.injEq,Addr.mk.injEq,and_true] at h0
 obtain ⟨rfl,rfl,rfl⟩:=h0
 have hcur:cur=(cs++tl).toArray:=by rw [← h4]
 subst hcur
 have hbs:∀ z∈Srt.sw xs i j,r.bdd Big z:=by
  intro z hz
  rw [Srt.sw_get hi hj] at hz
  rcases List.mem_or_eq_of_mem_set hz with q | q
  · rcases List.mem_or_eq_of_mem_set q with q | q
    · exact hb z q
    rw [q];exact hb _ (List.getElem_mem hj)
  rw [q];exact hb _ (List.getElem_mem hi)
 have hlen:=Srt.sw_length xs i j
 refine ⟨hbs,.inr ⟨b,cap,?_⟩⟩
 suffices hh:∃ cs',(setCells (setCells w b (i * r.n) cj) b (j * r.n) ci).heap[b]?=some (.cells (cs'++tl).toArray e (0,0))∧cs'.length=cs.length∧row r true w cs' (Srt.sw xs i j) (fun k=>S k∧k≠b) by
   obtain ⟨cs',g1,g2,g3⟩:=hh
   refine ⟨_,cs',tl,by rw [hlen],by rw [hlen];exact h1,h2,g1,by simp,?_,h6,?_⟩
   · rw [← h5];simp [g2]
   · exact row_mono g3 (fun k hk=>by rw [setCells_other _ _ _ _ _ hk.2,setCells_other _ _ _ _ _ hk.2])
 rcases Nat.lt_or_gt_of_ne hij with q | q
 · obtain ⟨X1,x,X2,y,X3,rfl,l1,l2⟩:=split_two q hj
   obtain ⟨d1,cx,d2,cy,d3,rfl,m1,mx,m2,my,hr⟩:=row_swap h7
   have e1:ci=cx:=cells_eq h3 (show _=d1++(cx++((d2++(cy++d3))++tl)) by simp) (by rw [m1,l1]) (by omega) hci
   have e2:cj=cy:=cells_eq h3 (show _=(d1++(cx++d2))++(cy++(d3++tl)) by simp) (by
     simp only [List.length_append];rw [m1,mx,m2,l1,l2]
     have:j=i + 1 + (j - i - 1):=by omega
     generalize j - i - 1=t at *
     subst this
     simp only [Nat.add_mul];omega) (by omega) hcj
   subst e1 e2
   have hj':(d1++(cj++d2)).length=j * r.n:=by
    simp only [List.length_append];rw [m1,lj,m2,l1,l2]
    have:j=i + 1 + (j - i - 1):=by omega
    generalize j - i - 1=t at *
    subst this
    simp only [Nat.add_mul];omega
   refine ⟨d1++(cj++(d2++(ci++d3))),?_,by simp;omega,?_⟩
   · have g1:=setCells_heap (e:=e) cj ci d1 ((d2++(cj++d3))++tl) w b (i * r.n) (by rw [h3];simp) (by rw [m1,l1]) (by omega)
     have g2:=setCells_heap (e:=e) ci cj (d1++(cj++d2)) (d3++tl) _ b (j * r.n) (by rw [g1];simp) hj' (by omega)
     rw [g2];simp
   have es:=Srt.sw_parts X1 X2 X3 x y (i:=i) (j:=j) l1.symm (by omega)
   rw [show X1++x :: (X2++y :: X3)=X1++x :: X2++y :: X3 by simp,es]
   simpa using hr
 obtain ⟨X1,y,X2,x,X3,rfl,l1,l2⟩:=split_two q hi
 obtain ⟨d1,cy,d2,cx,d3,rfl,m1,my,m2,mx,hr⟩:=row_swap h7
 have hi':∀ z:List Value,z.length=r.n→(d1++(z++d2)).length=i * r.n:=by
  intro z hz
  simp only [List.length_append];rw [m1,hz,m2,l1,l2]
  have:i=j + 1 + (i - j - 1):=by omega
  generalize i - j - 1=t at *
  subst this
  simp only [Nat.add_mul];omega
 have e1:cj=cy:=cells_eq h3 (show _=d1++(cy++((d2++(cx++d3))++tl)) by simp) (by rw [m1,l1]) (by omega) hcj
 have e2:ci=cx:=cells_eq h3 (show _=(d1++(cy++d2))++(cx++(d3++tl)) by simp) (hi' _ my) (by omega) hci
 subst e1 e2
 refine ⟨d1++(ci++(d2++(cj++d3))),?_,by simp;omega,?_⟩
 · have g1:=setCells_heap (e:=e) cj ci (d1++(cj++d2)) (d3++tl) w b (i * r.n) (by rw [h3];simp) (hi' _ lj) (by omega)
   have g2:=setCells_heap (e:=e) ci cj d1 ((d2++(cj++d3))++tl) _ b (j * r.n) (by rw [g1];simp) (by rw [m1,l1]) (by omega)
   rw [g2];simp
 have es:=Srt.sw_parts X1 X2 X3 y x (i:=j) (j:=i) l1.symm (by omega)
 rw [Srt.sw_comm,show X1++y :: (X2++x :: X3)=X1++y :: X2++x :: X3 by simp,es]
 simpa using hr
end
end Rep
end Go.Proofs.YtomdenfcfbkfbaaGreat
namespace Go.Proofs.YtomdenfcfbkfbaaGreat
open Go.RowKit
set_option linter.unusedVariables false
set_option linter.unusedSimpArgs false
set_option linter.unnecessarySimpa false
theorem run_storeVar_any {P:Program} (w:World) (b o:Nat) (ty:TypeId) (v:Value) (cs:List Value) (hcs:v.cells=cs.toArray) (ht:w.there b o cs.length) (hi:(P.info? ty).map (·.size)=some cs.length) (h1:∀ c∈cs,c.oneCell'=true) :
    (storeVar ty ⟨b,o,none⟩ v).run P w=.ok () (Rep.setCells w b o cs):=by
 have:=run_storeCells_cells (P:=P) b o cs 0 w (fun j hj=>by simpa using (ht j (by simpa using hj)).1) (fun j hj=>by simpa using (ht j (by simpa using hj)).2) h1
 cases hq:P.info? ty with
 | none=>simp [hq] at hi
 | some i =>
   have hs:cs.length=i.size:=by simp [hq] at hi;omega
   simp only [Nat.add_zero] at this
   rw [← Rep.setCells_lib]
   simp [storeVar,sizeOf,typeInfo,hq,hcs,hs,this]
theorem wp_storeV {P:Program} {op:Oper} {a:Act} {w:World} {K:Act→World→Prop} {Q:Exit→Act→World→Prop} (ty:TypeId) (x y:Operand) (ho:op.op=.store ty x y)
    (b o:Nat) (v:Value) (cs:List Value) (hcs:v.cells=cs.toArray) (hx:a.eval x=.pointer (some ⟨b,o,none⟩)) (hy:a.eval y=v)
    (ht:w.there b o cs.length) (hi:(P.info? ty).map (·.size)=some cs.length) (h1:∀ c∈cs,c.oneCell'=true)
    (h:∀ w',w'=Rep.setCells w b o cs→K (a.put op.dst undef) w'):op.wp P a w K Q:=by
 unfold Oper.wp execOp
 simp only [ho,hx,hy,Instr.storeAt,Instr.sureAddr,Sem.run_bind,Sem.run_pure,Result.andThen_ok,run_storeVar_any w b o ty v cs hcs ht hi h1]
 exact h _ rfl
theorem wpList_storeV {P:Program} {ops:Array Oper} {rest:List Oper} {op:Oper} {a:Act} {w:World} {Q:Exit→Act→World→Prop} (hgd:op.guard=none) (ty:TypeId) (x y:Operand) (ho:op.op=.store ty x y)
    (b o:Nat) (v:Value) (cs:List Value) (hcs:v.cells=cs.toArray) (hx:a.eval x=.pointer (some ⟨b,o,none⟩)) (hy:a.eval y=v)
    (ht:w.there b o cs.length) (hi:(P.info? ty).map (·.size)=some cs.length) (h1:∀ c∈cs,c.oneCell'=true)
    (h:∀ w',w'=Rep.setCells w b o cs→wpList P ops Q rest (a.put op.dst undef) w'):wpList P ops Q (op :: rest) a w :=
  wpList_plain hgd fun _ hK=>wp_storeV ty x y ho b o v cs hcs hx hy ht hi h1 (fun w' hw=>hK _ _ (h w' hw))
namespace Rep
section
variable {α:Type} {r:Rep α} {e:TypeId} {w w' u:World} {v:Value} {b cap len n i j:Nat} {xs:List α} {x y:α} {S T:Nat→Prop}
theorem there_set {m o p:Nat} {cs:List Value} (h:w.there b o m):(setCells w b p cs).there b o m:=by
 rw [← setCells_lib];exact World.there_setCells h b p cs
theorem own0_there (h:own0 e r w (.slice (some ⟨b,0,none⟩) len cap) xs S) (hi:i < xs.length):w.there b (i * r.n) r.n:=by
 obtain ⟨hb,h⟩:=h
 rcases h with ⟨⟨a,h0⟩,rfl⟩|⟨b',cap',cur,cs,tl,h0,h1,h2,h3,h4,h5,h6,h7⟩
 · simp at hi
 simp only [Value.slice.injEq,Option.some.injEq,Addr.mk.injEq,and_true] at h0
 obtain ⟨rfl,rfl,rfl⟩:=h0
 intro j hj
 have hlt:i * r.n + j < cur.size:=by
  rw [h5]
  have:(i + 1) * r.n≤cap * r.n:=Nat.mul_le_mul_right _ (by omega)
  rw [Nat.add_mul] at this;omega
 refine ⟨?_,frozen_of_row w b _ _ _ h3⟩
 rw [cell_of_row w b _ _ e (0,0) h3,Array.getElem?_eq_getElem hlt]
 rfl
theorem own0_block (h:own0 e r w (.slice (some ⟨b,0,none⟩) len cap) xs S) (hi:i < xs.length):S b∧b < w.heap.size:=by
 obtain ⟨b',cap',h0,h1,h2,_⟩:=own0_addr h hi
 simp only [Value.slice.injEq,Option.some.injEq,Addr.mk.injEq,and_true] at h0
 obtain ⟨rfl,_,_⟩:=h0
 exact ⟨h1,h2⟩
end
end Rep
theorem touch_one {S:Nat→Prop} {b:Nat} {w w':World} (h:Touch (fun k=>k=b) w w') (hb:S b):Touch S w w':=h.wide (fun k hk=>hk ▸ hb)
end Go.Proofs.YtomdenfcfbkfbaaGreat
namespace Go.Proofs.YtomdenfcfbkfbaaGreat
open Go
set_option linter.unusedVariables false
section
variable {P:Program} {ops:Array Oper} {S:World→Prop} {Q:Exit→Act→World→Prop}
def sinkS (md:Region.Mode) (ops:Array Oper) (n:Nat) (sk:List Nat):Bool :=
  (List.range n).all fun i=>sk.contains i || (List.range (n + 1)).any fun j=>decide (i < j) && (!sk.contains j && Region.waitsFor md ops j i)
theorem tail_waitsS {md:Region.Mode} {n:Nat} {sk:List Nat} {listed:Array Bool} (hs:sinkS md ops n sk=true) (hc:Region.chainB md ops n=true) (hn:n < ops.size) (inv:HeadInv md ops n listed) :
    ∀ (d i:Nat),n - i=d→i < n→sk.contains i=false→listed.getD i true=false→∀ t,n≤t→t ∉ Region.ready md ops listed:=by
 intro d
 induction d using Nat.strongRecOn with
 | _ d ih =>
   intro i hd hi hsk hun t ht hr
   obtain ⟨_,ot,hot,hall⟩:=mem_ready.1 hr
   have htlt:t < ops.size:=(Array.getElem?_eq_some_iff.1 hot).1
   by_cases htn:t=n
   · subst htn
     have h1:=List.all_eq_true.1 hs i (List.mem_range.2 hi)
     rw [hsk,Bool.false_or] at h1
     obtain ⟨j,hj,hj2⟩:=List.any_eq_true.1 h1
     simp only [Bool.and_eq_true,decide_eq_true_eq,Bool.not_eq_true'] at hj2
     obtain ⟨oj,hoj,e,he,hb,hon⟩:=Region.waitsFor_spec hj2.2.2
     have hjle:j≤t:=by have:=List.mem_range.1 hj;omega
     by_cases hjt:j=t
     · subst hjt
       have:oj=ot:=Option.some.inj (hoj.symm.trans hot)
       subst this
       have h2:=hall e he hb
       rw [hon,getD_both hun] at h2
       cases h2
     · cases hl:listed.getD j false with
       | true =>
         have h2:=inv.closed j oj hoj hl e he hb
         rw [hon,getD_both hun] at h2
         cases h2
       | false =>
         have hjs:j < listed.size:=by rw [inv.size];omega
         exact ih (t - j) (by omega) j rfl (by omega) hj2.2.1 (getD_in hjs hl) t (Nat.le_refl _) hr
   · have h1:=List.all_eq_true.1 hc t (List.mem_range.2 htlt)
     simp only [Bool.or_eq_true,decide_eq_true_eq] at h1
     rcases h1 with h1 | h1
     · omega
     · obtain ⟨o',ho',e,he,hb,hon⟩:=Region.waitsFor_spec h1
       have:o'=ot:=Option.some.inj (ho'.symm.trans hot)
       subst this
       have h2:=hall e he hb
       rw [hon,getD_both (inv.tail (t - 1) (by omega) (by omega))] at h2
       cases h2
theorem wpAnyLS_firstS {md:Region.Mode} {n i:Nat} {sk:List Nat} {oi:Oper} {v:Value} {L:Array Bool→Act→World→Prop} (hi:ops[i]?=some oi) (hsel:∀ (j:Nat) (o:Oper) cs b,ops[j]?=some o→o.op≠.select cs b)
    (hQ:∀ c a w,Q (.panic c) (a.put oi.dst v) w→Q (.panic c) a w) (hs:sinkS md ops n sk=true) (hc:Region.chainB md ops n=true) (hn:n < ops.size) (hin:i < n) (hsk:sk.contains i=false)
    (hdone:∀ listed a w,L listed a w→∀ j∈Region.ready md ops listed,n≤j) :
    ∀ (f:Nat) (listed:Array Bool) (a:Act) (w:World),HeadInv md ops n listed →
      (∀ j oj,ops[j]?=some oj→j≠i→listed.getD j true=false→(∀ e∈oj.after,Region.binds md e=true→e.on≠i)→oi.apart ops oj=true) →
      i∈Region.ready md ops listed→YieldsIf P ops S oi v a→S w →
      wpAnyLS P md ops Q S n L f (listed.setIfInBounds i true) (a.put oi.dst v) w→wpAnyLS P md ops Q S n L (f + 1) listed a w:=by
 intro f
 induction f with
 | zero =>
   intro listed a w inv _ hr hy hS H
   have hun:=(mem_ready.1 hr).1
   refine ⟨fun h=>(by rw [h] at hr;cases hr),fun j hj=>?_⟩
   have hjn:j < n:=by
     rcases Nat.lt_or_ge j n with h | h
     · exact h
     · exact absurd hj (tail_waitsS hs hc hn inv _ i rfl hin hsk hun j h)
   refine ⟨hjn,?_⟩
   by_cases hji:j=i
   · subst hji;exact hy.wpOp hi hS ⟨hS,H⟩
   · have:=hdone _ _ _ H j (ready_mono hj hji)
     omega
 | succ f ih =>
   intro listed a w inv hfree hr hy hS H
   have hun:=(mem_ready.1 hr).1
   refine ⟨fun h=>(by rw [h] at hr;cases hr),fun j hj=>?_⟩
   have hjn:j < n:=by
     rcases Nat.lt_or_ge j n with h | h
     · exact h
     · exact absurd hj (tail_waitsS hs hc hn inv _ i rfl hin hsk hun j h)
   refine ⟨hjn,?_⟩
   by_cases hji:j=i
   · subst hji;exact hy.wpOp hi hS ⟨hS,H⟩
   · have h1:=(H.2 j (ready_mono hj hji)).2
     obtain ⟨hjun,oj,hoj,hall⟩:=mem_ready.1 hj
     have hnot:∀ e∈oj.after,Region.binds md e=true→e.on≠i:=fun e he hb heq=>by
       have h1:=hall e he hb
       rw [heq,getD_both hun] at h1
       cases h1
     have h2:=wpOp_putIf hoj (hfree j oj hoj hji hjun hnot) (fun cs b=>hsel i oi cs b hi) (fun cs b=>hsel j oj cs b hoj) hQ hy h1
     have hfree':∀ k ok,ops[k]?=some ok→k≠i→(listed.setIfInBounds j true).getD k true=false →
         (∀ e∈ok.after,Region.binds md e=true→e.on≠i)→oi.apart ops ok=true:=fun k ok hk hki hun hno=>by
       refine hfree k ok hk hki ?_ hno
       by_cases hjk:j=k
       · subst hjk;exact hjun
       · rw [getD_set_ne true hjk] at hun;exact hun
     refine wpOp_mono (fun a' w' h3=>⟨h3.2.1,ih (listed.setIfInBounds j true) a' w' (inv.set hj hjn) hfree' (ready_mono hr (Ne.symm hji)) h3.1 h3.2.1 ?_⟩) h2
     rw [Array.setIfInBounds_comm _ _ hji]
     exact h3.2.2
theorem wpAnyLS_softS {l:List Oper} {n g:Nat} {sk:List Nat} (hsel:Region.noSelect l.toArray=true) (hQ:∀ c a d v w,Q (.panic c) (Act.put a d v) w→Q (.panic c) a w)
    (hs:sinkS .any l.toArray n sk=true) (hc:Region.chainB .any l.toArray n=true) (hn:n < l.toArray.size) (hg:n + g=l.length):∀ (q:List (Nat × Bool)) (k:Nat) (listed:Array Bool) (a:Act) (w:World),
    q.all (fun x=>decide (x.1 < n) && !sk.contains x.1)=true→HeadInv .any l.toArray n listed→softTBP .any l.toArray n g q listed=true→S w→softR P l.toArray S Q k (pickOps l q++l.drop n) (q.map (·.2)) a w →
    wpAnyLS P .any l.toArray Q S n (fun listed a w=>Region.seqB .any l.toArray g n listed=true∧∃ r,(∀ j,r[j]?=l.toArray[n + j]?)∧r.length=g∧wpList P l.toArray Q r a w) q.length listed a w
  | [],k,listed,a,w,_,inv,hB,hS,h=>by
    refine ⟨by simpa [softTBP] using hB,l.drop n,fun j=>by simp [List.getElem?_drop],by simp;omega,?_⟩
    simp only [pickOps,List.nil_append,List.map_nil] at h
    generalize l.drop n=r at h ⊢
    cases r <;> exact h
  | (i,true) :: q,k,listed,a,w,hi,inv,hB,hS,h=>by
    simp only [List.all_cons,Bool.and_eq_true,decide_eq_true_eq,Bool.not_eq_true'] at hi
    have hil:i < l.toArray.size:=Nat.lt_trans hi.1.1 hn
    have h0:l.toArray[i]?=some l.toArray[i]:=Array.getElem?_eq_getElem hil
    have hp:pickOps l ((i,true) :: q)=l.toArray[i] :: pickOps l q:=by
      have:l[i]?=some l.toArray[i]:=by simp
      simp only [pickOps,this]
    rw [hp] at h
    obtain ⟨v,hy,h⟩:=h
    simp only [softTBP,Bool.and_eq_true] at hB
    have hr:i∈Region.ready .any l.toArray listed:=by simpa using hB.1.1
    have hi2:q.all (fun x=>decide (x.1 < n) && !sk.contains x.1)=true:=by simpa only [Bool.and_eq_true,decide_eq_true_eq,Bool.not_eq_true'] using hi.2
    exact wpAnyLS_firstS h0 (Region.noSelect_spec hsel) (fun c a w=>hQ c a _ _ w) hs hc hn hi.1.1 hi.1.2 (fun listed' a' w' hL=>seqB_ready hL.1) q.length listed a w inv (Region.free_spec h0 hB.1.2) hr hy hS
      (wpAnyLS_softS hsel hQ hs hc hn hg q (k + 1) _ _ _ hi2 (inv.set hr hi.1.1) hB.2 hS h)
  | (i,false) :: q,k,listed,a,w,hi,inv,hB,hS,h=>by
    simp only [List.all_cons,Bool.and_eq_true,decide_eq_true_eq,Bool.not_eq_true'] at hi
    have hi2:q.all (fun x=>decide (x.1 < n) && !sk.contains x.1)=true:=by simpa only [Bool.and_eq_true,decide_eq_true_eq,Bool.not_eq_true'] using hi.2
    have hil:i < l.toArray.size:=Nat.lt_trans hi.1.1 hn
    have h0:l.toArray[i]?=some l.toArray[i]:=Array.getElem?_eq_getElem hil
    have hp:pickOps l ((i,false) :: q)=l.toArray[i] :: pickOps l q:=by
      have:l[i]?=some l.toArray[i]:=by simp
      simp only [pickOps,this]
    rw [hp] at h
    simp only [softTBP,Bool.and_eq_true,beq_iff_eq] at hB
    have hr:i∈Region.ready .any l.toArray listed:=by rw [hB.1];simp
    refine ⟨by rw [hB.1];simp,fun j hj=>?_⟩
    rw [hB.1] at hj
    obtain rfl:j=i:=by simpa using hj
    refine ⟨hi.1.1,?_⟩
    refine wpOp_mono (fun a' w' h'=>⟨h'.1,wpAnyLS_softS hsel hQ hs hc hn hg q (k + 1) _ _ _ hi2 (inv.set hr hi.1.1) hB.2 h'.1 h'.2⟩) (K:=fun a' w'=>S w'∧softR P l.toArray S Q (k + 1) (pickOps l q++l.drop n) (q.map (·.2)) a' w') ?_
    unfold wpOp
    simp only [h0]
    exact h
def preB (md:Region.Mode) (ops:Array Oper):List Nat→Array Bool→Bool
  | [],_=>true
  | k :: p,listed=>(Region.ready md ops listed).contains k && Region.free md ops listed k && preB md ops p (listed.setIfInBounds k true)
def listedBy:List Nat→Array Bool→Array Bool
  | [],b=>b
  | k :: p,b=>listedBy p (b.setIfInBounds k true)
def pickNat (l:List Oper):List Nat→List Oper
  | []=>[]
  | k :: q=>match l[k]? with
    | some o=>o :: pickNat l q
    | none=>[]
def preR (P:Program) (ops:Array Oper) (K:Act→Prop):List Oper→Act→Prop
  | [],a=>K a
  | o :: l,a=>∃ v,Yields P ops o v a∧preR P ops K l (a.put o.dst v)
@[irreducible] def pre (P:Program) (ops:Array Oper) (K:Act→Prop) (l:List Oper) (a:Act):Prop:=preR P ops K l a
theorem wpAny_pre {l:List Oper} {n f:Nat} (hsel:Region.noSelect l.toArray=true) (hQ:∀ c a d v w,Q (.panic c) (Act.put a d v) w→Q (.panic c) a w) {w:World} (hn:n < l.toArray.size):∀ (sk:List Nat) (listed:Array Bool) (a:Act),
    sk.all (fun x=>decide (x < n))=true→HeadInv .any l.toArray n listed→preB .any l.toArray sk listed=true→preR P l.toArray (fun a'=>HeadInv .any l.toArray n (listedBy sk listed)→wpAny P .any l.toArray Q f (listedBy sk listed) a' w) (pickNat l sk) a→wpAny P .any l.toArray Q (sk.length + f) listed a w
  | [],listed,a,_,inv,_,h=>by
    simp only [List.length_nil,Nat.zero_add]
    exact h inv
  | i :: sk,listed,a,hi,inv,hB,h=>by
    simp only [List.all_cons,Bool.and_eq_true,decide_eq_true_eq] at hi
    have hil:i < l.toArray.size:=Nat.lt_trans hi.1 hn
    have h0:l.toArray[i]?=some l.toArray[i]:=Array.getElem?_eq_getElem hil
    have hp:pickNat l (i :: sk)=l.toArray[i] :: pickNat l sk:=by
      have:l[i]?=some l.toArray[i]:=by simp
      simp only [pickNat,this]
    rw [hp] at h
    obtain ⟨v,hy,h⟩:=h
    simp only [preB,Bool.and_eq_true] at hB
    have hr:i∈Region.ready .any l.toArray listed:=by simpa using hB.1.1
    rw [show (i :: sk).length + f=(sk.length + f) + 1 by simp;omega]
    exact wpAny_take h0 hsel hB.1.2 hB.1.1 (fun c a w=>hQ c a _ _ w) hy (wpAny_pre hsel hQ hn sk _ _ (by simpa using hi.2) (inv.set hr hi.1) hB.2 h)
def skipOk (md:Region.Mode) (ops:Array Oper) (sk:List Nat) (q:List (Nat × Bool)):Bool :=
  Region.noSelect ops && (decide (sk.length + q.length < ops.size) && (sk.all (fun x=>decide (x < sk.length + q.length)) && (q.all (fun x=>decide (x.1 < sk.length + q.length) && !sk.contains x.1) && (sinkS md ops (sk.length + q.length) sk && (Region.chainB md ops (sk.length + q.length) &&
    (preB md ops sk (Array.replicate ops.size false) && softTBP md ops (sk.length + q.length) (ops.size - (sk.length + q.length)) q (listedBy sk (Array.replicate ops.size false))))))))
theorem preR_mono {K K':Act→Prop} (h:∀ a,K a→K' a):∀ (l:List Oper) (a:Act),preR P ops K l a→preR P ops K' l a
  | [],a,q=>h a q
  | o :: l,a,⟨v,hy,q⟩=>⟨v,hy,preR_mono h l _ q⟩
theorem wp_region_skip_tail {id:Nat} {a:Act} {w:World} {l:List Oper} (S:World→Prop) (sk:List Nat) (q:List (Nat × Bool)) (hm:P.follows .mixedOrders=true) (hB:skipOk .any l.toArray sk q=true)
    (hQ:∀ c a d v w,Q (.panic c) (Act.put a d v) w→Q (.panic c) a w) (hS:S { w with drawn:=w.drawn + 1 })
    (h:∀ w',S w'→pre P l.toArray (fun a'=>soft P l.toArray S Q 0 (pickOps l q++l.drop (sk.length + q.length)) (q.map (·.2)) a' w') (pickNat l sk) a):(Code.region id l.toArray true).wp P Q a w:=by
 simp only [skipOk,Bool.and_eq_true,decide_eq_true_eq] at hB
 have h:=h _ hS
 unfold pre at h
 unfold soft at h
 have hsz:l.toArray.size=l.length:=by simp
 have inv0:HeadInv .any l.toArray (sk.length + q.length) (Array.replicate l.toArray.size false) :=
   ⟨by simp,fun j oj _ hl=>(by rw [getD_replicate_false] at hl;cases hl),fun t _ ht=>getD_in (by simpa using ht) (getD_replicate_false _ _)⟩
 refine wp_region_any hm ?_
 have hn:=hB.2.1
 have hq2:q.all (fun x=>decide (x.1 < sk.length + q.length) && !sk.contains x.1)=true:=by simpa only [Bool.and_eq_true,decide_eq_true_eq,Bool.not_eq_true'] using hB.2.2.2.1
 rw [show l.toArray.size=sk.length + (q.length + (l.toArray.size - (sk.length + q.length))) by omega]
 rw [show sk.length + (q.length + (l.toArray.size - (sk.length + q.length)))=l.toArray.size by omega] 
 have key:=wpAny_pre (f:=q.length + (l.toArray.size - (sk.length + q.length))) hB.1 hQ hn sk (Array.replicate l.toArray.size false) a (by simpa using hB.2.2.1) inv0 hB.2.2.2.2.2.2.1 (preR_mono (fun a' hk=>by
   intro inv1
   have H:=wpAnyLS_softS (g:=l.toArray.size - (sk.length + q.length)) hB.1 hQ hB.2.2.2.2.1 hB.2.2.2.2.2.1 hn (by omega) q 0 _ a' _ hq2 inv1 hB.2.2.2.2.2.2.2 hS hk
   exact wpAny_of_headS (Q:=Q) (g:=l.toArray.size - (sk.length + q.length)) (fun listed a' w' hL=>by
     obtain ⟨hq,l',ho,hl',hw⟩:=hL
     have:=wpAny_of_seq (md:=.any) (Q':=Q) l' (sk.length + q.length) listed a' w' ho (by rw [hl'];exact hq) hw
     rwa [hl'] at this) _ _ _ _ H) _ _ h)
 rw [show sk.length + (q.length + (l.toArray.size - (sk.length + q.length)))=l.toArray.size by omega] at key
 exact key
theorem pre_nil {K:Act→Prop} {a:Act} (h:K a):pre P ops K [] a:=by unfold pre;exact h
theorem pre_read {K:Act→Prop} {o:Oper} {l:List Oper} {a:Act} {v:Value} (hg:Region.wanted o (yielded ops a.tmps)=true) (hv:∀ w,(execOp a.eval o).run P w=.ok (.value v) w) (h:pre P ops K l (a.put o.dst v)):pre P ops K (o :: l) a:=by
 unfold pre at h ⊢
 exact ⟨v,.inl ⟨hg,hv⟩,h⟩
end
end Go.Proofs.YtomdenfcfbkfbaaGreat

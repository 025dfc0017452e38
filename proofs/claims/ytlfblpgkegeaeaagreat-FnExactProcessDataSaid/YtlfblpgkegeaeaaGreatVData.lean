/-
  Owned slices at their block's head: a store into an element; two parts appended to a new slice. No program in sight.
  slices.DeleteFunc and slices.Delete over owned slices.
  An entry of a store taken out.
  Pending interests: found.
  Parts and names that are valid.
  Names that are valid.
  Data that is valid.
-/
import Derived.Test.YtlfblpgkegeaeaaGreatFindC
set_option linter.unusedVariables false
set_option linter.unusedSimpArgs false
set_option linter.unnecessarySimpa false
set_option maxRecDepth 100000
set_option maxHeartbeats 4000000
namespace Go.Proofs.YtlfblpgkegeaeaaGreat
open Go.RowKit
namespace Rep
section
variable {α:Type} {r:Rep α} {e:TypeId} {w w' u:World} {v:Value} {b cap len n:Nat} {kept rest xs:List α} {j i:Nat} {x:α} {S T:Nat→Prop}
theorem kNl (h:kg e r w v xs S) (hi:i < xs.length):∃ b cap,v=.slice (some ⟨b,0,none⟩) xs.length cap∧S b∧b < w.heap.size∧xs.length≤cap∧cap≤9223372036854775807:=by
 obtain ⟨hb,h⟩:=h
 rcases h with ⟨⟨a,rfl⟩,rfl⟩|⟨b,cap,cur,cs,tl,rfl,h1,h2,h3,h4,h5,h6,h7⟩
 · simp at hi
 exact ⟨b,cap,rfl,h6,(Array.getElem?_eq_some_iff.1 h3).1,h1,by unfold maxLen at h2;omega⟩
theorem own0_size (h:kg e r w (.slice (some ⟨b,0,none⟩) len cap) xs S) (hi:0 < xs.length):∃ cur,w.heap[b]?=some (.cells cur e (0,0))∧cur.size=cap * r.n:=by
 obtain ⟨hb,h⟩:=h
 rcases h with ⟨⟨a,h0⟩,rfl⟩|⟨b,cap,cur,cs,tl,h0,h1,h2,h3,h4,h5,h6,h7⟩
 · simp at hi
 simp only [Value.slice.injEq,Option.some.injEq,Addr.mk.injEq,and_true] at h0
 obtain ⟨rfl,rfl,rfl⟩:=h0
 exact ⟨cur,h3,h5⟩
theorem own_own0 (h:(slice e r).own w [.slice (some ⟨b,0,none⟩) len cap] xs S) (hne:0 < xs.length) {cur:Array Value} (hc:w.heap[b]?=some (.cells cur e (0,0))) (hs:cur.size=cap * r.n) :
    kg e r w (.slice (some ⟨b,0,none⟩) len cap) xs S:=by
 obtain ⟨h1,h2,h3,h4,h5,hd,cs,tl,h6,h7,h8,h9,h10⟩:=kIj h hne
 obtain rfl:hd=[]:=List.eq_nil_of_length_eq_zero h7
 rw [hc] at h6
 simp only [Option.some.injEq,Obj.cells.injEq,and_true] at h6
 subst h6
 exact ⟨h5,.inr ⟨b,cap,_,cs,tl,by rw [h1],by omega,h3,hc,by simp,hs,h9,h10⟩⟩
theorem kLu {j p:Nat} {y:α} {u:Value} (h:kg e r w (.slice (some ⟨b,0,none⟩) len cap) xs S) (hl:xs.length≤Big) (hi:i < xs.length) (hj:j < r.n)
    (hy:∀ {w:World} {cs:List Value} {S:Nat→Prop},r.is true w cs xs[i] S→r.is true w (cs.set j u) y S) (hby:r.bdd Big y) (hp:p=i * r.n + j) :
    kg e r (w.setCell ⟨b,p,none⟩ u) (.slice (some ⟨b,0,none⟩) len cap) (xs.set i y) S∧Touch (fun k=>k=b) w (w.setCell ⟨b,p,none⟩ u):=by
 obtain ⟨cur,hc,hs⟩:=own0_size h rP
 obtain ⟨h1,h2⟩:=kOv (h.own hl) hi hj hy hby
 rw [Nat.zero_add,← hp] at h1 h2
 have h3:=heap_setCell_same w b p cur e u hc
 exact ⟨own_own0 h1 (by simpa using (by omega:0 < xs.length)) h3 (by simpa using hs),h2⟩
def blank (n:Nat):Rep Unit where
  n:=n
  is _ _ cs _ _:=cs.length=n∧∀ c∈cs,c.oneCell'=true
  bdd _ _:=True
  zero:=()
  zc:=List.replicate n (.int .i64 0)
  mark _ _ k:=((),k)
  held _ _ k:=some k
  cnt:=0
  len h:=h.1
  one h:=h.2
  mono h _:=h
  wide h _:=h
  weak h:=h
  live h:=h
  bdd_mono _ _:=trivial
  bdd_zero:=trivial
  is_zero:=by intro o w S;exact ⟨by simp,fun c hc=>by rw [List.eq_of_mem_replicate hc];rfl⟩
  mark_held:=by intros;rfl
  held_ge:=by intro e x k k' h;simp at h;omega
  mark_ge:=by intros;simp
  mark_le:=by intros;simp
  mark_bdd _ _:=trivial
theorem kUp {n:Nat}:∀ (m:Nat) (cs:List Value),cs.length=m * n→(∀ c∈cs,c.oneCell'=true)→row (blank n) true w cs (List.replicate m ()) (fun _=>False)
  | 0,cs,h,_=>by simpa [row] using List.eq_nil_of_length_eq_zero rD
  | m + 1,cs,h,h1=>by
    have hl:n≤cs.length:=by rw [h,Nat.add_mul];omega
    refine ⟨cs.take n,cs.drop n,fun _=>False,fun _=>False,by simp,⟨by simp;omega,fun c hc=>h1 c (List.mem_of_mem_take hc)⟩,kUp m _ (by rw [List.length_drop,h,Nat.add_mul];omega) (fun c hc=>h1 c (List.mem_of_mem_drop hc)),fun _ h=>h,fun _ h=>h,fun _ _ h _=>h⟩
theorem run_first {P:Program} {t ty:TypeId} {i:TypeInfo} {z:Value} (ht:P.underlying t=some (.slice e)) (hi:P.info? e=some i) (hz:i.zero=some z) (hsize:i.size=r.n) (hzs:z.cells.size=r.n) (hn:0 < r.n) (hby:i.bytes≤1000)
    {a0:Option Addr} {sv:Value} {m:Nat} {cells:List Value} (hsrc:Src u sv m cells) (hl:cells.length=m * r.n) (h1:∀ c∈cells,c.oneCell'=true) (hlen:m≤1000000000) :
    ∃ v' u',(Builtin.append_ #[t,t] ty #[.slice a0 0 0,sv]).run P u=.ok v' u'∧Below u.heap.size u u' ∧
      ∀ {ys:List α} {T:Nat→Prop},row r true u cells ys T→(∀ y∈ys,r.bdd Big y)→kg e r u' v' ys (fun k=>T k∨(u.heap.size≤k∧k < u'.heap.size))∧(ys≠[]→∀ k,some k=v'.ownBlock→u.heap.size≤k):=by
 obtain ⟨v',u',hr,ht',ho⟩:=kFe (P:=P) (ty:=ty) (r:=r) ht hi hz hsize hzs hn hby (kg.void (a:=a0) (S:=fun _=>False)) hsrc hl h1 (by simpa using hlen)
 refine ⟨v',u',hr,ht'.below nL (fun k hk=>hk.2.elim),?_⟩
 intro ys T hrow hb
 have h2:=ho hrow (fun _ h=>h.elim) hb
 rw [List.nil_append] at h2
 refine ⟨h2.wide (fun k hk=>hk.elim (fun q=>q.elim) id),?_⟩
 intro hne k hk
 obtain ⟨v2,u2,hr2,_,ho2⟩:=kFe (P:=P) (ty:=ty) (r:=blank r.n) ht hi hz hsize hzs hn hby (kg.void (a:=a0) (S:=fun _=>False)) hsrc hl h1 (by simpa using hlen)
 rw [hr] at hr2
 simp only [Result.ok.injEq] at hr2
 obtain ⟨rfl,rfl⟩:=hr2
 have h3:=ho2 (kUp m cells hl h1) (fun _ h=>h.elim) (fun _ _=>trivial)
 have hm:ys.length=m:=by
  have:=kAc hrow
  rw [hl] at this
  exact (Nat.eq_of_mul_eq_mul_right hn this).symm
 have hpos:0 < ys.length:=List.length_pos_iff.2 hne
 obtain ⟨b1,cap1,e1,hS1,_⟩:=kNl (i:=0) h3 rG
 rw [e1] at hk
 simp only [Value.ownBlock,Option.map_some,Option.some.injEq] at hk
 subst hk
 rcases hS1 with q | q | q
 · exact q.elim
 · exact q.elim
 exact q.1
theorem kDx {P:Program} {t ty:TypeId} {z:Value} {bytes:Nat} (ht:P.underlying t=some (.slice e)) (hinf:(P.info? e).map (fun i=>(i.zero,i.size,i.bytes))=some (some z,r.n,bytes))
    (h:gap e r w b cap n kept j rest S) (hn:0 < r.n) {q c k m:Nat} (hq:rest≠[]→q=(kept.length + j) * r.n) (hk:k=kept.length) (hm:m=rest.length) :
    ∃ w',(Builtin.append_ #[t,t] ty #[.slice (some ⟨b,0,none⟩) k cap,.slice (some ⟨b,q,none⟩) m c]).run P w=.ok (.slice (some ⟨b,0,none⟩) (k + m) cap) w' ∧
      gap e r w' b cap n (kept++rest) j [] S∧Touch (fun k=>k=b) w w':=by
 subst hk hm
 obtain ⟨i,hi,_,hsize,_⟩:=info_parts hinf
 exact run_shift ht hi hsize h (ad:=⟨b,q,none⟩) (fun hne=>by rw [hq hne]) hn
theorem wpList_append_run {P:Program} {ops:Array Oper} {rest':List Oper} {o:Oper} {a:Act} {Q:Exit→Act→World→Prop} (hgd:o.guard=none) (s x:Operand) (t:TypeId)
    (ho:o.op=.call { callee:=.builtin .append,args:=#[s,x],argTypes:=#[t,t] }) {v sv v':Value} (hs:a.eval s=v) (hx:a.eval x=sv)
    (hr:(Builtin.append_ #[t,t] o.type #[v,sv]).run P w=.ok v' w') (h:wpList P ops Q rest' (a.put o.dst v') w'):wpList P ops Q (o :: rest') a w :=
  wpList_plain hgd fun _ hK=>jR s x t ho hs hx hr (hK _ _ h)
theorem kDc {P:Program} {t:TypeId} {z:Value} {bytes:Nat} (ht:P.underlying t=some (.slice e)) (hinf:(P.info? e).map (fun i=>(i.zero,i.size,i.bytes))=some (some z,r.n,bytes)) (hzs:z.cells.size=r.n) (hn:0 < r.n) (hby:bytes≤1000)
    (h:gap e r w b cap n kept j rest S) (hu:Below w.heap.size w u) {a0:Option Addr} (hlen:n≤16777216) (c1 c2:Nat) (ty1 ty2:TypeId) {q kl rl:Nat} (hq:rest≠[]→q=(kept.length + j) * r.n) (hkl:kl=kept.length) (hrl:rl=rest.length) :
    ∃ v1 u1,(Builtin.append_ #[t,t] ty1 #[.slice a0 0 0,.slice (some ⟨b,0,none⟩) kl c1]).run P u=.ok v1 u1∧Below u.heap.size u u1 ∧
      ∃ v2 u2,(Builtin.append_ #[t,t] ty2 #[v1,.slice (some ⟨b,q,none⟩) rl c2]).run P u1=.ok v2 u2∧kg e r u2 v2 (kept++rest) (fun k=>S k∨(u.heap.size≤k∧k < u2.heap.size))∧Below u.heap.size u u2:=by
 subst hkl hrl
 obtain ⟨i,hi,hz,hsize,hbytes⟩:=info_parts hinf
 obtain ⟨a1,a2,a3,a4,a5,a6,c,jk,d,tl,A,B,h1,h2,h3,h4,h5,h6,h7,h8⟩:=h
 have hcl:=kAc h4
 have hdl:=kAc h5
 have hblt:b < w.heap.size:=(Array.getElem?_eq_some_iff.1 h1).1
 have hub:u.heap[b]?=_:=(hu.block b hblt).trans h1
 have hsz:=hu.size
 have live:∀ {X:World},Below w.heap.size w X→∀ {cells:List Value} {ys:List α} {C:Nat→Prop},row r true w cells ys C→row r true X cells ys (fun k=>C k∧k < w.heap.size) :=
   by intro X hX cells ys C hr;exact yO (kAr hr) (fun k hk=>hX.block k hk.2)
 have cellAt:∀ {X:World},X.heap[b]?=some (.cells (c++(jk++(d++tl))).toArray e (0,0))→∀ (o:Nat) (pre mid suf:List Value),c++(jk++(d++tl))=pre++(mid++suf)→pre.length=o→∀ q uu,mid[q]?=some uu→X.cell? ((⟨b,o,none⟩:Addr).add q)=some uu:=by
  intro X hX o pre mid suf he ho q uu hq
  have hadd:(⟨b,o,none⟩:Addr).add q=⟨b,o + q,none⟩:=mD
  have hql:=(List.getElem?_eq_some_iff.1 hq).1
  rw [hadd,cell_of_row X b _ _ e (0,0) hX]
  simp only [List.getElem?_toArray]
  rw [he,List.getElem?_append_right rP,List.getElem?_append_left rP]
  rw [← hq];congr 1;omega
 have src1:Src u (.slice (some ⟨b,0,none⟩) kept.length c1) kept.length c:=.inr ⟨_,_,rfl,cellAt hub 0 [] c (jk++(d++tl)) rQ rfl⟩
 obtain ⟨v1,u1,hr1,hb1,ho1⟩:=run_first (P:=P) (ty:=ty1) (a0:=a0) ht hi hz hsize hzs hn rP src1 hcl (row_one h4) rP
 have hbw1:Below w.heap.size w u1:=hu.trans (hb1.mono hsz)
 have hsz1:=hb1.size
 refine ⟨v1,u1,hr1,hb1,?_⟩
 have hub1:u1.heap[b]?=_:=(hbw1.block b hblt).trans h1
 have src2:Src u1 (.slice (some ⟨b,q,none⟩) rest.length c2) rest.length d:=by
  by_cases hr0:rest=[]
  · subst hr0
    exact .inl ⟨rfl,_,_,rfl⟩
  rw [hq hr0]
  exact .inr ⟨_,_,rfl,cellAt hub1 _ (c++jk) d tl rQ (by simp [hcl,h3,Nat.add_mul])⟩
 obtain ⟨A',hA',ho1',hbl⟩:∃ A':Nat→Prop,(∀ k,A' k→A k∧k < w.heap.size)∧kg e r u1 v1 kept (fun k=>A' k∨(u.heap.size≤k∧k < u1.heap.size))∧∀ k,some k=v1.ownBlock→(A' k∨(u.heap.size≤k∧k < u1.heap.size))→u.heap.size≤k:=by
  by_cases hk0:kept=[]
  · subst hk0
    obtain rfl:c=[]:=h4
    obtain ⟨o1,_⟩:=ho1 (ys:=[]) (T:=fun _=>False) rfl rQ
    exact ⟨fun _=>False,fun _ h=>h.elim,o1,fun k _ h=>h.elim (fun q=>q.elim) (fun q=>q.1)⟩
  obtain ⟨o1,o2⟩:=ho1 (live hu h4) a1
  exact ⟨_,fun k hk=>hk,o1,fun k hk _=>o2 hk0 k hk⟩
 obtain ⟨v2,u2,hr2,ht2,ho2⟩:=kFe (P:=P) (ty:=ty2) ht hi hz hsize hzs hn rP ho1' src2 hdl (row_one h5) rP
 have ho2':=ho2 (live hbw1 h5) (by
   rintro k (q1 | q1) q2
   · exact h8 k (hA' k q1).1 q2.1
   · have:=q2.2;omega) a2
 refine ⟨v2,u2,hr2,ho2'.wide ?_,hb1.trans (ht2.below hsz1 (fun k hk=>hbl k hk.1 hk.2))⟩
 have hsz2:=ht2.size
 rintro k ((q | q) | q | q)
 · exact .inl (h6 k (hA' k q).1).1
 · exact .inr ⟨q.1,by omega⟩
 · exact .inl (h7 k q.1).1
 exact .inr ⟨by omega,q.2⟩
end
end Rep
theorem kGf (z:Value) (h:(z.cells.toList.all fun u=>u.oneCell')=true):∀ u∈z.cells,u.oneCell'=true:=by
 intro u hu
 exact List.all_eq_true.1 h u (by simpa using hu)
theorem kIz {w:World} {v:Value} {l:List kZ} {S:Nat→Prop} (hl:Rep.kg 184 kF w v l S) (hlen:l.length≤16777216) {i:Nat} (hil:i < l.length) :
    Calls Tryz.prog 152 #[v,.int .i64 i,.int .i64 ((i:Int) + 1)] w fun e w'=>∃ v',e=.returned v'∧Rep.kg 184 kF w' v' (l.take i++l.drop (i + 1)) S∧Touch S w w':=by
 obtain ⟨b,cap,rfl,hgap⟩:=Rep.kDz hl hil
 rw [List.drop_eq_getElem_cons hil] at hgap
 have G:Hid (Rep.gap 184 kF w b cap l.length (l.take i) 1 (l.drop (i + 1)) S):=yD hgap.skip
 have HSb:=yD hgap.mem
 have hcap:=hgap.len
 simp only [List.length_take,List.length_cons,List.length_drop] at hcap
 have hcap2:l.length≤cap:=hcap.2.1
 have hcap3:cap≤9223372036854775807:=gD
 clear hgap hl hcap
 obtain ⟨n1,HN⟩:∃ n1,Hid (l.length=n1 + 1):=⟨l.length - 1,yD rP⟩
 rw [HN.out] at hil hlen hcap2
 rw [HN.out]
 have HK:Hid ((l.take i).length=i):=yD pI
 have HR:Hid ((l.drop (i + 1)).length=n1 - i):=yD pI
 have hne:((i:Int)==(i:Int) + 1)=false:=qO
 have hic:i≤cap:=rP
 have hicI:(i:Int)≤cap:=rP
 have hjc:i + 1≤cap:=rP
 have hjl:i + 1≤n1 + 1:=rP
 have hcn:¬ cap=n1:=rP
 have hi3:(i:Int)≤(i:Int) + 1:=rP
 have hi4:(0:Int)≤(i:Int) + 1:=rP
 have hin:i≤n1:=rP
 go_enter Tryz.func152,Tryz.ntmps152
 go_upto_region 5 with fail
 by_cases hce:cap=i + 1
 · have HR0:Hid ((l.drop (i + 1)).length=0):=yD (by rw [HR.out];omega)
   obtain rfl:i=n1:=rP
   subst hce
   refine jT (fun W=>Below w.heap.size w W) [true,true,true,true,true,true] rF rF gX (bR.drew) ?_
   intro wS HS
   iterate 6
    all_goals refine wkR ?_
   all_goals refine jv ?_
   have G2:=yD (G.out.below HS)
   obtain ⟨w6,hr6,hg6,ht6⟩:=Rep.kDx (P:=Tryz.prog) (t:=54) (ty:=54) Tryz.underlying54 zx G2.out rM (q:=0) (c:=0) (k:=i) (m:=0) (fun hne=>absurd (List.eq_nil_of_length_eq_zero HR0.out) hne) HK.out.symm HR0.out.symm
   rw [Nat.add_zero] at hr6
   have HL6:Hid ((l.take i++l.drop (i + 1)).length=i):=yD fQ
   obtain ⟨w7,hr7,ho7,ht7⟩:=hg6.kDd (P:=Tryz.prog) (t:=54) (ty:=0) (c:=1) (p:=i * 3) rM Tryz.underlying54 zx rfl rM (kGf _ rM) qH
   rw [HL6.out] at ho7
   have HO7:=yD ho7
   have HT7:=yD ((Touch.of_below (S:=S) HS).trans ((ht6.trans ht7).wide (fun k hk=>hk ▸ HSb.out)))
   clear hg6 ht6 ht7 ho7
   have h1:(i:Int)≤(i:Int) + 1:=rP
   have h2:(i:Int)≤(i:Int) + 1:=rP
   refine Rep.wpList_append_run rfl _ _ _ rfl rR rR hr6 ?_
   go_wp2
   go_ret
   exact ⟨_,rfl,HO7.out,HT7.out⟩
 refine jT (fun W=>Below w.heap.size w W) [true,true,true,true,true,true] rF rF gX (bR.drew) ?_
 intro wS HS
 iterate 6
  all_goals first|(refine kU rfl HS ?_)|(refine kGk (v:=?_) rfl (fun W hW=>?_) ?_;rotate_left;(· go_simp;try with_reducible rfl))
  all_goals try simp only [Act.put,zA,zB,zC]
 all_goals refine jv ?_
 have G2:=yD (G.out.below HS)
 obtain ⟨w6,hr6,hg6,ht6⟩:=Rep.kDx (P:=Tryz.prog) (t:=54) (ty:=54) Tryz.underlying54 zx G2.out rM (q:=(i + 1) * 3) (c:=cap - (i + 1)) (k:=i) (m:=n1 - i) pK HK.out.symm HR.out.symm
 rw [show i + (n1 - i)=n1 by omega] at hr6
 have HL6:Hid ((l.take i++l.drop (i + 1)).length=n1):=yD fT
 obtain ⟨w7,hr7,ho7,ht7⟩:=hg6.kDd (P:=Tryz.prog) (t:=54) (ty:=0) (c:=cap - n1) (p:=n1 * 3) rM Tryz.underlying54 zx rfl rM (kGf _ rM) qH
 rw [HL6.out] at ho7
 have HO7:=yD ho7
 have HT7:=yD ((Touch.of_below (S:=S) HS).trans ((ht6.trans ht7).wide (fun k hk=>hk ▸ HSb.out)))
 clear hg6 ht6 ht7 ho7
 have h1:(n1:Int)≤cap:=rP
 have h2:(n1:Int)≤(n1:Int) + 1:=rP
 refine Rep.wpList_append_run rfl _ _ _ rfl rR rR hr6 ?_
 go_wp2
 go_ret
 exact ⟨_,rfl,HO7.out,HT7.out⟩
theorem kJx {w:World} {v:Value} {l:List ko} {S:Nat→Prop} (hl:Rep.kg 212 kH w v l S) (hlen:l.length≤16777216) {i:Nat} (hil:i < l.length) :
    Calls Tryz.prog 149 #[v,.int .i64 i,.int .i64 ((i:Int) + 1)] w fun e w'=>∃ v',e=.returned v'∧Rep.kg 212 kH w' v' (l.take i++l.drop (i + 1)) S∧Touch S w w':=by
 obtain ⟨b,cap,rfl,hgap⟩:=Rep.kDz hl hil
 rw [List.drop_eq_getElem_cons hil] at hgap
 have G:Hid (Rep.gap 212 kH w b cap l.length (l.take i) 1 (l.drop (i + 1)) S):=yD hgap.skip
 have HSb:=yD hgap.mem
 have hcap:=hgap.len
 simp only [List.length_take,List.length_cons,List.length_drop] at hcap
 have hcap2:l.length≤cap:=hcap.2.1
 have hcap3:cap≤9223372036854775807:=gD
 clear hgap hl hcap
 obtain ⟨n1,HN⟩:∃ n1,Hid (l.length=n1 + 1):=⟨l.length - 1,yD rP⟩
 rw [HN.out] at hil hlen hcap2
 rw [HN.out]
 have HK:Hid ((l.take i).length=i):=yD pI
 have HR:Hid ((l.drop (i + 1)).length=n1 - i):=yD pI
 have hne:((i:Int)==(i:Int) + 1)=false:=qO
 have hic:i≤cap:=rP
 have hicI:(i:Int)≤cap:=rP
 have hjc:i + 1≤cap:=rP
 have hjl:i + 1≤n1 + 1:=rP
 have hcn:¬ cap=n1:=rP
 have hi3:(i:Int)≤(i:Int) + 1:=rP
 have hi4:(0:Int)≤(i:Int) + 1:=rP
 have hin:i≤n1:=rP
 go_enter Tryz.func149,Tryz.ntmps149
 go_upto_region 5 with fail
 by_cases hce:cap=i + 1
 · have HR0:Hid ((l.drop (i + 1)).length=0):=yD (by rw [HR.out];omega)
   obtain rfl:i=n1:=rP
   subst hce
   refine jT (fun W=>Below w.heap.size w W) [true,true,true,true,true,true] rF rF gX (bR.drew) ?_
   intro wS HS
   iterate 6
    all_goals refine wkR ?_
   all_goals refine jv ?_
   have G2:=yD (G.out.below HS)
   obtain ⟨w6,hr6,hg6,ht6⟩:=Rep.kDx (P:=Tryz.prog) (t:=48) (ty:=48) Tryz.underlying48 yX G2.out rM (q:=0) (c:=0) (k:=i) (m:=0) (fun hne=>absurd (List.eq_nil_of_length_eq_zero HR0.out) hne) HK.out.symm HR0.out.symm
   rw [Nat.add_zero] at hr6
   have HL6:Hid ((l.take i++l.drop (i + 1)).length=i):=yD fQ
   obtain ⟨w7,hr7,ho7,ht7⟩:=hg6.kDd (P:=Tryz.prog) (t:=48) (ty:=0) (c:=1) (p:=i * 6) rM Tryz.underlying48 yX rfl rM (kGf _ rM) qH
   rw [HL6.out] at ho7
   have HO7:=yD ho7
   have HT7:=yD ((Touch.of_below (S:=S) HS).trans ((ht6.trans ht7).wide (fun k hk=>hk ▸ HSb.out)))
   clear hg6 ht6 ht7 ho7
   have h1:(i:Int)≤(i:Int) + 1:=rP
   have h2:(i:Int)≤(i:Int) + 1:=rP
   refine Rep.wpList_append_run rfl _ _ _ rfl rR rR hr6 ?_
   go_wp2
   go_ret
   exact ⟨_,rfl,HO7.out,HT7.out⟩
 refine jT (fun W=>Below w.heap.size w W) [true,true,true,true,true,true] rF rF gX (bR.drew) ?_
 intro wS HS
 iterate 6
  all_goals first|(refine kU rfl HS ?_)|(refine kGk (v:=?_) rfl (fun W hW=>?_) ?_;rotate_left;(· go_simp;try with_reducible rfl))
  all_goals try simp only [Act.put,zA,zB,zC]
 all_goals refine jv ?_
 have G2:=yD (G.out.below HS)
 obtain ⟨w6,hr6,hg6,ht6⟩:=Rep.kDx (P:=Tryz.prog) (t:=48) (ty:=48) Tryz.underlying48 yX G2.out rM (q:=(i + 1) * 6) (c:=cap - (i + 1)) (k:=i) (m:=n1 - i) pK HK.out.symm HR.out.symm
 rw [show i + (n1 - i)=n1 by omega] at hr6
 have HL6:Hid ((l.take i++l.drop (i + 1)).length=n1):=yD fT
 obtain ⟨w7,hr7,ho7,ht7⟩:=hg6.kDd (P:=Tryz.prog) (t:=48) (ty:=0) (c:=cap - n1) (p:=n1 * 6) rM Tryz.underlying48 yX rfl rM (kGf _ rM) qH
 rw [HL6.out] at ho7
 have HO7:=yD ho7
 have HT7:=yD ((Touch.of_below (S:=S) HS).trans ((ht6.trans ht7).wide (fun k hk=>hk ▸ HSb.out)))
 clear hg6 ht6 ht7 ho7
 have h1:(n1:Int)≤cap:=rP
 have h2:(n1:Int)≤(n1:Int) + 1:=rP
 refine Rep.wpList_append_run rfl _ _ _ rfl rR rR hr6 ?_
 go_wp2
 go_ret
 exact ⟨_,rfl,HO7.out,HT7.out⟩
theorem kGi {w:World} {v:Value} {l:List ko} {S:Nat→Prop} (h:Rep.kg 212 kH w v l S) {k:Nat} (hkl:k < l.length) (hlb:l.length≤16777216) :
    Calls Tryz.prog 132 #[v,.int .i64 k] w fun e w'=>∃ v',e=.returned v'∧Rep.kg 212 kH w' v' (l.take k++l.drop (k + 1)) (fun j=>S j∨Btw w.heap.size w'.heap.size j)∧Below w.heap.size w w':=by
 obtain ⟨b,oc,rfl,hgap⟩:=Rep.kDz h hkl
 rw [List.drop_eq_getElem_cons hkl] at hgap
 have hcap:=hgap.len
 simp only [List.length_take,List.length_cons,List.length_drop] at hcap
 obtain ⟨on,HON2⟩:∃ on,Hid (l.length=on):=⟨_,yD rfl⟩
 have G:Hid (Rep.gap 212 kH w b oc l.length (l.take k) 1 (l.drop (k + 1)) S):=yD hgap.skip
 have hcap2:on≤oc:=by have:=hcap.2.1;have:=HON2.out;omega
 have hcap3:oc≤9223372036854775807:=gD
 have hkon:k < on:=by have:=HON2.out;omega
 have hob:on≤16777216:=by have:=HON2.out;omega
 have HK:Hid ((l.take k).length=k):=yD rG
 rw [HON2.out]
 have HLB:=yD hlb
 clear hgap hcap h hkl hlb
 have hkI:(0:Int)≤k:=rP
 have hkI2:(k:Int) < on:=rP
 have hk1:k + 1≤oc:=rP
 have hk2:k + 1≤on:=rP
 have hk3:(k:Int) + 1≤on:=rP
 have hk4:(0:Int)≤(k:Int) + 1:=rP
 have hkN:k≤oc:=rP
 have hw:IntKind.i64.wrap ((k:Int) + 1)=(k:Int) + 1:=IntWalk.i64_in _ rP
 go_enter Tryz.func132,Tryz.ntmps132
 by_cases hce:oc=k + 1
 · have HR:Hid ((l.drop (k + 1)).length=0):=yD nU
   obtain rfl:on=k + 1:=rP
   subst hce
   have hk5:(k:Int)≤(k:Int) + 1:=rP
   go_upto_region 1 with fail
   refine yG (fun W=>Below w.heap.size w W) [(1,true),(2,true),(3,true),(5,true),(6,true),(7,true),(8,true),(0,false),(4,false),(9,false),(10,true)] rF rF gX (bR.drew) ?_
   intro wS HS
   simp only [jY,List.getElem?_cons_succ,List.getElem?_cons_zero,List.map_cons,List.map_nil]
   iterate 7
    all_goals refine wkR ?_
   all_goals first|(refine kU rfl HS ?_)|(refine ky rfl (fun K hK=>?_);go_simp;generalize hwU:World.alloc wS _=wU;replace HS:Below w.heap.size w wU:=(by rw [← hwU];exact HS.alloc HS.size _);clear hwU;refine hK _ _ HS ?_;clear hK K)
   all_goals refine wkP ?_
   all_goals first|(refine kU rfl HS ?_)|(refine ky rfl (fun K hK=>?_);obtain ⟨v3,u3,hr3,hb3,v4,u4,hr4,ho4,hb4⟩:=Rep.kDc (P:=Tryz.prog) (t:=48) Tryz.underlying48 yX rfl rM rM G.out HS (a0:=some ⟨wS.heap.size,0,none⟩) HLB.out (k + 1) 0 48 48 (q:=0) (kl:=k) (rl:=0) (fun hne=>absurd (List.eq_nil_of_length_eq_zero HR.out) hne) HK.out.symm HR.out.symm;have HS3:=(tQ HS hb3);refine Rep.jR _ _ _ rfl rR rR hr3 ?_;refine hK _ _ HS3 ?_;clear hK K)
   all_goals refine wkP ?_
   all_goals first|(refine kU rfl HS ?_)|(refine ky rfl (fun K hK=>?_);have HS4:=(tQ HS hb4);refine Rep.jR _ _ _ rfl rR rR hr4 ?_;refine hK _ _ HS4 ?_;clear hK K)
   all_goals refine wkP ?_
   all_goals refine wkR ?_
   all_goals refine jA ?_
   have hz4:=hb4.size
   have hzS:=HS.size
   have HO4:=yD ho4
   clear ho4
   go_wp2
   go_ret
   exact ⟨_,rfl,HO4.out.wide (fun j hj=>hj.elim .inl (fun h=>.inr ⟨by have:=h.1;omega,h.2⟩)),HS4⟩
 have HR:Hid ((l.drop (k + 1)).length=on - (k + 1)):=yD nU
 go_upto_region 1 with fail
 refine yG (fun W=>Below w.heap.size w W) [(1,true),(2,true),(3,true),(5,true),(6,true),(7,true),(8,true),(0,false),(4,false),(9,false),(10,true)] rF rF gX (bR.drew) ?_
 intro wS HS
 simp only [jY,List.getElem?_cons_succ,List.getElem?_cons_zero,List.map_cons,List.map_nil]
 iterate 7
  all_goals refine wkR ?_
 all_goals first|(refine kU rfl HS ?_)|(refine ky rfl (fun K hK=>?_);go_simp;generalize hwU:World.alloc wS _=wU;replace HS:Below w.heap.size w wU:=(by rw [← hwU];exact HS.alloc HS.size _);clear hwU;refine hK _ _ HS ?_;clear hK K)
 all_goals refine wkP ?_
 all_goals first|(refine kU rfl HS ?_)|(refine ky rfl (fun K hK=>?_);obtain ⟨v3,u3,hr3,hb3,v4,u4,hr4,ho4,hb4⟩:=Rep.kDc (P:=Tryz.prog) (t:=48) Tryz.underlying48 yX rfl rM rM G.out HS (a0:=some ⟨wS.heap.size,0,none⟩) HLB.out oc (oc - (k + 1)) 48 48 (q:=((k + 1) * 6)) (kl:=k) (rl:=(on - (k + 1))) pK HK.out.symm HR.out.symm;have HS3:=(tQ HS hb3);refine Rep.jR _ _ _ rfl rR rR hr3 ?_;refine hK _ _ HS3 ?_;clear hK K)
 all_goals refine wkP ?_
 all_goals first|(refine kU rfl HS ?_)|(refine ky rfl (fun K hK=>?_);have HS4:=(tQ HS hb4);refine Rep.jR _ _ _ rfl rR rR hr4 ?_;refine hK _ _ HS4 ?_;clear hK K)
 all_goals refine wkP ?_
 all_goals refine wkR ?_
 all_goals refine jA ?_
 have hz4:=hb4.size
 have hzS:=HS.size
 have HO4:=yD ho4
 clear ho4
 go_wp2
 go_ret
 exact ⟨_,rfl,HO4.out.wide (fun j hj=>hj.elim .inl (fun h=>.inr ⟨by have:=h.1;omega,h.2⟩)),HS4⟩
def yw (n:kW) (p:kS):Bool:=eqN p.1 n
theorem kSg {α:Type} {p:α→Bool} {x:List α} (h:¬ idxOf p x < 0):∃ k:Nat,k < x.length∧idxOf p x=k:=by
 unfold idxOf at *
 cases e:x.findIdx? p with
 | none=>rw [e] at h;simp at h
 | some i=>exact ⟨i,(List.findIdx?_eq_some_iff_getElem.1 e).1,rfl⟩
theorem kKd {w:World} {vl:Value} {l:(List kS)} (hl:(Rep.slice 175 kE).raw w [vl] l) {cn:List Value} {n:kW} (hn:kL.raw w cn n) :
    Calls Tryz.prog 101 #[vl,.agg cn.toArray] w fun e w'=>e=.returned (.int .i64 (idxOf (yw n) l))∧Below w.heap.size w w':=by
 obtain ⟨al,pl,rfl,ll⟩:=Rep.sl hl
 have Hn:=yD hn
 obtain ⟨fnv0,rfl,fn_0⟩:=kM hn
 obtain ⟨fna0,fnp0,rfl,fnl0⟩:=Rep.sl fn_0
 go_enter Tryz.func101,Tryz.ntmps101
 go_wp2
 generalize hwB:World.alloc w _=wB
 have EB:Below w.heap.size w wB:=by rw [← hwB];exact bH
 have K3_0:wB.cell? ⟨w.heap.size,0,none⟩=some (.slice fna0 (n).length fnp0):=nV
 clear hwB
 replace hl:=hl.below EB
 go_loopw [5] (fun i wr=>∃ k:Nat,k≤l.length∧i=.int .i64 k∧Hid (∀ j,(h:j < k)→(h2:j < l.length)→(yw n) l[j]=false)∧Below wB.heap.size wB wr) (fun i _=>l.length - (intOf i).toNat)
 case atStart=>exact ⟨0,Nat.zero_le _,rfl,yD (fun _ h=>by omega),bR⟩
 obtain ⟨k,hk,rfl,HN,hbel⟩:=hrel
 replace K3_0:=cL hbel K3_0
 by_cases hlt:k < l.length
 · obtain ⟨qb,qo,rfl,qc0,qc1,qc2,qr,Aq0,Aq1,Aq2⟩:=Rep.kBg (hl.below hbel) (i:=k) rP rfl
   have hhit:=fun q=>idxOf_hit hlt q HN.out
   have hmis:=fun q=>kAk hlt q HN.out
   generalize l[k]=x at *
   have HD:=yD hhit;have HX:=yD hmis;clear hhit hmis
   obtain ⟨x0,x1,x2⟩:=x
   obtain ⟨qv0,qv1,qhe,q_0,q_1,q_2,q_3⟩:=jN qr
   simp only [List.cons.injEq,and_true] at qhe
   obtain ⟨rfl,rfl,rfl⟩:=qhe
   obtain ⟨qa0,qp0,rfl,ql0⟩:=Rep.sl q_1
   obtain ⟨qa1,qp1,rfl,ql1⟩:=Rep.sl q_2
   go_upto_region 4 with fail
   have FX:=yD (fun (W:World) (hW:Below wr.heap.size wr W)=>cLs4 hW K3_0 Aq0 Aq1 Aq2)
   refine jB (fun W=>Below wr.heap.size wr W) [true,true,true,true,true,true,false] rF rF gX (bR.drew) ?_
   intro wS HS
   iterate 6
    all_goals refine wkR ?_
   all_goals first | refine wkB (zD (Rep.raw.below q_0 HS) (Rep.raw.below Hn.out ((tQ EB (tQ hbel HS))))) (fun wS1 HS=>?_) | refine wkR ?_
   all_goals refine jA ?_
   all_goals cases hg6:eqN x0 n
   all_goals have EG:=(tQ hbel HS)
   all_goals first
     | (have HT:=yD (HD.out (show _=true by simp only [yw,Bool.not_true,Bool.not_false,Bool.and_true,Bool.true_and,Bool.and_false,Bool.false_and,Bool.or_true,Bool.true_or,Bool.or_false,Bool.false_or,Bool.not_not,hg6]));clear HD HX;go_wp2;go_ret;exact ⟨ku HT.out.symm,(tQ EB EG)⟩)
     | (have HT:=yD (HX.out (show _=false by simp only [yw,Bool.not_true,Bool.not_false,Bool.and_true,Bool.true_and,Bool.and_false,Bool.false_and,Bool.or_true,Bool.true_or,Bool.or_false,Bool.false_or,Bool.not_not,hg6]));clear HD HX;go_wp2;go_roundw;(case rel=>exact ⟨k + 1,by omega,by go_num,HT,EG⟩);(case measure=>simp [intOf];omega))
 have HT:=yD (idxOf_miss hlt HN.out)
 go_wp2
 go_ret
 exact ⟨ku HT.out.symm,(tQ EB hbel)⟩
theorem kNq {w:World} {cp:List Value} {p:kS} (hp:kE.raw w cp p) {n:kW} {nc0:Value} {Bn:Nat} (nr:kL.raw w [nc0] n) (An0:w.cell? ⟨Bn,0,none⟩=some nc0) :
    Calls Tryz.prog 178 (#[.agg cp.toArray]++#[.pointer (some ⟨Bn,0,none⟩)]) w fun e w'=>e=.returned (.bool (yw n p))∧Below w.heap.size w w':=by
 have Hp:=yD hp
 obtain ⟨fpv0,fpv1,rfl,fp_0,fp_1,fp_2,fp_3⟩:=jN hp
 obtain ⟨fpa0,fpp0,rfl,fpl0⟩:=Rep.sl fp_1
 obtain ⟨fpa1,fpp1,rfl,fpl1⟩:=Rep.sl fp_2
 obtain ⟨nv0,nhe,n_0⟩:=kM nr
 simp only [List.cons.injEq,and_true] at nhe
 obtain rfl:=nhe
 obtain ⟨na0,np0,rfl,nl0⟩:=Rep.sl n_0
 show Calls Tryz.prog 178 #[_,_] w _
 go_enter Tryz.func178,Tryz.ntmps178
 go_upto_region 1 with fail
 generalize hwB:World.alloc w _=wB
 have EB:Below w.heap.size w wB:=by rw [← hwB];exact bH
 have K2_0:wB.cell? ⟨w.heap.size,0,none⟩=some (.slice fpa0 (p.1).length fpp0):=nV
 have K2_1:wB.cell? ⟨w.heap.size,1,none⟩=some (.slice fpa1 (p.2.1).length fpp1):=nV
 have K2_2:wB.cell? ⟨w.heap.size,2,none⟩=some (.int .i64 p.2.2):=nV
 clear hwB
 replace An0:=cL EB An0
 have FX:=yD (fun (W:World) (hW:Below wB.heap.size wB W)=>cLs4 hW K2_0 K2_1 K2_2 An0)
 refine jE (fun W=>Below wB.heap.size wB W) [true,true,true,false,true] bR ?_
 intro wS HS
 iterate 3
  all_goals refine wkR ?_
 all_goals first | refine wkB (zq (Rep.raw.below fp_0 (tQ EB HS)) (Rep.raw.below nr (tQ EB HS))) (fun wS1 HS=>?_) | refine wkR ?_
 all_goals (have hg4:=True.intro;first|(refine wkG (fun b hg4=>?_);cases b;all_goals first | exact Bool.noConfusion hg4 | simp only [zU,zV] at hg4 | skip) | refine wkR ?_)
 all_goals refine wkP ?_
 all_goals refine jA ?_
 all_goals have EG:=(tQ EB HS)
 all_goals first
   | (have HT:=yD (show (yw n p)=false by simp only [yw,Bool.not_true,Bool.not_false,Bool.and_true,Bool.true_and,Bool.and_false,Bool.false_and,Bool.or_true,Bool.true_or,Bool.or_false,Bool.false_or,Bool.not_not,hg4]);go_wp2;go_ret;exact ⟨kG HT.out.symm,EG⟩)
   | (have HT:=yD (show (yw n p)=true by simp only [yw,Bool.not_true,Bool.not_false,Bool.and_true,Bool.true_and,Bool.and_false,Bool.false_and,Bool.or_true,Bool.true_or,Bool.or_false,Bool.false_or,Bool.not_not,hg4]);go_wp2;go_ret;exact ⟨kG HT.out.symm,EG⟩)
theorem kFl:jm Tryz.prog 178:=kAn Tryz.func178 rF rF
theorem kHm {w:World} {vl:Value} {l:(List kS)} (hl:(Rep.slice 175 kE).raw w [vl] l) {cn:List Value} {n:kW} (hn:kL.raw w cn n) :
    Calls Tryz.prog 112 #[vl,.agg cn.toArray] w fun e w'=>e=.returned (.int .i64 (idxOf (yw n) l))∧Below w.heap.size w w':=by
 obtain ⟨al,pl,rfl,ll⟩:=Rep.sl hl
 have Hn:=yD hn
 obtain ⟨fnv0,rfl,fn_0⟩:=kM hn
 obtain ⟨fna0,fnp0,rfl,fnl0⟩:=Rep.sl fn_0
 go_enter Tryz.func112,Tryz.ntmps112
 go_upto_region 1 with fail
 generalize hwB:World.alloc w _=wB
 have EB:Below w.heap.size w wB:=by rw [← hwB];exact bH
 have K3_0:wB.cell? ⟨w.heap.size,0,none⟩=some (.slice fna0 (n).length fnp0):=nV
 clear hwB
 go_wp2_with fail
 refine (kEv (yw n) kFl (Rep.raw.below hl EB) ?_).mono ?_
 · intro wr hb i h cs hr
   exact kNq hr (Rep.raw.below Hn.out (tQ EB hb)) (cL hb K3_0)
 rintro e w1 ⟨rfl,hb1⟩
 have EG:Below w.heap.size w w1:=(tQ EB hb1)
 clear hb1
 go_wp2
 go_ret
 exact ⟨rfl,EG⟩
def kKq (c:Int):Bool:=!((!inR c 97 122 && !inR c 48 57) && (c != 45))
def okBi (c:Int):Bool:=((decide (c ≥ 97) && decide (c≤122)) || (decide (c ≥ 48) && decide (c≤57))) || (c==45)
def kBd (s:ByteArray) (j:Nat):Int:=(s.data.toList.getD j 0).toNat
def kBu (s:ByteArray):Bool:=kCz (fun j=>kKq (kBd s j)) s.size && inR s.size 1 8
theorem okBi_eq (c:Int):okBi c=kKq c:=by
 unfold okBi kKq inR
 rw [Bool.eq_iff_iff]
 simp
 try omega
theorem vPart_out {s:ByteArray} (h:inR s.size 1 8=false):kBu s=false:=by simp [kBu,h]
theorem kUg {s:ByteArray} {k:Nat} (h:k < s.size) (q:kKq (kBd s k)=false):kBu s=false:=by
 unfold kBu;rw [kIw h q];rfl
theorem kQs {s:ByteArray} {k:Nat} (q:kCz (fun j=>kKq (kBd s j)) k=true) (h:¬ k < s.size) (hk:k≤s.size):kBu s=inR s.size 1 8:=by
 obtain rfl:k=s.size:=rP
 unfold kBu;rw [q];rfl
theorem kEa {s:ByteArray} {k:Nat} (h:k < s.size):kBd s k=(s[k].toNat:Int):=by
 unfold kBd
 rw [jr rD]
 rfl
theorem kHe (s:ByteArray) (k:Nat):0≤kBd s k∧kBd s k < 256:=by
 unfold kBd;have:=(s.data.toList.getD k 0).toNat_lt;omega
theorem kHh {w:World} {s:ByteArray} (hs:s.size≤maxLen):Calls Tryz.prog 206 #[.string s] w fun e w'=>e=.returned (.bool (kBu s))∧w'=w:=by
 unfold maxLen at hs
 go_enter Tryz.func206,Tryz.ntmps206
 go_wp2_with fail
 refine kBf.mono ?_
 rintro e w1 ⟨rfl,hw⟩
 obtain rfl:=hw.symm
 cases hin:inR s.size 1 8
 · have HT:=yD (vPart_out hin)
   go_wp2
   go_ret
   exact ⟨kG HT.out.symm,rfl⟩
 have HI:=yD hin
 go_wp2
 go_loop [3] (fun i=>∃ k:Nat,k≤s.size∧i=.int .i64 k∧Hid (kCz (fun j=>kKq (kBd s j)) k=true)) (fun i=>s.size - (intOf i).toNat)
 case atStart=>exact ⟨0,Nat.zero_le _,rfl,yD rfl⟩
 obtain ⟨k,hk,rfl,HN⟩:=hrel
 by_cases hlt:k < s.size
 · have hr:=kHe s k
   have hg:=kEa hlt
   have HB:=yD (fun q=>kUg hlt q)
   have HX:=yD (fun q=>kEx (f:=fun j=>kKq (kBd s j)) HN.out q)
   go_upto_region 7 with fail
   generalize (s[k].toNat:Int)=c at *
   have HC:=yD hg
   clear hg
   refine jE (fun W=>Hid (W=w)) [true,false,true,true,true,false,true,true,true,true,true,true] (yD rfl) ?_
   intro wS HS
   all_goals refine wkR ?_
   all_goals first | refine wkC (kBf) ?_ | refine wkR ?_
   all_goals refine wkR ?_
   all_goals (have hg3:=True.intro;first|(refine wkG (fun b hg3=>?_);cases b;all_goals first | exact Bool.noConfusion hg3 | simp only [zU,zV] at hg3 | skip) | refine wkR ?_)
   all_goals refine wkP ?_
   all_goals refine wkR ?_
   all_goals first | refine wkC (kBf) ?_ | refine wkR ?_
   all_goals refine wkR ?_
   all_goals refine wkR ?_
   all_goals (have hg8:=True.intro;first|(refine wkG (fun b hg8=>?_);cases b;all_goals first | exact Bool.noConfusion hg8 | simp only [zU,zV] at hg8 | skip) | refine wkR ?_)
   all_goals refine wkP ?_
   all_goals refine wkR ?_
   all_goals refine wkR ?_
   all_goals (have hg11:=True.intro;first|(refine wkG (fun b hg11=>?_);cases b;all_goals first | exact Bool.noConfusion hg11 | simp only [zU,zV] at hg11 | skip) | refine wkR ?_)
   all_goals refine wkP ?_
   all_goals refine jA ?_
   all_goals obtain rfl:=HS.out.symm
   all_goals first
     | (have HV:=(congrArg kKq HC.out).trans (show _=false by simp only [kKq,Bool.not_true,Bool.not_false,Bool.and_true,Bool.true_and,Bool.and_false,Bool.false_and,Bool.or_true,Bool.true_or,Bool.or_false,Bool.false_or,Bool.not_not,hg3,hg8,hg11]);have HT:=yD (HB.out HV);clear HV HB HX HC;go_wp2;go_ret;exact ⟨kG HT.out.symm,rfl⟩)
     | (have HV:=(congrArg kKq HC.out).trans (show _=true by simp only [kKq,Bool.not_true,Bool.not_false,Bool.and_true,Bool.true_and,Bool.and_false,Bool.false_and,Bool.or_true,Bool.true_or,Bool.or_false,Bool.false_or,Bool.not_not,hg3,hg8,hg11]);have HT:=yD (HX.out HV);clear HV HB HX HC;go_wp2;go_round;(case rel=>exact ⟨k + 1,by omega,by go_num,HT⟩);(case measure=>simp [intOf];omega))
 have HT:=yD (kQs HN.out hlt hk)
 have HU:=yD (HT.out.trans HI.out)
 go_wp2
 go_ret
 exact ⟨kG HU.out.symm,rfl⟩
theorem kHp {w:World} {s:ByteArray} (hs:s.size≤maxLen):Calls Tryz.prog 219 #[.string s] w fun e w'=>e=.returned (.bool (kBu s))∧w'=w:=by
 unfold maxLen at hs
 go_enter Tryz.func219,Tryz.ntmps219
 go_wp2
 go_loop [7] (fun i=>∃ k:Nat,k≤s.size∧i=.int .i64 k∧Hid (kCz (fun j=>kKq (kBd s j)) k=true)) (fun i=>s.size - (intOf i).toNat)
 case atStart=>exact ⟨0,Nat.zero_le _,rfl,yD rfl⟩
 obtain ⟨k,hk,rfl,HN⟩:=hrel
 by_cases hlt:k < s.size
 · have hr:=kHe s k
   have hg:=kEa hlt
   have HB:=yD (fun q=>kUg hlt q)
   have HX:=yD (fun q=>kEx (f:=fun j=>kKq (kBd s j)) HN.out q)
   go_upto_region 5 with fail
   generalize (s[k].toNat:Int)=c at *
   have HC:=yD hg
   clear hg
   refine jE (fun W=>Hid (W=w)) [true,true,true,true,true,true,true,true,true,true,true,true,true,true,true,true,true,true,true] (yD rfl) ?_
   intro wS HS
   all_goals refine wkR ?_
   all_goals refine wkR ?_
   all_goals (have hg2:=True.intro;first|(refine wkG (fun b hg2=>?_);cases b;all_goals first | exact Bool.noConfusion hg2 | simp only [zU,zV] at hg2 | skip) | refine wkR ?_)
   all_goals refine wkP ?_
   iterate 3
    all_goals refine wkR ?_
   all_goals (have hg6:=True.intro;first|(refine wkG (fun b hg6=>?_);cases b;all_goals first | exact Bool.noConfusion hg6 | simp only [zU,zV] at hg6 | skip) | refine wkR ?_)
   all_goals refine wkP ?_
   all_goals refine wkR ?_
   all_goals refine wkR ?_
   all_goals (have hg9:=True.intro;first|(refine wkG (fun b hg9=>?_);cases b;all_goals first | exact Bool.noConfusion hg9 | simp only [zU,zV] at hg9 | skip) | refine wkR ?_)
   all_goals refine wkP ?_
   iterate 4
    all_goals refine wkR ?_
   all_goals (have hg14:=True.intro;first|(refine wkG (fun b hg14=>?_);cases b;all_goals first | exact Bool.noConfusion hg14 | simp only [zU,zV] at hg14 | skip) | refine wkR ?_)
   all_goals refine wkP ?_
   iterate 3
    all_goals refine wkR ?_
   all_goals (have hg18:=True.intro;first|(refine wkG (fun b hg18=>?_);cases b;all_goals first | exact Bool.noConfusion hg18 | simp only [zU,zV] at hg18 | skip) | refine wkR ?_)
   all_goals refine wkP ?_
   all_goals refine jA ?_
   all_goals obtain rfl:=HS.out.symm
   all_goals first
     | (have HV:=(congrArg kKq HC.out).trans ((okBi_eq _).symm.trans (show _=false by simp only [okBi,Bool.not_true,Bool.not_false,Bool.and_true,Bool.true_and,Bool.and_false,Bool.false_and,Bool.or_true,Bool.true_or,Bool.or_false,Bool.false_or,Bool.not_not,ge_iff_le,hg2,hg6,hg9,hg14,hg18]));have HT:=yD (HB.out HV);clear HV HB HX HC;go_wp2;go_ret;exact ⟨kG HT.out.symm,rfl⟩)
     | (have HV:=(congrArg kKq HC.out).trans ((okBi_eq _).symm.trans (show _=true by simp only [okBi,Bool.not_true,Bool.not_false,Bool.and_true,Bool.true_and,Bool.and_false,Bool.false_and,Bool.or_true,Bool.true_or,Bool.or_false,Bool.false_or,Bool.not_not,ge_iff_le,hg2,hg6,hg9,hg14,hg18]));have HT:=yD (HX.out HV);clear HV HB HX HC;go_wp2;go_round;(case rel=>exact ⟨k + 1,by omega,by go_num,HT⟩);(case measure=>simp [intOf];omega))
 have HT:=yD (kQs HN.out hlt hk)
 go_wp2_with fail
 refine kBp.mono ?_
 rintro e w1 ⟨rfl,hw⟩
 obtain rfl:=hw.symm
 go_wp2
 go_ret
 exact ⟨kG HT.out.symm,rfl⟩
def kAu (n:kW):Bool:=kCz (fun j=>kBu (n.getD j ByteArray.empty)) n.length && decide (n.length≤6)
theorem kUh {n:kW} {k:Nat} (h:k < n.length) (q:kBu n[k]=false):kAu n=false:=by
 unfold kAu;rw [kIw h (by (try simp only);rw [jr h];exact q)];rfl
theorem vName_next {n:kW} {k:Nat} (h:k < n.length) (q:kBu n[k]=true) (a:kCz (fun j=>kBu (n.getD j ByteArray.empty)) k=true):kCz (fun j=>kBu (n.getD j ByteArray.empty)) (k + 1)=true :=
  kEx a (by (try simp only);rw [jr h];exact q)
theorem vName_good {n:kW} {k:Nat} (q:kCz (fun j=>kBu (n.getD j ByteArray.empty)) k=true) (h:¬ k < n.length) (hk:k≤n.length):kAu n=decide (n.length≤6):=by
 obtain rfl:k=n.length:=rP
 unfold kAu;rw [q];rfl
theorem idx_all {α:Type} (p:α→Bool) (x:List α) (d:α):(!decide (0≤idxOf p x))=kCz (fun j=>!p (x.getD j d)) x.length:=by
 unfold idxOf
 cases h:x.findIdx? p with
 | none =>
   have hn:=List.findIdx?_eq_none_iff.1 h
   have:kCz (fun j=>!p (x.getD j d)) x.length=true:=by
     have key:∀ n,n≤x.length→kCz (fun j=>!p (x.getD j d)) n=true:=by
       intro n
       induction n with
       | zero=>intro _;rfl
       | succ n ih =>
         intro hn2
         refine kEx (ih rP) ?_
         (try simp only)
         rw [jr rP,hn _ (List.getElem_mem _)]
         rfl
     exact key _ nL
   rw [this];simp
 | some i =>
   obtain ⟨hi,hp,_⟩:=List.findIdx?_eq_some_iff_getElem.1 h
   rw [kIw hi (by (try simp only);rw [jr hi,hp];rfl)]
   simp
theorem vName_idx (n:kW):kAu n=(decide (n.length≤6) && !decide (0≤idxOf (fun p=>!kBu p) n)):=by
 unfold kAu
 rw [idx_all _ n ByteArray.empty]
 simp only [Bool.not_not]
 exact Bool.and_comm _ _
theorem kBi {w:World} {cn:List Value} {n:kW} (hn:kL.raw w cn n):Calls Tryz.prog 172 #[.agg cn.toArray] w fun e w'=>e=.returned (.bool (kAu n))∧Below w.heap.size w w':=by
 obtain ⟨av,rfl,a_0⟩:=kM hn
 obtain ⟨aa,capa,rfl,la⟩:=Rep.sl a_0
 clear hn
 go_enter Tryz.func172,Tryz.ntmps172
 go_wp2
 generalize hwB:World.alloc w _=wB
 have EB:Below w.heap.size w wB:=by rw [← hwB];exact bH
 have K0:wB.cell? ⟨w.heap.size,0,none⟩=some (.slice aa n.length capa):=nV
 clear hwB
 replace a_0:=a_0.below EB
 go_loopw [3] (fun i wr=>∃ k:Nat,k≤n.length∧i=.int .i64 k∧Hid (kCz (fun j=>kBu (n.getD j ByteArray.empty)) k=true)∧Below wB.heap.size wB wr) (fun i _=>n.length - (intOf i).toNat)
 case atStart=>exact ⟨0,Nat.zero_le _,rfl,yD rfl,bR⟩
 obtain ⟨k,hk,rfl,HN,hbel⟩:=hrel
 replace K0:=cL hbel K0
 have EB2:=(tQ EB hbel)
 by_cases hlt:k < n.length
 · obtain ⟨ba,offa,rfl,c0,hr,A0⟩:=Rep.kAy (a_0.below hbel) hlt rfl
   obtain ⟨he,hsz⟩:=Rep.yQ hr
   obtain rfl:c0=_:=by simpa using he
   clear he hr
   have hb:=fun q=>kUh hlt q
   have hx:=fun q=>vName_next hlt q HN.out
   generalize n[k]=s at *
   have HB:=yD hb;have HX:=yD hx;have HSZ:=yD hsz;clear hb hx hsz
   go_wp2_with fail
   refine (kHh HSZ.out).mono ?_
   rintro e w1 ⟨rfl,hw⟩
   obtain rfl:=hw.symm
   cases hv:kBu s
   · have HT:=yD (HB.out hv)
     go_wp2
     go_ret
     exact ⟨kG HT.out.symm,EB2⟩
   have HT:=yD (HX.out hv)
   go_wp2
   go_roundw
   case rel=>exact ⟨k + 1,by omega,by go_num,HT,hbel⟩
   simp [intOf];omega
 have HT:=yD (vName_good HN.out hlt hk)
 go_wp2
 go_ret
 exact ⟨kG (by rw [HT.out];simp;try omega),EB2⟩
theorem kNv {w:World} {s:ByteArray} (hs:s.size≤maxLen):Calls Tryz.prog 218 (#[.string s]++#[]) w fun e w'=>e=.returned (.bool (!kBu s))∧Below w.heap.size w w':=by
 show Calls Tryz.prog 218 #[_] w _
 go_enter Tryz.func218,Tryz.ntmps218
 go_wp2_with fail
 refine (kHp hs).mono ?_
 rintro e w1 ⟨rfl,hw⟩
 obtain rfl:=hw.symm
 go_wp2
 go_ret
 exact ⟨rfl,bR⟩
theorem kFm:jm Tryz.prog 218:=kAn Tryz.func218 rF rF
theorem kBl {w:World} {cn:List Value} {n:kW} (hn:kL.raw w cn n):Calls Tryz.prog 183 #[.agg cn.toArray] w fun e w'=>e=.returned (.bool (kAu n))∧Below w.heap.size w w':=by
 obtain ⟨av,rfl,a_0⟩:=kM hn
 obtain ⟨aa,capa,rfl,la⟩:=Rep.sl a_0
 clear hn
 have HV:=yD (vName_idx n)
 go_enter Tryz.func183,Tryz.ntmps183
 by_cases hl:n.length≤6
 · have hd:decide ((n.length:Int)≤6)=true:=rG
   have hdn:decide (n.length≤6)=true:=qU
   go_wp2_with fail
   refine (kIb (fun p=>!kBu p) kFm (a_0.below bH) ?_).mono ?_
   · intro wr hb i h c hr
     obtain ⟨he,hsz⟩:=Rep.yQ hr
     obtain rfl:c=_:=by simpa using he
     exact kNv hsz
   rintro e w1 ⟨rfl,hb1⟩
   have EF:Below w.heap.size w w1:=Below.trans bH (hb1.mono rQ)
   clear hb1
   go_wp2
   go_ret
   exact ⟨kG (by rw [HV.out,hdn];simp),EF⟩
 have hd:decide ((n.length:Int)≤6)=false:=rG
 have hdn:decide (n.length≤6)=false:=qU
 go_wp2
 go_ret
 exact ⟨kG (by rw [HV.out,hdn];rfl),bH⟩
def kCi (x:jJ):Bool:=((((kAu x.1 && decide (0 < x.1.length)) && decide ((x.2.1.length:Int)≤60)) && kAu x.2.2.1) && inR x.2.2.2.1 0 100000) && inR x.2.2.2.2 0 2147483646
theorem kHi {w:World} {cx:List Value} {x:jJ} (hx:kP.raw w cx x) :
    Calls Tryz.prog 103 #[.agg cx.toArray] w fun e w'=>e=.returned (.bool (kCi x))∧Below w.heap.size w w':=by
 have Hx:=yD hx
 obtain ⟨fxv0,fxv1,fxv2,rfl,fx_0,fx_1,fx_2,fx_3,fx_4,fx_5,fx_6⟩:=kY hx
 obtain ⟨fxa0,fxp0,rfl,fxl0⟩:=Rep.sl fx_1
 obtain ⟨fxa1,fxp1,rfl,fxl1⟩:=Rep.sl fx_2
 obtain ⟨fxa2,fxp2,rfl,fxl2⟩:=Rep.sl fx_4
 go_enter Tryz.func103,Tryz.ntmps103
 go_upto_region 1 with fail
 generalize hwB:World.alloc w _=wB
 have EB:Below w.heap.size w wB:=by rw [← hwB];exact bH
 have K1_0:wB.cell? ⟨w.heap.size,0,none⟩=some (.slice fxa0 (x.1).length fxp0):=nV
 have K1_1:wB.cell? ⟨w.heap.size,1,none⟩=some (.slice fxa1 (x.2.1).length fxp1):=nV
 have K1_2:wB.cell? ⟨w.heap.size,2,none⟩=some (.slice fxa2 (x.2.2.1).length fxp2):=nV
 have K1_3:wB.cell? ⟨w.heap.size,3,none⟩=some (.int .i64 x.2.2.2.1):=nV
 have K1_4:wB.cell? ⟨w.heap.size,4,none⟩=some (.int .i64 x.2.2.2.2):=nV
 clear hwB
 have FX:=yD (fun (W:World) (hW:Below wB.heap.size wB W)=>kMn hW K1_0 K1_1 K1_2 K1_3 K1_4)
 refine jE (fun W=>Below wB.heap.size wB W) [true,true,false,true,true,true,true,true,true,true,true,true,true,true,true,true,true,true,true,false,true,true,true,true,false,true,true,true,true,false,true,true] bR ?_
 intro wS HS
 all_goals refine wkR ?_
 all_goals refine wkR ?_
 all_goals first | refine wkB (kBi (Rep.raw.below fx_0 (tQ EB HS))) (fun wS1 HS=>?_) | refine wkR ?_
 all_goals (have hg3:=True.intro;first|(refine wkG (fun b hg3=>?_);cases b;all_goals first | exact Bool.noConfusion hg3 | simp only [zU,zV] at hg3 | skip) | refine wkR ?_)
 all_goals refine wkP ?_
 iterate 6
  all_goals refine wkR ?_
 all_goals (have hg10:=True.intro;first|(refine wkG (fun b hg10=>?_);cases b;all_goals first | exact Bool.noConfusion hg10 | simp only [zU,zV] at hg10 | skip) | refine wkR ?_)
 all_goals refine wkP ?_
 iterate 5
  all_goals refine wkR ?_
 all_goals (have hg16:=True.intro;first|(refine wkG (fun b hg16=>?_);cases b;all_goals first | exact Bool.noConfusion hg16 | simp only [zU,zV] at hg16 | skip) | refine wkR ?_)
 all_goals refine wkP ?_
 all_goals refine wkR ?_
 all_goals refine wkR ?_
 all_goals first | refine wkB (kBi (Rep.raw.below fx_3 (tQ EB HS))) (fun wS1 HS=>?_) | refine wkR ?_
 all_goals refine wkR ?_
 all_goals (have hg21:=True.intro;first|(refine wkG (fun b hg21=>?_);cases b;all_goals first | exact Bool.noConfusion hg21 | simp only [zU,zV] at hg21 | skip) | refine wkR ?_)
 all_goals refine wkP ?_
 all_goals refine wkR ?_
 all_goals refine wkR ?_
 all_goals first | refine wkC (kBf) ?_ | refine wkR ?_
 all_goals refine wkR ?_
 all_goals (have hg26:=True.intro;first|(refine wkG (fun b hg26=>?_);cases b;all_goals first | exact Bool.noConfusion hg26 | simp only [zU,zV] at hg26 | skip) | refine wkR ?_)
 all_goals refine wkP ?_
 all_goals refine wkR ?_
 all_goals refine wkR ?_
 all_goals first | refine wkC (kBf) ?_ | refine wkR ?_
 all_goals refine wkR ?_
 all_goals (have hg31:=True.intro;first|(refine wkG (fun b hg31=>?_);cases b;all_goals first | exact Bool.noConfusion hg31 | simp only [zU,zV] at hg31 | skip) | refine wkR ?_)
 all_goals refine wkP ?_
 all_goals refine jA ?_
 all_goals have EG:=(tQ EB HS)
 all_goals first
   | (have HT:=yD (show (kCi x)=false by simp only [kCi,Bool.not_true,Bool.not_false,Bool.and_true,Bool.true_and,Bool.and_false,Bool.false_and,Bool.or_true,Bool.true_or,Bool.or_false,Bool.false_or,Bool.not_not,hg3,hg10,hg16,hg21,hg26,hg31]);go_wp2;go_ret;exact ⟨kG HT.out.symm,EG⟩)
   | (have HT:=yD (show (kCi x)=true by simp only [kCi,Bool.not_true,Bool.not_false,Bool.and_true,Bool.true_and,Bool.and_false,Bool.false_and,Bool.or_true,Bool.true_or,Bool.or_false,Bool.false_or,Bool.not_not,hg3,hg10,hg16,hg21,hg26,hg31]);go_wp2;go_ret;exact ⟨kG HT.out.symm,EG⟩)
theorem kHq {w:World} {cx:List Value} {x:jJ} (hx:kP.raw w cx x) :
    Calls Tryz.prog 114 #[.agg cx.toArray] w fun e w'=>e=.returned (.bool (kCi x))∧Below w.heap.size w w':=by
 have Hx:=yD hx
 obtain ⟨fxv0,fxv1,fxv2,rfl,fx_0,fx_1,fx_2,fx_3,fx_4,fx_5,fx_6⟩:=kY hx
 obtain ⟨fxa0,fxp0,rfl,fxl0⟩:=Rep.sl fx_1
 obtain ⟨fxa1,fxp1,rfl,fxl1⟩:=Rep.sl fx_2
 obtain ⟨fxa2,fxp2,rfl,fxl2⟩:=Rep.sl fx_4
 go_enter Tryz.func114,Tryz.ntmps114
 go_upto_region 1 with fail
 generalize hwB:World.alloc w _=wB
 have EB:Below w.heap.size w wB:=by rw [← hwB];exact bH
 have K1_0:wB.cell? ⟨w.heap.size,0,none⟩=some (.slice fxa0 (x.1).length fxp0):=nV
 have K1_1:wB.cell? ⟨w.heap.size,1,none⟩=some (.slice fxa1 (x.2.1).length fxp1):=nV
 have K1_2:wB.cell? ⟨w.heap.size,2,none⟩=some (.slice fxa2 (x.2.2.1).length fxp2):=nV
 have K1_3:wB.cell? ⟨w.heap.size,3,none⟩=some (.int .i64 x.2.2.2.1):=nV
 have K1_4:wB.cell? ⟨w.heap.size,4,none⟩=some (.int .i64 x.2.2.2.2):=nV
 clear hwB
 have FX:=yD (fun (W:World) (hW:Below wB.heap.size wB W)=>kMn hW K1_0 K1_1 K1_2 K1_3 K1_4)
 refine jE (fun W=>Below wB.heap.size wB W) [true,true,false,true,true,true,true,true,true,true,true,true,true,true,true,true,true,true,true,false,true,true,true,true,false,true,true,true,true,false,true,true] bR ?_
 intro wS HS
 all_goals refine wkR ?_
 all_goals refine wkR ?_
 all_goals first | refine wkB (kBl (Rep.raw.below fx_0 (tQ EB HS))) (fun wS1 HS=>?_) | refine wkR ?_
 all_goals (have hg3:=True.intro;first|(refine wkG (fun b hg3=>?_);cases b;all_goals first | exact Bool.noConfusion hg3 | simp only [zU,zV] at hg3 | skip) | refine wkR ?_)
 all_goals refine wkP ?_
 iterate 6
  all_goals refine wkR ?_
 all_goals (have hg10:=True.intro;first|(refine wkG (fun b hg10=>?_);cases b;all_goals first | exact Bool.noConfusion hg10 | simp only [zU,zV] at hg10 | skip) | refine wkR ?_)
 all_goals refine wkP ?_
 iterate 5
  all_goals refine wkR ?_
 all_goals (have hg16:=True.intro;first|(refine wkG (fun b hg16=>?_);cases b;all_goals first | exact Bool.noConfusion hg16 | simp only [zU,zV] at hg16 | skip) | refine wkR ?_)
 all_goals refine wkP ?_
 all_goals refine wkR ?_
 all_goals refine wkR ?_
 all_goals first | refine wkB (kBl (Rep.raw.below fx_3 (tQ EB HS))) (fun wS1 HS=>?_) | refine wkR ?_
 all_goals refine wkR ?_
 all_goals (have hg21:=True.intro;first|(refine wkG (fun b hg21=>?_);cases b;all_goals first | exact Bool.noConfusion hg21 | simp only [zU,zV] at hg21 | skip) | refine wkR ?_)
 all_goals refine wkP ?_
 all_goals refine wkR ?_
 all_goals refine wkR ?_
 all_goals first | refine wkC (kBp) ?_ | refine wkR ?_
 all_goals refine wkR ?_
 all_goals (have hg26:=True.intro;first|(refine wkG (fun b hg26=>?_);cases b;all_goals first | exact Bool.noConfusion hg26 | simp only [zU,zV] at hg26 | skip) | refine wkR ?_)
 all_goals refine wkP ?_
 all_goals refine wkR ?_
 all_goals refine wkR ?_
 all_goals first | refine wkC (kBp) ?_ | refine wkR ?_
 all_goals refine wkR ?_
 all_goals (have hg31:=True.intro;first|(refine wkG (fun b hg31=>?_);cases b;all_goals first | exact Bool.noConfusion hg31 | simp only [zU,zV] at hg31 | skip) | refine wkR ?_)
 all_goals refine wkP ?_
 all_goals refine jA ?_
 all_goals have EG:=(tQ EB HS)
 all_goals first
   | (have HT:=yD (show (kCi x)=false by simp only [kCi,Bool.not_true,Bool.not_false,Bool.and_true,Bool.true_and,Bool.and_false,Bool.false_and,Bool.or_true,Bool.true_or,Bool.or_false,Bool.false_or,Bool.not_not,hg3,hg10,hg16,hg21,hg26,hg31]);go_wp2;go_ret;exact ⟨kG HT.out.symm,EG⟩)
   | (have HT:=yD (show (kCi x)=true by simp only [kCi,Bool.not_true,Bool.not_false,Bool.and_true,Bool.true_and,Bool.and_false,Bool.false_and,Bool.or_true,Bool.true_or,Bool.or_false,Bool.false_or,Bool.not_not,hg3,hg10,hg16,hg21,hg26,hg31]);go_wp2;go_ret;exact ⟨kG HT.out.symm,EG⟩)
end Go.Proofs.YtlfblpgkegeaeaaGreat

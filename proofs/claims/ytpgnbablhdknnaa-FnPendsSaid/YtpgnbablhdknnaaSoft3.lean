/-
  Owned slices at their block's head: a store into an element; two parts appended to a new slice. No program in sight.
  Regions with a head and a tail, some of whose head's operations (which look at no memory) may come up after the tail has begun. No program in sight.
-/
import Derived.Test.YtpgnbablhdknnaaDrawN
set_option linter.unusedVariables false
set_option linter.unusedSimpArgs false
set_option linter.unnecessarySimpa false
namespace Go.Proofs.Ytpgnbablhdknnaa
open Go.RowKit
namespace Rep
section
variable {α:Type} {r:Rep α} {e:TypeId} {w w' u:World} {v:Value} {b cap len n:Nat} {kept rest xs:List α} {j i:Nat} {x:α} {S T:Nat→Prop}
theorem yx (h:kT e r w v xs S) (hi:i < xs.length):∃ b cap,v=.slice (some ⟨b,0,none⟩) xs.length cap∧S b∧b < w.heap.size∧xs.length≤cap∧cap≤9223372036854775807:=by
 obtain ⟨hb,h⟩:=h
 rcases h with ⟨⟨a,rfl⟩,rfl⟩|⟨b,cap,cur,cs,tl,rfl,h1,h2,h3,h4,h5,h6,h7⟩
 · simp at hi
 exact ⟨b,cap,rfl,h6,(Array.getElem?_eq_some_iff.1 h3).1,h1,by unfold maxLen at h2;omega⟩
theorem kIr (h:kT e r w (.slice (some ⟨b,0,none⟩) len cap) xs S) (hi:0 < xs.length):∃ cur,w.heap[b]?=some (.cells cur e (0,0))∧cur.size=cap * r.n:=by
 obtain ⟨hb,h⟩:=h
 rcases h with ⟨⟨a,h0⟩,rfl⟩|⟨b,cap,cur,cs,tl,h0,h1,h2,h3,h4,h5,h6,h7⟩
 · simp at hi
 simp only [Value.slice.injEq,Option.some.injEq,Addr.mk.injEq,and_true] at h0
 obtain ⟨rfl,rfl,rfl⟩:=h0
 exact ⟨cur,h3,h5⟩
theorem own_own0 (h:(slice e r).own w [.slice (some ⟨b,0,none⟩) len cap] xs S) (hne:0 < xs.length) {cur:Array Value} (hc:w.heap[b]?=some (.cells cur e (0,0))) (hs:cur.size=cap * r.n) :
    kT e r w (.slice (some ⟨b,0,none⟩) len cap) xs S:=by
 obtain ⟨h1,h2,h3,h4,h5,hd,cs,tl,h6,h7,h8,h9,h10⟩:=kHd h hne
 obtain rfl:hd=[]:=List.eq_nil_of_length_eq_zero h7
 rw [hc] at h6
 simp only [Option.some.injEq,Obj.cells.injEq,and_true] at h6
 subst h6
 exact ⟨h5,.inr ⟨b,cap,_,cs,tl,by rw [h1],by omega,h3,hc,by simp,hs,h9,h10⟩⟩
theorem kT.raw0 (h:kT e r w v xs S):(slice e r).raw w [v] xs:=by
 obtain ⟨hb,h⟩:=h
 have k:(slice e r).is true w [v] xs S:=by
  rcases h with ⟨⟨a,rfl⟩,rfl⟩|⟨b,cap,cur,cs,tl,rfl,h1,h2,h3,h4,h5,h6,h7⟩
  · exact ⟨a,0,0,rfl,rfl,Nat.le_refl _,Nat.zero_le _,.inl ⟨rfl,fun _=>rfl⟩⟩
  exact ⟨_,_,cap,rfl,rfl,h1,h2,.inr ⟨b,0,rfl,cur,e,(0,0),[],cs,tl,h3,by simpa using h4,rfl,by omega,fun _=>⟨rfl,rfl⟩,h6,jD h7 (fun k hk=>⟨hk.1,fun _=>hk.2⟩)⟩⟩
 exact (slice e r).wide ((slice e r).weak k) (fun _ _=>trivial)
theorem kEl {j p:Nat} {y:α} {u:Value} (h:kT e r w (.slice (some ⟨b,0,none⟩) len cap) xs S) (hl:xs.length≤Big) (hi:i < xs.length) (hj:j < r.n)
    (hy:∀ {w:World} {cs:List Value} {S:Nat→Prop},r.is true w cs xs[i] S→r.is true w (cs.set j u) y S) (hby:r.bdd Big y) (hp:p=i * r.n + j) :
    kT e r (w.setCell ⟨b,p,none⟩ u) (.slice (some ⟨b,0,none⟩) len cap) (xs.set i y) S∧Touch (fun k=>k=b) w (w.setCell ⟨b,p,none⟩ u):=by
 obtain ⟨cur,hc,hs⟩:=kIr h gV
 obtain ⟨h1,h2⟩:=own_setCell (h.own hl) hi hj hy hby
 rw [Nat.zero_add,← hp] at h1 h2
 have h3:=heap_setCell_same w b p cur e u hc
 exact ⟨own_own0 h1 (by simpa using (by omega:0 < xs.length)) h3 (by simpa using hs),h2⟩
theorem kCn (h:kT e r w (.slice (some ⟨b,0,none⟩) len cap) xs S) (hi:0 < xs.length) (q:Nat):w.frozen? ⟨b,q,none⟩=false:=by
 obtain ⟨cur,hc,_⟩:=kIr h hi
 exact frozen_of_row w b q _ _ hc
def blank (n:Nat):Rep Unit where
  n:=n
  is _ _ cs _ _:=cs.length=n∧∀ c∈cs,c.oneCell'=true
  bdd _ _:=True
  zero:=()
  zc:=List.replicate n (.int .i64 0)
  mark _ _ k:=((),k)
  held _ _ k:=some k
  cnt:=0
  len h:=h.1
  one h:=h.2
  mono h _:=h
  wide h _:=h
  weak h:=h
  live h:=h
  bdd_mono _ _:=trivial
  bdd_zero:=trivial
  is_zero:=by intro o w S;exact ⟨by simp,fun c hc=>by rw [List.eq_of_mem_replicate hc];rfl⟩
  mark_held:=by intros;rfl
  held_ge:=by intro e x k k' h;simp at h;omega
  mark_ge:=by intros;simp
  mark_le:=by intros;simp
  mark_bdd _ _:=trivial
theorem kIo {n:Nat}:∀ (m:Nat) (cs:List Value),cs.length=m * n→(∀ c∈cs,c.oneCell'=true)→row (blank n) true w cs (List.replicate m ()) (fun _=>False)
  | 0,cs,h,_=>by simpa [row] using List.eq_nil_of_length_eq_zero gL
  | m + 1,cs,h,h1=>by
    have hl:n≤cs.length:=by rw [h,Nat.add_mul];omega
    refine ⟨cs.take n,cs.drop n,fun _=>False,fun _=>False,by simp,⟨by simp;omega,fun c hc=>h1 c (List.mem_of_mem_take hc)⟩,kIo m _ (by rw [List.length_drop,h,Nat.add_mul];omega) (fun c hc=>h1 c (List.mem_of_mem_drop hc)),fun _ h=>h,fun _ h=>h,fun _ _ h _=>h⟩
theorem run_first {P:Program} {t ty:TypeId} {i:TypeInfo} {z:Value} (ht:P.underlying t=some (.slice e)) (hi:P.info? e=some i) (hz:i.zero=some z) (hsize:i.size=r.n) (hzs:z.cells.size=r.n) (hn:0 < r.n) (hby:i.bytes≤1000)
    {a0:Option Addr} {sv:Value} {m:Nat} {cells:List Value} (hsrc:Src u sv m cells) (hl:cells.length=m * r.n) (h1:∀ c∈cells,c.oneCell'=true) (hlen:m≤1000000000) :
    ∃ v' u',(Builtin.append_ #[t,t] ty #[.slice a0 0 0,sv]).run P u=.ok v' u'∧Below u.heap.size u u' ∧
      ∀ {ys:List α} {T:Nat→Prop},row r true u cells ys T→(∀ y∈ys,r.bdd Big y)→kT e r u' v' ys (fun k=>T k∨(u.heap.size≤k∧k < u'.heap.size))∧(ys≠[]→∀ k,some k=v'.ownBlock→u.heap.size≤k):=by
 obtain ⟨v',u',hr,ht',ho⟩:=zM (P:=P) (ty:=ty) (r:=r) ht hi hz hsize hzs hn hby (kT.void (a:=a0) (S:=fun _=>False)) hsrc hl h1 (by simpa using hlen)
 refine ⟨v',u',hr,ht'.below nL (fun k hk=>hk.2.elim),?_⟩
 intro ys T hrow hb
 have h2:=ho hrow (fun _ h=>h.elim) hb
 rw [List.nil_append] at h2
 refine ⟨h2.wide (fun k hk=>hk.elim (fun q=>q.elim) id),?_⟩
 intro hne k hk
 obtain ⟨v2,u2,hr2,_,ho2⟩:=zM (P:=P) (ty:=ty) (r:=blank r.n) ht hi hz hsize hzs hn hby (kT.void (a:=a0) (S:=fun _=>False)) hsrc hl h1 (by simpa using hlen)
 rw [hr] at hr2
 simp only [Result.ok.injEq] at hr2
 obtain ⟨rfl,rfl⟩:=hr2
 have h3:=ho2 (kIo m cells hl h1) (fun _ h=>h.elim) (fun _ _=>trivial)
 have hm:ys.length=m:=by
  have:=jK hrow
  rw [hl] at this
  exact (Nat.eq_of_mul_eq_mul_right hn this).symm
 have hpos:0 < ys.length:=List.length_pos_iff.2 hne
 obtain ⟨b1,cap1,e1,hS1,_⟩:=yx (i:=0) h3 gQ
 rw [e1] at hk
 simp only [Value.ownBlock,Option.map_some,Option.some.injEq] at hk
 subst hk
 rcases hS1 with q | q | q
 · exact q.elim
 · exact q.elim
 exact q.1
theorem kHa {P:Program} {t ty:TypeId} {z:Value} {bytes:Nat} (ht:P.underlying t=some (.slice e)) (hinf:(P.info? e).map (fun i=>(i.zero,i.size,i.bytes))=some (some z,r.n,bytes))
    (h:gap e r w b cap n kept j rest S) (hn:0 < r.n) {q c k m:Nat} (hq:rest≠[]→q=(kept.length + j) * r.n) (hk:k=kept.length) (hm:m=rest.length) :
    ∃ w',(Builtin.append_ #[t,t] ty #[.slice (some ⟨b,0,none⟩) k cap,.slice (some ⟨b,q,none⟩) m c]).run P w=.ok (.slice (some ⟨b,0,none⟩) (k + m) cap) w' ∧
      gap e r w' b cap n (kept++rest) j [] S∧Touch (fun k=>k=b) w w':=by
 subst hk hm
 obtain ⟨i,hi,_,hsize,_⟩:=info_parts hinf
 exact run_shift ht hi hsize h (ad:=⟨b,q,none⟩) (fun hne=>by rw [hq hne]) hn
theorem wpList_append_run {P:Program} {ops:Array Oper} {rest':List Oper} {o:Oper} {a:Act} {Q:Exit→Act→World→Prop} (hgd:o.guard=none) (s x:Operand) (t:TypeId)
    (ho:o.op=.call { callee:=.builtin .append,args:=#[s,x],argTypes:=#[t,t] }) {v sv v':Value} (hs:a.eval s=v) (hx:a.eval x=sv)
    (hr:(Builtin.append_ #[t,t] o.type #[v,sv]).run P w=.ok v' w') (h:wpList P ops Q rest' (a.put o.dst v') w'):wpList P ops Q (o :: rest') a w :=
  wpList_plain hgd fun _ hK=>jW s x t ho hs hx hr (hK _ _ h)
theorem kFx {P:Program} {t:TypeId} {z:Value} {bytes:Nat} (ht:P.underlying t=some (.slice e)) (hinf:(P.info? e).map (fun i=>(i.zero,i.size,i.bytes))=some (some z,r.n,bytes)) (hzs:z.cells.size=r.n) (hn:0 < r.n) (hby:bytes≤1000)
    (h:gap e r w b cap n kept j rest S) (hu:Below w.heap.size w u) {a0:Option Addr} (hlen:n≤16777216) (c1 c2:Nat) (ty1 ty2:TypeId) {q kl rl:Nat} (hq:rest≠[]→q=(kept.length + j) * r.n) (hkl:kl=kept.length) (hrl:rl=rest.length) :
    ∃ v1 u1,(Builtin.append_ #[t,t] ty1 #[.slice a0 0 0,.slice (some ⟨b,0,none⟩) kl c1]).run P u=.ok v1 u1∧Below u.heap.size u u1 ∧
      ∃ v2 u2,(Builtin.append_ #[t,t] ty2 #[v1,.slice (some ⟨b,q,none⟩) rl c2]).run P u1=.ok v2 u2∧kT e r u2 v2 (kept++rest) (fun k=>S k∨(u.heap.size≤k∧k < u2.heap.size))∧Below u.heap.size u u2:=by
 subst hkl hrl
 obtain ⟨i,hi,hz,hsize,hbytes⟩:=info_parts hinf
 obtain ⟨a1,a2,a3,a4,a5,a6,c,jk,d,tl,A,B,h1,h2,h3,h4,h5,h6,h7,h8⟩:=h
 have hcl:=jK h4
 have hdl:=jK h5
 have hblt:b < w.heap.size:=(Array.getElem?_eq_some_iff.1 h1).1
 have hub:u.heap[b]?=_:=(hu.block b hblt).trans h1
 have hsz:=hu.size
 have live:∀ {X:World},Below w.heap.size w X→∀ {cells:List Value} {ys:List α} {C:Nat→Prop},row r true w cells ys C→row r true X cells ys (fun k=>C k∧k < w.heap.size) :=
   by intro X hX cells ys C hr;exact kv (jO hr) (fun k hk=>hX.block k hk.2)
 have cellAt:∀ {X:World},X.heap[b]?=some (.cells (c++(jk++(d++tl))).toArray e (0,0))→∀ (o:Nat) (pre mid suf:List Value),c++(jk++(d++tl))=pre++(mid++suf)→pre.length=o→∀ q uu,mid[q]?=some uu→X.cell? ((⟨b,o,none⟩:Addr).add q)=some uu:=by
  intro X hX o pre mid suf he ho q uu hq
  have hadd:(⟨b,o,none⟩:Addr).add q=⟨b,o + q,none⟩:=dA
  have hql:=(List.getElem?_eq_some_iff.1 hq).1
  rw [hadd,cell_of_row X b _ _ e (0,0) hX]
  simp only [List.getElem?_toArray]
  rw [he,List.getElem?_append_right gV,List.getElem?_append_left gV]
  rw [← hq];congr 1;omega
 have src1:Src u (.slice (some ⟨b,0,none⟩) kept.length c1) kept.length c:=.inr ⟨_,_,rfl,cellAt hub 0 [] c (jk++(d++tl)) gW rfl⟩
 obtain ⟨v1,u1,hr1,hb1,ho1⟩:=run_first (P:=P) (ty:=ty1) (a0:=a0) ht hi hz hsize hzs hn gV src1 hcl (row_one h4) gV
 have hbw1:Below w.heap.size w u1:=hu.trans (hb1.mono hsz)
 have hsz1:=hb1.size
 refine ⟨v1,u1,hr1,hb1,?_⟩
 have hub1:u1.heap[b]?=_:=(hbw1.block b hblt).trans h1
 have src2:Src u1 (.slice (some ⟨b,q,none⟩) rest.length c2) rest.length d:=by
  by_cases hr0:rest=[]
  · subst hr0
    exact .inl ⟨rfl,_,_,rfl⟩
  rw [hq hr0]
  exact .inr ⟨_,_,rfl,cellAt hub1 _ (c++jk) d tl gW (by simp [hcl,h3,Nat.add_mul])⟩
 obtain ⟨A',hA',ho1',hbl⟩:∃ A':Nat→Prop,(∀ k,A' k→A k∧k < w.heap.size)∧kT e r u1 v1 kept (fun k=>A' k∨(u.heap.size≤k∧k < u1.heap.size))∧∀ k,some k=v1.ownBlock→(A' k∨(u.heap.size≤k∧k < u1.heap.size))→u.heap.size≤k:=by
  by_cases hk0:kept=[]
  · subst hk0
    obtain rfl:c=[]:=h4
    obtain ⟨o1,_⟩:=ho1 (ys:=[]) (T:=fun _=>False) rfl gW
    exact ⟨fun _=>False,fun _ h=>h.elim,o1,fun k _ h=>h.elim (fun q=>q.elim) (fun q=>q.1)⟩
  obtain ⟨o1,o2⟩:=ho1 (live hu h4) a1
  exact ⟨_,fun k hk=>hk,o1,fun k hk _=>o2 hk0 k hk⟩
 obtain ⟨v2,u2,hr2,ht2,ho2⟩:=zM (P:=P) (ty:=ty2) ht hi hz hsize hzs hn gV ho1' src2 hdl (row_one h5) gV
 have ho2':=ho2 (live hbw1 h5) (by
   rintro k (q1 | q1) q2
   · exact h8 k (hA' k q1).1 q2.1
   · have:=q2.2;omega) a2
 refine ⟨v2,u2,hr2,ho2'.wide ?_,hb1.trans (ht2.below hsz1 (fun k hk=>hbl k hk.1 hk.2))⟩
 have hsz2:=ht2.size
 rintro k ((q | q) | q | q)
 · exact .inl (h6 k (hA' k q).1).1
 · exact .inr ⟨q.1,by omega⟩
 · exact .inl (h7 k q.1).1
 exact .inr ⟨by omega,q.2⟩
end
end Rep
end Go.Proofs.Ytpgnbablhdknnaa
namespace Go.Proofs.Ytpgnbablhdknnaa
open Go
section
variable {P:Program} {ops:Array Oper} {S:World→Prop} {Q:Exit→Act→World→Prop}
def sinkS (md:Region.Mode) (ops:Array Oper) (n:Nat) (sk:List Nat):Bool :=
  (List.range n).all fun i=>sk.contains i || (List.range (n + 1)).any fun j=>decide (i < j) && (!sk.contains j && Region.waitsFor md ops j i)
def preB (md:Region.Mode) (ops:Array Oper):List Nat→Array Bool→Bool
  | [],_=>true
  | k :: p,listed=>(Region.ready md ops listed).contains k && Region.free md ops listed k && preB md ops p (listed.setIfInBounds k true)
def kEp:List Nat→Array Bool→Array Bool
  | [],b=>b
  | k :: p,b=>kEp p (b.setIfInBounds k true)
def kAi (l:List Oper):List Nat→List Oper
  | []=>[]
  | k :: q=>match l[k]? with
    | some o=>o :: kAi l q
    | none=>[]
def preR (P:Program) (ops:Array Oper) (K:Act→Prop):List Oper→Act→Prop
  | [],a=>K a
  | o :: l,a=>∃ v,Yields P ops o v a∧preR P ops K l (a.put o.dst v)
@[irreducible] def pre (P:Program) (ops:Array Oper) (K:Act→Prop) (l:List Oper) (a:Act):Prop:=preR P ops K l a
theorem kIf {l:List Oper} {n f:Nat} (hsel:Region.noSelect l.toArray=true) (hQ:∀ c a d v w,Q (.panic c) (Act.put a d v) w→Q (.panic c) a w) {w:World} (hn:n < l.toArray.size):∀ (sk:List Nat) (listed:Array Bool) (a:Act),
    sk.all (fun x=>decide (x < n))=true→HeadInv .any l.toArray n listed→preB .any l.toArray sk listed=true→preR P l.toArray (fun a'=>HeadInv .any l.toArray n (kEp sk listed)→wpAny P .any l.toArray Q f (kEp sk listed) a' w) (kAi l sk) a→wpAny P .any l.toArray Q (sk.length + f) listed a w
  | [],listed,a,_,inv,_,h=>by
    simp only [List.length_nil,Nat.zero_add]
    exact h inv
  | i :: sk,listed,a,hi,inv,hB,h=>by
    simp only [List.all_cons,Bool.and_eq_true,decide_eq_true_eq] at hi
    have hil:i < l.toArray.size:=Nat.lt_trans hi.1 hn
    have h0:l.toArray[i]?=some l.toArray[i]:=Array.getElem?_eq_getElem hil
    have hp:kAi l (i :: sk)=l.toArray[i] :: kAi l sk:=by
      have:l[i]?=some l.toArray[i]:=by simp
      simp only [kAi,this]
    rw [hp] at h
    obtain ⟨v,hy,h⟩:=h
    simp only [preB,Bool.and_eq_true] at hB
    have hr:i∈Region.ready .any l.toArray listed:=by simpa using hB.1.1
    rw [show (i :: sk).length + f=(sk.length + f) + 1 by simp;omega]
    exact wpAny_take h0 hsel hB.1.2 hB.1.1 (fun c a w=>hQ c a _ _ w) hy (kIf hsel hQ hn sk _ _ (by simpa using hi.2) (inv.set hr hi.1) hB.2 h)
theorem kIq {K K':Act→Prop} (h:∀ a,K a→K' a):∀ (l:List Oper) (a:Act),preR P ops K l a→preR P ops K' l a
  | [],a,q=>h a q
  | o :: l,a,⟨v,hy,q⟩=>⟨v,hy,kIq h l _ q⟩
theorem pre_nil {K:Act→Prop} {a:Act} (h:K a):pre P ops K [] a:=by unfold pre;exact h
end
end Go.Proofs.Ytpgnbablhdknnaa

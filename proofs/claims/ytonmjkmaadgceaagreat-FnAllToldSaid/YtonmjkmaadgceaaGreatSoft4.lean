/-
  Regions in two phases: a head under one condition on the world, then the rest under another. No program in sight.
-/
import Derived.Test.YtonmjkmaadgceaaGreatDrawB
set_option linter.unusedVariables false
set_option linter.unusedSimpArgs false
set_option linter.unnecessarySimpa false
namespace Go.Proofs.YtonmjkmaadgceaaGreat
open Go.RowKit
namespace kE
section
variable {α:Type} {r:kE α} {e:TypeId} {w w' u:World} {v:Value} {b cap len n:Nat} {kept rest xs:List α} {j i:Nat} {x:α} {S T:Nat→Prop}
theorem kBu (h:ku e r w v xs S) (hi:i < xs.length):∃ b cap,v=.slice (some ⟨b,0,none⟩) xs.length cap∧S b∧b < w.heap.size∧xs.length≤cap∧cap≤9223372036854775807:=by
 obtain ⟨hb,h⟩:=h
 rcases h with ⟨⟨a,rfl⟩,rfl⟩|⟨b,cap,cur,cs,tl,rfl,h1,h2,h3,h4,h5,h6,h7⟩
 · simp at hi
 exact ⟨b,cap,rfl,h6,(Array.getElem?_eq_some_iff.1 h3).1,h1,by unfold maxLen at h2;omega⟩
theorem kVj (h:ku e r w (.slice (some ⟨b,0,none⟩) len cap) xs S) (hi:0 < xs.length):∃ cur,w.heap[b]?=some (.cells cur e (0,0))∧cur.size=cap * r.n:=by
 obtain ⟨hb,h⟩:=h
 rcases h with ⟨⟨a,h0⟩,rfl⟩|⟨b,cap,cur,cs,tl,h0,h1,h2,h3,h4,h5,h6,h7⟩
 · simp at hi
 simp only [Value.slice.injEq,Option.some.injEq,Addr.mk.injEq,and_true] at h0
 obtain ⟨rfl,rfl,rfl⟩:=h0
 exact ⟨cur,h3,h5⟩
theorem own_own0 (h:(slice e r).own w [.slice (some ⟨b,0,none⟩) len cap] xs S) (hne:0 < xs.length) {cur:Array Value} (hc:w.heap[b]?=some (.cells cur e (0,0))) (hs:cur.size=cap * r.n) :
    ku e r w (.slice (some ⟨b,0,none⟩) len cap) xs S:=by
 obtain ⟨h1,h2,h3,h4,h5,hd,cs,tl,h6,h7,h8,h9,E⟩:=kNm h hne
 obtain rfl:hd=[]:=List.eq_nil_of_length_eq_zero h7
 rw [hc] at h6
 simp only [Option.some.injEq,Obj.cells.injEq,and_true] at h6
 subst h6
 exact ⟨h5,.inr ⟨b,cap,_,cs,tl,by rw [h1],by omega,h3,hc,by simp,hs,h9,E⟩⟩
theorem ku.raw0 (h:ku e r w v xs S):(slice e r).raw w [v] xs:=by
 obtain ⟨hb,h⟩:=h
 have k:(slice e r).is true w [v] xs S:=by
  rcases h with ⟨⟨a,rfl⟩,rfl⟩|⟨b,cap,cur,cs,tl,rfl,h1,h2,h3,h4,h5,h6,h7⟩
  · exact ⟨a,0,0,rfl,rfl,Nat.le_refl _,Nat.zero_le _,.inl ⟨rfl,fun _=>rfl⟩⟩
  exact ⟨_,_,cap,rfl,rfl,h1,h2,.inr ⟨b,0,rfl,cur,e,(0,0),[],cs,tl,h3,by simpa using h4,rfl,by omega,fun _=>⟨rfl,rfl⟩,h6,yH h7 (fun k hk=>⟨hk.1,fun _=>hk.2⟩)⟩⟩
 exact (slice e r).wide ((slice e r).weak k) (fun _ _=>trivial)
theorem kEg {j p:Nat} {y:α} {u:Value} (h:ku e r w (.slice (some ⟨b,0,none⟩) len cap) xs S) (hl:xs.length≤Big) (hi:i < xs.length) (I:j < r.n)
    (hy:∀ {w:World} {cs:List Value} {S:Nat→Prop},r.is true w cs xs[i] S→r.is true w (cs.set j u) y S) (hby:r.bdd Big y) (hp:p=i * r.n + j) :
    ku e r (w.setCell ⟨b,p,none⟩ u) (.slice (some ⟨b,0,none⟩) len cap) (xs.set i y) S∧Touch (fun k=>k=b) w (w.setCell ⟨b,p,none⟩ u):=by
 obtain ⟨cur,hc,hs⟩:=kVj h bB9
 obtain ⟨h1,h2⟩:=kQj (h.own hl) hi I hy hby
 rw [Nat.zero_add,← hp] at h1 h2
 have h3:=heap_setCell_same w b p cur e u hc
 exact ⟨own_own0 h1 (by simpa using (by omega:0 < xs.length)) h3 (by simpa using hs),h2⟩
theorem kGo (h:ku e r w (.slice (some ⟨b,0,none⟩) len cap) xs S) (hi:0 < xs.length) (q:Nat):w.frozen? ⟨b,q,none⟩=false:=by
 obtain ⟨cur,hc,_⟩:=kVj h hi
 exact frozen_of_row w b q _ _ hc
def blank (n:Nat):kE Unit where
  n:=n
  is _ _ cs _ _:=cs.length=n∧∀ c∈cs,c.oneCell'=true
  bdd _ _:=True
  zero:=()
  zc:=List.replicate n (.int .i64 0)
  mark _ _ k:=((),k)
  held _ _ k:=some k
  cnt:=0
  len h:=h.1
  one h:=h.2
  mono h _:=h
  wide h _:=h
  weak h:=h
  live h:=h
  bdd_mono _ _:=trivial
  bdd_zero:=trivial
  is_zero:=by intro o w S;exact ⟨by simp,fun c hc=>by rw [List.eq_of_mem_replicate hc];rfl⟩
  mark_held:=by intros;rfl
  held_ge:=by intro e x k k' h;simp at h;omega
  mark_ge:=by intros;simp
  mark_le:=by intros;simp
  mark_bdd _ _:=trivial
theorem kVe {n:Nat}:∀ (m:Nat) (cs:List Value),cs.length=m * n→(∀ c∈cs,c.oneCell'=true)→row (blank n) true w cs (List.replicate m ()) (fun _=>False)
  | 0,cs,h,_=>by simpa [row] using List.eq_nil_of_length_eq_zero bA5
  | m + 1,cs,h,h1=>by
    have hl:n≤cs.length:=by rw [h,Nat.add_mul];omega
    refine ⟨cs.take n,cs.drop n,fun _=>False,fun _=>False,by simp,⟨by simp;omega,fun c hc=>h1 c (List.mem_of_mem_take hc)⟩,kVe m _ (by rw [List.length_drop,h,Nat.add_mul];omega) (fun c hc=>h1 c (List.mem_of_mem_drop hc)),fun _ h=>h,fun _ h=>h,fun _ _ h _=>h⟩
theorem run_first {P:Program} {t ty:TypeId} {i:TypeInfo} {z:Value} (ht:P.underlying t=some (.slice e)) (hi:P.info? e=some i) (hz:i.zero=some z) (hsize:i.size=r.n) (hzs:z.cells.size=r.n) (hn:0 < r.n) (hby:i.bytes≤1000)
    {a0:Option Addr} {sv:Value} {m:Nat} {cells:List Value} (hsrc:Src u sv m cells) (hl:cells.length=m * r.n) (h1:∀ c∈cells,c.oneCell'=true) (hlen:m≤1000000000) :
    ∃ v' D,(Builtin.append_ #[t,t] ty #[.slice a0 0 0,sv]).run P u=.ok v' D∧Below u.heap.size u D ∧
      ∀ {ys:List α} {T:Nat→Prop},row r true u cells ys T→(∀ y∈ys,r.bdd Big y)→ku e r D v' ys (fun k=>T k∨(u.heap.size≤k∧k < D.heap.size))∧(ys≠[]→∀ k,some k=v'.ownBlock→u.heap.size≤k):=by
 obtain ⟨v',D,hr,Y,ho⟩:=kEz (P:=P) (ty:=ty) (r:=r) ht hi hz hsize hzs hn hby (ku.void (a:=a0) (S:=fun _=>False)) hsrc hl h1 vY
 refine ⟨v',D,hr,Y.below nL (fun k hk=>hk.2.elim),?_⟩
 intro ys T hrow hb
 have h2:=ho hrow (fun _ h=>h.elim) hb
 rw [List.nil_append] at h2
 refine ⟨h2.wide (fun k hk=>hk.elim (fun q=>q.elim) id),?_⟩
 intro hne k hk
 obtain ⟨v2,u2,R,_,G⟩:=kEz (P:=P) (ty:=ty) (r:=blank r.n) ht hi hz hsize hzs hn hby (ku.void (a:=a0) (S:=fun _=>False)) hsrc hl h1 vY
 rw [hr] at R
 simp only [Result.ok.injEq] at R
 obtain ⟨rfl,rfl⟩:=R
 have h3:=G (kVe m cells hl h1) (fun _ h=>h.elim) (fun _ _=>trivial)
 have hm:ys.length=m:=by
  have:=zH hrow
  rw [hl] at this
  exact (Nat.eq_of_mul_eq_mul_right hn this).symm
 have J:0 < ys.length:=List.length_pos_iff.2 hne
 obtain ⟨b1,F,O,E,_⟩:=kBu (i:=0) h3 bB5
 rw [O] at hk
 simp only [Value.ownBlock,Option.map_some,Option.some.injEq] at hk
 subst hk
 rcases E with q | q | q
 · exact q.elim
 · exact q.elim
 exact q.1
theorem kEr {P:Program} {t ty:TypeId} {z:Value} {bytes:Nat} (ht:P.underlying t=some (.slice e)) (hinf:(P.info? e).map (fun i=>(i.zero,i.size,i.bytes))=some (some z,r.n,bytes))
    (h:gap e r w b cap n kept j rest S) (hn:0 < r.n) {q c k m:Nat} (hq:rest≠[]→q=(kept.length + j) * r.n) (hk:k=kept.length) (hm:m=rest.length) :
    ∃ w',(Builtin.append_ #[t,t] ty #[.slice (some ⟨b,0,none⟩) k cap,.slice (some ⟨b,q,none⟩) m c]).run P w=.ok (.slice (some ⟨b,0,none⟩) (k + m) cap) w' ∧
      gap e r w' b cap n (kept++rest) j [] S∧Touch (fun k=>k=b) w w':=by
 subst hk hm
 obtain ⟨i,hi,_,hsize,_⟩:=info_parts hinf
 exact run_shift ht hi hsize h (ad:=⟨b,q,none⟩) (fun hne=>by rw [hq hne]) hn
theorem wpList_append_run {P:Program} {ops:Array Oper} {E:List Oper} {o:Oper} {a:Act} {Q:Exit→Act→World→Prop} (D:o.guard=none) (s x:Operand) (t:TypeId)
    (ho:o.op=.call { callee:=.builtin .append,args:=#[s,x],argTypes:=#[t,t] }) {v sv v':Value} (hs:a.eval s=v) (hx:a.eval x=sv)
    (hr:(Builtin.append_ #[t,t] o.type #[v,sv]).run P w=.ok v' w') (h:wpList P ops Q E (a.put o.dst v') w'):wpList P ops Q (o :: E) a w :=
  wpList_plain D fun _ J=>jP s x t ho hs hx hr (J _ _ h)
theorem kGm {P:Program} {t:TypeId} {z:Value} {bytes:Nat} (ht:P.underlying t=some (.slice e)) (hinf:(P.info? e).map (fun i=>(i.zero,i.size,i.bytes))=some (some z,r.n,bytes)) (hzs:z.cells.size=r.n) (hn:0 < r.n) (hby:bytes≤1000)
    (h:gap e r w b cap n kept j rest S) (hu:Below w.heap.size w u) {a0:Option Addr} (hlen:n≤16777216) (c1 c2:Nat) (ag ai:TypeId) {q kl rl:Nat} (hq:rest≠[]→q=(kept.length + j) * r.n) (aa:kl=kept.length) (ev:rl=rest.length) :
    ∃ v1 u1,(Builtin.append_ #[t,t] ag #[.slice a0 0 0,.slice (some ⟨b,0,none⟩) kl c1]).run P u=.ok v1 u1∧Below u.heap.size u u1 ∧
      ∃ v2 u2,(Builtin.append_ #[t,t] ai #[v1,.slice (some ⟨b,q,none⟩) rl c2]).run P u1=.ok v2 u2∧ku e r u2 v2 (kept++rest) (fun k=>S k∨(u.heap.size≤k∧k < u2.heap.size))∧Below u.heap.size u u2:=by
 subst aa ev
 obtain ⟨i,hi,hz,hsize,E⟩:=info_parts hinf
 obtain ⟨a1,a2,a3,a4,a5,U,c,D,d,tl,A,B,h1,h2,h3,h4,h5,h6,h7,h8⟩:=h
 have N:=zH h4
 have Y:=zH h5
 have I:b < w.heap.size:=(Array.getElem?_eq_some_iff.1 h1).1
 have H:u.heap[b]?=_:=(hu.block b I).trans h1
 have b0:=hu.size
 have live:∀ {X:World},Below w.heap.size w X→∀ {cells:List Value} {ys:List α} {C:Nat→Prop},row r true w cells ys C→row r true X cells ys (fun k=>C k∧k < w.heap.size) :=
   by intro X hX cells ys C hr;exact yC (zK hr) (fun k hk=>hX.block k hk.2)
 have cellAt:∀ {X:World},X.heap[b]?=some (.cells (c++(D++(d++tl))).toArray e (0,0))→∀ (o:Nat) (pre mid ah:List Value),c++(D++(d++tl))=pre++(mid++ah)→pre.length=o→∀ q uu,mid[q]?=some uu→X.cell? ((⟨b,o,none⟩:Addr).add q)=some uu:=by
  intro X hX o pre mid ah he ho q uu hq
  have F:(⟨b,o,none⟩:Addr).add q=⟨b,o + q,none⟩:=qN
  have bf:=(List.getElem?_eq_some_iff.1 hq).1
  rw [F,cell_of_row X b _ _ e (0,0) hX]
  simp only [List.getElem?_toArray]
  rw [he,List.getElem?_append_right bB9,List.getElem?_append_left bB9]
  rw [← hq];congr 1;omega
 have ae:Src u (.slice (some ⟨b,0,none⟩) kept.length c1) kept.length c:=.inr ⟨_,_,rfl,cellAt H 0 [] c (D++(d++tl)) bC0 rfl⟩
 obtain ⟨v1,u1,d4,O,ac⟩:=run_first (P:=P) (ty:=ag) (a0:=a0) ht hi hz hsize hzs hn bB9 ae N (row_one h4) bB9
 have L:Below w.heap.size w u1:=hu.trans (O.mono b0)
 have aj:=O.size
 refine ⟨v1,u1,d4,O,?_⟩
 have Z:u1.heap[b]?=_:=(L.block b I).trans h1
 have ab:Src u1 (.slice (some ⟨b,q,none⟩) rest.length c2) rest.length d:=by
  by_cases cf:rest=[]
  · subst cf
    exact .inl ⟨rfl,_,_,rfl⟩
  rw [hq cf]
  exact .inr ⟨_,_,rfl,cellAt Z _ (c++D) d tl bC0 (by simp [N,h3,Nat.add_mul])⟩
 obtain ⟨J,W,V,bk⟩:∃ J:Nat→Prop,(∀ k,J k→A k∧k < w.heap.size)∧ku e r u1 v1 kept (fun k=>J k∨(u.heap.size≤k∧k < u1.heap.size))∧∀ k,some k=v1.ownBlock→(J k∨(u.heap.size≤k∧k < u1.heap.size))→u.heap.size≤k:=by
  by_cases di:kept=[]
  · subst di
    obtain rfl:c=[]:=h4
    obtain ⟨o1,_⟩:=ac (ys:=[]) (T:=fun _=>False) rfl bC0
    exact ⟨fun _=>False,fun _ h=>h.elim,o1,fun k _ h=>h.elim (fun q=>q.elim) (fun q=>q.1)⟩
  obtain ⟨o1,o2⟩:=ac (live hu h4) a1
  exact ⟨_,fun k hk=>hk,o1,fun k hk _=>o2 di k hk⟩
 obtain ⟨v2,u2,R,ak,G⟩:=kEz (P:=P) (ty:=ai) ht hi hz hsize hzs hn bB9 V ab Y (row_one h5) bB9
 have af:=G (live L h5) (by
   rintro k (q1 | q1) q2
   · exact h8 k (W k q1).1 q2.1
   · have:=q2.2;omega) a2
 refine ⟨v2,u2,R,af.wide ?_,O.trans (ak.below aj (fun k hk=>bk k hk.1 hk.2))⟩
 have d6:=ak.size
 rintro k ((q | q) | q | q)
 · exact .inl (h6 k (W k q).1).1
 · exact .inr ⟨q.1,by omega⟩
 · exact .inl (h7 k q.1).1
 exact .inr ⟨by omega,q.2⟩
end
end kE
end Go.Proofs.YtonmjkmaadgceaaGreat
namespace Go.Proofs.YtonmjkmaadgceaaGreat
open Go
section
variable {P:Program} {ops:Array Oper} {S:World→Prop} {Q:Exit→Act→World→Prop}
def kLt (md:Region.Mode) (ops:Array Oper) (n:Nat) (E:List Nat):Bool :=
  (List.range n).all fun i=>E.contains i || (List.range (n + 1)).any fun j=>decide (i < j) && (!E.contains j && Region.waitsFor md ops j i)
def preB (md:Region.Mode) (ops:Array Oper):List Nat→Array Bool→Bool
  | [],_=>true
  | k :: p,listed=>(Region.ready md ops listed).contains k && Region.free md ops listed k && preB md ops p (listed.setIfInBounds k true)
def kKg:List Nat→Array Bool→Array Bool
  | [],b=>b
  | k :: p,b=>kKg p (b.setIfInBounds k true)
def kAv (l:List Oper):List Nat→List Oper
  | []=>[]
  | k :: q=>match l[k]? with
    | some o=>o :: kAv l q
    | none=>[]
def preR (P:Program) (ops:Array Oper) (K:Act→Prop):List Oper→Act→Prop
  | [],a=>K a
  | o :: l,a=>∃ v,Yields P ops o v a∧preR P ops K l (a.put o.dst v)
@[irreducible] def pre (P:Program) (ops:Array Oper) (K:Act→Prop) (l:List Oper) (a:Act):Prop:=preR P ops K l a
theorem kOo {l:List Oper} {n f:Nat} (D:Region.noSelect l.toArray=true) (hQ:∀ c a d v w,Q (.panic c) (Act.put a d v) w→Q (.panic c) a w) {w:World} (hn:n < l.toArray.size):∀ (E:List Nat) (listed:Array Bool) (a:Act),
    E.all (fun x=>decide (x < n))=true→HeadInv .any l.toArray n listed→preB .any l.toArray E listed=true→preR P l.toArray (fun a'=>HeadInv .any l.toArray n (kKg E listed)→wpAny P .any l.toArray Q f (kKg E listed) a' w) (kAv l E) a→wpAny P .any l.toArray Q (E.length + f) listed a w
  | [],listed,a,_,inv,_,h=>by
    simp only [List.length_nil,Nat.zero_add]
    exact h inv
  | i :: E,listed,a,hi,inv,hB,h=>by
    simp only [List.all_cons,Bool.and_eq_true,decide_eq_true_eq] at hi
    have H:i < l.toArray.size:=Nat.lt_trans hi.1 hn
    have h0:l.toArray[i]?=some l.toArray[i]:=Array.getElem?_eq_getElem H
    have hp:kAv l (i :: E)=l.toArray[i] :: kAv l E:=by
      have:l[i]?=some l.toArray[i]:=by simp
      simp only [kAv,this]
    rw [hp] at h
    obtain ⟨v,hy,h⟩:=h
    simp only [preB,Bool.and_eq_true] at hB
    have hr:i∈Region.ready .any l.toArray listed:=vO
    rw [show (i :: E).length + f=(E.length + f) + 1 by simp;omega]
    exact wpAny_take h0 D hB.1.2 hB.1.1 (fun c a w=>hQ c a _ _ w) hy (kOo D hQ hn E _ _ (by simpa using hi.2) (inv.set hr hi.1) hB.2 h)
theorem kOx {K D:Act→Prop} (h:∀ a,K a→D a):∀ (l:List Oper) (a:Act),preR P ops K l a→preR P ops D l a
  | [],a,q=>h a q
  | o :: l,a,⟨v,hy,q⟩=>⟨v,hy,kOx h l _ q⟩
theorem pre_nil {K:Act→Prop} {a:Act} (h:K a):pre P ops K [] a:=by unfold pre;exact h
end
section
variable {P:Program} {ops:Array Oper} {S S2:World→Prop} {Q:Exit→Act→World→Prop}
def treeB (md:Region.Mode) (ops:Array Oper) (n:Nat):Bool :=
  (List.range ops.size).all fun t=>decide (t≤n) || (List.range t).any fun j=>decide (n≤j) && Region.waitsFor md ops t j
theorem kQd {md:Region.Mode} {n:Nat} {E:List Nat} {listed:Array Bool} (hs:kLt md ops n E=true) (hc:treeB md ops n=true) (hn:n < ops.size) (inv:HeadInv md ops n listed) :
    ∀ (d i:Nat),n - i=d→i < n→E.contains i=false→listed.getD i true=false→∀ t,n≤t→t ∉ Region.ready md ops listed:=by
 intro d
 induction d using Nat.strongRecOn with
 | _ d ih =>
   intro i hd hi aa F t ht hr
   obtain ⟨_,V,D,J⟩:=mem_ready.1 hr
   have G:t < ops.size:=(Array.getElem?_eq_some_iff.1 D).1
   by_cases U:t=n
   · exact mJ
   · have h1:=List.all_eq_true.1 hc t (List.mem_range.2 G)
     simp only [Bool.or_eq_true,decide_eq_true_eq] at h1
     rcases h1 with h1 | h1
     · omega
     · exact mV
theorem kRp {md:Region.Mode} {n i:Nat} {E:List Nat} {V:Oper} {v:Value} {L:Array Bool→Act→World→Prop} (hi:ops[i]?=some V) (D:∀ (j:Nat) (o:Oper) cs b,ops[j]?=some o→o.op≠.select cs b)
    (hQ:∀ c a w,Q (.panic c) (a.put V.dst v) w→Q (.panic c) a w) (hs:kLt md ops n E=true) (hc:treeB md ops n=true) (hn:n < ops.size) (R:i < n) (aa:E.contains i=false)
    (Z:∀ listed a w,L listed a w→∀ j∈Region.ready md ops listed,n≤j) :
    ∀ (f:Nat) (listed:Array Bool) (a:Act) (w:World),HeadInv md ops n listed →
      (∀ j N,ops[j]?=some N→j≠i→listed.getD j true=false→(∀ e∈N.after,Region.binds md e=true→e.on≠i)→V.apart ops N=true) →
      i∈Region.ready md ops listed→YieldsIf P ops S V v a→S w →
      kCl P md ops Q S n L f (listed.setIfInBounds i true) (a.put V.dst v) w→kCl P md ops Q S n L (f + 1) listed a w:=by
 intro f
 induction f with
 | zero =>
   intro listed a w inv _ hr hy hS H
   have F:=(mem_ready.1 hr).1
   refine ⟨fun h=>vC,fun j I=>?_⟩
   have ab:j < n:=by
     rcases Nat.lt_or_ge j n with h | h
     · exact h
     · exact absurd I (kQd hs hc hn inv _ i rfl R aa F j h)
   exact lY
 | succ f ih =>
   intro listed a w inv U hr hy hS H
   have F:=(mem_ready.1 hr).1
   refine ⟨fun h=>vC,fun j I=>?_⟩
   have ab:j < n:=by
     rcases Nat.lt_or_ge j n with h | h
     · exact h
     · exact absurd I (kQd hs hc hn inv _ i rfl R aa F j h)
   exact lZ
def kDb (md:Region.Mode) (ops:Array Oper) (n:Nat) (q2:List (Nat × Bool)):List (Nat × Bool)→Array Bool→Bool
  | [],listed=>(Region.ready md ops listed).all (fun j=>decide (n≤j)) && kHd md ops q2 listed
  | (k,true) :: p,listed=>(Region.ready md ops listed).contains k && Region.free md ops listed k && kDb md ops n q2 p (listed.setIfInBounds k true)
  | (k,false) :: p,listed=>(Region.ready md ops listed==[k]) && kDb md ops n q2 p (listed.setIfInBounds k true)
def soft2Ok (md:Region.Mode) (ops:Array Oper) (E:List Nat) (q q2:List (Nat × Bool)):Bool :=
  Region.noSelect ops && (decide (E.length + q.length < ops.size) && (E.all (fun x=>decide (x < E.length + q.length)) && (q.all (fun x=>decide (x.1 < E.length + q.length) && !E.contains x.1) && (kLt md ops (E.length + q.length) E && (treeB md ops (E.length + q.length) &&
    (preB md ops E (Array.replicate ops.size false) && (q2.all (fun x=>decide (x.1 < ops.size)) && (decide (E.length + q.length + q2.length=ops.size) && kDb md ops (E.length + q.length) q2 q (kKg E (Array.replicate ops.size false))))))))))
def kJz (P:Program) (ops:Array Oper) (S S2:World→Prop) (Q:Exit→Act→World→Prop) (l0:List Oper) (p2:List Bool):Nat→List Oper→List Bool→Act→World→Prop
  | k,o :: l,true :: p,a,w=>∃ v,YieldsIf P ops S o v a∧kJz P ops S S2 Q l0 p2 (k + 1) l p (a.put o.dst v) w
  | k,o :: l,false :: p,a,w=>if Region.wanted o (yielded ops a.tmps) then o.wp P a w (fun a' w'=>S w'∧kJz P ops S S2 Q l0 p2 (k + 1) l p a' w') Q∨(o.asks P a w∧LetsOut Q) else S w∧kJz P ops S S2 Q l0 p2 (k + 1) l p (a.put o.dst undef) w
  | k,_,_,a,w=>S2 w∧kCs P ops S2 Q k l0 p2 a w
@[irreducible] def kHt (P:Program) (ops:Array Oper) (S S2:World→Prop) (Q:Exit→Act→World→Prop) (l0:List Oper) (p2:List Bool) (k:Nat) (l:List Oper) (p:List Bool) (a:Act) (w:World):Prop:=kJz P ops S S2 Q l0 p2 k l p a w
theorem kGy {l:List Oper} {n:Nat} {E:List Nat} {q2:List (Nat × Bool)} (D:Region.noSelect l.toArray=true) (hQ:∀ c a d v w,Q (.panic c) (Act.put a d v) w→Q (.panic c) a w)
    (hs:kLt .any l.toArray n E=true) (hc:treeB .any l.toArray n=true) (hn:n < l.toArray.size):∀ (q:List (Nat × Bool)) (k:Nat) (listed:Array Bool) (a:Act) (w:World),
    q.all (fun x=>decide (x.1 < n) && !E.contains x.1)=true→HeadInv .any l.toArray n listed→kDb .any l.toArray n q2 q listed=true→S w→kJz P l.toArray S S2 Q (jD l q2) (q2.map (·.2)) k (jD l q) (q.map (·.2)) a w →
    kCl P .any l.toArray Q S n (fun listed a w=>(Region.ready .any l.toArray listed).all (fun j=>decide (n≤j))=true∧kHd .any l.toArray q2 listed=true∧S2 w∧∃ k,kCs P l.toArray S2 Q k (jD l q2) (q2.map (·.2)) a w) q.length listed a w
  | [],k,listed,a,w,_,inv,hB,hS,h=>by
    exact o5
  | (i,true) :: q,k,listed,a,w,hi,inv,hB,hS,h=>by
    simp only [List.all_cons,Bool.and_eq_true,decide_eq_true_eq,Bool.not_eq_true'] at hi
    have H:i < l.toArray.size:=Nat.lt_trans hi.1.1 hn
    have h0:l.toArray[i]?=some l.toArray[i]:=Array.getElem?_eq_getElem H
    have hp:jD l ((i,true) :: q)=l.toArray[i] :: jD l q:=by
      exact mD
    rw [hp] at h
    obtain ⟨v,hy,h⟩:=h
    simp only [kDb,Bool.and_eq_true] at hB
    have hr:i∈Region.ready .any l.toArray listed:=vO
    have af:q.all (fun x=>decide (x.1 < n) && !E.contains x.1)=true:=dP
    exact kRp h0 (Region.noSelect_spec D) (fun c a w=>hQ c a _ _ w) hs hc hn hi.1.1 hi.1.2 (fun F a' w' J j I=>by simpa using List.all_eq_true.1 J.1 j I) q.length listed a w inv (Region.free_spec h0 hB.1.2) hr hy hS
      (kGy D hQ hs hc hn q (k + 1) _ _ _ af (inv.set hr hi.1.1) hB.2 hS h)
  | (i,false) :: q,k,listed,a,w,hi,inv,hB,hS,h=>by
    simp only [List.all_cons,Bool.and_eq_true,decide_eq_true_eq,Bool.not_eq_true'] at hi
    have af:q.all (fun x=>decide (x.1 < n) && !E.contains x.1)=true:=dP
    have H:i < l.toArray.size:=Nat.lt_trans hi.1.1 hn
    have h0:l.toArray[i]?=some l.toArray[i]:=Array.getElem?_eq_getElem H
    have hp:jD l ((i,false) :: q)=l.toArray[i] :: jD l q:=by
      exact mD
    rw [hp] at h
    simp only [kDb,Bool.and_eq_true,beq_iff_eq] at hB
    have hr:i∈Region.ready .any l.toArray listed:=bA2
    refine ⟨by rw [hB.1];simp,fun j I=>?_⟩
    rw [hB.1] at I
    obtain rfl:j=i:=bA6
    refine ⟨hi.1.1,?_⟩
    refine wpOp_mono (fun a' w' G=>⟨G.1,kGy D hQ hs hc hn q (k + 1) _ _ _ af (inv.set hr hi.1.1) hB.2 G.1 G.2⟩) (K:=fun a' w'=>S w'∧kJz P l.toArray S S2 Q (jD l q2) (q2.map (·.2)) (k + 1) (jD l q) (q.map (·.2)) a' w') ?_
    unfold wpOp
    simp only [h0]
    exact h
theorem zT {id:Nat} {a:Act} {w:World} {l:List Oper} (S S2:World→Prop) (E:List Nat) (q q2:List (Nat × Bool)) (hm:P.follows .mixedOrders=true) (hB:soft2Ok .any l.toArray E q q2=true)
    (hQ:∀ c a d v w,Q (.panic c) (Act.put a d v) w→Q (.panic c) a w) (hS:S { w with drawn:=w.drawn + 1 })
    (h:∀ w',S w'→pre P l.toArray (fun a'=>kHt P l.toArray S S2 Q (jD l q2) (q2.map (·.2)) 0 (jD l q) (q.map (·.2)) a' w') (kAv l E) a):(Code.region id l.toArray true).wp P Q a w:=by
 simp only [soft2Ok,Bool.and_eq_true,decide_eq_true_eq] at hB
 have h:=h _ hS
 unfold pre at h
 unfold kHt at h
 have D:HeadInv .any l.toArray (E.length + q.length) (Array.replicate l.toArray.size false) :=
   ⟨by simp,fun j N _ hl=>pF,fun t _ ht=>getD_in bA0 (getD_replicate_false _ _)⟩
 refine wp_region_any hm ?_
 obtain ⟨b1,b2,O,L,V,X,U,R,W,I⟩:=hB
 have F:q.all (fun x=>decide (x.1 < E.length + q.length) && !E.contains x.1)=true:=fA
 have key:=kOo (f:=q.length + q2.length) b1 hQ b2 E (Array.replicate l.toArray.size false) a bA8 D U (kOx (fun a' hk=>by
   intro G
   have H:=kGy (S2:=S2) b1 hQ V X b2 q 0 _ a' _ F G I hS hk
   exact kCb (Q:=Q) (g:=q2.length) (fun listed a' w' J=>by
     obtain ⟨_,hb,c7,k,hw⟩:=J
     exact wpAny_of_held (S:=S2) _ _ _ _ (kDy b1 hQ q2 k _ listed a' w' R nL hb c7 hw)) _ _ _ _ H) _ _ h)
 rw [show E.length + (q.length + q2.length)=l.toArray.size by omega] at key
 exact key
variable {l0:List Oper} {p2:List Bool} {k:Nat} {l:List Oper} {p:List Bool} {a:Act} {w:World} {o:Oper}
theorem zl (hS:S2 w) (h:soft P ops S2 Q k l0 p2 a w):kHt P ops S S2 Q l0 p2 k [] [] a w:=by
 unfold soft at h;unfold kHt;exact ⟨hS,h⟩
theorem jX {v:Value} (hg:Region.wanted o (yielded ops a.tmps)=true)
    (hv:∀ w,S w→(execOp a.eval o).run P w=.ok (.value v) w) (h:kHt P ops S S2 Q l0 p2 (k + 1) l p (a.put o.dst v) w):kHt P ops S S2 Q l0 p2 k (o :: l) (true :: p) a w:=by
 unfold kHt at h ⊢
 exact ⟨v,.inl ⟨hg,hv⟩,h⟩
theorem yu (hg:Region.wanted o (yielded ops a.tmps)=true)
    (h:∀ K:Act→World→Prop,(∀ a' w',S w'→kHt P ops S S2 Q l0 p2 (k + 1) l p a' w'→K a' w')→o.wp P a w K Q):kHt P ops S S2 Q l0 p2 k (o :: l) (false :: p) a w:=by
 unfold kHt
 show if _ then _ else _
 rw [if_pos hg]
 exact .inl (h _ (fun a' w' h1 h2=>by unfold kHt at h2;exact ⟨h1,h2⟩))
end
end Go.Proofs.YtonmjkmaadgceaaGreat

/-
  Regions with a head in another order than the text's, then a tail in sequence. No program in sight.
  Slices of slices, read. No program in sight.
  The capacity of a slice. No program in sight.
  Appending one new element to an owned slice, as a walk meets it. No program in sight.
  The element types of slices: zero, size, bytes. Printed by geninfo.py.
  Small functions on numbers: ranges, comparisons; the library's cmp.Compare and cmp.Or.
-/
import Derived.Test.YtpgnbablhdknnaaSoft
import Derived.OwnWalk
import Derived.Test.YtpgnbablhdknnaaLib
set_option linter.unusedVariables false
set_option linter.unusedSimpArgs false
set_option linter.unnecessarySimpa false
set_option maxHeartbeats 4000000
namespace Go.Proofs.Ytpgnbablhdknnaa
open Go
section
variable {P:Program} {ops:Array Oper} {S:World→Prop} {Q:Exit→Act→World→Prop}
def kBm (md:Region.Mode) (ops:Array Oper) (n g:Nat):List (Nat × Bool)→Array Bool→Bool
  | [],listed=>Region.seqB md ops g n listed
  | (k,true) :: p,listed=>(Region.ready md ops listed).contains k && Region.free md ops listed k && kBm md ops n g p (listed.setIfInBounds k true)
  | (k,false) :: p,listed=>(Region.ready md ops listed==[k]) && kBm md ops n g p (listed.setIfInBounds k true)
def softTPOk (md:Region.Mode) (ops:Array Oper) (q:List (Nat × Bool)):Bool :=
  Region.noSelect ops && (decide (q.length < ops.size) && (q.all (fun x=>decide (x.1 < q.length)) && (Region.sinkB md ops q.length && (Region.chainB md ops q.length && kBm md ops q.length (ops.size - q.length) q (Array.replicate ops.size false)))))
theorem kAm {l:List Oper} {n g:Nat} (hsel:Region.noSelect l.toArray=true) (hQ:∀ c a d v w,Q (.panic c) (Act.put a d v) w→Q (.panic c) a w)
    (hs:Region.sinkB .any l.toArray n=true) (hc:Region.chainB .any l.toArray n=true) (hn:n < l.toArray.size) (hg:n + g=l.length):∀ (q:List (Nat × Bool)) (k:Nat) (listed:Array Bool) (a:Act) (w:World),
    q.all (fun x=>decide (x.1 < n))=true→HeadInv .any l.toArray n listed→kBm .any l.toArray n g q listed=true→S w→yT P l.toArray S Q k (kg l q++l.drop n) (q.map (·.2)) a w →
    zH P .any l.toArray Q S n (fun listed a w=>Region.seqB .any l.toArray g n listed=true∧∃ r,(∀ j,r[j]?=l.toArray[n + j]?)∧r.length=g∧wpList P l.toArray Q r a w) q.length listed a w
  | [],k,listed,a,w,_,inv,hB,hS,h=>by
    refine ⟨by simpa [kBm] using hB,l.drop n,fun j=>by simp [List.getElem?_drop],by simp;omega,?_⟩
    simp only [kg,List.nil_append,List.map_nil] at h
    generalize l.drop n=r at h ⊢
    cases r <;> exact h
  | (i,true) :: q,k,listed,a,w,hi,inv,hB,hS,h=>by
    simp only [List.all_cons,Bool.and_eq_true,decide_eq_true_eq] at hi
    have hil:i < l.toArray.size:=Nat.lt_trans hi.1 hn
    have h0:l.toArray[i]?=some l.toArray[i]:=Array.getElem?_eq_getElem hil
    have hp:kg l ((i,true) :: q)=l.toArray[i] :: kg l q:=by
      have:l[i]?=some l.toArray[i]:=by simp
      simp only [kg,this]
    rw [hp] at h
    obtain ⟨v,hy,h⟩:=h
    simp only [kBm,Bool.and_eq_true] at hB
    have hr:i∈Region.ready .any l.toArray listed:=by simpa using hB.1.1
    exact kDi h0 (Region.noSelect_spec hsel) (fun c a w=>hQ c a _ _ w) hs hc hn hi.1 (fun listed' a' w' hL=>seqB_ready hL.1) q.length listed a w inv (Region.free_spec h0 hB.1.2) hr hy hS
      (kAm hsel hQ hs hc hn hg q (k + 1) _ _ _ hi.2 (inv.set hr hi.1) hB.2 hS h)
  | (i,false) :: q,k,listed,a,w,hi,inv,hB,hS,h=>by
    simp only [List.all_cons,Bool.and_eq_true,decide_eq_true_eq] at hi
    have hil:i < l.toArray.size:=Nat.lt_trans hi.1 hn
    have h0:l.toArray[i]?=some l.toArray[i]:=Array.getElem?_eq_getElem hil
    have hp:kg l ((i,false) :: q)=l.toArray[i] :: kg l q:=by
      have:l[i]?=some l.toArray[i]:=by simp
      simp only [kg,this]
    rw [hp] at h
    simp only [kBm,Bool.and_eq_true,beq_iff_eq] at hB
    have hr:i∈Region.ready .any l.toArray listed:=by rw [hB.1];simp
    refine ⟨by rw [hB.1];simp,fun j hj=>?_⟩
    rw [hB.1] at hj
    obtain rfl:j=i:=gD
    refine ⟨hi.1,?_⟩
    refine wpOp_mono (fun a' w' h'=>⟨h'.1,kAm hsel hQ hs hc hn hg q (k + 1) _ _ _ hi.2 (inv.set hr hi.1) hB.2 h'.1 h'.2⟩) (K:=fun a' w'=>S w'∧yT P l.toArray S Q (k + 1) (kg l q++l.drop n) (q.map (·.2)) a' w') ?_
    unfold wpOp
    simp only [h0]
    exact h
theorem jT {id:Nat} {a:Act} {w:World} {l:List Oper} (S:World→Prop) (q:List (Nat × Bool)) (hm:P.follows .mixedOrders=true) (hB:softTPOk .any l.toArray q=true)
    (hQ:∀ c a d v w,Q (.panic c) (Act.put a d v) w→Q (.panic c) a w) (hS:S { w with drawn:=w.drawn + 1 })
    (h:∀ w',S w'→soft P l.toArray S Q 0 (kg l q++l.drop q.length) (q.map (·.2)) a w'):(Code.region id l.toArray true).wp P Q a w:=by
 simp only [softTPOk,Bool.and_eq_true,decide_eq_true_eq] at hB
 have h:=h _ hS
 unfold soft at h
 have hsz:l.toArray.size=l.length:=gW
 have inv0:HeadInv .any l.toArray q.length (Array.replicate l.toArray.size false) :=
   ⟨by simp,fun j oj _ hl=>bS,fun t _ ht=>getD_in (by simpa using ht) (getD_replicate_false _ _)⟩
 have H:=kAm (g:=l.toArray.size - q.length) hB.1 hQ hB.2.2.2.1 hB.2.2.2.2.1 hB.2.1 (by have:=hB.2.1;omega) q 0 _ a _ hB.2.2.1 inv0 hB.2.2.2.2.2 hS h
 refine wp_region_any hm ?_
 have:=yU (Q:=Q) (g:=l.toArray.size - q.length) (fun listed a' w' hL=>by
   obtain ⟨hq,l',ho,hl',hw⟩:=hL
   have:=wpAny_of_seq (md:=.any) (Q':=Q) l' q.length listed a' w' ho (by rw [hl'];exact hq) hw
   rwa [hl'] at this) _ _ _ _ H
 rw [show q.length + (l.toArray.size - q.length)=l.toArray.size by have:=hB.2.1;omega] at this
 exact this
end
end Go.Proofs.Ytpgnbablhdknnaa
namespace Go.Proofs.Ytpgnbablhdknnaa
open Go.RowKit
namespace Rep
section
variable {α:Type} {r:Rep α} {e:TypeId} {w:World} {a:Option Addr} {len cap:Nat} {xs:List α} {o:Bool} {S:Nat→Prop}
theorem row_cut {cells:List Value} {ys:List α} (h:row r o w cells ys S) {k:Nat} (hk:k≤ys.length):∃ c d,cells=c++d∧c.length=k * r.n∧row r o w c (ys.take k) S∧row r o w d (ys.drop k) S:=by
 by_cases h1:k < ys.length
 · obtain ⟨p,c,q,A,B,C,rfl,hp,ra,rb,rc,hA,hB,hC,hdis⟩:=kDv h h1
   refine ⟨p,c++q,rfl,hp,jD ra hA,?_⟩
   rw [List.drop_eq_getElem_cons h1]
   exact ⟨c,q,B,C,rfl,rb,rc,hB,hC,fun ho k=>(hdis ho k).2.2⟩
 obtain rfl:k=ys.length:=gV
 have:=jK h
 exact ⟨cells,[],by simp,this,by simpa using h,by simp [row]⟩
theorem take_raw (h:(slice e r).raw w [.slice a len cap] xs) {k:Nat} (hk:k≤xs.length):(slice e r).raw w [.slice a k cap] (xs.take k):=by
 obtain ⟨a',len',cap',h0,h1,h2,h3,h4⟩:=h
 simp only [List.cons.injEq,Value.slice.injEq,and_true] at h0
 obtain ⟨rfl,rfl,rfl⟩:=h0
 refine ⟨a,k,cap,rfl,by simp;omega,by omega,h3,?_⟩
 rcases h4 with ⟨rfl,_⟩|⟨b,off,ha,cur,e',fr,p,c,q,hb,hc,hp,hl,hf,hS,hx⟩
 · exact .inl ⟨by simp,by simp⟩
 obtain ⟨c1,c2,rfl,hcl,r1,r2⟩:=row_cut hx hk
 exact .inr ⟨b,off,ha,cur,e',fr,p,c1,c2++q,hb,by rw [hc];simp,hp,hl,by simp,hS,r1⟩
theorem jd:(slice e r).own w [.slice a 0 0] [] S:=⟨⟨_,_,_,rfl,rfl,Nat.le_refl _,Nat.zero_le _,.inl ⟨rfl,fun _=>rfl⟩⟩,by simp [slice]⟩
theorem raw_src (h:(slice e r).raw w [.slice a len cap] xs):∃ cells,Src w (.slice a len cap) xs.length cells∧row r false w cells xs (fun _=>True):=by
 obtain ⟨a',len',cap',h0,h1,h2,h3,h4⟩:=h
 simp only [List.cons.injEq,Value.slice.injEq,and_true] at h0
 obtain ⟨rfl,rfl,rfl⟩:=h0
 rcases h4 with ⟨rfl,_⟩|⟨b,off,ha,cur,e',fr,p,c,q,hb,hc,hp,hl,hf,hS,hx⟩
 · subst h1
   exact ⟨[],.inl ⟨rfl,_,_,rfl⟩,rfl⟩
 subst ha h1
 refine ⟨c,.inr ⟨_,_,rfl,?_⟩,jD hx (fun _ _=>trivial)⟩
 intro j u hj
 have hadd:(⟨b,off,none⟩:Addr).add j=⟨b,off + j,none⟩:=dA
 have hjl:=(List.getElem?_eq_some_iff.1 hj).1
 rw [hadd]
 simp only [World.cell?,hb,Option.isSome_none,Bool.false_eq_true,if_false]
 rw [← Array.getElem?_toList,hc,List.getElem?_append_right gV,List.getElem?_append_left gV]
 rw [← hj];congr 1;omega
end
end Rep
namespace Rep
variable {α:Type} {r:Rep α} {e:TypeId} {w:World} {a:Option Addr} {len cap:Nat} {xs:List α}
theorem kGn (h:(slice e r).raw w [.slice a len cap] xs):xs.length≤cap∧cap≤9223372036854775807:=by
 obtain ⟨a',len',cap',h0,h1,h2,h3,h4⟩:=h
 simp only [List.cons.injEq,Value.slice.injEq,and_true] at h0
 obtain ⟨rfl,rfl,rfl⟩:=h0
 unfold maxLen at h3
 exact ⟨by omega,by omega⟩
end Rep
namespace Rep
section
variable {α:Type} {r:Rep α} {e:TypeId} {w w':World} {v:Value} {xs ys:List α} {S T:Nat→Prop}
theorem kIz {P:Program} {ops:Array Oper} {rest:List Oper} {o:Oper} {a:Act} {Q:Exit→Act→World→Prop} (hgd:o.guard=none) (s x:Operand) (t:TypeId)
    (ho:o.op=.call { callee:=.builtin .append,args:=#[s,x],argTypes:=#[t,t] })
    {z:Value} {bytes:Nat} (ht:P.underlying t=some (.slice e)) (hinf:(P.info? e).map (fun i=>(i.zero,i.size,i.bytes))=some (some z,r.n,bytes)) (hzs:z.cells.size=r.n) (hn:0 < r.n) (hby:bytes≤1000)
    (hown:kT e r w v xs S) (hs:a.eval s=v) {b:Nat} (hx:a.eval x=.slice (some ⟨b,0,none⟩) 1 1) (hb:b=w.heap.size) {cs:List Value} {y:α} (hy:r.own w cs y T)
    {u:World} (hu:u=w.alloc (.cells cs.toArray e)) (hST:∀ k,S k→T k→False) (hlen:xs.length + 1≤1000000000)
    (h:∀ v' w',kT e r w' v' (xs++[y]) (fun k=>S k∨T k∨(w.heap.size + 1≤k∧k < w'.heap.size))→Touch (fun k=>some k=v.ownBlock∧S k) u w'→wpList P ops Q rest (a.put o.dst v') w'):wpList P ops Q (o :: rest) a u:=by
 subst hu hb
 obtain ⟨i,hi,hz,hsize,hbytes⟩:=info_parts hinf
 have hl:=r.len hy.1
 have hown':kT e r (w.alloc (.cells cs.toArray e)) v xs (fun k=>S k∧k < w.heap.size):=(kT.alloc hown.live _)
 have hy':=hy.live.alloc (.cells cs.toArray e)
 refine kFq hgd s x t ho (r:=r) (e:=e) ht hi hz hsize hzs hn gV hown' hs hx (m:=1) (cells:=cs) (ys:=[y]) (T:=fun k=>T k∧k < w.heap.size) (.inr ⟨_,1,rfl,?_⟩)
   ⟨cs,[],_,fun _=>False,by simp,hy'.1,rfl,fun _ h=>h,fun _ h=>h.elim,fun _ _ _ h=>h.elim⟩ rfl (fun k h1 h2=>hST k h1.1 h2.1) (by simpa using hy.2) (by simpa using hlen) ?_
 · intro j c hj
   have hadd:(⟨w.heap.size,0,none⟩:Addr).add j=⟨w.heap.size,j,none⟩:=dA
   rw [hadd]
   exact kL (heap_alloc_new w _) gD
 intro v' w' h1 h2
 refine h v' w' (h1.wide ?_) ⟨h2.os,h2.tape,h2.output,h2.size,fun k hk q=>h2.block k hk (fun a=>q ⟨a.1,a.2.1⟩)⟩
 intro k hk
 rcases hk with hk | hk | hk
 · exact .inl hk.1
 · exact .inr (.inl hk.1)
 exact .inr (.inr ⟨by simpa using hk.1,hk.2⟩)
theorem jH {P:Program} {ops:Array Oper} {rest:List Oper} {o:Oper} {a:Act} {Q:Exit→Act→World→Prop} (hgd:o.guard=none) (s x:Operand) (t:TypeId)
    (ho:o.op=.call { callee:=.builtin .append,args:=#[s,x],argTypes:=#[t,t] })
    {z:Value} {bytes:Nat} (ht:P.underlying t=some (.slice e)) (hinf:(P.info? e).map (fun i=>(i.zero,i.size,i.bytes))=some (some z,r.n,bytes)) (hzs:z.cells.size=r.n) (hn:0 < r.n) (hby:bytes≤1000)
    {B:Nat} (hown:kT e r w v xs S) (hs:a.eval s=v) {b:Nat} (hx:a.eval x=.slice (some ⟨b,0,none⟩) 1 1) (hb:b=w.heap.size) {cs:List Value} {y:α} (hy:r.own w cs y T)
    {u:World} (hu:u=w.alloc (.cells cs.toArray e)) (hST:∀ k,S k→T k→False) (hSB:∀ k,S k→B≤k∧k < w.heap.size) (hTB:∀ k,T k→B≤k∧k < w.heap.size) (hB:B≤w.heap.size) (hlen:xs.length + 1≤1000000000)
    (h:∀ v' w',kT e r w' v' (xs++[y]) (Btw B w'.heap.size)→Below B w w'→w.heap.size < w'.heap.size→wpList P ops Q rest (a.put o.dst v') w'):wpList P ops Q (o :: rest) a u:=by
 refine kIz hgd s x t ho ht hinf hzs hn hby hown hs hx hb hy hu hST hlen ?_
 intro v' w' h1 h2
 subst hu
 have hsz:=h2.size
 simp at hsz
 refine h v' w' (h1.wide ?_) ?_ gV
 · intro k hk
   rcases hk with hk | hk | hk
   · have:=hSB k hk;exact ⟨this.1,by omega⟩
   · have:=hTB k hk;exact ⟨this.1,by omega⟩
   exact ⟨by omega,hk.2⟩
 refine ((Below.refl B w).alloc hB _).trans (h2.below ?_ ?_)
 · simp;omega
 intro k hk;have:=hSB k hk.2;omega
end
end Rep
end Go.Proofs.Ytpgnbablhdknnaa
namespace Go.Proofs.Ytpgnbablhdknnaa
theorem yM:(Try.prog.info? 9).map (fun i=>(i.zero,i.size,i.bytes))=some (some (.string ByteArray.empty),1,16):=by kernel_rfl
theorem jC:(Try.prog.info? 56).map (fun i=>(i.zero,i.size,i.bytes))=some (some (.agg #[.int .i64 0,.int .i64 0,.int .i64 0]),3,24):=by kernel_rfl
theorem kV:(Try.prog.info? 67).map (fun i=>(i.zero,i.size,i.bytes))=some (some (.agg #[.slice none 0 0,.slice none 0 0,.int .i64 0]),3,56):=by kernel_rfl
theorem kBq:(Try.prog.info? 77).map (fun i=>(i.zero,i.size,i.bytes))=some (some (.agg #[.slice none 0 0,.int .i64 0]),2,32):=by kernel_rfl
end Go.Proofs.Ytpgnbablhdknnaa
namespace Go.Proofs.Ytpgnbablhdknnaa
open Go.RowKit
def inR (n a b:Int):Bool:=decide (a≤n) && decide (n≤b)
theorem jR {w:World} {n a b:Int}:Calls Try.prog 47 #[.int .i64 n,.int .i64 a,.int .i64 b] w fun e w'=>e=.returned (.bool (inR n a b))∧w'=w:=by
 go_enter Try.func47,Try.ntmps47
 by_cases h:n ≥ a
 · have hd:decide (n ≥ a)=true:=gL
   go_wp2
   go_ret
   exact ⟨kP (by simp [inR,h]),rfl⟩
 have hd:decide (n ≥ a)=false:=gL
 go_wp2
 go_ret
 exact ⟨kP (by simp [inR];omega),rfl⟩
theorem jM {w:World} {n a b:Int}:Calls Try.prog 37 #[.int .i64 n,.int .i64 a,.int .i64 b] w fun e w'=>e=.returned (.bool (inR n a b))∧w'=w:=by
 go_enter Try.func37,Try.ntmps37
 by_cases h:a≤n
 · have hd:decide (a≤n)=true:=gL
   go_wp2
   go_ret
   exact ⟨kP (by simp [inR,h]),rfl⟩
 have hd:decide (a≤n)=false:=gL
 go_wp2
 go_ret
 exact ⟨kP (by simp [inR];omega),rfl⟩
end Go.Proofs.Ytpgnbablhdknnaa

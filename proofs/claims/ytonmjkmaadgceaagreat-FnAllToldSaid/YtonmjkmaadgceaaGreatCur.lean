/-
  The cursor that the reference draws from.
-/
import Derived.Test.YtonmjkmaadgceaaGreatSoft
set_option linter.unusedVariables false
set_option linter.unusedSimpArgs false
set_option linter.unnecessarySimpa false
set_option maxRecDepth 100000
set_option maxHeartbeats 4000000
namespace Go.Proofs.YtonmjkmaadgceaaGreat
open Go _root_.Go.Proofs.Tryz
section
variable {P:Program} {ops:Array Oper} {S:World→Prop} {Q:Exit→Act→World→Prop}
def kIr (md:Region.Mode) (ops:Array Oper) (n g:Nat):List (Nat × Bool)→Array Bool→Bool
  | [],listed=>Region.seqB md ops g n listed
  | (k,true) :: p,listed=>(Region.ready md ops listed).contains k && Region.free md ops listed k && kIr md ops n g p (listed.setIfInBounds k true)
  | (k,false) :: p,listed=>(Region.ready md ops listed==[k]) && kIr md ops n g p (listed.setIfInBounds k true)
def softTPOk (md:Region.Mode) (ops:Array Oper) (q:List (Nat × Bool)):Bool :=
  Region.noSelect ops && (decide (q.length < ops.size) && (q.all (fun x=>decide (x.1 < q.length)) && (Region.sinkB md ops q.length && (Region.chainB md ops q.length && kIr md ops q.length (ops.size - q.length) q (Array.replicate ops.size false)))))
theorem kGx {l:List Oper} {n g:Nat} (D:Region.noSelect l.toArray=true) (hQ:∀ c a d v w,Q (.panic c) (Act.put a d v) w→Q (.panic c) a w)
    (hs:Region.sinkB .any l.toArray n=true) (hc:Region.chainB .any l.toArray n=true) (hn:n < l.toArray.size) (hg:n + g=l.length):∀ (q:List (Nat × Bool)) (k:Nat) (listed:Array Bool) (a:Act) (w:World),
    q.all (fun x=>decide (x.1 < n))=true→HeadInv .any l.toArray n listed→kIr .any l.toArray n g q listed=true→S w→kCs P l.toArray S Q k (jD l q++l.drop n) (q.map (·.2)) a w →
    kCl P .any l.toArray Q S n (fun listed a w=>Region.seqB .any l.toArray g n listed=true∧∃ r,(∀ j,r[j]?=l.toArray[n + j]?)∧r.length=g∧wpList P l.toArray Q r a w) q.length listed a w
  | [],k,listed,a,w,_,inv,hB,hS,h=>by
    refine ⟨by simpa [kIr] using hB,l.drop n,fun j=>by simp [List.getElem?_drop],by simp;omega,?_⟩
    simp only [jD,List.nil_append,List.map_nil] at h
    generalize l.drop n=r at h ⊢
    cases r <;> exact h
  | (i,true) :: q,k,listed,a,w,hi,inv,hB,hS,h=>by
    simp only [List.all_cons,Bool.and_eq_true,decide_eq_true_eq] at hi
    have H:i < l.toArray.size:=Nat.lt_trans hi.1 hn
    have h0:l.toArray[i]?=some l.toArray[i]:=Array.getElem?_eq_getElem H
    have hp:jD l ((i,true) :: q)=l.toArray[i] :: jD l q:=by
      exact mD
    rw [hp] at h
    obtain ⟨v,hy,h⟩:=h
    simp only [kIr,Bool.and_eq_true] at hB
    have hr:i∈Region.ready .any l.toArray listed:=vO
    exact kLi h0 (Region.noSelect_spec D) (fun c a w=>hQ c a _ _ w) hs hc hn hi.1 (fun F a' w' J=>seqB_ready J.1) q.length listed a w inv (Region.free_spec h0 hB.1.2) hr hy hS
      (kGx D hQ hs hc hn hg q (k + 1) _ _ _ hi.2 (inv.set hr hi.1) hB.2 hS h)
  | (i,false) :: q,k,listed,a,w,hi,inv,hB,hS,h=>by
    simp only [List.all_cons,Bool.and_eq_true,decide_eq_true_eq] at hi
    have H:i < l.toArray.size:=Nat.lt_trans hi.1 hn
    have h0:l.toArray[i]?=some l.toArray[i]:=Array.getElem?_eq_getElem H
    have hp:jD l ((i,false) :: q)=l.toArray[i] :: jD l q:=by
      exact mD
    rw [hp] at h
    simp only [kIr,Bool.and_eq_true,beq_iff_eq] at hB
    have hr:i∈Region.ready .any l.toArray listed:=bA2
    refine ⟨by rw [hB.1];simp,fun j I=>?_⟩
    rw [hB.1] at I
    obtain rfl:j=i:=bA6
    refine ⟨hi.1,?_⟩
    refine wpOp_mono (fun a' w' G=>⟨G.1,kGx D hQ hs hc hn hg q (k + 1) _ _ _ hi.2 (inv.set hr hi.1) hB.2 G.1 G.2⟩) (K:=fun a' w'=>S w'∧kCs P l.toArray S Q (k + 1) (jD l q++l.drop n) (q.map (·.2)) a' w') ?_
    unfold wpOp
    simp only [h0]
    exact h
theorem jO {id:Nat} {a:Act} {w:World} {l:List Oper} (S:World→Prop) (q:List (Nat × Bool)) (hm:P.follows .mixedOrders=true) (hB:softTPOk .any l.toArray q=true)
    (hQ:∀ c a d v w,Q (.panic c) (Act.put a d v) w→Q (.panic c) a w) (hS:S { w with drawn:=w.drawn + 1 })
    (h:∀ w',S w'→soft P l.toArray S Q 0 (jD l q++l.drop q.length) (q.map (·.2)) a w'):(Code.region id l.toArray true).wp P Q a w:=by
 simp only [softTPOk,Bool.and_eq_true,decide_eq_true_eq] at hB
 have h:=h _ hS
 unfold soft at h
 have b0:l.toArray.size=l.length:=bC0
 have D:HeadInv .any l.toArray q.length (Array.replicate l.toArray.size false) :=
   ⟨by simp,fun j N _ hl=>pF,fun t _ ht=>getD_in bA0 (getD_replicate_false _ _)⟩
 have H:=kGx (g:=l.toArray.size - q.length) hB.1 hQ hB.2.2.2.1 hB.2.2.2.2.1 hB.2.1 (by have:=hB.2.1;omega) q 0 _ a _ hB.2.2.1 D hB.2.2.2.2.2 hS h
 refine wp_region_any hm ?_
 have:=kCb (Q:=Q) (g:=l.toArray.size - q.length) (fun listed a' w' J=>by
   obtain ⟨hq,E,ho,G,hw⟩:=J
   have:=wpAny_of_seq (md:=.any) (Q':=Q) E q.length listed a' w' ho (by rw [G];exact hq) hw
   rwa [G] at this) _ _ _ _ H
 rw [show q.length + (l.toArray.size - q.length)=l.toArray.size by have:=hB.2.1;omega] at this
 exact this
end
end Go.Proofs.YtonmjkmaadgceaaGreat
namespace Go.Proofs.YtonmjkmaadgceaaGreat
open Go.RowKit _root_.Go.Proofs.Tryz
namespace kE
section
variable {α:Type} {r:kE α} {e:TypeId} {w:World} {a:Option Addr} {len cap:Nat} {xs:List α} {o:Bool} {S:Nat→Prop}
theorem row_cut {cells:List Value} {ys:List α} (h:row r o w cells ys S) {k:Nat} (hk:k≤ys.length):∃ c d,cells=c++d∧c.length=k * r.n∧row r o w c (ys.take k) S∧row r o w d (ys.drop k) S:=by
 by_cases h1:k < ys.length
 · obtain ⟨p,c,q,A,B,C,rfl,hp,ra,rb,rc,hA,hB,hC,D⟩:=kOu h h1
   refine ⟨p,c++q,rfl,hp,yH ra hA,?_⟩
   rw [List.drop_eq_getElem_cons h1]
   exact ⟨c,q,B,C,rfl,rb,rc,hB,hC,fun ho k=>(D ho k).2.2⟩
 obtain rfl:k=ys.length:=bB9
 have:=zH h
 exact ⟨cells,[],by simp,this,by simpa using h,by simp [row]⟩
theorem kCc (h:(slice e r).raw w [.slice a len cap] xs) {k:Nat} (hk:k≤xs.length):(slice e r).raw w [.slice a k cap] (xs.take k):=by
 obtain ⟨a',H,cap',h0,h1,h2,h3,h4⟩:=h
 simp only [List.cons.injEq,Value.slice.injEq,and_true] at h0
 obtain ⟨rfl,rfl,rfl⟩:=h0
 refine ⟨a,k,cap,rfl,by simp;omega,by omega,h3,?_⟩
 rcases h4 with ⟨rfl,_⟩|⟨b,off,ha,cur,e',fr,p,c,q,hb,hc,hp,hl,hf,hS,hx⟩
 · exact .inl ⟨by simp,by simp⟩
 obtain ⟨c1,c2,rfl,N,r1,r2⟩:=row_cut hx hk
 exact .inr ⟨b,off,ha,cur,e',fr,p,c1,c2++q,hb,by rw [hc];simp,hp,hl,by simp,hS,r1⟩
theorem jf:(slice e r).own w [.slice a 0 0] [] S:=⟨⟨_,_,_,rfl,rfl,Nat.le_refl _,Nat.zero_le _,.inl ⟨rfl,fun _=>rfl⟩⟩,by simp [slice]⟩
theorem kWq (h:(slice e r).raw w [.slice a len cap] xs):∃ cells,Src w (.slice a len cap) xs.length cells∧row r false w cells xs (fun _=>True):=by
 obtain ⟨a',H,cap',h0,h1,h2,h3,h4⟩:=h
 simp only [List.cons.injEq,Value.slice.injEq,and_true] at h0
 obtain ⟨rfl,rfl,rfl⟩:=h0
 rcases h4 with ⟨rfl,_⟩|⟨b,off,ha,cur,e',fr,p,c,q,hb,hc,hp,hl,hf,hS,hx⟩
 · subst h1
   exact ⟨[],.inl ⟨rfl,_,_,rfl⟩,rfl⟩
 subst ha h1
 refine ⟨c,.inr ⟨_,_,rfl,?_⟩,yH hx (fun _ _=>trivial)⟩
 intro j u I
 have F:(⟨b,off,none⟩:Addr).add j=⟨b,off + j,none⟩:=qN
 have av:=(List.getElem?_eq_some_iff.1 I).1
 rw [F]
 simp only [World.cell?,hb,Option.isSome_none,Bool.false_eq_true,if_false]
 rw [← Array.getElem?_toList,hc,List.getElem?_append_right bB9,List.getElem?_append_left bB9]
 rw [← I];congr 1;omega
end
end kE
namespace kE
variable {α:Type} {r:kE α} {e:TypeId} {w:World} {a:Option Addr} {len cap:Nat} {xs:List α}
theorem kCq (h:(slice e r).raw w [.slice a len cap] xs):xs.length≤cap∧cap≤9223372036854775807:=by
 obtain ⟨a',H,cap',h0,h1,h2,h3,h4⟩:=h
 simp only [List.cons.injEq,Value.slice.injEq,and_true] at h0
 obtain ⟨rfl,rfl,rfl⟩:=h0
 unfold maxLen at h3
 exact ⟨by omega,by omega⟩
end kE
namespace kE
section
variable {α:Type} {r:kE α} {e:TypeId} {w w':World} {v:Value} {xs ys:List α} {S T:Nat→Prop}
theorem kAr {P:Program} {ops:Array Oper} {rest:List Oper} {o:Oper} {a:Act} {Q:Exit→Act→World→Prop} (D:o.guard=none) (s x:Operand) (t:TypeId)
    (ho:o.op=.call { callee:=.builtin .append,args:=#[s,x],argTypes:=#[t,t] })
    {z:Value} {bytes:Nat} (ht:P.underlying t=some (.slice e)) (hinf:(P.info? e).map (fun i=>(i.zero,i.size,i.bytes))=some (some z,r.n,bytes)) (hzs:z.cells.size=r.n) (hn:0 < r.n) (hby:bytes≤1000)
    (hown:ku e r w v xs S) (hs:a.eval s=v) {b:Nat} (hx:a.eval x=.slice (some ⟨b,0,none⟩) 1 1) (hb:b=w.heap.size) {cs:List Value} {y:α} (hy:r.own w cs y T)
    {u:World} (hu:u=w.alloc (.cells cs.toArray e)) (hST:∀ k,S k→T k→False) (hlen:xs.length + 1≤1000000000)
    (h:∀ v' w',ku e r w' v' (xs++[y]) (fun k=>S k∨T k∨(w.heap.size + 1≤k∧k < w'.heap.size))→Touch (fun k=>some k=v.ownBlock∧S k) u w'→wpList P ops Q rest (a.put o.dst v') w'):wpList P ops Q (o :: rest) a u:=by
 subst hu hb
 obtain ⟨i,hi,hz,hsize,E⟩:=info_parts hinf
 have hl:=r.len hy.1
 have G:ku e r (w.alloc (.cells cs.toArray e)) v xs (fun k=>S k∧k < w.heap.size):=(ku.alloc hown.live _)
 have H:=hy.live.alloc (.cells cs.toArray e)
 refine wpList_push D s x t ho (r:=r) (e:=e) ht hi hz hsize hzs hn bB9 G hs hx (m:=1) (cells:=cs) (ys:=[y]) (T:=fun k=>T k∧k < w.heap.size) (.inr ⟨_,1,rfl,?_⟩)
   ⟨cs,[],_,fun _=>False,by simp,H.1,rfl,fun _ h=>h,fun _ h=>h.elim,fun _ _ _ h=>h.elim⟩ rfl (fun k h1 h2=>hST k h1.1 h2.1) (by simpa using hy.2) vY ?_
 · intro j c I
   have F:(⟨w.heap.size,0,none⟩:Addr).add j=⟨w.heap.size,j,none⟩:=qN
   rw [F]
   exact kF (heap_alloc_new w _) bA6
 intro v' w' h1 h2
 refine h v' w' (h1.wide ?_) ⟨h2.os,h2.tape,h2.output,h2.size,fun k hk q=>h2.block k hk (fun a=>q ⟨a.1,a.2.1⟩)⟩
 intro k hk
 rcases hk with hk | hk | hk
 · exact .inl hk.1
 · exact .inr (.inl hk.1)
 exact .inr (.inr ⟨by simpa using hk.1,hk.2⟩)
theorem jK {P:Program} {ops:Array Oper} {rest:List Oper} {o:Oper} {a:Act} {Q:Exit→Act→World→Prop} (D:o.guard=none) (s x:Operand) (t:TypeId)
    (ho:o.op=.call { callee:=.builtin .append,args:=#[s,x],argTypes:=#[t,t] })
    {z:Value} {bytes:Nat} (ht:P.underlying t=some (.slice e)) (hinf:(P.info? e).map (fun i=>(i.zero,i.size,i.bytes))=some (some z,r.n,bytes)) (hzs:z.cells.size=r.n) (hn:0 < r.n) (hby:bytes≤1000)
    {B:Nat} (hown:ku e r w v xs S) (hs:a.eval s=v) {b:Nat} (hx:a.eval x=.slice (some ⟨b,0,none⟩) 1 1) (hb:b=w.heap.size) {cs:List Value} {y:α} (hy:r.own w cs y T)
    {u:World} (hu:u=w.alloc (.cells cs.toArray e)) (hST:∀ k,S k→T k→False) (hSB:∀ k,S k→B≤k∧k < w.heap.size) (hTB:∀ k,T k→B≤k∧k < w.heap.size) (hB:B≤w.heap.size) (hlen:xs.length + 1≤1000000000)
    (h:∀ v' w',ku e r w' v' (xs++[y]) (jR B w'.heap.size)→Below B w w'→w.heap.size < w'.heap.size→wpList P ops Q rest (a.put o.dst v') w'):wpList P ops Q (o :: rest) a u:=by
 refine kAr D s x t ho ht hinf hzs hn hby hown hs hx hb hy hu hST hlen ?_
 intro v' w' h1 h2
 subst hu
 have b0:=h2.size
 simp at b0
 refine h v' w' (h1.wide ?_) ?_ bB9
 · intro k hk
   rcases hk with hk | hk | hk
   · have:=hSB k hk;exact ⟨this.1,by omega⟩
   · have:=hTB k hk;exact ⟨this.1,by omega⟩
   exact ⟨by omega,hk.2⟩
 refine ((Below.refl B w).alloc hB _).trans (h2.below ?_ ?_)
 · simp;omega
 intro k hk;have:=hSB k hk.2;omega
end
end kE
end Go.Proofs.YtonmjkmaadgceaaGreat
namespace Go.Proofs.YtonmjkmaadgceaaGreat
open _root_.Go.Proofs.Tryz
theorem zu:(prog.info? 3).map (fun i=>(i.zero,i.size,i.bytes))=some (some (.int .i64 0),1,8):=by kernel_rfl
theorem kCp:(prog.info? 9).map (fun i=>(i.zero,i.size,i.bytes))=some (some (.string ByteArray.empty),1,16):=by kernel_rfl
theorem kBl:(prog.info? 5).map (fun i=>(i.zero,i.size,i.bytes))=some (some (.int .u8 0),1,1):=by kernel_rfl
theorem infName:(prog.info? 41).map (fun i=>(i.zero,i.size,i.bytes))=some (some (.agg #[.slice none 0 0]),1,24):=by kernel_rfl
theorem yg:(prog.info? 105).map (fun i=>(i.zero,i.size,i.bytes))=some (some (.agg #[.slice none 0 0,.int .i64 0,.int .i64 0]),3,40):=by kernel_rfl
theorem kKj:(prog.info? 102).map (fun i=>(i.zero,i.size,i.bytes))=some (some (.agg #[.slice none 0 0,.int .i64 0,.int .i64 0]),3,40):=by kernel_rfl
theorem kBk:(prog.info? 73).map (fun i=>(i.zero,i.size,i.bytes))=some (some (.agg #[.int .i64 0,.int .i64 0,.int .i64 0]),3,24):=by kernel_rfl
theorem jy:(prog.info? 71).map (fun i=>(i.zero,i.size,i.bytes))=some (some (.agg #[.slice none 0 0,.slice none 0 0,.int .i64 0]),3,56):=by kernel_rfl
theorem kEh:(prog.info? 123).map (fun i=>(i.zero,i.size,i.bytes))=some (some (.agg #[.slice none 0 0,.int .i64 0]),2,32):=by kernel_rfl
theorem kKv:(prog.info? 43).map (fun i=>(i.zero,i.size,i.bytes))=some (some (.agg #[.slice none 0 0,.slice none 0 0,.slice none 0 0,.int .i64 0,.int .i64 0]),5,88):=by kernel_rfl
theorem yL:(prog.info? 98).map (fun i=>(i.zero,i.size,i.bytes))=some (some (.agg #[.slice none 0 0,.slice none 0 0,.slice none 0 0,.int .i64 0,.int .i64 0,.int .i64 0]),6,96):=by kernel_rfl
theorem kQm:(prog.info? 81).map (fun i=>(i.zero,i.size,i.bytes))=some (some (.agg #[.int .i64 0,.bool false,.slice none 0 0,.int .i64 0,.int .i64 0,.int .i64 0,.slice none 0 0,.slice none 0 0,.slice none 0 0,.int .i64 0,.int .i64 0]),11,152):=by kernel_rfl
theorem infRule:(prog.info? 184).map (fun i=>(i.zero,i.size,i.bytes))=some (some (.agg #[.slice none 0 0,.slice none 0 0]),2,48):=by kernel_rfl
theorem kTg:(prog.info? 223).map (fun i=>(i.zero,i.size,i.bytes))=some (some (.agg #[.string ByteArray.empty,.string ByteArray.empty]),2,32):=by kernel_rfl
end Go.Proofs.YtonmjkmaadgceaaGreat
namespace Go.Proofs.YtonmjkmaadgceaaGreat
open Go.RowKit _root_.Go.Proofs.Tryz
def inR (n a b:Int):Bool:=decide (a≤n) && decide (n≤b)
theorem ji {w:World} {n a b:Int}:Calls prog 52 #[.int .i64 n,.int .i64 a,.int .i64 b] w fun e w'=>e=.returned (.bool (inR n a b))∧w'=w:=by
 go_enter func52,ntmps52
 by_cases h:n ≥ a
 · have hd:decide (n ≥ a)=true:=bA5
   go_wp2
   go_ret
   exact ⟨kR (by simp [inR,h]),rfl⟩
 have hd:decide (n ≥ a)=false:=bA5
 go_wp2
 go_ret
 exact ⟨kR (by simp [inR];omega),rfl⟩
theorem jh {w:World} {n a b:Int}:Calls prog 43 #[.int .i64 n,.int .i64 a,.int .i64 b] w fun e w'=>e=.returned (.bool (inR n a b))∧w'=w:=by
 go_enter func43,ntmps43
 by_cases h:a≤n
 · have hd:decide (a≤n)=true:=bA5
   go_wp2
   go_ret
   exact ⟨kR (by simp [inR,h]),rfl⟩
 have hd:decide (a≤n)=false:=bA5
 go_wp2
 go_ret
 exact ⟨kR (by simp [inR];omega),rfl⟩
theorem and255 (x:Int):0≤bits BinOp.and IntKind.i64 x 255∧bits BinOp.and IntKind.i64 x 255≤255:=by
 unfold bits
 simp only
 rw [IntKind.wrap_i64]
 have h:(BitVec.ofInt IntKind.i64.bits x &&& BitVec.ofInt IntKind.i64.bits 255).toNat≤255:=by
  rw [BitVec.toNat_and];exact Nat.le_trans Nat.and_le_right bB8
 omega
def yK (w0 w:World) (p:Nat):Prop:=Below w0.heap.size w0 w∧w0.heap.size≤p∧∃ (a:Option Addr) (c:Nat) (i h:Int) (ac:List UInt8),w.heap[p]?=some (.cells #[.slice a ac.length c,.int .i64 i,.int .i64 h] 129 (0,0))∧(kE.slice 5 kE.byte).raw w0 [.slice a ac.length c] ac∧0≤i∧i≤ac.length
theorem yK.below {w0 w w':World} {p:Nat} (h:yK w0 w p) (b:Below w.heap.size w w'):yK w0 w' p:=by
 obtain ⟨h1,h2,a,c,i,hh,ac,h3,h4⟩:=h
 exact ⟨(tQ h1 b),h2,a,c,i,hh,ac,(b.block _ (Array.getElem?_eq_some_iff.1 h3).1).trans h3,h4⟩
theorem yK.touch {S:Nat→Prop} {w0 w w':World} {p:Nat} (h:yK w0 w p) (t:Touch S w w') (hp:¬ S p) (h0:∀ k,S k→w0.heap.size≤k):yK w0 w' p:=by
 obtain ⟨h1,h2,a,c,i,hh,ac,h3,h4⟩:=h
 exact ⟨h1.trans (t.below h1.size h0),h2,a,c,i,hh,ac,(t.block _ (Array.getElem?_eq_some_iff.1 h3).1 hp).trans h3,h4⟩
theorem yK.lt {w0 w:World} {p:Nat} (h:yK w0 w p):w0.heap.size≤p∧p < w.heap.size:=by
 obtain ⟨h1,h2,a,c,i,hh,ac,h3,h4⟩:=h
 exact ⟨h2,(Array.getElem?_eq_some_iff.1 h3).1⟩
theorem yK.size {w0 w:World} {p:Nat} (h:yK w0 w p):Below w0.heap.size w0 w:=h.1
theorem kUv (w:World) (p j:Nat) (v:Value):Touch (fun k=>k=p) w (w.setCell ⟨p,j,none⟩ v):=kE.zn [v] w p j
theorem kEa {w0 w:World} {p:Nat} (hc:yK w0 w p) :
    Calls prog 41 #[.pointer (some ⟨p,0,none⟩)] w fun e w'=>∃ x:Int,0≤x∧x≤255∧e=.returned (.int .i64 x)∧yK w0 w' p∧Touch (fun k=>k=p) w w':=by
 obtain ⟨dc,b7,a,c,i,h,ac,hh,F,bh,ak⟩:=hc
 obtain ⟨m,rfl⟩:=Int.eq_ofNat_of_zero_le bh
 obtain ⟨_,_,_,N⟩:=kE.kAx F
 have ee:m≤ac.length:=bB9
 clear bh ak
 have HC:=yD F
 have HW:=yD dc
 have dz:p < w.heap.size:=(Array.getElem?_eq_some_iff.1 hh).1
 have E:w.cell? ⟨p,0,none⟩=some (.slice a ac.length c):=kF hh rfl
 have I:w.cell? ⟨p,1,none⟩=some (.int .i64 (m:Int)):=kF hh rfl
 have V:w.cell? ⟨p,2,none⟩=some (.int .i64 h):=kF hh rfl
 have bg:∀ j,w.frozen? ⟨p,j,none⟩=false:=fun j=>frozen_of_row w p j _ _ hh
 have Z2:=bg 2
 have HH:=yD hh
 clear F hh dc bg
 go_enter func41,ntmps41
 go_upto_region 2 with fail
 generalize hH:wrap64 (wrap64 (h * 6364136223846793005) + 1442695040888963407)=H
 generalize O:World.setCell w _ _=wA
 have D:wA.heap[p]?=some (.cells #[.slice a ac.length c,.int .i64 (m:Int),.int .i64 H] 129 (0,0)):=by rw [← O];have q:=heap_setCell_same w p 2 _ _ (.int .i64 H) HH.out;simpa using q
 have TA:Touch (fun k=>k=p) w wA:=by rw [← O];exact kUv w p 2 _
 clear O E I V Z2 hH
 have E:wA.cell? ⟨p,0,none⟩=some (.slice a ac.length c):=kF D rfl
 have I:wA.cell? ⟨p,1,none⟩=some (.int .i64 (m:Int)):=kF D rfl
 have V:wA.cell? ⟨p,2,none⟩=some (.int .i64 H):=kF D rfl
 go_upto_region 2 with fail
 refine kW (fun W=>Below wA.heap.size wA W) [true,true,true,true,true,true,true,true,true,true,true,true,true] bB4 bB4 qD (bR.drew) ?_
 intro wS1 ae
 iterate 3
  all_goals first|(refine kK rfl ae ?_)|(refine jE (v:=?_) rfl (fun W hW=>?_) ?_;rotate_left;(· go_simp;try with_reducible rfl))
  all_goals refine kX ?_
 all_goals first|(refine kK rfl ae ?_)|(refine jE (v:=?_) rfl (fun W hW=>?_) ?_;rotate_left;(· have ah:=cL hW V;clear hW;go_simp;try with_reducible rfl))
 iterate 4
  all_goals refine kX ?_
  all_goals first|(refine kK rfl ae ?_)|(refine jE (v:=?_) rfl (fun W hW=>?_) ?_;rotate_left;(· go_simp;try with_reducible rfl))
 all_goals refine kX ?_
 all_goals first|(refine kK rfl ae ?_)|(refine jE (v:=?_) rfl (fun W hW=>?_) ?_;rotate_left;(· have ah:=cL hW V;clear hW;go_simp;try with_reducible rfl))
 iterate 4
  all_goals refine kX ?_
  all_goals first|(refine kK rfl ae ?_)|(refine jE (v:=?_) rfl (fun W hW=>?_) ?_;rotate_left;(· go_simp;try with_reducible rfl))
 all_goals refine kX ?_
 all_goals refine kZ ?_
 generalize hX:bits BinOp.and IntKind.i64 _ 255=X
 have ai:0≤X∧X≤255:=by rw [← hX];exact and255 _
 clear hX
 replace E:=cL ae E
 replace I:=cL ae I
 replace V:=cL ae V
 have aa:wS1.heap[p]?=_:=(ae.block p (Array.getElem?_eq_some_iff.1 D).1).trans D
 have E1:Touch (fun k=>k=p) w wS1:=TA.trans (Touch.of_below ae)
 clear ae D TA
 go_upto_region 3 with fail
 refine kW (fun W=>Below wS1.heap.size wS1 W) [true,true,true,true,true,true,true,true,true,true] bB4 bB4 qD (bR.drew) ?_
 intro bj c4
 iterate 3
  all_goals first|(refine kK rfl c4 ?_)|(refine jE (v:=?_) rfl (fun W hW=>?_) ?_;rotate_left;(· go_simp;try with_reducible rfl))
  all_goals refine kX ?_
 all_goals first|(refine kK rfl c4 ?_)|(refine jE (v:=?_) rfl (fun W hW=>?_) ?_;rotate_left;(· have R:=cL hW E;have U:=cL hW I;clear hW;go_simp;try with_reducible rfl))
 iterate 3
  all_goals refine kX ?_
  all_goals first|(refine kK rfl c4 ?_)|(refine jE (v:=?_) rfl (fun W hW=>?_) ?_;rotate_left;(· go_simp;try with_reducible rfl))
 all_goals refine kX ?_
 all_goals first|(refine kK rfl c4 ?_)|(refine jE (v:=?_) rfl (fun W hW=>?_) ?_;rotate_left;(· have R:=cL hW E;have U:=cL hW I;clear hW;go_simp;try with_reducible rfl))
 iterate 2
  all_goals refine kX ?_
  all_goals first|(refine kK rfl c4 ?_)|(refine jE (v:=?_) rfl (fun W hW=>?_) ?_;rotate_left;(· go_simp;try with_reducible rfl))
 all_goals refine kX ?_
 all_goals refine kZ ?_
 replace E:=cL c4 E
 replace I:=cL c4 I
 replace V:=cL c4 V
 have G:bj.heap[p]?=_:=(c4.block p (Array.getElem?_eq_some_iff.1 aa).1).trans aa
 have E2:Touch (fun k=>k=p) w bj:=E1.trans (Touch.of_below c4)
 clear c4 aa E1
 have Z:=HW.out.trans (E2.below HW.out.size (fun k hk=>by rw [hk];exact b7))
 by_cases hlt:m < ac.length
 · have de:(m:Int) < ac.length:=bB9
   have al:(0:Int)≤m:=bB9
   obtain ⟨cb,J,rfl,c0,cr,bd⟩:=kE.kBo (HC.out) hlt rfl
   have AC:=cL Z bd
   have be:[c0]=[.int .u8 (ac[m].toNat:Int)]:=cr
   obtain rfl:c0=.int .u8 (ac[m].toNat:Int):=wK
   clear cr be
   generalize ac[m]=by0 at *
   go_upto_region 4 with fail
   refine kW (fun W=>Below bj.heap.size bj W) [true,true,true,true,true,true,true,true,true,true,true,true,true,true,true] bB4 bB4 qD (bR.drew) ?_
   intro a5 ap
   iterate 4
    all_goals first|(refine kK rfl ap ?_)|(refine jE (v:=?_) rfl (fun W hW=>?_) ?_;rotate_left;(· go_simp;try with_reducible rfl))
    all_goals refine kX ?_
   all_goals first|(refine kK rfl ap ?_)|(refine jE (v:=?_) rfl (fun W hW=>?_) ?_;rotate_left;(· have R:=cL hW E;have U:=cL hW I;have aj:=cL hW AC;clear hW;go_simp;try with_reducible rfl))
   iterate 3
    all_goals refine kX ?_
    all_goals first|(refine kK rfl ap ?_)|(refine jE (v:=?_) rfl (fun W hW=>?_) ?_;rotate_left;(· go_simp;try with_reducible rfl))
   iterate 2
    all_goals refine kX ?_
    all_goals first|(refine kK rfl ap ?_)|(refine jE (v:=?_) rfl (fun W hW=>?_) ?_;rotate_left;(· have R:=cL hW E;have U:=cL hW I;have aj:=cL hW AC;clear hW;go_simp;try with_reducible rfl))
    all_goals refine kX ?_
    all_goals first|(refine kK rfl ap ?_)|(refine jE (v:=?_) rfl (fun W hW=>?_) ?_;rotate_left;(· go_simp;try with_reducible rfl))
   iterate 3
    all_goals refine kX ?_
    all_goals first|(refine kK rfl ap ?_)|(refine jE (v:=?_) rfl (fun W hW=>?_) ?_;rotate_left;(· go_simp;try with_reducible rfl))
   all_goals refine kX ?_
   all_goals refine kZ ?_
   generalize hY:bits BinOp.and IntKind.i64 _ 255=Y
   have ag:0≤Y∧Y≤255:=by rw [← hY];exact and255 _
   clear hY
   replace E:=cL ap E
   replace I:=cL ap I
   replace V:=cL ap V
   have af:a5.heap[p]?=_:=(ap.block p (Array.getElem?_eq_some_iff.1 G).1).trans G
   have E3:Touch (fun k=>k=p) w a5:=E2.trans (Touch.of_below ap)
   have Z1:=frozen_of_row a5 p 1 _ _ af
   clear ap G E2
   have hw:wrap64 ((m:Int) + 1)=(m:Int) + 1:=by unfold wrap64;omega
   have am:IntKind.i64.wrap ((m:Int) + 1)=(m:Int) + 1:=by rw [IntKind.wrap_i64];omega
   have L:=heap_setCell_same a5 p 1 _ _ (.int .i64 ((m:Int) + 1)) af
   have E4:Touch (fun k=>k=p) w (a5.setCell ⟨p,1,none⟩ (.int .i64 ((m:Int) + 1))):=E3.trans (kUv _ _ _ _)
   have ab:Hid (yK w0 (a5.setCell ⟨p,1,none⟩ (.int .i64 ((m:Int) + 1))) p):=yD ⟨HW.out.trans (E4.below HW.out.size (fun k hk=>by rw [hk];exact b7)),b7,_,c,(m:Int) + 1,H,ac,by simpa using L,HC.out,by omega,by omega⟩
   have HE:=yD E4
   clear L E4 E3 af
   go_wp2
   go_ret
   exact ⟨Y,ag.1,ag.2,rfl,ab.out,HE.out⟩
 have de:¬ (m:Int) < ac.length:=bB9
 have ab:Hid (yK w0 bj p):=yD ⟨Z,b7,a,c,m,H,ac,G,HC.out,by omega,by omega⟩
 go_wp2
 go_ret
 exact ⟨X,ai.1,ai.2,rfl,ab.out,E2⟩
theorem specl1New_o {w0 w:World} {v:Value} {ac:List UInt8} (da:(kE.slice 5 kE.byte).raw w0 [v] ac) (dc:Below w0.heap.size w0 w) :
    Calls prog 38 #[v] w fun e w'=>∃ p,e=.returned (.pointer (some ⟨p,0,none⟩))∧yK w0 w' p∧w.heap.size≤p∧Below w.heap.size w w':=by
 have hl:=da.below dc
 have H0:=yD da
 have ah:=yD dc
 clear da dc
 obtain ⟨a,c,rfl,N⟩:=kE.sl hl
 have HL:=yD hl
 clear hl
 go_enter func38,ntmps38
 go_wp2
 go_loopw [3,4] (fun h i wr=>∃ (k:Nat) (z:Int),k≤ac.length∧i=.int .i64 k∧h=.int .i64 z∧Below w.heap.size w wr) (fun _ i _=>ac.length - (intOf i).toNat)
 case atStart=>exact ⟨0,_,Nat.zero_le _,rfl,rfl,bR⟩
 obtain ⟨k,z,hk,rfl,rfl,D⟩:=hrel
 have F:∀ wx,Below w.heap.size w wx→yK w0 (wx.alloc (.cells #[.slice a ac.length c,.int .i64 0,.int .i64 z] 129)) wx.heap.size:=fun wx hx =>
   ⟨(tQ ah.out hx).alloc (Nat.le_trans ah.out.size hx.size) _,Nat.le_trans ah.out.size hx.size,a,c,0,z,ac,heap_alloc_new wx _,H0.out,by omega,by omega⟩
 have E:=yD F;clear F
 by_cases hlt:k < ac.length
 · have a8:=Int.ofNat_lt.2 hlt
   have di:=Int.natCast_nonneg k
   obtain ⟨cb,J,rfl,c0,cr,bd⟩:=kE.kBo HL.out hlt rfl
   have AC:=cL D bd
   have be:[c0]=[.int .u8 (ac[k].toNat:Int)]:=cr
   obtain rfl:c0=.int .u8 (ac[k].toNat:Int):=wK
   clear cr be
   generalize ac[k]=by0 at *
   by_cases h4:(k:Int) < 4000
   · go_wp2
     go_roundw
     case rel=>exact ⟨k + 1,_,by omega,by go_num,rfl,D⟩
     simp [intOf];omega
   go_wp2
   go_ret
   exact ⟨_,rfl,E.out _ D,D.size,D.alloc D.size _⟩
 have a6:¬ (k:Int) < ac.length:=bB9
 go_wp2
 go_ret
 exact ⟨_,rfl,E.out _ D,D.size,D.alloc D.size _⟩
theorem kV {w0 w:World} {p:Nat} (hc:yK w0 w p) {n:Int} (hn:n≤256) :
    Calls prog 14 #[.pointer (some ⟨p,0,none⟩),.int .i64 n] w fun e w'=>∃ x:Int,0≤x∧(0 < n→x < n)∧(n≤0→x=0)∧e=.returned (.int .i64 x)∧yK w0 w' p∧Touch (fun k=>k=p) w w':=by
 by_cases h0:n≤0
 · go_enter func14,ntmps14
   go_wp2
   go_ret
   exact ⟨0,by omega,by omega,fun _=>rfl,rfl,hc,Touch.of_below bR⟩
 go_enter func14,ntmps14
 go_wp2_with fail
 refine (kEa hc).mono ?_
 rintro e w1 ⟨x,ax,Z,rfl,ag,D⟩
 have hne:¬ n=0:=bB9
 have J:¬ n < 0:=bB9
 go_wp2
 go_ret
 refine ⟨_,?_,?_,fun q=>absurd q bB9,rfl,ag,D⟩
 · exact Int.emod_nonneg _ bB9
 exact fun q=>Int.emod_lt_of_pos _ q
theorem zk {w0 w:World} {p:Nat} (hc:yK w0 w p) {n:Int} (hn:n≤256) :
    Calls prog 83 #[.pointer (some ⟨p,0,none⟩),.int .i64 n] w fun e w'=>∃ b:Bool,e=.returned (.bool b)∧yK w0 w' p∧Touch (fun k=>k=p) w w':=by
 go_enter func83,ntmps83
 go_wp2_with fail
 refine (kV hc hn).mono ?_
 rintro e w1 ⟨x,ax,Z,b4,rfl,ag,D⟩
 go_wp2
 go_ret
 exact ⟨_,rfl,ag,D⟩
theorem kBh {w0 w:World} {p:Nat} (hc:yK w0 w p) {v:Value} {xs:List Int} {S:Nat→Prop} (hl:(kE.slice 3 kE.int).own w [v] xs S) (hp:¬ S p) (h0:0 < xs.length) (h1:xs.length≤256) :
    Calls prog 115 #[.pointer (some ⟨p,0,none⟩),v] w fun e w'=>∃ y,y∈xs∧kE.int.raw w' [.int .i64 y] y∧e=.returned (.int .i64 y)∧yK w0 w' p∧Touch (fun k=>k=p) w w':=by
 have HL:=yD hl
 obtain ⟨a,c,rfl,N⟩:=kE.sl hl.raw
 clear hl
 go_enter func115,ntmps115
 go_wp2_with fail
 refine (kV hc bB9).mono ?_
 rintro e w1 ⟨x,ax,Z,b4,rfl,ag,D⟩
 have H:=yD (HL.out.keep (fun k hk hl=>D.block k hl (fun q=>hp (q ▸ hk))))
 obtain ⟨k,rfl⟩:=Int.eq_ofNat_of_zero_le ax
 have a8:=Z bB9
 have aa:k < xs.length:=bB9
 have di:=Int.natCast_nonneg k
 obtain ⟨cb,J,rfl,c0,cr,AC⟩:=kE.kBo H.out.raw aa rfl
 have E:=List.getElem_mem aa
 generalize xs[k]=y at *
 have HR:=yD cr
 obtain ⟨Y,_⟩:=kE.yz cr
 obtain rfl:c0=.int .i64 y:=by simpa using Y
 clear Y cr ax Z b4
 go_wp2
 go_ret
 exact ⟨y,E,HR.out,rfl,ag,D⟩
theorem zo {w0 w:World} {p:Nat} (hc:yK w0 w p) {v:Value} {xs:List ByteArray} {S:Nat→Prop} (hl:(kE.slice 9 kE.str).own w [v] xs S) (hp:¬ S p) (h0:0 < xs.length) (h1:xs.length≤256) :
    Calls prog 123 #[.pointer (some ⟨p,0,none⟩),v] w fun e w'=>∃ y,y∈xs∧kE.str.raw w' [.string y] y∧e=.returned (.string y)∧yK w0 w' p∧Touch (fun k=>k=p) w w':=by
 have HL:=yD hl
 obtain ⟨a,c,rfl,N⟩:=kE.sl hl.raw
 clear hl
 go_enter func123,ntmps123
 go_wp2_with fail
 refine (kV hc bB9).mono ?_
 rintro e w1 ⟨x,ax,Z,b4,rfl,ag,D⟩
 have H:=yD (HL.out.keep (fun k hk hl=>D.block k hl (fun q=>hp (q ▸ hk))))
 obtain ⟨k,rfl⟩:=Int.eq_ofNat_of_zero_le ax
 have a8:=Z bB9
 have aa:k < xs.length:=bB9
 have di:=Int.natCast_nonneg k
 obtain ⟨cb,J,rfl,c0,cr,AC⟩:=kE.kBo H.out.raw aa rfl
 have E:=List.getElem_mem aa
 generalize xs[k]=y at *
 have HR:=yD cr
 obtain ⟨Y,_⟩:=kE.yY cr
 obtain rfl:c0=.string y:=by simpa using Y
 clear Y cr ax Z b4
 go_wp2
 go_ret
 exact ⟨y,E,HR.out,rfl,ag,D⟩
end Go.Proofs.YtonmjkmaadgceaaGreat

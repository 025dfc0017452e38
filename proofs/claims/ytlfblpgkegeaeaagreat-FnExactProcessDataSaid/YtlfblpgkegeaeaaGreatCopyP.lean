/-
  Data without memory of its own; appending a whole slice of such data. No program in sight.
  What a copying call hands back: a new slice at the head of its own block. No program in sight.
  The element types of slices: zero, size, bytes. Printed by geninfo.py.
  Regions with a head in another order than the text's, then a tail in sequence. No program in sight.
  Copies of names.
  Copies of slices whose elements have no memory of their own.
  Copies of pending interests and of nonces seen.
-/
import Derived.Test.YtlfblpgkegeaeaaGreatGap
import Derived.Deep.Cut
set_option linter.unusedVariables false
set_option linter.unusedSimpArgs false
set_option linter.unnecessarySimpa false
set_option maxRecDepth 100000
set_option maxHeartbeats 4000000
namespace Go.Proofs.YtlfblpgkegeaeaaGreat
open Go.RowKit
namespace Rep
def kEc {α:Type} (r:Rep α):Prop:=∀ {o:Bool} {w w':World} {cs:List Value} {x:α} {S:Nat→Prop},r.is o w cs x S→r.is true w' cs x (fun _=>False)
theorem jd:int.kEc:=fun h=>h
theorem kCa:byte.kEc:=fun h=>h
theorem kFf:str.kEc:=fun h=>h
theorem kIl {α β:Type} {r:Rep α} {s:Rep β} (h:r.kEc) (k:s.kEc):(pair r s).kEc:=by
 intro o w w' cs x S q
 obtain ⟨c,d,A,B,rfl,h1,h2,_⟩:=q
 exact ⟨c,d,_,_,rfl,h h1,k h2,fun _ h=>h,fun _ h=>h,fun _ _ h _=>h⟩
section
variable {α:Type} {r:Rep α} {e:TypeId} {w w':World} {v:Value} {xs ys:List α} {S T:Nat→Prop}
theorem kRk (hr:r.kEc) {o:Bool}:∀ {cells:List Value} {ys:List α} {S:Nat→Prop},row r o w cells ys S→row r true w' cells ys (fun _=>False)
  | _,[],_,h=>h
  | _,y :: ys,_,⟨c,d,A,B,h,h1,h2,_⟩=>⟨c,d,_,_,h,hr h1,kRk hr h2,fun _ h=>h,fun _ h=>h,fun _ _ h _=>h⟩
theorem kUm {P:Program} {t ty:TypeId} {z:Value} {bytes:Nat} (ht:P.underlying t=some (.slice e)) (hinf:(P.info? e).map (fun i=>(i.zero,i.size,i.bytes))=some (some z,r.n,bytes)) (hzs:z.cells.size=r.n) (hn:0 < r.n) (hby:bytes≤1000) (hf:r.kEc)
    {B:Nat} (hown:kg e r w v xs S) {av:Option Addr} {len cap:Nat} (hy:(slice e r).rd w [.slice av len cap] ys) (hSB:∀ k,S k→B≤k∧k < w.heap.size) (hB:B≤w.heap.size) (hlen:xs.length + ys.length≤1000000000) :
    ∃ v' w',(Builtin.append_ #[t,t] ty #[v,.slice av len cap]).run P w=.ok v' w'∧kg e r w' v' (xs++ys) (Btw B w'.heap.size)∧Below B w w'∧w.heap.size≤w'.heap.size:=by
 obtain ⟨i,hi,hz,hsize,hbytes⟩:=info_parts hinf
 obtain ⟨cells,hsrc,hrow⟩:=raw_src hy.1
 have hrow':row r true w cells ys (fun _=>False):=kRk hf hrow
 obtain ⟨v',w',hr,h2,h3⟩:=kFe (P:=P) (ty:=ty) ht hi hz hsize hzs hn rP hown hsrc (kAc hrow) (row_one hrow) hlen
 refine ⟨v',w',hr,(h3 hrow' (fun _ _ h=>h) hy.2.2).wide ?_,h2.below hB ?_,h2.size⟩
 · intro k hk
   have hs:=h2.size
   rcases hk with hk | hk | hk
   · have:=hSB k hk;exact ⟨this.1,by omega⟩
   · exact hk.elim
   exact ⟨by omega,hk.2⟩
 intro k hk;exact (hSB k hk.2).1
theorem jR {P:Program} {o:Oper} {a:Act} {K:Act→World→Prop} {Q:Exit→Act→World→Prop} (s x:Operand) (t:TypeId)
    (ho:o.op=.call { callee:=.builtin .append,args:=#[s,x],argTypes:=#[t,t] }) {v sv v':Value} (hs:a.eval s=v) (hx:a.eval x=sv) {w w':World}
    (hr:(Builtin.append_ #[t,t] o.type #[v,sv]).run P w=.ok v' w') (h:K (a.put o.dst v') w'):o.wp P a w K Q:=by
 unfold Oper.wp execOp
 simp only [ho,resolve,invoke,builtin,Sem.run_bind,Sem.run_pure,Result.andThen_ok,List.map_toArray,List.map_cons,List.map_nil,hs,hx,hr]
 exact h
theorem je {P:Program} {ops:Array Oper} {rest:List Oper} {o:Oper} {a:Act} {Q:Exit→Act→World→Prop} (hgd:o.guard=none) (s x:Operand) (t:TypeId)
    (ho:o.op=.call { callee:=.builtin .append,args:=#[s,x],argTypes:=#[t,t] })
    {z:Value} {bytes:Nat} (ht:P.underlying t=some (.slice e)) (hinf:(P.info? e).map (fun i=>(i.zero,i.size,i.bytes))=some (some z,r.n,bytes)) (hzs:z.cells.size=r.n) (hn:0 < r.n) (hby:bytes≤1000) (hf:r.kEc)
    {B:Nat} (hown:kg e r w v xs S) (hs:a.eval s=v) {av:Option Addr} {len cap:Nat} (hx:a.eval x=.slice av len cap) (hy:(slice e r).rd w [.slice av len cap] ys) (hSB:∀ k,S k→B≤k∧k < w.heap.size) (hB:B≤w.heap.size) (hlen:xs.length + ys.length≤1000000000)
    (h:∀ v' w',kg e r w' v' (xs++ys) (Btw B w'.heap.size)→Below B w w'→w.heap.size≤w'.heap.size→wpList P ops Q rest (a.put o.dst v') w'):wpList P ops Q (o :: rest) a w:=by
 refine wpList_plain hgd fun _ hK=>?_
 obtain ⟨v',w',hr,h1,h2,h3⟩:=kUm (ty:=o.type) ht hinf hzs hn hby hf hown hy hSB hB hlen
 exact jR s x t ho hs hx hr (hK _ _ (h v' w' h1 h2 h3))
end
end Rep
variable {α:Type} {r:Rep α} {e:TypeId} {w w':World} {v:Value} {xs ys:List α} {S:Nat→Prop}
def kAt (e:TypeId) (r:Rep α) (x:List α) (w:World) (E:Ending) (w':World):Prop:=∃ v,E=.returned v∧Rep.kg e r w' v x (Btw w.heap.size w'.heap.size)∧Below w.heap.size w w'
theorem Rep.kg.cast (h:Rep.kg e r w v xs S) (k:xs=ys):Rep.kg e r w v ys S:=k ▸ h
theorem Rep.kg.parts (h:Rep.kg e r w v xs S):∃ a n cap,v=.slice a n cap∧Hid (n=xs.length):=by
 obtain ⟨a,cap,h⟩:=h.ym
 exact ⟨a,_,cap,h,yD rfl⟩
theorem kAt.post {E:Ending} (h:kAt e r xs w E w') (hl:xs.length≤Big):zH (Rep.slice e r) xs w E w':=by
 obtain ⟨v,rfl,h1,h2⟩:=h
 exact ⟨v,rfl,h1.own hl,h2⟩
theorem filter_yes {α:Type} {p:α→Bool} {l:List α} {k:Nat} (h:k < l.length) (q:p l[k]=true):(l.take (k + 1)).filter p=(l.take k).filter p++[l[k]]:=by
 rw [List.take_succ_eq_append_getElem h,List.filter_append]
 simp [q]
theorem filter_no {α:Type} {p:α→Bool} {l:List α} {k:Nat} (h:k < l.length) (q:p l[k]=false):(l.take (k + 1)).filter p=(l.take k).filter p:=by
 rw [List.take_succ_eq_append_getElem h,List.filter_append]
 simp [q]
theorem kSj {α:Type} {p:α→Bool} {l:List α} {k:Nat} (h:k≤l.length):((l.take k).filter p).length≤k:=by
 have h1:=List.length_filter_le p (l.take k)
 rw [List.length_take_of_le h] at h1
 exact h1
end Go.Proofs.YtlfblpgkegeaeaaGreat
namespace Go.Proofs.YtlfblpgkegeaeaaGreat
theorem kAh:(Tryz.prog.info? 3).map (fun i=>(i.zero,i.size,i.bytes))=some (some (.int .i64 0),1,8):=by kernel_rfl
theorem kNp:(Tryz.prog.info? 9).map (fun i=>(i.zero,i.size,i.bytes))=some (some (.string ByteArray.empty),1,16):=by kernel_rfl
theorem kCp:(Tryz.prog.info? 5).map (fun i=>(i.zero,i.size,i.bytes))=some (some (.int .u8 0),1,1):=by kernel_rfl
theorem infName:(Tryz.prog.info? 64).map (fun i=>(i.zero,i.size,i.bytes))=some (some (.agg #[.slice none 0 0]),1,24):=by kernel_rfl
theorem zx:(Tryz.prog.info? 184).map (fun i=>(i.zero,i.size,i.bytes))=some (some (.agg #[.slice none 0 0,.int .i64 0,.int .i64 0]),3,40):=by kernel_rfl
theorem infRoute:(Tryz.prog.info? 181).map (fun i=>(i.zero,i.size,i.bytes))=some (some (.agg #[.slice none 0 0,.int .i64 0,.int .i64 0]),3,40):=by kernel_rfl
theorem kHa:(Tryz.prog.info? 123).map (fun i=>(i.zero,i.size,i.bytes))=some (some (.agg #[.int .i64 0,.int .i64 0,.int .i64 0]),3,24):=by kernel_rfl
theorem yT:(Tryz.prog.info? 175).map (fun i=>(i.zero,i.size,i.bytes))=some (some (.agg #[.slice none 0 0,.slice none 0 0,.int .i64 0]),3,56):=by kernel_rfl
theorem kEt:(Tryz.prog.info? 178).map (fun i=>(i.zero,i.size,i.bytes))=some (some (.agg #[.slice none 0 0,.int .i64 0]),2,32):=by kernel_rfl
theorem infData:(Tryz.prog.info? 66).map (fun i=>(i.zero,i.size,i.bytes))=some (some (.agg #[.slice none 0 0,.slice none 0 0,.slice none 0 0,.int .i64 0,.int .i64 0]),5,88):=by kernel_rfl
theorem yX:(Tryz.prog.info? 212).map (fun i=>(i.zero,i.size,i.bytes))=some (some (.agg #[.slice none 0 0,.slice none 0 0,.slice none 0 0,.int .i64 0,.int .i64 0,.int .i64 0]),6,96):=by kernel_rfl
theorem kOx:(Tryz.prog.info? 128).map (fun i=>(i.zero,i.size,i.bytes))=some (some (.agg #[.int .i64 0,.bool false,.slice none 0 0,.int .i64 0,.int .i64 0,.int .i64 0,.slice none 0 0,.slice none 0 0,.slice none 0 0,.int .i64 0,.int .i64 0]),11,152):=by kernel_rfl
theorem kFg:(Tryz.prog.info? 284).map (fun i=>(i.zero,i.size,i.bytes))=some (some (.agg #[.string ByteArray.empty,.string ByteArray.empty]),2,32):=by kernel_rfl
end Go.Proofs.YtlfblpgkegeaeaaGreat
namespace Go.Proofs.YtlfblpgkegeaeaaGreat
open Go
section
variable {P:Program} {ops:Array Oper} {S:World→Prop} {Q:Exit→Act→World→Prop}
def kGw (md:Region.Mode) (ops:Array Oper) (n g:Nat):List (Nat × Bool)→Array Bool→Bool
  | [],listed=>Region.seqB md ops g n listed
  | (k,true) :: p,listed=>(Region.ready md ops listed).contains k && Region.free md ops listed k && kGw md ops n g p (listed.setIfInBounds k true)
  | (k,false) :: p,listed=>(Region.ready md ops listed==[k]) && kGw md ops n g p (listed.setIfInBounds k true)
def softTPOk (md:Region.Mode) (ops:Array Oper) (q:List (Nat × Bool)):Bool :=
  Region.noSelect ops && (decide (q.length < ops.size) && (q.all (fun x=>decide (x.1 < q.length)) && (Region.sinkB md ops q.length && (Region.chainB md ops q.length && kGw md ops q.length (ops.size - q.length) q (Array.replicate ops.size false)))))
theorem kFu {l:List Oper} {n g:Nat} (hsel:Region.noSelect l.toArray=true) (hQ:∀ c a d v w,Q (.panic c) (Act.put a d v) w→Q (.panic c) a w)
    (hs:Region.sinkB .any l.toArray n=true) (hc:Region.chainB .any l.toArray n=true) (hn:n < l.toArray.size) (hg:n + g=l.length):∀ (q:List (Nat × Bool)) (k:Nat) (listed:Array Bool) (a:Act) (w:World),
    q.all (fun x=>decide (x.1 < n))=true→HeadInv .any l.toArray n listed→kGw .any l.toArray n g q listed=true→S w→kEi P l.toArray S Q k (jY l q++l.drop n) (q.map (·.2)) a w →
    kGu P .any l.toArray Q S n (fun listed a w=>Region.seqB .any l.toArray g n listed=true∧∃ r,(∀ j,r[j]?=l.toArray[n + j]?)∧r.length=g∧wpList P l.toArray Q r a w) q.length listed a w
  | [],k,listed,a,w,_,inv,hB,hS,h=>by
    refine ⟨by simpa [kGw] using hB,l.drop n,fun j=>by simp [List.getElem?_drop],by simp;omega,?_⟩
    simp only [jY,List.nil_append,List.map_nil] at h
    generalize l.drop n=r at h ⊢
    cases r <;> exact h
  | (i,true) :: q,k,listed,a,w,hi,inv,hB,hS,h=>by
    simp only [List.all_cons,Bool.and_eq_true,decide_eq_true_eq] at hi
    have hil:i < l.toArray.size:=Nat.lt_trans hi.1 hn
    have h0:l.toArray[i]?=some l.toArray[i]:=Array.getElem?_eq_getElem hil
    have hp:jY l ((i,true) :: q)=l.toArray[i] :: jY l q:=by
      have:l[i]?=some l.toArray[i]:=by simp
      simp only [jY,this]
    rw [hp] at h
    obtain ⟨v,hy,h⟩:=h
    simp only [kGw,Bool.and_eq_true] at hB
    have hr:i∈Region.ready .any l.toArray listed:=by simpa using hB.1.1
    exact kJz h0 (Region.noSelect_spec hsel) (fun c a w=>hQ c a _ _ w) hs hc hn hi.1 (fun listed' a' w' hL=>seqB_ready hL.1) q.length listed a w inv (Region.free_spec h0 hB.1.2) hr hy hS
      (kFu hsel hQ hs hc hn hg q (k + 1) _ _ _ hi.2 (inv.set hr hi.1) hB.2 hS h)
  | (i,false) :: q,k,listed,a,w,hi,inv,hB,hS,h=>by
    simp only [List.all_cons,Bool.and_eq_true,decide_eq_true_eq] at hi
    have hil:i < l.toArray.size:=Nat.lt_trans hi.1 hn
    have h0:l.toArray[i]?=some l.toArray[i]:=Array.getElem?_eq_getElem hil
    have hp:jY l ((i,false) :: q)=l.toArray[i] :: jY l q:=by
      have:l[i]?=some l.toArray[i]:=by simp
      simp only [jY,this]
    rw [hp] at h
    simp only [kGw,Bool.and_eq_true,beq_iff_eq] at hB
    have hr:i∈Region.ready .any l.toArray listed:=by rw [hB.1];simp
    refine ⟨by rw [hB.1];simp,fun j hj=>?_⟩
    rw [hB.1] at hj
    obtain rfl:j=i:=qY
    refine ⟨hi.1,?_⟩
    refine wpOp_mono (fun a' w' h'=>⟨h'.1,kFu hsel hQ hs hc hn hg q (k + 1) _ _ _ hi.2 (inv.set hr hi.1) hB.2 h'.1 h'.2⟩) (K:=fun a' w'=>S w'∧kEi P l.toArray S Q (k + 1) (jY l q++l.drop n) (q.map (·.2)) a' w') ?_
    unfold wpOp
    simp only [h0]
    exact h
theorem jf {id:Nat} {a:Act} {w:World} {l:List Oper} (S:World→Prop) (q:List (Nat × Bool)) (hm:P.follows .mixedOrders=true) (hB:softTPOk .any l.toArray q=true)
    (hQ:∀ c a d v w,Q (.panic c) (Act.put a d v) w→Q (.panic c) a w) (hS:S { w with drawn:=w.drawn + 1 })
    (h:∀ w',S w'→soft P l.toArray S Q 0 (jY l q++l.drop q.length) (q.map (·.2)) a w'):(Code.region id l.toArray true).wp P Q a w:=by
 simp only [softTPOk,Bool.and_eq_true,decide_eq_true_eq] at hB
 have h:=h _ hS
 unfold soft at h
 have hsz:l.toArray.size=l.length:=rQ
 have inv0:HeadInv .any l.toArray q.length (Array.replicate l.toArray.size false) :=
   ⟨by simp,fun j oj _ hl=>(by rw [getD_replicate_false] at hl;cases hl),fun t _ ht=>getD_in (by simpa using ht) (getD_replicate_false _ _)⟩
 have H:=kFu (g:=l.toArray.size - q.length) hB.1 hQ hB.2.2.2.1 hB.2.2.2.2.1 hB.2.1 (by have:=hB.2.1;omega) q 0 _ a _ hB.2.2.1 inv0 hB.2.2.2.2.2 hS h
 refine wp_region_any hm ?_
 have:=kEy (Q:=Q) (g:=l.toArray.size - q.length) (fun listed a' w' hL=>by
   obtain ⟨hq,l',ho,hl',hw⟩:=hL
   have:=wpAny_of_seq (md:=.any) (Q':=Q) l' q.length listed a' w' ho (by rw [hl'];exact hq) hw
   rwa [hl'] at this) _ _ _ _ H
 rw [show q.length + (l.toArray.size - q.length)=l.toArray.size by have:=hB.2.1;omega] at this
 exact this
end
end Go.Proofs.YtlfblpgkegeaeaaGreat
namespace Go.Proofs.YtlfblpgkegeaeaaGreat
open Go.RowKit
theorem kTb {w:World} {va:Value} {x:List ByteArray} (ha:(Rep.slice 9 Rep.str).rd w [va] x):Calls Tryz.prog 192 #[va] w (zH (Rep.slice 9 Rep.str) x w):=by
 obtain ⟨aa,capa,rfl,la⟩:=Rep.sl ha.1
 have HA:=yD ha
 have hnil:=fun (W:World) (a:Option Addr) (n c:Nat)=>Lib.run_eql_slice_nil (P:=Tryz.prog) W 37 9 a n c 0 0 Tryz.underlying37
 cases aa with
 | none =>
   have hx:x=[]:=by
     cases x with
     | nil=>rfl
     | cons y ys =>
       obtain ⟨b,off,h,_⟩:=Rep.kDo ha.1 (i:=0) rQ
       cases h
   subst hx
   clear ha
   go_enter Tryz.func192,Tryz.ntmps192
   go_wp2
   go_ret
   exact ⟨_,rfl,Rep.kCk,bR⟩
 | some a =>
   have hb:x.length≤16777216:=ha.2.1
   clear ha
   go_enter Tryz.func192,Tryz.ntmps192
   have O0:Rep.kg 9 Rep.str (w.alloc (.cells #[] 9)) (.slice (some ⟨w.heap.size,0,none⟩) 0 0) [] (fun k=>k=w.heap.size):=Rep.yj (cs:=[]) (xs:=[]) (T:=fun _=>False) rQ rQ rfl (fun _ h=>h.elim) rfl
   go_wp2_with (at_builtin;refine Rep.je rfl _ _ 37 rfl (r:=Rep.str) (e:=9) Tryz.underlying37 kNp rfl rM rM Rep.kFf (B:=w.heap.size) O0 rR rR (HA.out.alloc _) mQ rQ rG ?_)
   intro v2 w2 hown hbel hz
   have HO:=yD hown
   obtain ⟨a2,c2,hv⟩:=hown.ym
   obtain rfl:=hv
   have EG:Below w.heap.size w w2:=Below.trans bH hbel
   clear hown O0 hbel
   go_wp2
   go_ret
   exact ⟨_,rfl,by simpa using HO.out.own pU,EG⟩
theorem zW {w:World} {ca:List Value} {x:kW} (ha:kL.rd w ca x):Calls Tryz.prog 142 #[.agg ca.toArray] w (yM kL x w):=by
 have HA:=yD ha
 obtain ⟨av,rfl,a_0⟩:=kM ha.1
 obtain ⟨aa,capa,rfl,la⟩:=Rep.sl a_0
 have hb:x.length≤16777216:=ha.2.1
 clear ha
 go_enter Tryz.func142,Tryz.ntmps142
 go_wp2_with fail
 refine (kTb (HA.out.below bH)).mono ?_
 rintro e w2 ⟨v2,rfl,O2,hbel⟩
 obtain ⟨a2,c2,hv,_⟩:=Rep.kJe O2.raw
 obtain rfl:v2=_:=by simpa using hv
 have HO:Hid (kL.own w2 [.slice a2 x.length c2] x (Btw (w.heap.size + 2) w2.heap.size)):=yD (O2.wide (fun j hj=>⟨by have:=hj.1;simp at this;omega,hj.2⟩))
 have EG:Below w.heap.size w w2:=Below.trans bH (hbel.mono nE)
 clear hv O2
 have R0:w2.cell? ⟨w.heap.size + 1,0,none⟩=some (.slice none 0 0):=(hbel.cell (p:=⟨w.heap.size + 1,0,none⟩) rQ).trans rE
 have F0:w2.frozen? ⟨w.heap.size + 1,0,none⟩=false:=(hbel.frozen (p:=⟨w.heap.size + 1,0,none⟩) rQ).trans rE
 clear hbel
 go_wp2
 refine bodyPost_ret (v:=.agg #[.slice a2 x.length c2]) (by simp [results,Tryz.results142,go_sem,R0,F0]) rfl ⟨[_],rfl,?_,?_⟩
 · exact (HO.out.setCell dP).wide dR
 exact EG.setCell rQ _
theorem kAj {w:World} {ca:List Value} {x:kW} (ha:kL.rd w ca x):Calls Tryz.prog 129 #[.agg ca.toArray] w (yM kL x w):=by
 have HA:=yD ha
 obtain ⟨av,rfl,a_0⟩:=kM ha.1
 obtain ⟨aa,capa,rfl,la⟩:=Rep.sl a_0
 have hb:x.length≤16777216:=ha.2.1
 clear ha
 go_enter Tryz.func129,Tryz.ntmps129
 have O0:Rep.kg 9 Rep.str (((w.alloc (.cells #[.slice aa x.length capa] 64)).alloc (.cells #[.slice none 0 0] 64)).alloc (.cells #[] 9)) (.slice (some ⟨w.heap.size + 1 + 1,0,none⟩) 0 0) [] (fun k=>k=w.heap.size + 1 + 1):=by
  have h:=Rep.yj (e:=9) (r:=Rep.str) (w:=(w.alloc (.cells #[.slice aa x.length capa] 64)).alloc (.cells #[.slice none 0 0] 64)) (cs:=[]) (xs:=[]) (T:=fun _=>False) (S:=fun k=>k=w.heap.size + 1 + 1) rQ rQ rfl (fun _ h=>h.elim) rQ
  simpa using h
 go_wp2_with (at_builtin;refine Rep.je rfl _ _ 37 rfl (r:=Rep.str) (e:=9) Tryz.underlying37 kNp rfl rM rM Rep.kFf (B:=w.heap.size + 1 + 1) O0 rR rR (HA.out.below bH) mQ rQ rG ?_)
 intro v2 w2 hown hbel hz
 obtain ⟨a2,c2,hv⟩:=hown.ym
 obtain rfl:=hv
 have hw:=hown.own pU
 have HO:Hid (kL.own w2 [.slice a2 x.length c2] x (Btw (w.heap.size + 1 + 1) w2.heap.size)):=yD hw
 have EG:Below w.heap.size w w2:=Below.trans bH (hbel.mono nE)
 clear hown O0 hw
 have R0:w2.cell? ⟨w.heap.size + 1,0,none⟩=some (.slice none 0 0):=(hbel.cell (p:=⟨w.heap.size + 1,0,none⟩) rQ).trans rE
 have F0:w2.frozen? ⟨w.heap.size + 1,0,none⟩=false:=(hbel.frozen (p:=⟨w.heap.size + 1,0,none⟩) rQ).trans rE
 clear hbel
 go_wp2
 refine bodyPost_ret (v:=.agg #[.slice a2 x.length c2]) (by simp [results,Tryz.results129,go_sem,R0,F0]) rfl ⟨[_],rfl,?_,?_⟩
 · exact (HO.out.setCell dP).wide dR
 exact EG.setCell rQ _
theorem flatbyte:Rep.byte.kEc:=Rep.kCa
theorem kWj {w:World} {va:Value} {x:List UInt8} (ha:(Rep.slice 5 Rep.byte).rd w [va] x):Calls Tryz.prog 143 #[va] w (zH (Rep.slice 5 Rep.byte) x w):=by
 obtain ⟨aa,capa,rfl,la⟩:=Rep.sl ha.1
 have HA:=yD ha
 have hnil:=fun (W:World) (a:Option Addr) (n c:Nat)=>Lib.run_eql_slice_nil (P:=Tryz.prog) W 40 5 a n c 0 0 Tryz.underlying40
 cases aa with
 | none =>
   have hx:x=[]:=by
     cases x with
     | nil=>rfl
     | cons y ys =>
       obtain ⟨b,off,h,_⟩:=Rep.kDo ha.1 (i:=0) rQ
       cases h
   subst hx
   clear ha
   go_enter Tryz.func143,Tryz.ntmps143
   go_wp2
   go_ret
   exact ⟨_,rfl,Rep.kCk,bR⟩
 | some a =>
   have hb:x.length≤16777216:=ha.2.1
   clear ha
   go_enter Tryz.func143,Tryz.ntmps143
   have O0:Rep.kg 5 Rep.byte (w.alloc (.cells #[] 5)) (.slice (some ⟨w.heap.size,0,none⟩) 0 0) [] (fun k=>k=w.heap.size):=Rep.yj (cs:=[]) (xs:=[]) (T:=fun _=>False) rQ rQ rfl (fun _ h=>h.elim) rfl
   go_wp2_with (at_builtin;refine Rep.je rfl _ _ 40 rfl (r:=Rep.byte) (e:=5) Tryz.underlying40 kCp rfl rM rM flatbyte (B:=w.heap.size) O0 rR rR (HA.out.alloc _) mQ rQ rG ?_)
   intro v2 w2 hown hbel hz
   have HO:=yD hown
   obtain ⟨a2,c2,hv⟩:=hown.ym
   obtain rfl:=hv
   have EG:Below w.heap.size w w2:=Below.trans bH hbel
   clear hown O0 hbel
   go_wp2
   go_ret
   exact ⟨_,rfl,by simpa using HO.out.own pU,EG⟩
theorem kFy:kQ.kEc:=Rep.kIl (Rep.jd) (Rep.kIl (Rep.jd) (Rep.jd))
theorem kMw {w:World} {va:Value} {x:List jP} (ha:(Rep.slice 123 kQ).rd w [va] x):Calls Tryz.prog 191 #[va] w (zH (Rep.slice 123 kQ) x w):=by
 obtain ⟨aa,capa,rfl,la⟩:=Rep.sl ha.1
 have HA:=yD ha
 have hnil:=fun (W:World) (a:Option Addr) (n c:Nat)=>Lib.run_eql_slice_nil (P:=Tryz.prog) W 119 123 a n c 0 0 Tryz.underlying119
 cases aa with
 | none =>
   have hx:x=[]:=by
     cases x with
     | nil=>rfl
     | cons y ys =>
       obtain ⟨b,off,h,_⟩:=Rep.kDo ha.1 (i:=0) rQ
       cases h
   subst hx
   clear ha
   go_enter Tryz.func191,Tryz.ntmps191
   go_wp2
   go_ret
   exact ⟨_,rfl,Rep.kCk,bR⟩
 | some a =>
   have hb:x.length≤16777216:=ha.2.1
   clear ha
   go_enter Tryz.func191,Tryz.ntmps191
   have O0:Rep.kg 123 kQ (w.alloc (.cells #[] 123)) (.slice (some ⟨w.heap.size,0,none⟩) 0 0) [] (fun k=>k=w.heap.size):=Rep.yj (cs:=[]) (xs:=[]) (T:=fun _=>False) rQ rQ rfl (fun _ h=>h.elim) rfl
   go_wp2_with (at_builtin;refine Rep.je rfl _ _ 119 rfl (r:=kQ) (e:=123) Tryz.underlying119 kHa rfl rM rM kFy (B:=w.heap.size) O0 rR rR (HA.out.alloc _) mQ rQ rG ?_)
   intro v2 w2 hown hbel hz
   have HO:=yD hown
   obtain ⟨a2,c2,hv⟩:=hown.ym
   obtain rfl:=hv
   have EG:Below w.heap.size w w2:=Below.trans bH hbel
   clear hown O0 hbel
   go_wp2
   go_ret
   exact ⟨_,rfl,by simpa using HO.out.own pU,EG⟩
theorem kFq {w:World} {vl:Value} {l:List kS} (hl:(Rep.slice 175 kE).rd w [vl] l) :
    Calls Tryz.prog 137 #[vl] w (kAt 175 kE l w):=by
 have HL:=yD hl
 obtain ⟨la,lp,rfl,ll⟩:=Rep.sl hl.1
 have hlb:l.length≤16777216:=hl.2.1
 clear hl
 go_enter Tryz.func137,Tryz.ntmps137
 go_wp2
 have O0:Rep.kg 175 kE (w.alloc (.cells #[] 175)) (.slice (some ⟨w.heap.size,0,none⟩) 0 0) [] (Btw w.heap.size (w.alloc (.cells #[] 175)).heap.size) :=
   Rep.yj (e:=175) (r:=kE) (w:=w) (cs:=[]) (xs:=[]) (T:=fun _=>False) rQ rQ rfl (fun _ h=>h.elim) ⟨Nat.le_refl _,by simp⟩
 go_loopw [3,9] (fun v i wr=>∃ k:Nat,k≤l.length∧i=.int .i64 k∧Hid (Rep.kg 175 kE wr v (l.take k) (Btw w.heap.size wr.heap.size))∧Below w.heap.size w wr) (fun _ i _=>l.length - (intOf i).toNat)
 case atStart=>exact ⟨0,Nat.zero_le _,rfl,yD O0,bR.alloc nL _⟩
 clear O0
 obtain ⟨k,hk,rfl,HO,hbel⟩:=hrel
 obtain ⟨oa,on,oc,ho,HON⟩:=HO.out.parts;obtain rfl:=ho
 have hlk:(l.take k).length≤k:=rG
 by_cases hlt:k < l.length
 · obtain ⟨qb,qo,rfl,qc0,qc1,qc2,qr,Aq0,Aq1,Aq2⟩:=Rep.kBg (HL.out.1.below hbel) hlt rfl
   have hbd:=Rep.yF HL.out hlt
   have hsn:=List.take_succ_eq_append_getElem hlt
   generalize l[k]=x at *
   have HSN:=yD hsn;clear hsn
   obtain ⟨x0,x1,x2⟩:=x
   obtain ⟨qv0,qv1,qhe,q_0,q_1,q_2,q_3⟩:=jN qr
   simp only [List.cons.injEq,and_true] at qhe
   obtain ⟨rfl,rfl,rfl⟩:=qhe
   obtain ⟨qa0,qp0,rfl,ql0⟩:=Rep.sl q_1
   obtain ⟨qa1,qp1,rfl,ql1⟩:=Rep.sl q_2
   have px0:kL.rd wr _ x0:=⟨q_0,hbd.1⟩
   have px1:(Rep.slice 123 kQ).rd wr _ x1:=⟨q_2,hbd.2.1⟩
   go_upto_region 5 with fail
   generalize hwC:World.alloc wr _=wC
   have EC:Below wr.heap.size wr wC:=nA
   have hzC:wC.heap.size=wr.heap.size + 1:=qN
   have M0:wC.cell? ⟨wr.heap.size,0,none⟩=some (.slice qa0 (x0).length qp0):=nW
   have M1:wC.cell? ⟨wr.heap.size,1,none⟩=some (.slice qa1 (x1).length qp1):=nW
   have M2:wC.cell? ⟨wr.heap.size,2,none⟩=some (.int .i64 x2):=nW
   clear hwC
   have FX:=yD (fun (W:World) (hW:Below wC.heap.size wC W)=>cLs3 hW M0 M1 M2)
   refine jf (fun W=>Below wC.heap.size wC W) [(0,true),(1,true),(2,true),(4,true),(5,true),(7,true),(8,true),(3,false),(6,false),(9,true),(10,false)] rF rF gX (bR.drew) ?_
   intro wS HS
   simp only [jY,List.length_cons,List.length_nil,List.getElem?_cons_succ,List.getElem?_cons_zero,List.map_cons,List.map_nil,List.cons_append,List.nil_append,List.drop_succ_cons,List.drop_zero]
   iterate 7
    all_goals refine wkR ?_
   all_goals first|(refine kU rfl HS ?_)|(refine ky rfl (fun K hK=>?_);go_simp;refine (zW (px0.below (tQ EC HS))).mono ?_;rintro e wT0 ⟨t0_c,rfl,OT0,hbT⟩;obtain ⟨t0_qv0,rfl,t0_q_0⟩:=kM OT0.raw;obtain ⟨t0_qa0,t0_qp0,rfl,t0_ql0⟩:=Rep.sl t0_q_0;skip;clear t0_q_0;replace OT0:=yD OT0;have hs0:=hbT.size;have hr0:=HS.size;replace HS:=(tQ HS hbT);refine hK _ _ HS ?_;clear hK K hbT)
   all_goals refine wkP ?_
   all_goals first|(refine kU rfl HS ?_)|(refine ky rfl (fun K hK=>?_);go_simp;refine (kMw (px1.below (tQ EC HS))).mono ?_;rintro e wT1 ⟨t1_v,rfl,OT1,hbT⟩;obtain ⟨t1_a,t1_p,rfl,_⟩:=Rep.sl OT1.raw;skip;replace OT1:=yD OT1;have hs1:=hbT.size;have hr1:=HS.size;replace OT0:=yD (OT0.out.below hbT);replace HS:=(tQ HS hbT);refine hK _ _ HS ?_;clear hK K hbT)
   all_goals refine wkP ?_
   all_goals refine wkR ?_
   all_goals first|(refine kU rfl HS ?_)|(refine ky rfl (fun K hK=>?_);go_simp;refine hK _ _ (HS.alloc HS.size _) ?_;clear hK K)
   all_goals refine wkP ?_
   all_goals refine jv ?_
   have hsW:=HS.size
   have hsC:=EC.size
   have hrC:=hbel.size
   have hbS:Below wr.heap.size wr _:=(tQ EC HS)
   replace HO:=yD (HO.out.below hbS)
   have hbW:=(tQ hbel hbS)
   go_wp2_with (at_builtin;refine Rep.jZ rfl _ _ 51 rfl (r:=kE) (e:=175) Tryz.underlying51 yT rfl rM rM (B:=w.heap.size) HO.out rR rR rfl (Rep.own.wide (T:=Btw wr.heap.size wT1.heap.size) (Rep.jW (S:=Btw (wS.heap.size) (wT1.heap.size)) (OT0.out) (Rep.jy (OT1.out) (Rep.jG q_3)) fG fG fP) fG) rfl fP mH fG rP nS ?_)
   intro v2 w2 hown2 hbel2 hz2
   replace hown2:=Rep.kg.cast hown2 (HSN.out.symm)
   have HO2:=yD hown2
   have hbel3:=hbW.trans hbel2
   clear hown2 HO hbel2
   go_wp2
   go_roundw
   case rel=>exact ⟨k + 1,by omega,by go_num,HO2,hbel3⟩
   simp [intOf];omega
 obtain rfl:k=l.length:=rP
 go_wp2
 go_ret
 exact ⟨_,rfl,Rep.kg.cast HO.out rQ,hbel⟩
theorem kKe {w:World} {vl:Value} {l:List kS} (hl:(Rep.slice 175 kE).rd w [vl] l) :
    Calls Tryz.prog 125 #[vl] w (kAt 175 kE l w):=by
 have HL:=yD hl
 obtain ⟨la,lp,rfl,ll⟩:=Rep.sl hl.1
 have hlb:l.length≤16777216:=hl.2.1
 clear hl
 go_enter Tryz.func125,Tryz.ntmps125
 go_wp2
 have O0:Rep.kg 175 kE (w.alloc (.cells #[] 175)) (.slice (some ⟨w.heap.size,0,none⟩) 0 0) [] (Btw w.heap.size (w.alloc (.cells #[] 175)).heap.size) :=
   Rep.yj (e:=175) (r:=kE) (w:=w) (cs:=[]) (xs:=[]) (T:=fun _=>False) rQ rQ rfl (fun _ h=>h.elim) ⟨Nat.le_refl _,by simp⟩
 go_loopw [3,4] (fun v i wr=>∃ k:Nat,k≤l.length∧i=.int .i64 k∧Hid (Rep.kg 175 kE wr v (l.take k) (Btw w.heap.size wr.heap.size))∧Below w.heap.size w wr) (fun _ i _=>l.length - (intOf i).toNat)
 case atStart=>exact ⟨0,Nat.zero_le _,rfl,yD O0,bR.alloc nL _⟩
 clear O0
 obtain ⟨k,hk,rfl,HO,hbel⟩:=hrel
 obtain ⟨oa,on,oc,ho,HON⟩:=HO.out.parts;obtain rfl:=ho
 have hlk:(l.take k).length≤k:=rG
 by_cases hlt:k < l.length
 · obtain ⟨qb,qo,rfl,qc0,qc1,qc2,qr,Aq0,Aq1,Aq2⟩:=Rep.kBg (HL.out.1.below hbel) hlt rfl
   have hbd:=Rep.yF HL.out hlt
   have hsn:=List.take_succ_eq_append_getElem hlt
   generalize l[k]=x at *
   have HSN:=yD hsn;clear hsn
   obtain ⟨x0,x1,x2⟩:=x
   obtain ⟨qv0,qv1,qhe,q_0,q_1,q_2,q_3⟩:=jN qr
   simp only [List.cons.injEq,and_true] at qhe
   obtain ⟨rfl,rfl,rfl⟩:=qhe
   obtain ⟨qa0,qp0,rfl,ql0⟩:=Rep.sl q_1
   obtain ⟨qa1,qp1,rfl,ql1⟩:=Rep.sl q_2
   have px0:kL.rd wr _ x0:=⟨q_0,hbd.1⟩
   go_wp2_with fail
   refine (kAj px0).mono ?_
   rintro e wT ⟨tc,rfl,OT,hbT⟩
   obtain ⟨tv0,rfl,t_0⟩:=kM OT.raw
   obtain ⟨ta0,tp0,rfl,_⟩:=Rep.sl t_0
   clear t_0
   go_upto_region 6 with fail
   generalize hwC:World.alloc wT _=wC
   have EC:Below wT.heap.size wT wC:=nA
   have K0:wC.cell? ⟨wT.heap.size,0,none⟩=some (.slice ta0 x0.length tp0):=nW
   clear hwC
   have ER:=(tQ hbT EC)
   replace Aq0:=cL ER Aq0
   replace Aq1:=cL ER Aq1
   replace Aq2:=cL ER Aq2
   have px1:(Rep.slice 123 kQ).rd wC _ x1:=⟨Rep.raw.below q_2 ER,hbd.2.1⟩
   have FX:=yD (fun (W:World) (hW:Below wC.heap.size wC W)=>cLs4 hW K0 Aq0 Aq1 Aq2)
   refine jf (fun W=>Below wC.heap.size wC W) [(0,true),(1,true),(3,true),(4,true),(5,true),(6,true),(7,true),(9,true),(10,true),(11,true),(12,true),(13,true),(2,false),(8,false),(14,true),(15,false)] rF rF gX (bR.drew) ?_
   intro wS HS
   simp only [jY,List.length_cons,List.length_nil,List.getElem?_cons_succ,List.getElem?_cons_zero,List.map_cons,List.map_nil,List.cons_append,List.nil_append,List.drop_succ_cons,List.drop_zero]
   iterate 12
    all_goals refine wkR ?_
   all_goals first|(refine kU rfl HS ?_)|(refine ky rfl (fun K hK=>?_);go_simp;generalize hwU:World.alloc wS _=wU;have hzU:wU.heap.size=wS.heap.size + 1:=(by rw [← hwU];simp);have hzS:=HS.size;replace HS:Below wC.heap.size wC wU:=(by rw [← hwU];exact HS.alloc HS.size _);clear hwU;refine hK _ _ HS ?_;clear hK K)
   all_goals refine wkP ?_
   all_goals first|(refine kU rfl HS ?_)|(refine ky rfl (fun K hK=>?_);obtain ⟨rv1,wV,hrV,hoV,hbV,hzV⟩:=Rep.kUm (P:=Tryz.prog) (t:=119) (ty:=119) (r:=kQ) (e:=123) (w:=wU) (v:=.slice (some ⟨wS.heap.size,0,none⟩) 0 0) (xs:=[]) (S:=fun _=>False) (B:=wU.heap.size) Tryz.underlying119 kHa rfl rM rM kFy Rep.kg.void (px1.below HS) (fun _ h=>h.elim) nL (by have:=px1.2.1;simp;unfold Big at this;omega);refine Rep.jR _ _ _ rfl rR rR hrV ?_;obtain ⟨ra1,rp1,hrv1⟩:=hoV.ym;obtain rfl:=hrv1;replace HS:=(tQ HS hbV);have HOV:=yD (hoV.own px1.2.1);refine hK _ _ HS ?_;clear hK K hrV hoV)
   all_goals refine wkP ?_
   all_goals refine wkR ?_
   all_goals first|(refine kU rfl HS ?_)|(refine ky rfl (fun K hK=>?_);go_simp;refine hK _ _ (HS.alloc HS.size _) ?_;clear hK K)
   all_goals refine wkP ?_
   all_goals refine jv ?_
   have hsW:=HS.size
   have hsC:=EC.size
   have hrC:=hbel.size
   have hsT:=hbT.size
   have hbS:Below wr.heap.size wr wV:=(tQ ER HS)
   replace HO:=yD (HO.out.below hbS)
   have hbW:=(tQ hbel hbS)
   go_wp2_with (at_builtin;refine Rep.jZ rfl _ _ 51 rfl (r:=kE) (e:=175) Tryz.underlying51 yT rfl rM rM (B:=w.heap.size) HO.out rR rR rfl (Rep.own.wide (T:=Btw wr.heap.size wV.heap.size) (Rep.jW (S:=Btw (wr.heap.size) (wV.heap.size)) (OT.below (tQ EC HS)) (Rep.jy (HOV.out) (Rep.jG q_3)) fG fG fP) fG) rfl fP mH fG rP nS ?_)
   intro v2 w2 hown2 hbel2 hz2
   replace hown2:=Rep.kg.cast hown2 (HSN.out.symm)
   have HO2:=yD hown2
   have hbel3:=hbW.trans hbel2
   clear hown2 HO hbel2
   go_wp2
   go_roundw
   case rel=>exact ⟨k + 1,by omega,by go_num,HO2,hbel3⟩
   simp [intOf];omega
 obtain rfl:k=l.length:=rP
 go_wp2
 go_ret
 exact ⟨_,rfl,Rep.kg.cast HO.out rQ,hbel⟩
theorem kIm {w:World} {vl:Value} {l:List jK} (hl:(Rep.slice 178 kJ).rd w [vl] l) :
    Calls Tryz.prog 138 #[vl] w (kAt 178 kJ l w):=by
 have HL:=yD hl
 obtain ⟨la,lp,rfl,ll⟩:=Rep.sl hl.1
 have hlb:l.length≤16777216:=hl.2.1
 clear hl
 go_enter Tryz.func138,Tryz.ntmps138
 go_wp2
 have O0:Rep.kg 178 kJ (w.alloc (.cells #[] 178)) (.slice (some ⟨w.heap.size,0,none⟩) 0 0) [] (Btw w.heap.size (w.alloc (.cells #[] 178)).heap.size) :=
   Rep.yj (e:=178) (r:=kJ) (w:=w) (cs:=[]) (xs:=[]) (T:=fun _=>False) rQ rQ rfl (fun _ h=>h.elim) ⟨Nat.le_refl _,by simp⟩
 go_loopw [3,9] (fun v i wr=>∃ k:Nat,k≤l.length∧i=.int .i64 k∧Hid (Rep.kg 178 kJ wr v (l.take k) (Btw w.heap.size wr.heap.size))∧Below w.heap.size w wr) (fun _ i _=>l.length - (intOf i).toNat)
 case atStart=>exact ⟨0,Nat.zero_le _,rfl,yD O0,bR.alloc nL _⟩
 clear O0
 obtain ⟨k,hk,rfl,HO,hbel⟩:=hrel
 obtain ⟨oa,on,oc,ho,HON⟩:=HO.out.parts;obtain rfl:=ho
 have hlk:(l.take k).length≤k:=rG
 by_cases hlt:k < l.length
 · obtain ⟨qb,qo,rfl,qc0,qc1,qr,Aq0,Aq1⟩:=Rep.kEk (HL.out.1.below hbel) hlt rfl
   have hbd:=Rep.yF HL.out hlt
   have hsn:=List.take_succ_eq_append_getElem hlt
   generalize l[k]=x at *
   have HSN:=yD hsn;clear hsn
   obtain ⟨x0,x1⟩:=x
   obtain ⟨qv0,qhe,q_0,q_1,q_2⟩:=yt qr
   simp only [List.cons.injEq,and_true] at qhe
   obtain ⟨rfl,rfl⟩:=qhe
   obtain ⟨qa0,qp0,rfl,ql0⟩:=Rep.sl q_1
   have px0:kL.rd wr _ x0:=⟨q_0,hbd.1⟩
   go_upto_region 5 with fail
   generalize hwC:World.alloc wr _=wC
   have EC:Below wr.heap.size wr wC:=nA
   have hzC:wC.heap.size=wr.heap.size + 1:=qN
   have M0:wC.cell? ⟨wr.heap.size,0,none⟩=some (.slice qa0 (x0).length qp0):=nW
   have M1:wC.cell? ⟨wr.heap.size,1,none⟩=some (.int .i64 x1):=nW
   clear hwC
   have FX:=yD (fun (W:World) (hW:Below wC.heap.size wC W)=>cLs2 hW M0 M1)
   refine jf (fun W=>Below wC.heap.size wC W) [(0,true),(1,true),(2,true),(4,true),(5,true),(3,false),(6,true),(7,false)] rF rF gX (bR.drew) ?_
   intro wS HS
   simp only [jY,List.length_cons,List.length_nil,List.getElem?_cons_succ,List.getElem?_cons_zero,List.map_cons,List.map_nil,List.cons_append,List.nil_append,List.drop_succ_cons,List.drop_zero]
   iterate 5
    all_goals refine wkR ?_
   all_goals first|(refine kU rfl HS ?_)|(refine ky rfl (fun K hK=>?_);go_simp;refine (zW (px0.below (tQ EC HS))).mono ?_;rintro e wT0 ⟨t0_c,rfl,OT0,hbT⟩;obtain ⟨t0_qv0,rfl,t0_q_0⟩:=kM OT0.raw;obtain ⟨t0_qa0,t0_qp0,rfl,t0_ql0⟩:=Rep.sl t0_q_0;skip;clear t0_q_0;replace OT0:=yD OT0;have hs0:=hbT.size;have hr0:=HS.size;replace HS:=(tQ HS hbT);refine hK _ _ HS ?_;clear hK K hbT)
   all_goals refine wkP ?_
   all_goals refine wkR ?_
   all_goals first|(refine kU rfl HS ?_)|(refine ky rfl (fun K hK=>?_);go_simp;refine hK _ _ (HS.alloc HS.size _) ?_;clear hK K)
   all_goals refine wkP ?_
   all_goals refine jv ?_
   have hsW:=HS.size
   have hsC:=EC.size
   have hrC:=hbel.size
   have hbS:Below wr.heap.size wr _:=(tQ EC HS)
   replace HO:=yD (HO.out.below hbS)
   have hbW:=(tQ hbel hbS)
   go_wp2_with (at_builtin;refine Rep.jZ rfl _ _ 52 rfl (r:=kJ) (e:=178) Tryz.underlying52 kEt rfl rM rM (B:=w.heap.size) HO.out rR rR rfl (Rep.own.wide (T:=Btw wr.heap.size wT0.heap.size) (Rep.jy (OT0.out) (Rep.jG q_2)) fG) rfl fP mH fG rP nS ?_)
   intro v2 w2 hown2 hbel2 hz2
   replace hown2:=Rep.kg.cast hown2 (HSN.out.symm)
   have HO2:=yD hown2
   have hbel3:=hbW.trans hbel2
   clear hown2 HO hbel2
   go_wp2
   go_roundw
   case rel=>exact ⟨k + 1,by omega,by go_num,HO2,hbel3⟩
   simp [intOf];omega
 obtain rfl:k=l.length:=rP
 go_wp2
 go_ret
 exact ⟨_,rfl,Rep.kg.cast HO.out rQ,hbel⟩
theorem kKc {w:World} {vl:Value} {l:List jK} (hl:(Rep.slice 178 kJ).rd w [vl] l) :
    Calls Tryz.prog 126 #[vl] w (kAt 178 kJ l w):=by
 have HL:=yD hl
 obtain ⟨la,lp,rfl,ll⟩:=Rep.sl hl.1
 have hlb:l.length≤16777216:=hl.2.1
 clear hl
 go_enter Tryz.func126,Tryz.ntmps126
 go_wp2
 have O0:Rep.kg 178 kJ (w.alloc (.cells #[] 178)) (.slice (some ⟨w.heap.size,0,none⟩) 0 0) [] (Btw w.heap.size (w.alloc (.cells #[] 178)).heap.size) :=
   Rep.yj (e:=178) (r:=kJ) (w:=w) (cs:=[]) (xs:=[]) (T:=fun _=>False) rQ rQ rfl (fun _ h=>h.elim) ⟨Nat.le_refl _,by simp⟩
 go_loopw [3,4] (fun v i wr=>∃ k:Nat,k≤l.length∧i=.int .i64 k∧Hid (Rep.kg 178 kJ wr v (l.take k) (Btw w.heap.size wr.heap.size))∧Below w.heap.size w wr) (fun _ i _=>l.length - (intOf i).toNat)
 case atStart=>exact ⟨0,Nat.zero_le _,rfl,yD O0,bR.alloc nL _⟩
 clear O0
 obtain ⟨k,hk,rfl,HO,hbel⟩:=hrel
 obtain ⟨oa,on,oc,ho,HON⟩:=HO.out.parts;obtain rfl:=ho
 have hlk:(l.take k).length≤k:=rG
 by_cases hlt:k < l.length
 · obtain ⟨qb,qo,rfl,qc0,qc1,qr,Aq0,Aq1⟩:=Rep.kEk (HL.out.1.below hbel) hlt rfl
   have hbd:=Rep.yF HL.out hlt
   have hsn:=List.take_succ_eq_append_getElem hlt
   generalize l[k]=x at *
   have HSN:=yD hsn;clear hsn
   obtain ⟨x0,x1⟩:=x
   obtain ⟨qv0,qhe,q_0,q_1,q_2⟩:=yt qr
   simp only [List.cons.injEq,and_true] at qhe
   obtain ⟨rfl,rfl⟩:=qhe
   obtain ⟨qa0,qp0,rfl,ql0⟩:=Rep.sl q_1
   have px0:kL.rd wr _ x0:=⟨q_0,hbd.1⟩
   go_wp2_with fail
   refine (kAj px0).mono ?_
   rintro e wT ⟨tc,rfl,OT,hbT⟩
   obtain ⟨tv0,rfl,t_0⟩:=kM OT.raw
   obtain ⟨ta0,tp0,rfl,_⟩:=Rep.sl t_0
   clear t_0
   go_upto_region 6 with fail
   generalize hwC:World.alloc wT _=wC
   have EC:Below wT.heap.size wT wC:=nA
   have K0:wC.cell? ⟨wT.heap.size,0,none⟩=some (.slice ta0 x0.length tp0):=nW
   clear hwC
   have ER:=(tQ hbT EC)
   replace Aq0:=cL ER Aq0
   replace Aq1:=cL ER Aq1
   have FX:=yD (fun (W:World) (hW:Below wC.heap.size wC W)=>cLs3 hW K0 Aq0 Aq1)
   refine jT (fun W=>Below wC.heap.size wC W) [true,true,true,true,true,true,true,true,false] rF rF gX (bR.drew) ?_
   intro wS HS
   iterate 8
    all_goals refine wkR ?_
   all_goals first|(refine kU rfl HS ?_)|(refine ky rfl (fun K hK=>?_);go_simp;refine hK _ _ (HS.alloc HS.size _) ?_;clear hK K)
   all_goals refine wkP ?_
   all_goals refine jv ?_
   have hsW:=HS.size
   have hsC:=EC.size
   have hrC:=hbel.size
   have hsT:=hbT.size
   have hbS:Below wr.heap.size wr wS:=(tQ ER HS)
   replace HO:=yD (HO.out.below hbS)
   have hbW:=(tQ hbel hbS)
   go_wp2_with (at_builtin;refine Rep.jZ rfl _ _ 52 rfl (r:=kJ) (e:=178) Tryz.underlying52 kEt rfl rM rM (B:=w.heap.size) HO.out rR rR rfl (Rep.own.wide (T:=Btw wr.heap.size wT.heap.size) (Rep.jy (OT.below (tQ EC HS)) (Rep.jG q_2)) fG) rfl fP mH fG rP nS ?_)
   intro v2 w2 hown2 hbel2 hz2
   replace hown2:=Rep.kg.cast hown2 (HSN.out.symm)
   have HO2:=yD hown2
   have hbel3:=hbW.trans hbel2
   clear hown2 HO hbel2
   go_wp2
   go_roundw
   case rel=>exact ⟨k + 1,by omega,by go_num,HO2,hbel3⟩
   simp [intOf];omega
 obtain rfl:k=l.length:=rP
 go_wp2
 go_ret
 exact ⟨_,rfl,Rep.kg.cast HO.out rQ,hbel⟩
end Go.Proofs.YtlfblpgkegeaeaaGreat

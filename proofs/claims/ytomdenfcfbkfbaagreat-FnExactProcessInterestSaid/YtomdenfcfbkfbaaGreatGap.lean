/-
  Small functions on numbers: ranges, comparisons; the library's cmp.Compare and cmp.Or.
  Appending one new element to an owned slice, as a walk meets it. No program in sight.
  The element types of slices: zero, size, bytes. Printed by geninfo.py.
  Slices of slices, read. No program in sight.
  Names: compared.
  Pending interests: found.
  Whether a name is pending.
  Thinning an owned slice in place: what is kept, what is stale, what is still to be read. No program in sight.
-/
import Derived.Test.YtomdenfcfbkfbaaGreatLib
import Derived.OwnWalk
import Derived.Deep.Cut
import Derived.Laws.IdiomCopy
set_option linter.unusedVariables false
set_option linter.unusedSimpArgs false
set_option linter.unnecessarySimpa false
set_option maxRecDepth 100000
set_option maxHeartbeats 4000000
namespace Go.Proofs.YtomdenfcfbkfbaaGreat
open Go.RowKit
def inR (n a b:Int):Bool:=decide (a≤n) && decide (n≤b)
def kBx (a b:Int):Int:=if a < b then -1 else if b < a then 1 else 0
def orI:List Int→Int
  | []=>0
  | a :: l=>if a=0 then orI l else a
theorem kWe {x:List Int} {k:Nat} (h:k < x.length) (hx:x[k]≠0) (hno:∀ j,(h:j < k)→(h2:j < x.length)→x[j]=0):orI x=x[k]:=by
 induction x generalizing k with
 | nil=>simp at h
 | cons a l ih =>
   cases k with
   | zero=>simp at hx;simp [orI,hx]
   | succ k =>
     have h0:=hno 0 rJ rM
     simp at h0
     simp only [orI,h0,if_true,List.getElem_cons_succ]
     exact ih qX (by simpa using hx) (fun j hj h2=>hno (j + 1) rJ (by simp only [List.length_cons];omega))
theorem orI_miss {x:List Int} (hno:∀ j,(h2:j < x.length)→x[j]=0):orI x=0:=by
 induction x with
 | nil=>rfl
 | cons a l ih =>
   have h0:=hno 0 rM
   simp at h0
   simp only [orI,h0,if_true]
   exact ih (fun j h2=>hno (j + 1) (by simp only [List.length_cons];omega))
theorem kAp {w:World} {n a b:Int}:Calls Tryz.prog 69 #[.int .i64 n,.int .i64 a,.int .i64 b] w fun e w'=>e=.returned (.bool (inR n a b))∧w'=w:=by
 go_enter Tryz.func69,Tryz.ntmps69
 by_cases h:n ≥ a
 · have hd:decide (n ≥ a)=true:=qX
   go_wp2
   go_ret
   exact ⟨kP (by simp [inR,h]),rfl⟩
 have hd:decide (n ≥ a)=false:=qX
 go_wp2
 go_ret
 exact ⟨kP (by simp [inR];omega),rfl⟩
theorem kAh {w:World} {n a b:Int}:Calls Tryz.prog 82 #[.int .i64 n,.int .i64 a,.int .i64 b] w fun e w'=>e=.returned (.bool (inR n a b))∧w'=w:=by
 go_enter Tryz.func82,Tryz.ntmps82
 by_cases h:a≤n
 · have hd:decide (a≤n)=true:=qX
   go_wp2
   go_ret
   exact ⟨kP (by simp [inR,h]),rfl⟩
 have hd:decide (a≤n)=false:=qX
 go_wp2
 go_ret
 exact ⟨kP (by simp [inR];omega),rfl⟩
theorem isNaN_c {w:World} {n:Int}:Calls Tryz.prog 228 #[.int .i64 n] w fun e w'=>e=.returned (.bool false)∧w'=w:=by
 go_enter Tryz.func228,Tryz.ntmps228
 go_wp2
 go_ret
 exact ⟨kP rM,rfl⟩
theorem kMn {w:World} {a b:Int}:Calls Tryz.prog 203 #[.int .i64 a,.int .i64 b] w fun e w'=>e=.returned (.int .i64 (kBx a b))∧w'=w:=by
 go_enter Tryz.func203,Tryz.ntmps203
 go_wp2_with fail
 refine isNaN_c.mono ?_
 rintro e u ⟨rfl,rfl⟩
 go_wp2_with fail
 refine isNaN_c.mono ?_
 rintro e u ⟨rfl,rfl⟩
 by_cases h:a < b
 · go_wp2
   go_ret
   exact ⟨jI (by simp [kBx,h]),rfl⟩
 by_cases h2:a > b
 · go_wp2
   go_ret
   exact ⟨jI (by unfold kBx;rw [if_neg rJ,if_pos rJ]),rfl⟩
 go_wp2
 go_ret
 exact ⟨jI (by unfold kBx;rw [if_neg rJ,if_neg rJ]),rfl⟩
theorem cmpOr_c {w:World} {va:Value} {x:List Int} (ha:(Rep.slice 3 Rep.int).raw w [va] x):Calls Tryz.prog 202 #[va] w fun e w'=>e=.returned (.int .i64 (orI x))∧w'=w:=by
 obtain ⟨aa,capa,rfl,la⟩:=Rep.sl ha
 go_enter Tryz.func202,Tryz.ntmps202
 go_wp2
 go_loop [8] (fun i=>∃ k:Nat,k≤x.length∧i=.int .i64 k∧(∀ j,(h:j < k)→(h2:j < x.length)→x[j]=0)) (fun i=>x.length - (intOf i).toNat)
 case atStart=>exact ⟨0,Nat.zero_le _,rfl,fun _ h=>by omega⟩
 obtain ⟨k,hk,rfl,hno⟩:=hrel
 have HN:=yD hno;clear hno
 by_cases hlt:k < x.length
 · obtain ⟨ba,offa,rfl,c0,hr,A0⟩:=Rep.kEo ha hlt rfl
   have he:=Rep.jX hr
   simp only [List.cons.injEq,and_true] at he
   obtain ⟨rfl,hr1⟩:=he
   clear hr hr1
   generalize hy:x[k]=y at *
   have HY:=yD hy;clear hy
   have hit:y≠0→Hid (orI x=y):=fun q=>yD ((kWe hlt (by rw [HY.out];exact q) HN.out).trans HY.out)
   have mis:y=0→Hid (∀ j,(h:j < k + 1)→(h2:j < x.length)→x[j]=0):=fun q=>yD (fun j h h2=>by by_cases e:j=k;(subst e;rw [HY.out];exact q);exact HN.out j rJ h2)
   have HI:=yD hit;have HM:=yD mis;clear hit mis
   by_cases h1:y=0
   · have HT:=HM.out h1;clear HI HM
     go_wp2;go_round;(case rel=>exact ⟨k + 1,by omega,by go_num,HT.out⟩);(case measure=>simp [intOf];omega)
   have HT:=HI.out h1;clear HI HM
   go_wp2
   go_ret
   exact ⟨jI HT.out.symm,rfl⟩
 have HT:=yD (orI_miss (fun j h2=>HN.out j rJ h2))
 go_wp2
 go_ret
 exact ⟨jI HT.out.symm,rfl⟩
namespace Rep
section
variable {α:Type} {r:Rep α} {e:TypeId} {w w':World} {v:Value} {xs ys:List α} {S T:Nat→Prop}
theorem kDv {P:Program} {ops:Array Oper} {rest:List Oper} {o:Oper} {a:Act} {Q:Exit→Act→World→Prop} (hgd:o.guard=none) (s x:Operand) (t:TypeId)
    (ho:o.op=.call { callee:=.builtin .append,args:=#[s,x],argTypes:=#[t,t] })
    {z:Value} {bytes:Nat} (ht:P.underlying t=some (.slice e)) (hinf:(P.info? e).map (fun i=>(i.zero,i.size,i.bytes))=some (some z,r.n,bytes)) (hzs:z.cells.size=r.n) (hn:0 < r.n) (hby:bytes≤1000)
    (hown:kQ e r w v xs S) (hs:a.eval s=v) {b:Nat} (hx:a.eval x=.slice (some ⟨b,0,none⟩) 1 1) (hb:b=w.heap.size) {cs:List Value} {y:α} (hy:r.own w cs y T)
    {u:World} (hu:u=w.alloc (.cells cs.toArray e)) (hST:∀ k,S k→T k→False) (hlen:xs.length + 1≤1000000000)
    (h:∀ v' w',kQ e r w' v' (xs++[y]) (fun k=>S k∨T k∨(w.heap.size + 1≤k∧k < w'.heap.size))→Touch (fun k=>some k=v.ownBlock∧S k) u w'→wpList P ops Q rest (a.put o.dst v') w'):wpList P ops Q (o :: rest) a u:=by
 subst hu hb
 obtain ⟨i,hi,hz,hsize,hbytes⟩:=info_parts hinf
 have hl:=r.len hy.1
 have hown':kQ e r (w.alloc (.cells cs.toArray e)) v xs (fun k=>S k∧k < w.heap.size):=(kQ.alloc hown.live _)
 have hy':=hy.live.alloc (.cells cs.toArray e)
 refine kOl hgd s x t ho (r:=r) (e:=e) ht hi hz hsize hzs hn rJ hown' hs hx (m:=1) (cells:=cs) (ys:=[y]) (T:=fun k=>T k∧k < w.heap.size) (.inr ⟨_,1,rfl,?_⟩)
   ⟨cs,[],_,fun _=>False,by simp,hy'.1,rfl,fun _ h=>h,fun _ h=>h.elim,fun _ _ _ h=>h.elim⟩ rfl (fun k h1 h2=>hST k h1.1 h2.1) (by simpa using hy.2) (by simpa using hlen) ?_
 · intro j c hj
   have hadd:(⟨w.heap.size,0,none⟩:Addr).add j=⟨w.heap.size,j,none⟩:=gM
   rw [hadd]
   exact kN (heap_alloc_new w _) qK
 intro v' w' h1 h2
 refine h v' w' (h1.wide ?_) ⟨h2.os,h2.tape,h2.output,h2.size,fun k hk q=>h2.block k hk (fun a=>q ⟨a.1,a.2.1⟩)⟩
 intro k hk
 rcases hk with hk | hk | hk
 · exact .inl hk.1
 · exact .inr (.inl hk.1)
 exact .inr (.inr ⟨by simpa using hk.1,hk.2⟩)
theorem jU {P:Program} {ops:Array Oper} {rest:List Oper} {o:Oper} {a:Act} {Q:Exit→Act→World→Prop} (hgd:o.guard=none) (s x:Operand) (t:TypeId)
    (ho:o.op=.call { callee:=.builtin .append,args:=#[s,x],argTypes:=#[t,t] })
    {z:Value} {bytes:Nat} (ht:P.underlying t=some (.slice e)) (hinf:(P.info? e).map (fun i=>(i.zero,i.size,i.bytes))=some (some z,r.n,bytes)) (hzs:z.cells.size=r.n) (hn:0 < r.n) (hby:bytes≤1000)
    {B:Nat} (hown:kQ e r w v xs S) (hs:a.eval s=v) {b:Nat} (hx:a.eval x=.slice (some ⟨b,0,none⟩) 1 1) (hb:b=w.heap.size) {cs:List Value} {y:α} (hy:r.own w cs y T)
    {u:World} (hu:u=w.alloc (.cells cs.toArray e)) (hST:∀ k,S k→T k→False) (hSB:∀ k,S k→B≤k∧k < w.heap.size) (hTB:∀ k,T k→B≤k∧k < w.heap.size) (hB:B≤w.heap.size) (hlen:xs.length + 1≤1000000000)
    (h:∀ v' w',kQ e r w' v' (xs++[y]) (Btw B w'.heap.size)→Below B w w'→w.heap.size < w'.heap.size→wpList P ops Q rest (a.put o.dst v') w'):wpList P ops Q (o :: rest) a u:=by
 refine kDv hgd s x t ho ht hinf hzs hn hby hown hs hx hb hy hu hST hlen ?_
 intro v' w' h1 h2
 subst hu
 have hsz:=h2.size
 simp at hsz
 refine h v' w' (h1.wide ?_) ?_ rJ
 · intro k hk
   rcases hk with hk | hk | hk
   · have:=hSB k hk;exact ⟨this.1,by omega⟩
   · have:=hTB k hk;exact ⟨this.1,by omega⟩
   exact ⟨by omega,hk.2⟩
 refine ((Below.refl B w).alloc hB _).trans (h2.below ?_ ?_)
 · simp;omega
 intro k hk;have:=hSB k hk.2;omega
end
end Rep
end Go.Proofs.YtomdenfcfbkfbaaGreat
namespace Go.Proofs.YtomdenfcfbkfbaaGreat
theorem kEm:(Tryz.prog.info? 3).map (fun i=>(i.zero,i.size,i.bytes))=some (some (.int .i64 0),1,8):=by kernel_rfl
theorem kNn:(Tryz.prog.info? 9).map (fun i=>(i.zero,i.size,i.bytes))=some (some (.string ByteArray.empty),1,16):=by kernel_rfl
theorem infByte:(Tryz.prog.info? 5).map (fun i=>(i.zero,i.size,i.bytes))=some (some (.int .u8 0),1,1):=by kernel_rfl
theorem kHz:(Tryz.prog.info? 166).map (fun i=>(i.zero,i.size,i.bytes))=some (some (.agg #[.slice none 0 0,.int .i64 0,.int .i64 0]),3,40):=by kernel_rfl
theorem kDl:(Tryz.prog.info? 159).map (fun i=>(i.zero,i.size,i.bytes))=some (some (.agg #[.slice none 0 0,.int .i64 0,.int .i64 0]),3,40):=by kernel_rfl
theorem yO:(Tryz.prog.info? 81).map (fun i=>(i.zero,i.size,i.bytes))=some (some (.agg #[.int .i64 0,.int .i64 0,.int .i64 0]),3,24):=by kernel_rfl
theorem zW:(Tryz.prog.info? 77).map (fun i=>(i.zero,i.size,i.bytes))=some (some (.agg #[.slice none 0 0,.slice none 0 0,.int .i64 0]),3,56):=by kernel_rfl
theorem kEa:(Tryz.prog.info? 157).map (fun i=>(i.zero,i.size,i.bytes))=some (some (.agg #[.slice none 0 0,.int .i64 0]),2,32):=by kernel_rfl
theorem infData:(Tryz.prog.info? 113).map (fun i=>(i.zero,i.size,i.bytes))=some (some (.agg #[.slice none 0 0,.slice none 0 0,.slice none 0 0,.int .i64 0,.int .i64 0]),5,88):=by kernel_rfl
theorem kKc:(Tryz.prog.info? 169).map (fun i=>(i.zero,i.size,i.bytes))=some (some (.agg #[.slice none 0 0,.slice none 0 0,.slice none 0 0,.int .i64 0,.int .i64 0,.int .i64 0]),6,96):=by kernel_rfl
theorem kHy:(Tryz.prog.info? 117).map (fun i=>(i.zero,i.size,i.bytes))=some (some (.agg #[.int .i64 0,.bool false,.slice none 0 0,.int .i64 0,.int .i64 0,.int .i64 0,.slice none 0 0,.slice none 0 0,.slice none 0 0,.int .i64 0,.int .i64 0]),11,152):=by kernel_rfl
end Go.Proofs.YtomdenfcfbkfbaaGreat
namespace Go.Proofs.YtomdenfcfbkfbaaGreat
open Go.RowKit
namespace Rep
section
variable {α:Type} {r:Rep α} {e:TypeId} {w:World} {a:Option Addr} {len cap:Nat} {xs:List α} {o:Bool} {S:Nat→Prop}
theorem kWb {cells:List Value} {ys:List α} (h:row r o w cells ys S) {k:Nat} (hk:k≤ys.length):∃ c d,cells=c++d∧c.length=k * r.n∧row r o w c (ys.take k) S∧row r o w d (ys.drop k) S:=by
 by_cases h1:k < ys.length
 · obtain ⟨p,c,q,A,B,C,rfl,hp,ra,rb,rc,hA,hB,hC,hdis⟩:=kKm h h1
   refine ⟨p,c++q,rfl,hp,yM ra hA,?_⟩
   rw [List.drop_eq_getElem_cons h1]
   exact ⟨c,q,B,C,rfl,rb,rc,hB,hC,fun ho k=>(hdis ho k).2.2⟩
 obtain rfl:k=ys.length:=rJ
 have:=zl h
 exact ⟨cells,[],by simp,this,by simpa using h,by simp [row]⟩
theorem kQu (h:(slice e r).raw w [.slice a len cap] xs) {k:Nat} (hk:k≤xs.length):(slice e r).raw w [.slice a k cap] (xs.take k):=by
 obtain ⟨a',len',cap',h0,h1,h2,h3,h4⟩:=h
 simp only [List.cons.injEq,Value.slice.injEq,and_true] at h0
 obtain ⟨rfl,rfl,rfl⟩:=h0
 refine ⟨a,k,cap,rfl,by simp;omega,by omega,h3,?_⟩
 rcases h4 with ⟨rfl,_⟩|⟨b,off,ha,cur,e',fr,p,c,q,hb,hc,hp,hl,hf,hS,hx⟩
 · exact .inl ⟨by simp,by simp⟩
 obtain ⟨c1,c2,rfl,hcl,r1,r2⟩:=kWb hx hk
 exact .inr ⟨b,off,ha,cur,e',fr,p,c1,c2++q,hb,by rw [hc];simp,hp,hl,by simp,hS,r1⟩
theorem kLl (h:(slice e r).rd w [.slice a len cap] xs) {k:Nat} (hk:k≤xs.length):(slice e r).rd w [.slice a k cap] (xs.take k) :=
  ⟨kQu h.1 hk,by have:=h.2.1;simp;omega,fun x hx=>h.2.2 x (List.mem_of_mem_take hx)⟩
theorem drop_raw {b off:Nat} (h:(slice e r).raw w [.slice (some ⟨b,off,none⟩) len cap] xs) {k:Nat} (hk:k≤xs.length):(slice e r).raw w [.slice (some ⟨b,off + k * r.n,none⟩) (len - k) (cap - k)] (xs.drop k):=by
 obtain ⟨a',len',cap',h0,h1,h2,h3,h4⟩:=h
 simp only [List.cons.injEq,Value.slice.injEq,and_true] at h0
 obtain ⟨rfl,rfl,rfl⟩:=h0
 refine ⟨_,_,_,rfl,by simp;omega,by omega,by omega,?_⟩
 rcases h4 with ⟨rfl,_⟩|⟨b',off',ha,cur,e',fr,p,c,q,hb,hc,hp,hl,hf,hS,hx⟩
 · exact .inl ⟨by simp,by simp⟩
 simp only [Option.some.injEq,Addr.mk.injEq,and_true] at ha
 obtain ⟨rfl,rfl⟩:=ha
 obtain ⟨c1,c2,rfl,hcl,r1,r2⟩:=kWb hx hk
 refine .inr ⟨b,off + k * r.n,rfl,cur,e',fr,p++c1,c2,q,hb,by rw [hc];simp,by simp [hp,hcl],?_,by simp,hS,r2⟩
 have:k * r.n≤cap * r.n:=Nat.mul_le_mul_right _ rJ
 rw [Nat.sub_mul];omega
theorem void_raw {c:Nat} (hc:c≤maxLen):(slice e r).raw w [.slice a 0 c] []:=⟨_,_,_,rfl,rfl,Nat.zero_le _,hc,.inl ⟨rfl,by simp⟩⟩
theorem kAs:(slice e r).own w [.slice a 0 0] [] S:=⟨⟨_,_,_,rfl,rfl,Nat.le_refl _,Nat.zero_le _,.inl ⟨rfl,fun _=>rfl⟩⟩,by simp [slice]⟩
theorem raw_src (h:(slice e r).raw w [.slice a len cap] xs):∃ cells,Src w (.slice a len cap) xs.length cells∧row r false w cells xs (fun _=>True):=by
 obtain ⟨a',len',cap',h0,h1,h2,h3,h4⟩:=h
 simp only [List.cons.injEq,Value.slice.injEq,and_true] at h0
 obtain ⟨rfl,rfl,rfl⟩:=h0
 rcases h4 with ⟨rfl,_⟩|⟨b,off,ha,cur,e',fr,p,c,q,hb,hc,hp,hl,hf,hS,hx⟩
 · subst h1
   exact ⟨[],.inl ⟨rfl,_,_,rfl⟩,rfl⟩
 subst ha h1
 refine ⟨c,.inr ⟨_,_,rfl,?_⟩,yM hx (fun _ _=>trivial)⟩
 intro j u hj
 have hadd:(⟨b,off,none⟩:Addr).add j=⟨b,off + j,none⟩:=gM
 have hjl:=(List.getElem?_eq_some_iff.1 hj).1
 rw [hadd]
 simp only [World.cell?,hb,Option.isSome_none,Bool.false_eq_true,if_false]
 rw [← Array.getElem?_toList,hc,List.getElem?_append_right rJ,List.getElem?_append_left rJ]
 rw [← hj];congr 1;omega
end
end Rep
theorem kFx:∀ l:List UInt8,Op.bytesLess l l=false
  | []=>rfl
  | a :: l=>by simp [Op.bytesLess,kFx l]
def kGo (a b:ByteArray):Int:=if Op.bytesLess a.toList b.toList then -1 else if a=b then 0 else 1
theorem kEh {a b:ByteArray}:kGo a b=0↔a=b:=by
 unfold kGo
 constructor
 · intro h
   split at h
   · omega
   split at h
   · assumption
   omega
 rintro rfl
 simp [kFx]
def kHe:List ByteArray→List ByteArray→Int
  | [],[]=>0
  | [],_ :: _=>-1
  | _ :: _,[]=>1
  | a :: x,b :: y=>if kGo a b=0 then kHe x y else kGo a b
theorem kVp:∀ {x y:List ByteArray},kHe x y=0↔x=y
  | [],[]=>by simp [kHe]
  | [],_ :: _=>by simp [kHe]
  | _ :: _,[]=>by simp [kHe]
  | a :: x,b :: y=>by
    unfold kHe
    by_cases h:kGo a b=0
    · rw [if_pos h,kVp (x:=x) (y:=y)]
      have:=kEh.1 h
      subst this
      simp
    · rw [if_neg h]
      constructor
      · intro q;exact absurd q h
      · intro q
        simp only [List.cons.injEq] at q
        exact absurd (kEh.2 q.1) h
theorem kVq:∀ {x y:List ByteArray} {k:Nat} (hx:k < x.length) (hy:k < y.length),x.take k=y.take k→¬ kGo x[k] y[k]=0→kHe x y=kGo x[k] y[k]
  | [],_,_,hx,_,_,_=>by simp at hx
  | _ :: _,[],_,_,hy,_,_=>by simp at hy
  | a :: x,b :: y,0,_,_,_,h=>by
    simp at h
    simp [kHe,h]
  | a :: x,b :: y,k + 1,hx,hy,ht,h=>by
    simp only [List.take_succ_cons,List.cons.injEq] at ht
    simp only [List.getElem_cons_succ] at h ⊢
    have h0:=kEh.2 ht.1
    simp only [kHe,h0,if_true]
    exact kVq (by simpa using hx) (by simpa using hy) ht.2 h
theorem cmpN_end:∀ {x y:List ByteArray} {k:Nat},k≤x.length→k≤y.length→x.take k=y.take k→¬ (k < x.length∧k < y.length)→kHe x y=if x.length < y.length then -1 else if y.length < x.length then 1 else 0
  | [],[],_,_,_,_,_=>by simp [kHe]
  | [],b :: y,_,_,_,_,_=>by simp [kHe]
  | a :: x,[],_,_,_,_,_=>by simp [kHe]
  | a :: x,b :: y,0,_,_,_,h=>by simp at h
  | a :: x,b :: y,k + 1,hx,hy,ht,h=>by
    simp only [List.take_succ_cons,List.cons.injEq] at ht
    have h0:=kEh.2 ht.1
    simp only [kHe,h0,if_true,List.length_cons]
    rw [cmpN_end (k:=k) (by simpa using hx) (by simpa using hy) ht.2 qX]
    simp
theorem take_next {x y:List ByteArray} {k:Nat} (hx:k < x.length) (hy:k < y.length) (h:x.take k=y.take k) (e:kGo x[k] y[k]=0):x.take (k + 1)=y.take (k + 1) :=
  yt h hx hy (kEh.1 e)
def eqN (a b:ky):Bool:=decide (a=b)
theorem specl4Cmp_c {w:World} {a b:ByteArray}:Calls Tryz.prog 232 #[.string a,.string b] w fun e w'=>e=.returned (.int .i64 (kGo a b))∧w'=w:=by
 go_enter Tryz.func232,Tryz.ntmps232
 cases h1:Op.bytesLess a.toList b.toList
 · cases h2:(a.toList==b.toList)
   · have HT:=yD (show kGo a b=1 by
       unfold kGo
       rw [h1]
       rw [kOf] at h2
       simp at h2
       simp [h2])
     go_wp2
     go_ret
     exact ⟨jI HT.out.symm,rfl⟩
   have HT:=yD (show kGo a b=0 by
     rw [kOf] at h2
     simp at h2
     exact kEh.2 h2)
   go_wp2
   go_ret
   exact ⟨jI HT.out.symm,rfl⟩
 have HT:=yD (show kGo a b=-1 by simp [kGo,h1])
 go_wp2
 go_ret
 exact ⟨jI HT.out.symm,rfl⟩
theorem kKf {w:World} {ca cb:List Value} {a b:ky} (ha:kZ.raw w ca a) (hb:kZ.raw w cb b) :
    Calls Tryz.prog 217 #[.agg ca.toArray,.agg cb.toArray] w fun e w'=>e=.returned (.int .i64 (kHe a b))∧Below w.heap.size w w':=by
 obtain ⟨av,rfl,a_0⟩:=kR ha
 obtain ⟨bv,rfl,b_0⟩:=kR hb
 clear ha hb
 obtain ⟨aa,capa,rfl,la⟩:=Rep.sl a_0
 obtain ⟨ab,capb,rfl,lb⟩:=Rep.sl b_0
 go_enter Tryz.func217,Tryz.ntmps217
 go_wp2
 generalize hwB:World.alloc (World.alloc w _) _=wB
 have EB:Below w.heap.size w wB:=by rw [← hwB];exact bD
 have K0:wB.cell? ⟨w.heap.size,0,none⟩=some (.slice aa a.length capa):=nJ
 have K1:wB.cell? ⟨w.heap.size + 1,0,none⟩=some (.slice ab b.length capb):=nJ
 clear hwB
 replace a_0:=a_0.below EB
 replace b_0:=b_0.below EB
 go_loopw [5] (fun i wr=>∃ k:Nat,k≤a.length∧k≤b.length∧i=.int .i64 k∧Hid (a.take k=b.take k)∧Below wB.heap.size wB wr) (fun i _=>a.length - (intOf i).toNat)
 case atStart=>exact ⟨0,Nat.zero_le _,Nat.zero_le _,rfl,yD rfl,bR⟩
 obtain ⟨k,hk,hk2,rfl,HN,hbel⟩:=hrel
 replace K0:=cL hbel K0
 replace K1:=cL hbel K1
 by_cases hc:k < a.length∧k < b.length
 · obtain ⟨hlt,hlt2⟩:=hc
   have hd:decide ((k:Int) < a.length)=true:=by simpa using hlt
   have hdn:decide (k < a.length)=true:=by simpa using hlt
   obtain ⟨ba,offa,rfl,c0,hr,A0⟩:=Rep.kEo (a_0.below hbel) hlt rfl
   obtain ⟨bb,offb,rfl,d0,hr2,B0⟩:=Rep.kEo (b_0.below hbel) hlt2 rfl
   obtain ⟨he,_⟩:=Rep.kBe hr
   obtain rfl:c0=_:=by simpa using he
   obtain ⟨he2,_⟩:=Rep.kBe hr2
   obtain rfl:d0=_:=by simpa using he2
   clear he he2 hr hr2
   have hdf:=fun q=>kVq hlt hlt2 HN.out q
   have hnx:=fun q=>take_next hlt hlt2 HN.out q
   generalize a[k]=x at *
   generalize b[k]=y at *
   have HD:=yD hdf
   have HX:=yD hnx
   clear hdf hnx
   go_wp2_with fail
   have FX:=yD (fun (W:World) (hW:Below wr.heap.size wr W)=>kDa hW K0 K1 A0 B0)
   refine kV (fun W=>Below wr.heap.size wr W) [true,true,true,true,true,true,true,true,true,true,false,true] rA rA gI (bR.drew) ?_
   intro wS HS
   iterate 10
    all_goals refine wkR ?_
   all_goals first | refine wkC (specl4Cmp_c) ?_ | refine wkR ?_
   all_goals refine wkR ?_
   all_goals refine ko ?_
   have EF:=(tQ EB (tQ hbel HS))
   have EG:=(tQ hbel HS)
   by_cases hz:kGo x y=0
   · have HT:=yD (HX.out hz)
     clear HD HX
     have hz':(kGo x y==0)=true:=qU
     have hz2:(kGo x y != 0)=false:=qU
     clear hz
     go_wp2
     go_roundw
     case rel=>exact ⟨k + 1,by omega,by omega,by go_num,HT,EG⟩
     simp [intOf];omega
   have HT:=yD (HD.out hz)
   clear HD HX
   have hz':(kGo x y==0)=false:=qU
   have hz2:(kGo x y != 0)=true:=qU
   go_wp2
   go_ret
   exact ⟨jI HT.out.symm,EF⟩
 have HT:=yD (cmpN_end hk hk2 HN.out hc)
 have EF:=(tQ EB hbel)
 by_cases h1:k < a.length
 · have hd:decide ((k:Int) < a.length)=true:=qO
   have hdn:decide (k < a.length)=true:=qO
   have h2:¬ k < b.length:=fun q=>hc ⟨h1,q⟩
   have h3:¬ (a.length:Int) < b.length:=rJ
   have h4:(b.length:Int) < a.length:=rJ
   have HU:=yD (show kHe a b=1 by rw [HT.out,if_neg rJ,if_pos rJ])
   clear hc HT
   go_wp2
   all_goals go_ret
   all_goals exact ⟨jI HU.out.symm,EF⟩
 have hd:decide ((k:Int) < a.length)=false:=qO
 have hdn:decide (k < a.length)=false:=qO
 clear hc
 by_cases h3:a.length < b.length
 · have HU:=yD (show kHe a b=-1 by rw [HT.out,if_pos h3])
   clear HT
   go_wp2
   go_ret
   exact ⟨jI HU.out.symm,EF⟩
 have h4:¬ b.length < a.length:=rJ
 have HU:=yD (show kHe a b=0 by rw [HT.out,if_neg h3,if_neg h4])
 clear HT
 go_wp2
 go_ret
 exact ⟨jI HU.out.symm,EF⟩
theorem je {w:World} {ca cb:List Value} {a b:ky} (ha:kZ.raw w ca a) (hb:kZ.raw w cb b) :
    Calls Tryz.prog 160 #[.agg ca.toArray,.agg cb.toArray] w fun e w'=>e=.returned (.bool (eqN a b))∧Below w.heap.size w w':=by
 have HA:=yD ha
 have HB:=yD hb
 obtain ⟨av,rfl,a_0⟩:=kR ha
 obtain ⟨bv,rfl,b_0⟩:=kR hb
 clear ha hb
 obtain ⟨aa,capa,rfl,la⟩:=Rep.sl a_0
 obtain ⟨ab,capb,rfl,lb⟩:=Rep.sl b_0
 go_enter Tryz.func160,Tryz.ntmps160
 go_wp2_with fail
 refine (kKf (HA.out.below bD) (HB.out.below bD)).mono ?_
 rintro e w1 ⟨rfl,hb1⟩
 have EF:Below w.heap.size w w1:=Below.trans bD (hb1.mono qI)
 clear hb1
 go_wp2
 go_ret
 exact ⟨kP (by unfold eqN;rw [Bool.eq_iff_iff];simp [kVp]),EF⟩
theorem kIp {w:World} {va vb:Value} {a b:List ByteArray} (a_0:(Rep.slice 9 Rep.str).raw w [va] a) (b_0:(Rep.slice 9 Rep.str).raw w [vb] b) :
    Calls Tryz.prog 196 #[va,vb] w fun e w'=>e=.returned (.bool (eqN a b))∧Below w.heap.size w w':=by
 obtain ⟨aa,capa,rfl,la⟩:=Rep.sl a_0
 obtain ⟨ab,capb,rfl,lb⟩:=Rep.sl b_0
 go_enter Tryz.func196,Tryz.ntmps196
 by_cases hl:a.length=b.length
 case neg =>
  have HT:=yD (show eqN a b=false by unfold eqN;simp;rintro rfl;exact hl rfl)
  have hz:((a.length:Int) != b.length)=true:=rC
  have hzn:(a.length != b.length)=true:=qP
  go_wp2
  go_ret
  exact ⟨kP HT.out.symm,bR⟩
 have hz:((a.length:Int) != b.length)=false:=rC
 have hzn:(a.length != b.length)=false:=qP
 have HL:=yD hl;clear hl
 go_wp2
 go_loopw [13] (fun i wr=>∃ k:Nat,k≤a.length∧i=.int .i64 k∧Hid (a.take k=b.take k)∧Below w.heap.size w wr) (fun i _=>a.length - (intOf i).toNat)
 case atStart=>exact ⟨0,Nat.zero_le _,rfl,yD rfl,bR⟩
 obtain ⟨k,hk,rfl,HN,hbel⟩:=hrel
 by_cases hlt:k < a.length
 · have hlt2:k < b.length:=pX
   obtain ⟨ba,offa,rfl,c0,hr,A0⟩:=Rep.kEo (a_0.below hbel) hlt rfl
   obtain ⟨bb,offb,rfl,d0,hr2,B0⟩:=Rep.kEo (b_0.below hbel) hlt2 rfl
   obtain ⟨he,_⟩:=Rep.kBe hr
   obtain rfl:c0=_:=by simpa using he
   obtain ⟨he2,_⟩:=Rep.kBe hr2
   obtain rfl:d0=_:=by simpa using he2
   clear he he2 hr hr2
   have hne:=fun q=>kAm hlt hlt2 q
   have hnx:=fun q=>yt HN.out hlt hlt2 q
   generalize a[k]=x at *
   generalize b[k]=y at *
   have HD:=yD hne
   have HX:=yD hnx
   clear hne hnx
   go_wp2_with fail
   have FX:=yD (fun (W:World) (hW:Below wr.heap.size wr W)=>kIl hW A0 B0)
   refine kV (fun W=>Below wr.heap.size wr W) [true,true,true,true,true,true,true,true,true] rA rA gI (bR.drew) ?_
   intro wS HS
   iterate 9
    all_goals refine wkR ?_
   all_goals refine ko ?_
   have EG:=(tQ hbel HS)
   cases hz:(x.toList==y.toList)
   · have HT:=yD (show eqN a b=false by
       rw [kOf] at hz;simp at hz;unfold eqN;simp;exact HD.out hz)
     clear HD HX
     go_wp2
     go_ret
     exact ⟨kP HT.out.symm,EG⟩
   have HT:=yD (HX.out (by rw [kOf] at hz;simpa using hz))
   clear HD HX
   go_wp2
   go_roundw
   case rel=>exact ⟨k + 1,by omega,by go_num,HT,EG⟩
   simp [intOf];omega
 have HT:=yD (show eqN a b=true by unfold eqN;simp;exact zx HN.out hlt HL.out)
 go_wp2
 go_ret
 exact ⟨kP HT.out.symm,hbel⟩
theorem yz {w:World} {ca cb:List Value} {a b:ky} (ha:kZ.raw w ca a) (hb:kZ.raw w cb b) :
    Calls Tryz.prog 166 #[.agg ca.toArray,.agg cb.toArray] w fun e w'=>e=.returned (.bool (eqN a b))∧Below w.heap.size w w':=by
 obtain ⟨av,rfl,a_0⟩:=kR ha
 obtain ⟨bv,rfl,b_0⟩:=kR hb
 clear ha hb
 obtain ⟨aa,capa,rfl,la⟩:=Rep.sl a_0
 obtain ⟨ab,capb,rfl,lb⟩:=Rep.sl b_0
 go_enter Tryz.func166,Tryz.ntmps166
 go_wp2_with fail
 refine (kIp (a_0.below bD) (b_0.below bD)).mono ?_
 rintro e w1 ⟨rfl,hb1⟩
 have EF:Below w.heap.size w w1:=Below.trans bD (hb1.mono qI)
 clear hb1
 go_wp2
 go_ret
 exact ⟨rfl,EF⟩
def jT (n:ky) (p:kJ):Bool:=eqN p.1 n
theorem kCs {α:Type} {p:α→Bool} {x:List α} (h:¬ idxOf p x < 0):∃ k:Nat,k < x.length∧idxOf p x=k:=by
 unfold idxOf at *
 cases e:x.findIdx? p with
 | none=>rw [e] at h;simp at h
 | some i=>exact ⟨i,(List.findIdx?_eq_some_iff_getElem.1 e).1,rfl⟩
theorem kBu {w:World} {vl:Value} {l:(List kJ)} (hl:(Rep.slice 77 kD).raw w [vl] l) {cn:List Value} {n:ky} (hn:kZ.raw w cn n) :
    Calls Tryz.prog 110 #[vl,.agg cn.toArray] w fun e w'=>e=.returned (.int .i64 (idxOf (jT n) l))∧Below w.heap.size w w':=by
 obtain ⟨al,pl,rfl,ll⟩:=Rep.sl hl
 have Hn:=yD hn
 obtain ⟨fnv0,rfl,fn_0⟩:=kR hn
 obtain ⟨fna0,fnp0,rfl,fnl0⟩:=Rep.sl fn_0
 go_enter Tryz.func110,Tryz.ntmps110
 go_wp2
 generalize hwB:World.alloc w _=wB
 have EB:Below w.heap.size w wB:=by rw [← hwB];exact bD
 have K3_0:wB.cell? ⟨w.heap.size,0,none⟩=some (.slice fna0 (n).length fnp0):=nJ
 clear hwB
 replace hl:=hl.below EB
 go_loopw [5] (fun i wr=>∃ k:Nat,k≤l.length∧i=.int .i64 k∧Hid (∀ j,(h:j < k)→(h2:j < l.length)→(jT n) l[j]=false)∧Below wB.heap.size wB wr) (fun i _=>l.length - (intOf i).toNat)
 case atStart=>exact ⟨0,Nat.zero_le _,rfl,yD (fun _ h=>by omega),bR⟩
 obtain ⟨k,hk,rfl,HN,hbel⟩:=hrel
 replace K3_0:=cL hbel K3_0
 by_cases hlt:k < l.length
 · obtain ⟨qb,qo,rfl,qc0,qc1,qc2,qr,Aq0,Aq1,Aq2⟩:=Rep.zT (hl.below hbel) (i:=k) rJ rfl
   have hhit:=fun q=>idxOf_hit hlt q HN.out
   have hmis:=fun q=>kAl hlt q HN.out
   generalize l[k]=x at *
   have HD:=yD hhit;have HX:=yD hmis;clear hhit hmis
   obtain ⟨x0,x1,x2⟩:=x
   obtain ⟨qv0,qv1,qhe,q_0,q_1,q_2,q_3⟩:=kz qr
   simp only [List.cons.injEq,and_true] at qhe
   obtain ⟨rfl,rfl,rfl⟩:=qhe
   obtain ⟨qa0,qp0,rfl,ql0⟩:=Rep.sl q_1
   obtain ⟨qa1,qp1,rfl,ql1⟩:=Rep.sl q_2
   go_upto_region 4 with fail
   have FX:=yD (fun (W:World) (hW:Below wr.heap.size wr W)=>kDa hW K3_0 Aq0 Aq1 Aq2)
   refine kV (fun W=>Below wr.heap.size wr W) [true,true,true,true,true,true,false] rA rA gI (bR.drew) ?_
   intro wS HS
   iterate 6
    all_goals refine wkR ?_
   all_goals first | refine wkB (je (Rep.raw.below q_0 HS) (Rep.raw.below Hn.out ((tQ EB (tQ hbel HS))))) (fun wS1 HS=>?_) | refine wkR ?_
   all_goals refine ko ?_
   all_goals cases hg6:eqN x0 n
   all_goals have EG:=(tQ hbel HS)
   all_goals first
     | (have HT:=yD (HD.out (show _=true by simp only [jT,Bool.not_true,Bool.not_false,Bool.and_true,Bool.true_and,Bool.and_false,Bool.false_and,Bool.or_true,Bool.true_or,Bool.or_false,Bool.false_or,Bool.not_not,hg6]));clear HD HX;go_wp2;go_ret;exact ⟨jI HT.out.symm,(tQ EB EG)⟩)
     | (have HT:=yD (HX.out (show _=false by simp only [jT,Bool.not_true,Bool.not_false,Bool.and_true,Bool.true_and,Bool.and_false,Bool.false_and,Bool.or_true,Bool.true_or,Bool.or_false,Bool.false_or,Bool.not_not,hg6]));clear HD HX;go_wp2;go_roundw;(case rel=>exact ⟨k + 1,by omega,by go_num,HT,EG⟩);(case measure=>simp [intOf];omega))
 have HT:=yD (idxOf_miss hlt HN.out)
 go_wp2
 go_ret
 exact ⟨jI HT.out.symm,(tQ EB hbel)⟩
theorem kNo {w:World} {cp:List Value} {p:kJ} (hp:kD.raw w cp p) {n:ky} {nc0:Value} {Bn:Nat} (nr:kZ.raw w [nc0] n) (An0:w.cell? ⟨Bn,0,none⟩=some nc0) :
    Calls Tryz.prog 194 (#[.agg cp.toArray]++#[.pointer (some ⟨Bn,0,none⟩)]) w fun e w'=>e=.returned (.bool (jT n p))∧Below w.heap.size w w':=by
 have Hp:=yD hp
 obtain ⟨fpv0,fpv1,rfl,fp_0,fp_1,fp_2,fp_3⟩:=kz hp
 obtain ⟨fpa0,fpp0,rfl,fpl0⟩:=Rep.sl fp_1
 obtain ⟨fpa1,fpp1,rfl,fpl1⟩:=Rep.sl fp_2
 obtain ⟨nv0,nhe,n_0⟩:=kR nr
 simp only [List.cons.injEq,and_true] at nhe
 obtain rfl:=nhe
 obtain ⟨na0,np0,rfl,nl0⟩:=Rep.sl n_0
 show Calls Tryz.prog 194 #[_,_] w _
 go_enter Tryz.func194,Tryz.ntmps194
 go_upto_region 1 with fail
 generalize hwB:World.alloc w _=wB
 have EB:Below w.heap.size w wB:=by rw [← hwB];exact bD
 have K2_0:wB.cell? ⟨w.heap.size,0,none⟩=some (.slice fpa0 (p.1).length fpp0):=nJ
 have K2_1:wB.cell? ⟨w.heap.size,1,none⟩=some (.slice fpa1 (p.2.1).length fpp1):=nJ
 have K2_2:wB.cell? ⟨w.heap.size,2,none⟩=some (.int .i64 p.2.2):=nJ
 clear hwB
 replace An0:=cL EB An0
 have FX:=yD (fun (W:World) (hW:Below wB.heap.size wB W)=>kDa hW K2_0 K2_1 K2_2 An0)
 refine ku (fun W=>Below wB.heap.size wB W) [true,true,true,false,true] bR ?_
 intro wS HS
 iterate 3
  all_goals refine wkR ?_
 all_goals first | refine wkB (yz (Rep.raw.below fp_0 (tQ EB HS)) (Rep.raw.below nr (tQ EB HS))) (fun wS1 HS=>?_) | refine wkR ?_
 all_goals (have hg4:=True.intro;first|(refine wkG (fun b hg4=>?_);cases b;all_goals first | exact Bool.noConfusion hg4 | simp only [zU,zV] at hg4 | skip) | refine wkR ?_)
 all_goals refine wkP ?_
 all_goals refine ko ?_
 all_goals have EG:=(tQ EB HS)
 all_goals first
   | (have HT:=yD (show (jT n p)=false by simp only [jT,Bool.not_true,Bool.not_false,Bool.and_true,Bool.true_and,Bool.and_false,Bool.false_and,Bool.or_true,Bool.true_or,Bool.or_false,Bool.false_or,Bool.not_not,hg4]);go_wp2;go_ret;exact ⟨kP HT.out.symm,EG⟩)
   | (have HT:=yD (show (jT n p)=true by simp only [jT,Bool.not_true,Bool.not_false,Bool.and_true,Bool.true_and,Bool.and_false,Bool.false_and,Bool.or_true,Bool.true_or,Bool.or_false,Bool.false_or,Bool.not_not,hg4]);go_wp2;go_ret;exact ⟨kP HT.out.symm,EG⟩)
theorem kEv:jB Tryz.prog 194:=yh Tryz.func194 rA rA
theorem kAv {w:World} {vl:Value} {l:(List kJ)} (hl:(Rep.slice 77 kD).raw w [vl] l) {cn:List Value} {n:ky} (hn:kZ.raw w cn n) :
    Calls Tryz.prog 133 #[vl,.agg cn.toArray] w fun e w'=>e=.returned (.int .i64 (idxOf (jT n) l))∧Below w.heap.size w w':=by
 obtain ⟨al,pl,rfl,ll⟩:=Rep.sl hl
 have Hn:=yD hn
 obtain ⟨fnv0,rfl,fn_0⟩:=kR hn
 obtain ⟨fna0,fnp0,rfl,fnl0⟩:=Rep.sl fn_0
 go_enter Tryz.func133,Tryz.ntmps133
 go_upto_region 1 with fail
 generalize hwB:World.alloc w _=wB
 have EB:Below w.heap.size w wB:=by rw [← hwB];exact bD
 have K3_0:wB.cell? ⟨w.heap.size,0,none⟩=some (.slice fna0 (n).length fnp0):=nJ
 clear hwB
 go_wp2_with fail
 refine (kEc (jT n) kEv (Rep.raw.below hl EB) ?_).mono ?_
 · intro wr hb i h cs hr
   exact kNo hr (Rep.raw.below Hn.out (tQ EB hb)) (cL hb K3_0)
 rintro e w1 ⟨rfl,hb1⟩
 have EG:Below w.heap.size w w1:=(tQ EB hb1)
 clear hb1
 go_wp2
 go_ret
 exact ⟨rfl,EG⟩
theorem kNh {w:World} {vl:Value} {l:List kJ} (hl:(Rep.slice 77 kD).raw w [vl] l) {cn:List Value} {n:ky} (hn:kZ.raw w cn n) :
    Calls Tryz.prog 29 #[vl,.agg cn.toArray] w fun e w'=>e=.returned (.bool (decide (0≤idxOf (jT n) l)))∧Below w.heap.size w w':=by
 have HL:=yD hl
 have HN:=yD hn
 obtain ⟨la,lp,rfl,ll⟩:=Rep.sl hl
 obtain ⟨av,rfl,a_0⟩:=kR hn
 obtain ⟨na,np,rfl,_⟩:=Rep.sl a_0
 clear hl hn a_0
 go_enter Tryz.func29,Tryz.ntmps29
 go_wp2_with fail
 refine (kBu (HL.out.below bD) (HN.out.below bD)).mono ?_
 rintro e w1 ⟨rfl,hb1⟩
 have EF:Below w.heap.size w w1:=Below.trans bD (hb1.mono rM)
 clear hb1
 go_wp2
 go_ret
 exact ⟨kP rM,EF⟩
theorem kNu {w:World} {vl:Value} {l:List kJ} (hl:(Rep.slice 77 kD).raw w [vl] l) {cn:List Value} {n:ky} (hn:kZ.raw w cn n) :
    Calls Tryz.prog 43 #[vl,.agg cn.toArray] w fun e w'=>e=.returned (.bool (decide (0≤idxOf (jT n) l)))∧Below w.heap.size w w':=by
 have HL:=yD hl
 have HN:=yD hn
 obtain ⟨la,lp,rfl,ll⟩:=Rep.sl hl
 obtain ⟨av,rfl,a_0⟩:=kR hn
 obtain ⟨na,np,rfl,_⟩:=Rep.sl a_0
 clear hl hn a_0
 go_enter Tryz.func43,Tryz.ntmps43
 go_wp2_with fail
 refine (kAv (HL.out.below bD) (HN.out.below bD)).mono ?_
 rintro e w1 ⟨rfl,hb1⟩
 have EF:Below w.heap.size w w1:=Below.trans bD (hb1.mono rM)
 clear hb1
 go_wp2
 go_ret
 exact ⟨kP rM,EF⟩
namespace Rep
section
variable {α:Type} {r:Rep α} {e:TypeId} {w w':World} {v:Value} {b cap n:Nat} {kept rest xs:List α} {j:Nat} {x:α} {S T:Nat→Prop}
def gap (e:TypeId) (r:Rep α) (w:World) (b cap n:Nat) (kept:List α) (j:Nat) (rest:List α) (S:Nat→Prop):Prop :=
  (∀ x∈kept,r.bdd Big x)∧(∀ x∈rest,r.bdd Big x)∧kept.length + j + rest.length=n∧n≤cap∧cap≤maxLen∧S b ∧
  ∃ (c jk d tl:List Value) (A B:Nat→Prop),w.heap[b]?=some (.cells (c++(jk++(d++tl))).toArray e (0,0))∧(c++(jk++(d++tl))).length=cap * r.n∧jk.length=j * r.n ∧
    row r true w c kept A∧row r true w d rest B∧(∀ k,A k→S k∧k≠b)∧(∀ k,B k→S k∧k≠b)∧(∀ k,A k→B k→False)
theorem gap.lt (h:gap e r w b cap n kept j rest S):b < w.heap.size:=by
 obtain ⟨_,_,_,_,_,_,c,jk,d,tl,A,B,h1,_⟩:=h
 exact (Array.getElem?_eq_some_iff.1 h1).1
theorem gap.mem (h:gap e r w b cap n kept j rest S):S b:=h.2.2.2.2.2.1
theorem gap.len (h:gap e r w b cap n kept j rest S):kept.length + j + rest.length=n∧n≤cap∧cap≤maxLen:=⟨h.2.2.1,h.2.2.2.1,h.2.2.2.2.1⟩
theorem gap.keep (h:gap e r w b cap n kept j rest S) (k:∀ k,S k→k < w.heap.size→w'.heap[k]?=w.heap[k]?):gap e r w' b cap n kept j rest S:=by
 obtain ⟨a1,a2,a3,a4,a5,a6,c,jk,d,tl,A,B,h1,h2,h3,h4,h5,h6,h7,h8⟩:=h
 refine ⟨a1,a2,a3,a4,a5,a6,c,jk,d,tl,(fun k=>A k∧k < w.heap.size),(fun k=>B k∧k < w.heap.size),(k b a6 (Array.getElem?_eq_some_iff.1 h1).1).trans h1,h2,h3,yB (zb h4) (fun i hi=>k i (h6 i hi.1).1 hi.2),yB (zb h5) (fun i hi=>k i (h7 i hi.1).1 hi.2),fun i hi=>h6 i hi.1,fun i hi=>h7 i hi.1,fun i h h'=>h8 i h.1 h'.1⟩
theorem gap.below (h:gap e r w b cap n kept j rest S) (k:Below w.heap.size w w'):gap e r w' b cap n kept j rest S:=h.keep (fun i _ hi=>k.block i hi)
theorem gap.frozen (h:gap e r w b cap n kept j rest S) (i:Nat):w.frozen? ⟨b,i,none⟩=false:=by
 obtain ⟨_,_,_,_,_,_,c,jk,d,tl,A,B,h1,_⟩:=h
 exact frozen_of_row w b i _ _ h1
theorem kNy (h:kQ e r w v xs S) {i:Nat} (hi:i < xs.length):∃ b cap,v=.slice (some ⟨b,0,none⟩) xs.length cap∧gap e r w b cap xs.length (xs.take i) 0 (xs.drop i) S:=by
 obtain ⟨hb,h⟩:=h
 rcases h with ⟨⟨a,rfl⟩,rfl⟩|⟨b,cap,cur,cs,tl,rfl,h1,h2,h3,h4,h5,h6,h7⟩
 · simp at hi
 refine ⟨b,cap,rfl,fun x hx=>hb x (List.mem_of_mem_take hx),fun x hx=>hb x (List.mem_of_mem_drop hx),by simp;omega,h1,h2,h6,?_⟩
 have e1:xs=xs.take i++xs.drop i:=rM
 rw [e1] at h7
 obtain ⟨c,d,A,B,rfl,r1,r2,hA,hB,hd⟩:=kEe _ h7
 refine ⟨c,[],d,tl,A,B,?_,?_,by simp,r1,r2,hA,hB,hd rfl⟩
 · rw [h3,show cur=(c++([]++(d++tl))).toArray from by rw [show c++([]++(d++tl))=cur.toList from by rw [h4];simp]]
 rw [← h5,← Array.length_toList,h4];simp
theorem gap.skip (h:gap e r w b cap n kept j (x :: rest) S):gap e r w b cap n kept (j + 1) rest S:=by
 obtain ⟨a1,a2,a3,a4,a5,a6,c,jk,d,tl,A,B,h1,h2,h3,h4,⟨c1,d1,A1,B1,rfl,q1,q2,hA1,hB1,hd1⟩,h6,h7,h8⟩:=h
 refine ⟨a1,fun y hy=>a2 y (by simp [hy]),by simp at a3;omega,a4,a5,a6,c,jk++c1,d1,tl,A,B1,by rw [h1];simp,by rw [← h2];simp,?_,h4,q2,h6,fun k hk=>h7 k (hB1 k hk),fun k h h'=>h8 k h (hB1 k h')⟩
 simp [h3,r.len q1,Nat.add_mul]
theorem gap.next (h:gap e r w b cap n kept j (x :: rest) S):∃ cs,r.raw w cs x∧cs.length=r.n∧r.bdd Big x∧(∀ q c,cs[q]?=some c→w.cell? ⟨b,(kept.length + j) * r.n + q,none⟩=some c) ∧
    ∀ w1,Below w.heap.size w w1→0 < j→∀ p,p=kept.length * r.n→gap e r (setCells w1 b p cs) b cap n (kept++[x]) j rest S∧Touch (fun k=>k=b) w1 (setCells w1 b p cs):=by
 have H0:=h
 obtain ⟨a1,a2,a3,a4,a5,a6,c,jk,d,tl,A,B,h1,h2,h3,h4,⟨c1,d1,A1,B1,rfl,q1,q2,hA1,hB1,hd1⟩,h6,h7,h8⟩:=h
 have hcl:=zl h4
 have hc1:=r.len q1
 refine ⟨c1,r.wide (r.weak q1) (fun _ _=>trivial),hc1,a2 x rM,?_,?_⟩
 · intro q u hq
   have hql:=(List.getElem?_eq_some_iff.1 hq).1
   rw [cell_of_row w b _ _ e (0,0) h1]
   simp only [List.getElem?_toArray]
   rw [List.getElem?_append_right (by rw [hcl,Nat.add_mul];omega),List.getElem?_append_right (by rw [hcl,h3,Nat.add_mul];omega),List.append_assoc,List.getElem?_append_left (by rw [hcl,h3,Nat.add_mul];omega)]
   rw [← hq];congr 1;rw [hcl,h3,Nat.add_mul];omega
 intro w1 hw hj p hp
 refine ⟨?_,jg _ _ _ _⟩
 obtain ⟨b1,b2,b3,b4,b5,b6,_⟩:=H0
 have hblk:w1.heap[b]?=_:=(hw.block b (Array.getElem?_eq_some_iff.1 h1).1).trans h1
 have hjn:r.n≤jk.length:=by rw [h3];exact Nat.le_mul_of_pos_left _ hj
 have hst:(setCells w1 b p c1).heap[b]?=some (.cells (c++(c1++(jk.drop r.n++((c1++d1)++tl)))).toArray e (0,0)):=by
  refine jl c1 (jk.take r.n) c (jk.drop r.n++((c1++d1)++tl)) w1 b p ?_ (by rw [hcl,hp]) (by rw [List.length_take,hc1];omega)
  rw [hblk,← List.append_assoc (jk.take r.n),List.take_append_drop]
 have oth:∀ k,k≠b→k < w.heap.size→(setCells w1 b p c1).heap[k]?=w.heap[k]?:=fun k hk hl=>(zZ c1 w1 b p k hk).trans (hw.block k hl)
 refine ⟨?_,fun y hy=>a2 y (by simp [hy]),by simp at a3 ⊢;omega,a4,a5,a6,c++c1,jk.drop r.n++c1,d1,tl,(fun k=>(A k∨A1 k)∧k < w.heap.size),(fun k=>B1 k∧k < w.heap.size),by rw [hst];simp,?_,?_,?_,?_,?_,?_,?_⟩
 · intro y hy
   rcases List.mem_append.1 hy with hy | hy
   · exact a1 y hy
   obtain rfl:y=x:=by simpa using hy
   exact a2 y rM
 · rw [← h2];simp;omega
 · rw [List.length_append,List.length_drop,h3,hc1];have:=h3;omega
 · refine zu (A:=fun k=>A k∧k < w.heap.size) (B:=fun k=>A1 k∧k < w.heap.size) (yB (zb h4) (fun k hk=>oth k (h6 k hk.1).2 hk.2)) (yB (zb (kDd q1)) (fun k hk=>oth k (h7 k (hA1 k hk.1)).2 hk.2)) (fun k hk=>⟨.inl hk.1,hk.2⟩) (fun k hk=>⟨.inr hk.1,hk.2⟩) (fun _ k h h'=>h8 k h.1 (hA1 k h'.1))
 · exact yB (zb q2) (fun k hk=>oth k (h7 k (hB1 k hk.1)).2 hk.2)
 · rintro k ⟨hk | hk,_⟩
   · exact h6 k hk
   exact h7 k (hA1 k hk)
 · intro k hk;exact h7 k (hB1 k hk.1)
 rintro k ⟨hk | hk,_⟩ h'
 · exact h8 k hk (hB1 k h'.1)
 exact hd1 rfl k hk h'.1
theorem kDx:∀ (cs:List Value) (w:World) (b p:Nat),w.setCells b p cs=setCells w b p cs
  | [],_,_,_=>rfl
  | c :: cs,w,b,p=>by
    simp only [World.setCells,setCells]
    exact kDx cs _ b (p + 1)
theorem gap.cells (h:gap e r w b cap n kept j rest S) {i:Nat} (hi:i < cap * r.n):(w.cell? ⟨b,i,none⟩).isSome=true:=by
 obtain ⟨_,_,_,_,_,_,c,jk,d,tl,A,B,h1,h2,_⟩:=h
 rw [cell_of_row w b _ _ e (0,0) h1]
 simp only [List.getElem?_toArray]
 rw [List.getElem?_eq_getElem (by rw [h2];exact hi)]
 rfl
theorem gap.wipe (h:gap e r w b cap n kept j [] S) {zs:List Value} (hz:zs.length=j * r.n) {p:Nat} (hp:p=kept.length * r.n) :
    kQ e r (setCells w b p zs) (.slice (some ⟨b,0,none⟩) kept.length cap) kept S∧Touch (fun k=>k=b) w (setCells w b p zs):=by
 obtain ⟨a1,a2,a3,a4,a5,a6,c,jk,d,tl,A,B,h1,h2,h3,h4,h5,h6,h7,h8⟩:=h
 obtain rfl:d=[]:=h5
 have hcl:=zl h4
 refine ⟨⟨a1,.inr ⟨b,cap,_,c,zs++tl,rfl,by simp at a3;omega,a5,?_,rfl,?_,a6,?_⟩⟩,jg _ _ _ _⟩
 · exact jl zs jk c tl w b p qO (by rw [hcl,hp]) (by rw [h3,hz])
 · rw [← h2];simp;omega
 exact yM (yB (zb h4) (fun k hk=>zZ zs w b p k (h6 k hk.1).2)) (fun k hk=>h6 k hk.1)
theorem gap.done (h:gap e r w b cap n kept 0 [] S):kQ e r w (.slice (some ⟨b,0,none⟩) kept.length cap) kept S:=by
 have:=(h.wipe (zs:=[]) rM rfl).1
 exact this
theorem kFq {P:Program} {t ty:TypeId} {z:Value} (ht:P.underlying t=some (.slice e)) (hv:∀ w,(zeroValue e).run P w=.ok z w) (h1:∀ u∈z.cells,u.oneCell'=true) (b o m c:Nat) (hm:0 < m)
    (hc:∀ j,j < (Builtin.zeroCells z.cells m).size→(w.cell? ⟨b,o + j,none⟩).isSome=true) (hf:∀ j,j < (Builtin.zeroCells z.cells m).size→w.frozen? ⟨b,o + j,none⟩=false) (hz0:0 < z.cells.size) :
    (Builtin.clear_ #[t] ty #[.slice (some ⟨b,o,none⟩) m c]).run P w=.ok (.tuple #[]) (setCells w b o (Builtin.zeroCells z.cells m).toList):=by
 have hone:∀ v∈(Builtin.zeroCells z.cells m).toList,v.oneCell'=true:=by
  intro v hv'
  simp only [Builtin.zeroCells,Array.toList_map,List.mem_map] at hv'
  obtain ⟨i,_,rfl⟩:=hv'
  have hlt:=Nat.mod_lt i hz0
  rw [getElem!_pos z.cells _ hlt]
  exact h1 _ (Array.getElem_mem hlt)
 have hst:=run_storeCells_cells (P:=P) b o (Builtin.zeroCells z.cells m).toList 0 w qL qR hone
 simp only [Nat.add_zero] at hst
 obtain ⟨q,rfl⟩:∃ q,m=q + 1:=⟨m - 1,by omega⟩
 rw [← kDx]
 simp [Builtin.clear_,run_underlying ht,hv,hst]
theorem zero_of_info {P:Program} {i:TypeInfo} {z:Value} (hi:P.info? e=some i) (hz:i.zero=some z):∀ w,(zeroValue e).run P w=.ok z w:=by
 intro w
 simp [zeroValue,typeInfo,hi,hz]
theorem gap.kFq {P:Program} {t ty:TypeId} {z:Value} {bytes:Nat} (h:gap e r w b cap n kept j [] S) (hj:0 < j) (ht:P.underlying t=some (.slice e)) (hinf:(P.info? e).map (fun i=>(i.zero,i.size,i.bytes))=some (some z,r.n,bytes)) (hzs:z.cells.size=r.n) (hn:0 < r.n) (hone:∀ u∈z.cells,u.oneCell'=true)
    {p c:Nat} (hp:p=kept.length * r.n) :
    ∃ w',(Builtin.clear_ #[t] ty #[.slice (some ⟨b,p,none⟩) j c]).run P w=.ok (.tuple #[]) w'∧kQ e r w' (.slice (some ⟨b,0,none⟩) kept.length cap) kept S∧Touch (fun k=>k=b) w w':=by
 obtain ⟨i,hi,hz,hsize,hbytes⟩:=info_parts hinf
 have hsz:(Builtin.zeroCells z.cells j).size=j * r.n:=by rw [size_zeroCells,hzs]
 have hl:=h.len
 have hroom:∀ q,q < j * r.n→p + q < cap * r.n:=by
  intro q hq
  have h1:(kept.length + j) * r.n≤cap * r.n:=Nat.mul_le_mul_right _ (by have:=hl.1;simp at this;omega)
  rw [Nat.add_mul] at h1;omega
 have hr:=Rep.kFq (P:=P) (ty:=ty) (w:=w) ht (zero_of_info hi hz) hone b p j c hj (fun q hq=>h.cells (hroom q (by rwa [hsz] at hq))) (fun q _=>h.frozen _) rJ
 obtain ⟨h1,h2⟩:=h.wipe (zs:=(Builtin.zeroCells z.cells j).toList) (by simpa using hsz) hp
 exact ⟨_,hr,h1,h2⟩
end
end Rep
end Go.Proofs.YtomdenfcfbkfbaaGreat

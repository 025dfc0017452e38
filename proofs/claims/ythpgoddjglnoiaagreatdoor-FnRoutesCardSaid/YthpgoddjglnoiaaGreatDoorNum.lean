/-
  Slices of slices, read. No program in sight.
  The capacity of a slice. No program in sight.
  Appending one new element to an owned slice, as a walk meets it. No program in sight.
  The element types of slices: zero, size, bytes. Printed by geninfo.py.
  Small functions on numbers: ranges, comparisons; the library's cmp.Compare and cmp.Or.
-/
import Derived.OwnWalk
import Derived.Test.YthpgoddjglnoiaaGreatDoorLib
set_option linter.unusedVariables false
set_option linter.unusedSimpArgs false
set_option linter.unnecessarySimpa false
set_option maxHeartbeats 4000000
namespace Go.Proofs.YthpgoddjglnoiaaGreatDoor
open Go.RowKit
namespace Rep
section
variable {α:Type} {r:Rep α} {e:TypeId} {w:World} {a:Option Addr} {len cap:Nat} {xs:List α} {o:Bool} {S:Nat→Prop}
theorem kIw {cells:List Value} {ys:List α} (h:row r o w cells ys S) {k:Nat} (hk:k≤ys.length):∃ c d,cells=c++d∧c.length=k * r.n∧row r o w c (ys.take k) S∧row r o w d (ys.drop k) S:=by
 by_cases h1:k < ys.length
 · obtain ⟨p,c,q,A,B,C,rfl,hp,ra,rb,rc,hA,hB,hC,hdis⟩:=row_at h h1
   refine ⟨p,c++q,rfl,hp,ko ra hA,?_⟩
   rw [List.drop_eq_getElem_cons h1]
   exact ⟨c,q,B,C,rfl,rb,rc,hB,hC,fun ho k=>(hdis ho k).2.2⟩
 obtain rfl:k=ys.length:=fV
 have:=jP h
 exact ⟨cells,[],by simp,this,by simpa using h,by simp [row]⟩
theorem kDi (h:(slice e r).raw w [.slice a len cap] xs) {k:Nat} (hk:k≤xs.length):(slice e r).raw w [.slice a k cap] (xs.take k):=by
 obtain ⟨a',len',cap',h0,h1,h2,h3,h4⟩:=h
 simp only [List.cons.injEq,Value.slice.injEq,and_true] at h0
 obtain ⟨rfl,rfl,rfl⟩:=h0
 refine ⟨a,k,cap,rfl,by simp;omega,by omega,h3,?_⟩
 rcases h4 with ⟨rfl,_⟩|⟨b,off,ha,cur,e',fr,p,c,q,hb,hc,hp,hl,hf,hS,hx⟩
 · exact .inl ⟨by simp,by simp⟩
 obtain ⟨c1,c2,rfl,hcl,r1,r2⟩:=kIw hx hk
 exact .inr ⟨b,off,ha,cur,e',fr,p,c1,c2++q,hb,by rw [hc];simp,hp,hl,by simp,hS,r1⟩
theorem kIo (h:(slice e r).rd w [.slice a len cap] xs) {k:Nat} (hk:k≤xs.length):(slice e r).rd w [.slice a k cap] (xs.take k) :=
  ⟨kDi h.1 hk,by have:=h.2.1;simp;omega,fun x hx=>h.2.2 x (List.mem_of_mem_take hx)⟩
theorem drop_raw {b off:Nat} (h:(slice e r).raw w [.slice (some ⟨b,off,none⟩) len cap] xs) {k:Nat} (hk:k≤xs.length):(slice e r).raw w [.slice (some ⟨b,off + k * r.n,none⟩) (len - k) (cap - k)] (xs.drop k):=by
 obtain ⟨a',len',cap',h0,h1,h2,h3,h4⟩:=h
 simp only [List.cons.injEq,Value.slice.injEq,and_true] at h0
 obtain ⟨rfl,rfl,rfl⟩:=h0
 refine ⟨_,_,_,rfl,by simp;omega,by omega,by omega,?_⟩
 rcases h4 with ⟨rfl,_⟩|⟨b',off',ha,cur,e',fr,p,c,q,hb,hc,hp,hl,hf,hS,hx⟩
 · exact .inl ⟨by simp,by simp⟩
 simp only [Option.some.injEq,Addr.mk.injEq,and_true] at ha
 obtain ⟨rfl,rfl⟩:=ha
 obtain ⟨c1,c2,rfl,hcl,r1,r2⟩:=kIw hx hk
 refine .inr ⟨b,off + k * r.n,rfl,cur,e',fr,p++c1,c2,q,hb,by rw [hc];simp,by simp [hp,hcl],?_,by simp,hS,r2⟩
 have:k * r.n≤cap * r.n:=Nat.mul_le_mul_right _ fV
 rw [Nat.sub_mul];omega
theorem void_raw {c:Nat} (hc:c≤maxLen):(slice e r).raw w [.slice a 0 c] []:=⟨_,_,_,rfl,rfl,Nat.zero_le _,hc,.inl ⟨rfl,by simp⟩⟩
theorem yt:(slice e r).own w [.slice a 0 0] [] S:=⟨⟨_,_,_,rfl,rfl,Nat.le_refl _,Nat.zero_le _,.inl ⟨rfl,fun _=>rfl⟩⟩,by simp [slice]⟩
theorem raw_src (h:(slice e r).raw w [.slice a len cap] xs):∃ cells,Src w (.slice a len cap) xs.length cells∧row r false w cells xs (fun _=>True):=by
 obtain ⟨a',len',cap',h0,h1,h2,h3,h4⟩:=h
 simp only [List.cons.injEq,Value.slice.injEq,and_true] at h0
 obtain ⟨rfl,rfl,rfl⟩:=h0
 rcases h4 with ⟨rfl,_⟩|⟨b,off,ha,cur,e',fr,p,c,q,hb,hc,hp,hl,hf,hS,hx⟩
 · subst h1
   exact ⟨[],.inl ⟨rfl,_,_,rfl⟩,rfl⟩
 subst ha h1
 refine ⟨c,.inr ⟨_,_,rfl,?_⟩,ko hx (fun _ _=>trivial)⟩
 intro j u hj
 have hadd:(⟨b,off,none⟩:Addr).add j=⟨b,off + j,none⟩:=cB
 have hjl:=(List.getElem?_eq_some_iff.1 hj).1
 rw [hadd]
 simp only [World.cell?,hb,Option.isSome_none,Bool.false_eq_true,if_false]
 rw [← Array.getElem?_toList,hc,List.getElem?_append_right fV,List.getElem?_append_left fV]
 rw [← hj];congr 1;omega
end
end Rep
namespace Rep
variable {α:Type} {r:Rep α} {e:TypeId} {w:World} {a:Option Addr} {len cap:Nat} {xs:List α}
theorem kBi (h:(slice e r).raw w [.slice a len cap] xs):xs.length≤cap∧cap≤9223372036854775807:=by
 obtain ⟨a',len',cap',h0,h1,h2,h3,h4⟩:=h
 simp only [List.cons.injEq,Value.slice.injEq,and_true] at h0
 obtain ⟨rfl,rfl,rfl⟩:=h0
 unfold maxLen at h3
 exact ⟨by omega,by omega⟩
end Rep
namespace Rep
section
variable {α:Type} {r:Rep α} {e:TypeId} {w w':World} {v:Value} {xs ys:List α} {S T:Nat→Prop}
theorem kIm {P:Program} {ops:Array Oper} {rest:List Oper} {o:Oper} {a:Act} {Q:Exit→Act→World→Prop} (hgd:o.guard=none) (s x:Operand) (t:TypeId)
    (ho:o.op=.call { callee:=.builtin .append,args:=#[s,x],argTypes:=#[t,t] })
    {z:Value} {bytes:Nat} (ht:P.underlying t=some (.slice e)) (hinf:(P.info? e).map (fun i=>(i.zero,i.size,i.bytes))=some (some z,r.n,bytes)) (hzs:z.cells.size=r.n) (hn:0 < r.n) (hby:bytes≤1000)
    (hown:kH e r w v xs S) (hs:a.eval s=v) {b:Nat} (hx:a.eval x=.slice (some ⟨b,0,none⟩) 1 1) (hb:b=w.heap.size) {cs:List Value} {y:α} (hy:r.own w cs y T)
    {u:World} (hu:u=w.alloc (.cells cs.toArray e)) (hST:∀ k,S k→T k→False) (hlen:xs.length + 1≤1000000000)
    (h:∀ v' w',kH e r w' v' (xs++[y]) (fun k=>S k∨T k∨(w.heap.size + 1≤k∧k < w'.heap.size))→Touch (fun k=>some k=v.ownBlock∧S k) u w'→wpList P ops Q rest (a.put o.dst v') w'):wpList P ops Q (o :: rest) a u:=by
 subst hu hb
 obtain ⟨i,hi,hz,hsize,hbytes⟩:=info_parts hinf
 have hl:=r.len hy.1
 have hown':kH e r (w.alloc (.cells cs.toArray e)) v xs (fun k=>S k∧k < w.heap.size):=(kH.alloc hown.live _)
 have hy':=hy.live.alloc (.cells cs.toArray e)
 refine wpList_push hgd s x t ho (r:=r) (e:=e) ht hi hz hsize hzs hn fV hown' hs hx (m:=1) (cells:=cs) (ys:=[y]) (T:=fun k=>T k∧k < w.heap.size) (.inr ⟨_,1,rfl,?_⟩)
   ⟨cs,[],_,fun _=>False,by simp,hy'.1,rfl,fun _ h=>h,fun _ h=>h.elim,fun _ _ _ h=>h.elim⟩ rfl (fun k h1 h2=>hST k h1.1 h2.1) (by simpa using hy.2) (by simpa using hlen) ?_
 · intro j c hj
   have hadd:(⟨w.heap.size,0,none⟩:Addr).add j=⟨w.heap.size,j,none⟩:=cB
   rw [hadd]
   exact kT (heap_alloc_new w _) fD
 intro v' w' h1 h2
 refine h v' w' (h1.wide ?_) ⟨h2.os,h2.tape,h2.output,h2.size,fun k hk q=>h2.block k hk (fun a=>q ⟨a.1,a.2.1⟩)⟩
 intro k hk
 rcases hk with hk | hk | hk
 · exact .inl hk.1
 · exact .inr (.inl hk.1)
 exact .inr (.inr ⟨by simpa using hk.1,hk.2⟩)
theorem ky {P:Program} {ops:Array Oper} {rest:List Oper} {o:Oper} {a:Act} {Q:Exit→Act→World→Prop} (hgd:o.guard=none) (s x:Operand) (t:TypeId)
    (ho:o.op=.call { callee:=.builtin .append,args:=#[s,x],argTypes:=#[t,t] })
    {z:Value} {bytes:Nat} (ht:P.underlying t=some (.slice e)) (hinf:(P.info? e).map (fun i=>(i.zero,i.size,i.bytes))=some (some z,r.n,bytes)) (hzs:z.cells.size=r.n) (hn:0 < r.n) (hby:bytes≤1000)
    {B:Nat} (hown:kH e r w v xs S) (hs:a.eval s=v) {b:Nat} (hx:a.eval x=.slice (some ⟨b,0,none⟩) 1 1) (hb:b=w.heap.size) {cs:List Value} {y:α} (hy:r.own w cs y T)
    {u:World} (hu:u=w.alloc (.cells cs.toArray e)) (hST:∀ k,S k→T k→False) (hSB:∀ k,S k→B≤k∧k < w.heap.size) (hTB:∀ k,T k→B≤k∧k < w.heap.size) (hB:B≤w.heap.size) (hlen:xs.length + 1≤1000000000)
    (h:∀ v' w',kH e r w' v' (xs++[y]) (Btw B w'.heap.size)→Below B w w'→w.heap.size < w'.heap.size→wpList P ops Q rest (a.put o.dst v') w'):wpList P ops Q (o :: rest) a u:=by
 refine kIm hgd s x t ho ht hinf hzs hn hby hown hs hx hb hy hu hST hlen ?_
 intro v' w' h1 h2
 subst hu
 have hsz:=h2.size
 simp at hsz
 refine h v' w' (h1.wide ?_) ?_ fV
 · intro k hk
   rcases hk with hk | hk | hk
   · have:=hSB k hk;exact ⟨this.1,by omega⟩
   · have:=hTB k hk;exact ⟨this.1,by omega⟩
   exact ⟨by omega,hk.2⟩
 refine ((Below.refl B w).alloc hB _).trans (h2.below ?_ ?_)
 · simp;omega
 intro k hk;have:=hSB k hk.2;omega
end
end Rep
end Go.Proofs.YthpgoddjglnoiaaGreatDoor
namespace Go.Proofs.YthpgoddjglnoiaaGreatDoor
theorem infInt:(Tryz.prog.info? 3).map (fun i=>(i.zero,i.size,i.bytes))=some (some (.int .i64 0),1,8):=by kernel_rfl
theorem jW:(Tryz.prog.info? 9).map (fun i=>(i.zero,i.size,i.bytes))=some (some (.string ByteArray.empty),1,16):=by kernel_rfl
theorem jX:(Tryz.prog.info? 29).map (fun i=>(i.zero,i.size,i.bytes))=some (some (.agg #[.slice none 0 0,.int .i64 0,.int .i64 0]),3,40):=by kernel_rfl
end Go.Proofs.YthpgoddjglnoiaaGreatDoor
namespace Go.Proofs.YthpgoddjglnoiaaGreatDoor
open Go.RowKit
def inR (n a b:Int):Bool:=decide (a≤n) && decide (n≤b)
def yT (a b:Int):Int:=if a < b then -1 else if b < a then 1 else 0
def orI:List Int→Int
  | []=>0
  | a :: l=>if a=0 then orI l else a
theorem kIx {x:List Int} {k:Nat} (h:k < x.length) (hx:x[k]≠0) (hno:∀ j,(h:j < k)→(h2:j < x.length)→x[j]=0):orI x=x[k]:=by
 induction x generalizing k with
 | nil=>simp at h
 | cons a l ih =>
   cases k with
   | zero=>simp at hx;simp [orI,hx]
   | succ k =>
     have h0:=hno 0 fV fZ
     simp at h0
     simp only [orI,h0,if_true,List.getElem_cons_succ]
     exact ih fM (by simpa using hx) (fun j hj h2=>hno (j + 1) fV (by simp only [List.length_cons];omega))
theorem orI_miss {x:List Int} (hno:∀ j,(h2:j < x.length)→x[j]=0):orI x=0:=by
 induction x with
 | nil=>rfl
 | cons a l ih =>
   have h0:=hno 0 fZ
   simp at h0
   simp only [orI,h0,if_true]
   exact ih (fun j h2=>hno (j + 1) (by simp only [List.length_cons];omega))
theorem zY {w:World} {n a b:Int}:Calls Tryz.prog 62 #[.int .i64 n,.int .i64 a,.int .i64 b] w fun e w'=>e=.returned (.bool (inR n a b))∧w'=w:=by
 go_enter Tryz.func62,Tryz.ntmps62
 by_cases h:n ≥ a
 · have hd:decide (n ≥ a)=true:=fM
   go_wp2
   go_ret
   exact ⟨kP (by simp [inR,h]),rfl⟩
 have hd:decide (n ≥ a)=false:=fM
 go_wp2
 go_ret
 exact ⟨kP (by simp [inR];omega),rfl⟩
theorem kAc {w:World} {n a b:Int}:Calls Tryz.prog 60 #[.int .i64 n,.int .i64 a,.int .i64 b] w fun e w'=>e=.returned (.bool (inR n a b))∧w'=w:=by
 go_enter Tryz.func60,Tryz.ntmps60
 by_cases h:a≤n
 · have hd:decide (a≤n)=true:=fM
   go_wp2
   go_ret
   exact ⟨kP (by simp [inR,h]),rfl⟩
 have hd:decide (a≤n)=false:=fM
 go_wp2
 go_ret
 exact ⟨kP (by simp [inR];omega),rfl⟩
theorem isNaN_c {w:World} {n:Int}:Calls Tryz.prog 72 #[.int .i64 n] w fun e w'=>e=.returned (.bool false)∧w'=w:=by
 go_enter Tryz.func72,Tryz.ntmps72
 go_wp2
 go_ret
 exact ⟨kP fZ,rfl⟩
theorem kJg {w:World} {a b:Int}:Calls Tryz.prog 45 #[.int .i64 a,.int .i64 b] w fun e w'=>e=.returned (.int .i64 (yT a b))∧w'=w:=by
 go_enter Tryz.func45,Tryz.ntmps45
 go_wp2_with fail
 refine isNaN_c.mono ?_
 rintro e u ⟨rfl,rfl⟩
 go_wp2_with fail
 refine isNaN_c.mono ?_
 rintro e u ⟨rfl,rfl⟩
 by_cases h:a < b
 · go_wp2
   go_ret
   exact ⟨jB (by simp [yT,h]),rfl⟩
 by_cases h2:a > b
 · go_wp2
   go_ret
   exact ⟨jB (by unfold yT;rw [if_neg fV,if_pos fV]),rfl⟩
 go_wp2
 go_ret
 exact ⟨jB (by unfold yT;rw [if_neg fV,if_neg fV]),rfl⟩
theorem cmpOr_c {w:World} {va:Value} {x:List Int} (ha:(Rep.slice 3 Rep.int).raw w [va] x):Calls Tryz.prog 44 #[va] w fun e w'=>e=.returned (.int .i64 (orI x))∧w'=w:=by
 obtain ⟨aa,capa,rfl,la⟩:=Rep.sl ha
 go_enter Tryz.func44,Tryz.ntmps44
 go_wp2
 go_loop [8] (fun i=>∃ k:Nat,k≤x.length∧i=.int .i64 k∧(∀ j,(h:j < k)→(h2:j < x.length)→x[j]=0)) (fun i=>x.length - (intOf i).toNat)
 case atStart=>exact ⟨0,Nat.zero_le _,rfl,fun _ h=>by omega⟩
 obtain ⟨k,hk,rfl,hno⟩:=hrel
 have HN:=yD hno;clear hno
 by_cases hlt:k < x.length
 · obtain ⟨ba,offa,rfl,c0,hr,A0⟩:=Rep.kAd ha hlt rfl
   have he:=Rep.kBf hr
   simp only [List.cons.injEq,and_true] at he
   obtain ⟨rfl,hr1⟩:=he
   clear hr hr1
   generalize hy:x[k]=y at *
   have HY:=yD hy;clear hy
   have hit:y≠0→Hid (orI x=y):=fun q=>yD ((kIx hlt (by rw [HY.out];exact q) HN.out).trans HY.out)
   have mis:y=0→Hid (∀ j,(h:j < k + 1)→(h2:j < x.length)→x[j]=0):=fun q=>yD (fun j h h2=>by by_cases e:j=k;(subst e;rw [HY.out];exact q);exact HN.out j fV h2)
   have HI:=yD hit;have HM:=yD mis;clear hit mis
   by_cases h1:y=0
   · have HT:=HM.out h1;clear HI HM
     go_wp2;go_round;(case rel=>exact ⟨k + 1,by omega,by go_num,HT.out⟩);(case measure=>simp [intOf];omega)
   have HT:=HI.out h1;clear HI HM
   go_wp2
   go_ret
   exact ⟨jB HT.out.symm,rfl⟩
 have HT:=yD (orI_miss (fun j h2=>HN.out j fV h2))
 go_wp2
 go_ret
 exact ⟨jB HT.out.symm,rfl⟩
end Go.Proofs.YthpgoddjglnoiaaGreatDoor

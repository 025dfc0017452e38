/-
  A region that draws its order, where two operations may come up at one time: both ways are walked. No program in sight.
  Faces in order of their failures.
  The lesser and the greater of two numbers.
-/
import Derived.Test.YthpgoddjglnoiaaGreatDoorSortC
import Derived.Test.YthpgoddjglnoiaaGreatDoorRoute
set_option linter.unusedVariables false
set_option linter.unusedSimpArgs false
set_option linter.unnecessarySimpa false
namespace Go.Proofs.YthpgoddjglnoiaaGreatDoor
open Go
section
variable {P:Program} {l:List Oper} {S:World→Prop} {Q:Exit→Act→World→Prop} {fuel:Nat} {listed:List Bool} {a:Act} {w:World}
@[irreducible] def tree (P:Program) (l:List Oper) (S:World→Prop) (Q:Exit→Act→World→Prop) (fuel:Nat) (listed:List Bool) (a:Act) (w:World):Prop:=wpAnyH P .any l.toArray Q S fuel listed.toArray a w
theorem kGs (k:Nat):listed.toArray.setIfInBounds k true=(listed.set k true).toArray:=by simp
theorem yO {id:Nat} (S:World→Prop) (hm:P.follows .mixedOrders=true) (hS:S { w with drawn:=w.drawn + 1 })
    (h:∀ w',S w'→tree P l S Q l.length (List.replicate l.length false) a w'):(Code.region id l.toArray true).wp P Q a w:=by
 have h:=h _ hS
 unfold tree at h
 refine wp_region_held (S:=S) hm ?_
 have e:(Array.replicate l.toArray.size false)=(List.replicate l.length false).toArray:=fZ
 rw [e,show l.toArray.size=l.length by simp]
 exact h
theorem tree_read {k:Nat} {o:Oper} {v:Value} (h0:l[k]?=some o) (hc:(Region.noSelect l.toArray && (Region.free .any l.toArray listed.toArray k && (Region.ready .any l.toArray listed.toArray).contains k))=true)
    (hQ:∀ c a d v w,Q (.panic c) (Act.put a d v) w→Q (.panic c) a w) (hg:Region.wanted o (yielded l.toArray a.tmps)=true) (hS:S w)
    (hv:∀ w,S w→(execOp a.eval o).run P w=.ok (.value v) w) (h:tree P l S Q fuel (listed.set k true) (a.put o.dst v) w):tree P l S Q (fuel + 1) listed a w:=by
 unfold tree at h ⊢
 simp only [Bool.and_eq_true] at hc
 rw [← kGs] at h
 exact wpAnyH_take (by simpa using h0) hc.1 hc.2.1 hc.2.2 (fun c a w=>hQ c a _ _ w) (.inl ⟨hg,hv⟩) hS h
theorem kU (k : Nat) {o : Oper} {v : Value} (h : tree P l S Q fuel (listed.set k true) (a.put o.dst v) w) (h0 : l[k]? = some o := by rfl) (hc : (Region.noSelect l.toArray && (Region.free .any l.toArray listed.toArray k && (Region.ready .any l.toArray listed.toArray).contains k)) = true := by kernel_rfl)
    (hQ:∀ c a d v w,Q (.panic c) (Act.put a d v) w→Q (.panic c) a w:=by exact fun c a d v w h=>by cases d <;> exact h) (hg:Region.wanted o (yielded l.toArray a.tmps)=true:=by rfl) (hS:S w:=by exact HS)
    (hv:∀ w,S w→(execOp a.eval o).run P w=.ok (.value v) w:=by intro W hW;(try have A:=FX.out W hW);clear hW;go_simp;try with_reducible rfl):tree P l S Q (fuel + 1) listed a w:=tree_read h0 hc hQ hg hS hv h
theorem kIn {k:Nat} {o:Oper} (h0:l[k]?=some o) (hg:Region.wanted o (yielded l.toArray a.tmps)=true)
    (h:∀ K:Act→World→Prop,(∀ a' w',S w'→tree P l S Q fuel (listed.set k true) a' w'→K a' w')→o.wp P a w K Q) :
    wpOp P l.toArray Q k (fun a' w'=>S w'∧wpAnyH P .any l.toArray Q S fuel (listed.toArray.setIfInBounds k true) a' w') a w:=by
 unfold wpOp
 rw [show l.toArray[k]?=some o by simpa using h0]
 simp only [hg,if_true]
 refine .inl (h _ (fun a' w' h1 h2=>⟨h1,?_⟩))
 unfold tree at h2
 rw [kGs]
 exact h2
theorem kS {k:Nat} {o:Oper} (h0:l[k]?=some o) (hr:(Region.ready .any l.toArray listed.toArray==[k])=true) (hg:Region.wanted o (yielded l.toArray a.tmps)=true)
    (h:∀ K:Act→World→Prop,(∀ a' w',S w'→tree P l S Q fuel (listed.set k true) a' w'→K a' w')→o.wp P a w K Q):tree P l S Q (fuel + 1) listed a w:=by
 unfold tree
 refine wpAnyH_all (by simpa using hr) fZ ?_
 intro j hj
 obtain rfl:j=k:=fD
 exact kIn h0 hg h
theorem yw {i j:Nat} {oi oj:Oper} (hi:l[i]?=some oi) (hj:l[j]?=some oj) (hr:(Region.ready .any l.toArray listed.toArray==[i,j])=true) (hgi:Region.wanted oi (yielded l.toArray a.tmps)=true) (hgj:Region.wanted oj (yielded l.toArray a.tmps)=true)
    (h1:∀ K:Act→World→Prop,(∀ a' w',S w'→tree P l S Q fuel (listed.set i true) a' w'→K a' w')→oi.wp P a w K Q)
    (h2:∀ K:Act→World→Prop,(∀ a' w',S w'→tree P l S Q fuel (listed.set j true) a' w'→K a' w')→oj.wp P a w K Q):tree P l S Q (fuel + 1) listed a w:=by
 unfold tree
 refine wpAnyH_all (by simpa using hr) fZ ?_
 intro k hk
 rcases List.mem_cons.1 hk with rfl | hk
 · exact kIn hi hgi h1
 obtain rfl:k=j:=by simpa using hk
 exact kIn hj hgj h2
theorem jd (hr:(Region.ready .any l.toArray listed.toArray==[])=true) (h:Q .normal a w):tree P l S Q fuel listed a w:=by
 unfold tree
 exact wpAnyH_done (by simpa using hr) h fuel
end
end Go.Proofs.YthpgoddjglnoiaaGreatDoor
namespace Go.Proofs.YthpgoddjglnoiaaGreatDoor
open Go.RowKit
theorem kBa {α:Type} {key:α→Int} {l:List α}:(Srt.sorted key l).length=l.length:=by rw [← Srt.kHu,Srt.kCl]
theorem place_next {α:Type} {key:α→Int} {l:List α} {x:α} {k j:Nat} (hj:j + 1=k) (hl:j < l.length) (h:decide (key x < key l[j])=true):Srt.place key k l x=Srt.place key j l x:=by
 subst hj;rw [Srt.place,if_pos (by rw [Srt.jG hl];exact of_decide_eq_true h)]
theorem place_stop {α:Type} {key:α→Int} {l:List α} {x:α} {k j:Nat} (hj:j + 1=k) (hl:j < l.length) (h:decide (key x < key l[j])=false):Srt.place key k l x=k:=by
 subst hj;rw [Srt.place,if_neg (by rw [Srt.jG hl];exact of_decide_eq_false h)]
theorem put_at {α:Type} {key:α→Int} {l:List α} {x:α} {k:Nat} (h:k=Srt.place key l.length l x):Srt.put key l x=l.take k++[x]++l.drop k:=by subst h;rfl
namespace Rep
theorem own0_form {α:Type} {r:Rep α} {e:TypeId} {w:World} {a:Option Addr} {n cap:Nat} {xs:List α} {S:Nat→Prop} (h:kH e r w (.slice a n cap) xs S):(n=0∧cap=0)∨∃ b,a=some ⟨b,0,none⟩:=by
 rcases h.2 with ⟨⟨a',h0⟩,_⟩|⟨b,cap',cur,cs,tl,h0,_⟩
 · simp only [Value.slice.injEq] at h0;exact .inl ⟨h0.2.1,h0.2.2⟩
 simp only [Value.slice.injEq] at h0;exact .inr ⟨b,h0.1⟩
theorem void_rd {α:Type} {r:Rep α} {e:TypeId} {w:World} {a:Option Addr} {c:Nat} (hc:c≤maxLen):(slice e r).rd w [.slice a 0 c] []:=⟨void_raw hc,Nat.zero_le _,by simp⟩
theorem drop_rd {α:Type} {r:Rep α} {e:TypeId} {w:World} {b len cap k:Nat} {xs:List α} (h:(slice e r).rd w [.slice (some ⟨b,0,none⟩) len cap] xs) (hk:k≤xs.length):(slice e r).rd w [.slice (some ⟨b,0 + k * r.n,none⟩) (len - k) (cap - k)] (xs.drop k) :=
  ⟨drop_raw h.1 hk,by have:=h.2.1;simp;omega,fun x hx=>h.2.2 x (List.mem_of_mem_drop hx)⟩
end Rep
theorem specMin_c {w:World} {a b:Int}:Calls Tryz.prog 88 #[.int .i64 a,.int .i64 b] w fun e w'=>e=.returned (.int .i64 (min a b))∧w'=w:=by
 go_enter Tryz.func88,Tryz.ntmps88
 by_cases h:b < a
 · have hd:decide (b < a)=true:=fM
   have HT:=yD (show min a b=b by omega)
   go_wp2
   go_ret
   exact ⟨jB HT.out.symm,rfl⟩
 have hd:decide (b < a)=false:=fM
 have HT:=yD (show min a b=a by omega)
 go_wp2
 go_ret
 exact ⟨jB HT.out.symm,rfl⟩
theorem specMax_c {w:World} {a b:Int}:Calls Tryz.prog 87 #[.int .i64 a,.int .i64 b] w fun e w'=>e=.returned (.int .i64 (max a b))∧w'=w:=by
 go_enter Tryz.func87,Tryz.ntmps87
 by_cases h:b > a
 · have hd:decide (b > a)=true:=fM
   have HT:=yD (show max a b=b by omega)
   go_wp2
   go_ret
   exact ⟨jB HT.out.symm,rfl⟩
 have hd:decide (b > a)=false:=fM
 have HT:=yD (show max a b=a by omega)
 go_wp2
 go_ret
 exact ⟨jB HT.out.symm,rfl⟩
end Go.Proofs.YthpgoddjglnoiaaGreatDoor

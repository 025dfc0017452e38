/-
  What a copying call hands back: a new slice at the head of its own block. No program in sight.
  Names as the reference draws them.
-/
import Derived.Test.YthpgoddjglnoiaaGreatDoorGap
import Derived.Test.YthpgoddjglnoiaaGreatDoorCopy
import Derived.Test.YthpgoddjglnoiaaGreatDoorCur
import Derived.Test.YthpgoddjglnoiaaGreatDoorVName
set_option linter.unusedVariables false
set_option linter.unusedSimpArgs false
set_option linter.unnecessarySimpa false
set_option maxRecDepth 100000
set_option maxHeartbeats 4000000
namespace Go.Proofs.YthpgoddjglnoiaaGreatDoor
open Go.RowKit
variable {α:Type} {r:Rep α} {e:TypeId} {w w':World} {v:Value} {xs ys:List α} {S:Nat→Prop}
def kFq (e:TypeId) (r:Rep α) (x:List α) (w:World) (E:Ending) (w':World):Prop:=∃ v,E=.returned v∧Rep.kH e r w' v x (Btw w.heap.size w'.heap.size)∧Below w.heap.size w w'
theorem Rep.kH.cast (h:Rep.kH e r w v xs S) (k:xs=ys):Rep.kH e r w v ys S:=k ▸ h
theorem Rep.kH.parts (h:Rep.kH e r w v xs S):∃ a n cap,v=.slice a n cap∧Hid (n=xs.length):=by
 obtain ⟨a,cap,h⟩:=h.zG
 exact ⟨a,_,cap,h,yD rfl⟩
theorem kFq.post {E:Ending} (h:kFq e r xs w E w') (hl:xs.length≤Big):kAx (Rep.slice e r) xs w E w':=by
 obtain ⟨v,rfl,h1,h2⟩:=h
 exact ⟨v,rfl,h1.own hl,h2⟩
theorem kCz {α:Type} {p:α→Bool} {l:List α} {k:Nat} (h:k < l.length) (q:p l[k]=true):(l.take (k + 1)).filter p=(l.take k).filter p++[l[k]]:=by
 rw [List.take_succ_eq_append_getElem h,List.filter_append]
 simp [q]
theorem kCh {α:Type} {p:α→Bool} {l:List α} {k:Nat} (h:k < l.length) (q:p l[k]=false):(l.take (k + 1)).filter p=(l.take k).filter p:=by
 rw [List.take_succ_eq_append_getElem h,List.filter_append]
 simp [q]
theorem yS {α:Type} {p:α→Bool} {l:List α} {k:Nat} (h:k≤l.length):((l.take k).filter p).length≤k:=by
 have h1:=List.length_filter_le p (l.take k)
 rw [List.length_take_of_le h] at h1
 exact h1
def kz (ps:List ByteArray):Prop:=∀ p∈ps,p.size≤64
theorem kz.snoc {ps:List ByteArray} {y:ByteArray} (h:kz ps) (hy:y.size≤64):kz (ps++[y]):=fun p hp=>by
  rcases List.mem_append.1 hp with hp | hp
  · exact h p hp
  · rw [List.mem_singleton.1 hp];exact hy
theorem kz.nil:kz []:=fun p hp=>by simp at hp
theorem kz.drop {ps:List ByteArray} (h:kz ps) (k:Nat):kz (ps.drop k):=fun p hp=>h p (List.mem_of_mem_drop hp)
theorem kz.cut {ps:List ByteArray} {s:ByteArray} (h:kz ps) (hs:s.size≤64) (m k:Nat):kz (ps++[s.extract m k]):=h.snoc (by simp only [ByteArray.size_extract];omega)
theorem kHj {w:World} {s:ByteArray} (hs:s.size≤64) {by0:Nat} (hb:by0 < 256) :
    Calls Tryz.prog 96 #[.string s,.int .u8 by0] w fun e w'=>∃ v,e=.returned v∧∃ ps,Rep.kH 9 Rep.str w' v ps (Btw w.heap.size w'.heap.size)∧0 < ps.length∧ps.length≤65∧kz ps∧Below w.heap.size w w':=by
 go_enter Tryz.func96,Tryz.ntmps96
 go_wp2
 go_loopw [5,6,7] (fun v f i wr=>∃ (k m:Nat) (ps:List ByteArray),k≤s.size + 1∧m≤k∧i=.int .i64 k∧f=.int .i64 m∧ps.length≤k∧(k=s.size + 1→0 < ps.length)∧Hid (kz ps)∧Hid (Rep.kH 9 Rep.str wr v ps (Btw w.heap.size wr.heap.size))∧Below w.heap.size w wr) (fun _ _ i _=>s.size + 1 - (intOf i).toNat)
 case atStart=>exact ⟨0,0,[],by omega,by omega,rfl,rfl,by simp,by omega,yD kz.nil,yD Rep.kH.void,bR.alloc nL _⟩
 obtain ⟨k,m,ps,hk,hm,rfl,rfl,hpl,hp0,HSM,HO,hbel⟩:=hrel
 obtain ⟨oa,on,oc,ho,HON⟩:=HO.out.parts;obtain rfl:=ho
 have hzr:=hbel.size
 have hk0:=Int.natCast_nonneg k
 have hm0:=Int.natCast_nonneg m
 by_cases hle:k≤s.size
 · have hleI:(k:Int)≤s.size:=fV
   by_cases he:k=s.size
   · have heI:(k:Int)=s.size:=fV
     have hmk:(m:Int)≤k:=fV
     go_wp2_with (at_builtin;refine Rep.ky rfl _ _ 25 rfl (r:=Rep.str) (e:=9) Tryz.underlying25 jW rfl fU fU (B:=w.heap.size) HO.out gB gB rfl (Rep.flat.own (S:=fun _=>False) (Rep.kAr (s:=s.extract m s.size) (by simp only [ByteArray.size_extract];unfold Big;omega))) rfl (fun _ _ h=>h) cK (fun _ h=>h.elim) fV fV ?_)
     intro v2 w2 ho2 hb2 hz2
     have HO2:=yD ho2
     obtain ⟨pa,pn,pc,hp,HPN⟩:=ho2.parts;obtain rfl:=hp
     have hbel2:=hbel.trans hb2
     clear ho2 hb2
     go_wp2
     go_roundw
     case rel=>exact ⟨k + 1,k + 1,_,by omega,by omega,by go_num,by go_num,by simp;omega,by simp,yD (HSM.out.cut hs m s.size),HO2,hbel2⟩
     simp [intOf];omega
   have heI:¬ (k:Int)=s.size:=fV
   have hklI:(k:Int) < s.size:=fV
   have hkl:k < s.size:=fV
   have hmk:(m:Int)≤k:=fV
   go_upto_region 6 with fail
   refine kg (fun W=>Below wr.heap.size wr W) [true,true,true,true,true,true,true,true,true,true,true] (bR) ?_
   intro wS HS
   iterate 4
    all_goals refine wkR ?_
   all_goals (have hg4:=True.intro;first|(refine wkG (fun b hg4=>?_);cases b;all_goals first | exact Bool.noConfusion hg4 | simp only [zU,zV] at hg4 | skip) | refine wkR ?_)
   all_goals refine wkP ?_
   iterate 5
    all_goals refine wkR ?_
   all_goals (have hg10:=True.intro;first|(refine wkG (fun b hg10=>?_);cases b;all_goals first | exact Bool.noConfusion hg10 | simp only [zU,zV] at hg10 | skip) | refine wkR ?_)
   all_goals refine wkP ?_
   all_goals refine kQ ?_
   all_goals replace hbel:=(tQ hbel HS)
   all_goals replace HO:=yD ((HO.out.below HS).wide (T:=Btw w.heap.size wS.heap.size) (fun j hj=>⟨hj.1,by have:=hj.2;have:=HS.size;omega⟩))
   all_goals have hzr:=hbel.size
   all_goals clear HS
   all_goals first
     | (go_wp2;go_roundw;(case rel=>exact ⟨k + 1,m,ps,by omega,by omega,by go_num,rfl,by omega,by omega,HSM,HO,hbel⟩);(case measure=>simp [intOf];omega))
     | skip
   all_goals
     go_wp2_with (at_builtin;refine Rep.ky rfl _ _ 25 rfl (r:=Rep.str) (e:=9) Tryz.underlying25 jW rfl fU fU (B:=w.heap.size) HO.out gB gB rfl (Rep.flat.own (S:=fun _=>False) (Rep.kAr (s:=s.extract m k) (by simp only [ByteArray.size_extract];unfold Big;omega))) rfl (fun _ _ h=>h) cK (fun _ h=>h.elim) fV fV ?_)
     intro v2 w2 ho2 hb2 hz2
     have HO2:=yD ho2
     obtain ⟨pa,pn,pc,hp,HPN⟩:=ho2.parts;obtain rfl:=hp
     have hbel2:=hbel.trans hb2
     clear ho2 hb2
     go_wp2
     go_roundw
     case rel=>exact ⟨k + 1,k + 1,_,by omega,by omega,by go_num,by go_num,by simp;omega,by simp,yD (HSM.out.cut hs m k),HO2,hbel2⟩
     case measure=>simp [intOf];omega
 have hleI:¬ (k:Int)≤s.size:=fV
 have hp:=hp0 fV
 go_wp2
 go_ret
 exact ⟨_,rfl,ps,HO.out,hp,by omega,HSM.out,hbel⟩
end Go.Proofs.YthpgoddjglnoiaaGreatDoor

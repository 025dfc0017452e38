/-
  A region that draws its order, where two operations may come up at one time: both ways are walked. No program in sight.
  A nonce that was seen is kept.
-/
import Derived.Test.YtomdenfcfbkfbaaGreatSoft2
import Derived.Test.YtomdenfcfbkfbaaGreatBase
import Derived.Test.YtomdenfcfbkfbaaGreatCopyP
import Derived.Test.YtomdenfcfbkfbaaGreatTake2
import Derived.IntWalk
import Derived.Deep.Cut
import Derived.WalkSpells
import Derived.WalkLawsBesides
namespace Go.Proofs.YtomdenfcfbkfbaaGreat
open Go
set_option linter.unusedVariables false
section
variable {P:Program} {l:List Oper} {S:World→Prop} {Q:Exit→Act→World→Prop} {fuel:Nat} {listed:List Bool} {a:Act} {w:World}
@[irreducible] def tree (P:Program) (l:List Oper) (S:World→Prop) (Q:Exit→Act→World→Prop) (fuel:Nat) (listed:List Bool) (a:Act) (w:World):Prop:=wpAnyH P .any l.toArray Q S fuel listed.toArray a w
theorem listed_set (k:Nat):listed.toArray.setIfInBounds k true=(listed.set k true).toArray:=by simp
theorem wp_region_tree {id:Nat} (S:World→Prop) (hm:P.follows .mixedOrders=true) (hS:S { w with drawn:=w.drawn + 1 })
    (h:∀ w',S w'→tree P l S Q l.length (List.replicate l.length false) a w'):(Code.region id l.toArray true).wp P Q a w:=by
 have h:=h _ hS
 unfold tree at h
 refine wp_region_held (S:=S) hm ?_
 have e:(Array.replicate l.toArray.size false)=(List.replicate l.length false).toArray:=by simp
 rw [e,show l.toArray.size=l.length by simp]
 exact h
theorem kS {k:Nat} {o:Oper} {v:Value} (h0:l[k]?=some o) (hc:(Region.noSelect l.toArray && (Region.free .any l.toArray listed.toArray k && (Region.ready .any l.toArray listed.toArray).contains k))=true)
    (hQ:∀ c a d v w,Q (.panic c) (Act.put a d v) w→Q (.panic c) a w) (hg:Region.wanted o (yielded l.toArray a.tmps)=true) (hS:S w)
    (hv:∀ w,S w→(execOp a.eval o).run P w=.ok (.value v) w) (h:tree P l S Q fuel (listed.set k true) (a.put o.dst v) w):tree P l S Q (fuel + 1) listed a w:=by
 unfold tree at h ⊢
 simp only [Bool.and_eq_true] at hc
 rw [← listed_set] at h
 exact wpAnyH_take (by simpa using h0) hc.1 hc.2.1 hc.2.2 (fun c a w=>hQ c a _ _ w) (.inl ⟨hg,hv⟩) hS h
theorem tree_op {k:Nat} {o:Oper} (h0:l[k]?=some o) (hg:Region.wanted o (yielded l.toArray a.tmps)=true)
    (h:∀ K:Act→World→Prop,(∀ a' w',S w'→tree P l S Q fuel (listed.set k true) a' w'→K a' w')→o.wp P a w K Q) :
    wpOp P l.toArray Q k (fun a' w'=>S w'∧wpAnyH P .any l.toArray Q S fuel (listed.toArray.setIfInBounds k true) a' w') a w:=by
 unfold wpOp
 rw [show l.toArray[k]?=some o by simpa using h0]
 simp only [hg,if_true]
 refine .inl (h _ (fun a' w' h1 h2=>⟨h1,?_⟩))
 unfold tree at h2
 rw [listed_set]
 exact h2
theorem kW {k:Nat} {o:Oper} (h0:l[k]?=some o) (hr:(Region.ready .any l.toArray listed.toArray==[k])=true) (hg:Region.wanted o (yielded l.toArray a.tmps)=true)
    (h:∀ K:Act→World→Prop,(∀ a' w',S w'→tree P l S Q fuel (listed.set k true) a' w'→K a' w')→o.wp P a w K Q):tree P l S Q (fuel + 1) listed a w:=by
 unfold tree
 refine wpAnyH_all (by simpa using hr) (by simp) ?_
 intro j hj
 obtain rfl:j=k:=by simpa using hj
 exact tree_op h0 hg h
theorem tree_two {i j:Nat} {oi oj:Oper} (hi:l[i]?=some oi) (hj:l[j]?=some oj) (hr:(Region.ready .any l.toArray listed.toArray==[i,j])=true) (hgi:Region.wanted oi (yielded l.toArray a.tmps)=true) (hgj:Region.wanted oj (yielded l.toArray a.tmps)=true)
    (h1:∀ K:Act→World→Prop,(∀ a' w',S w'→tree P l S Q fuel (listed.set i true) a' w'→K a' w')→oi.wp P a w K Q)
    (h2:∀ K:Act→World→Prop,(∀ a' w',S w'→tree P l S Q fuel (listed.set j true) a' w'→K a' w')→oj.wp P a w K Q):tree P l S Q (fuel + 1) listed a w:=by
 unfold tree
 refine wpAnyH_all (by simpa using hr) (by simp) ?_
 intro k hk
 rcases List.mem_cons.1 hk with rfl | hk
 · exact tree_op hi hgi h1
 obtain rfl:k=j:=by simpa using hk
 exact tree_op hj hgj h2
theorem tree_end (hr:(Region.ready .any l.toArray listed.toArray==[])=true) (h:Q .normal a w):tree P l S Q fuel listed a w:=by
 unfold tree
 exact wpAnyH_done (by simpa using hr) h fuel
end
end Go.Proofs.YtomdenfcfbkfbaaGreat
namespace Go.Proofs.YtomdenfcfbkfbaaGreat
open Go.RowKit
set_option linter.unusedVariables false
set_option linter.unusedSimpArgs false
set_option linter.unnecessarySimpa false
def addSeen (l:List LSeenNonce) (n:LName) (x:Int):List LSeenNonce:=if (24:Nat) < (l++[(n,x)]).length then (l++[(n,x)]).drop 1 else l++[(n,x)]
set_option maxRecDepth 100000 in
set_option maxHeartbeats 4000000 in
theorem specAddSeenNonce_c {w:World} {vl:Value} {l:List LSeenNonce} (hl:(Rep.slice 157 kK).rd w [vl] l) (hlen:l.length≤2000000) {cn:List Value} {n:LName} (hn:RName.rd w cn n) {x:Int} (hx:-9223372036854775808≤x∧x≤9223372036854775807) :
    Calls Tryz.prog 30 #[vl,.agg cn.toArray,.int .i64 x] w (MadePost (Rep.slice 157 kK) (addSeen l n x) w):=by
 have HL:=hD hl
 have HN:=hD hn
 have HX:=hD hx
 obtain ⟨la,lp,lh,ll⟩:=Rep.kR hl.1;obtain rfl:vl=_:=by simpa using lh
 obtain ⟨av,rfl,a_0⟩:=RName_raw hn.1
 obtain ⟨na,np,nh,_⟩:=Rep.kR a_0;obtain rfl:av=_:=by simpa using nh
 clear lh hl hn nh a_0 hx
 go_enter Tryz.func30,Tryz.ntmps30
 go_upto_region 1 with fail
 generalize hwB:World.alloc w _=wB
 have EB:Below w.heap.size w wB:=by rw [← hwB];exact (by repeat (first|(with_reducible exact Below.refl _ _) | refine Below.alloc ?_ (by simp;try omega) _ | refine Below.drew ?_ | refine Below.setCell ?_ (by simp;try omega) _))
 have hzB:w.heap.size + 1≤wB.heap.size:=by rw [← hwB];simp
 have K0:wB.cell? ⟨w.heap.size,0,none⟩=some (.slice na n.length np):=by rw [← hwB];simp [go_sem]
 clear hwB
 refine wp_region_softP (fun W=>Below wB.heap.size wB W) [(0,true),(2,true),(4,true),(1,false),(3,false),(5,true),(6,false),(7,false),(8,true)] (by kernel_rfl) (by kernel_rfl) (fun c a d v w h=>by cases d <;> exact h) ((Below.refl _ _).drew) ?_
 intro wS HS
 simp only [pickOps,List.getElem?_cons_succ,List.getElem?_cons_zero,List.map_cons,List.map_nil]
 all_goals first|(refine kC rfl HS ?_)|(refine kD (v:=?_) rfl (fun W hW=>?_) ?_;rotate_left;(· go_simp;try with_reducible rfl))
 all_goals try simp only [Act.put,zA,zB,zC]
 all_goals first|(refine kC rfl HS ?_)|(refine kD (v:=?_) rfl (fun W hW=>?_) ?_;rotate_left;(· have A_K0:=cL hW K0;clear hW;go_simp;try with_reducible rfl))
 all_goals try simp only [Act.put,zA,zB,zC]
 all_goals first|(refine kC rfl HS ?_)|(refine kD (v:=?_) rfl (fun W hW=>?_) ?_;rotate_left;(· go_simp;try with_reducible rfl))
 all_goals try simp only [Act.put,zA,zB,zC]
 all_goals first|(refine kC rfl HS ?_)|(refine kF rfl (fun K hK=>?_);go_simp;refine (specl13Seen_c (HL.out.below (EB.trans (HS.mono EB.size)))).mono ?_;rintro e wA ⟨v1,rfl,O1,hbA⟩;have hzS1:=HS.size;have hzA:=hbA.size;have hwS1:=HS;obtain ⟨va,vn,vc,hv1,HVN⟩:=O1.parts;obtain rfl:=hv1;have HO1:=hD O1;clear O1;replace HS:=HS.trans (hbA.mono HS.size);refine hK _ _ HS ?_;clear hK K hbA)
 all_goals try simp only [Act.put,zA,zB,zC]
 all_goals first|(refine kC rfl HS ?_)|(refine kF rfl (fun K hK=>?_);go_simp;refine (specl4Copy_c (HN.out.below (EB.trans (HS.mono EB.size)))).mono ?_;rintro e wC ⟨tc,rfl,O3,hbC⟩;have hzC:=hbC.size;obtain ⟨tv,rfl,t_0⟩:=RName_raw O3.raw;obtain ⟨ta,tp,th,_⟩:=Rep.kR t_0;obtain rfl:tv=_:=(by simpa using th);clear th t_0;have HO3:=hD O3;clear O3;replace HO1:=hD (HO1.out.below hbC);have hvn:=HVN.out;subst hvn;clear HVN;replace HS:=HS.trans (hbC.mono HS.size);refine hK _ _ HS ?_;clear hK K hbC)
 all_goals try simp only [Act.put,zA,zB,zC]
 all_goals first|(refine kC rfl HS ?_)|(refine kD (v:=?_) rfl (fun W hW=>?_) ?_;rotate_left;(· go_simp;try with_reducible rfl))
 all_goals try simp only [Act.put,zA,zB,zC]
 all_goals first|(refine kC rfl HS ?_)|(refine kF rfl (fun K hK=>?_);go_simp;refine hK _ _ (HS.alloc HS.size _) ?_;clear hK K)
 all_goals try simp only [Act.put,zA,zB,zC]
 all_goals first|(refine kC rfl HS ?_)|(refine kF rfl (fun K hK=>?_);obtain ⟨v7,w7,hr7,ho7,ht7⟩:=Rep.run_pushG1 (P:=Tryz.prog) (t:=38) (ty:=38) (r:=kK) (e:=157) (w:=wC) (xs:=l) (c:=1) Tryz.underlying38 infSeenNonce rfl (by decide) (by decide) (HO1.out.own (by unfold Big;omega)) (Below.refl _ _) (Rep.own_flat (r:=RName) (q:=Rep.int) (cs:=[.slice ta n.length tp]) (ds:=[.int .i64 x]) (x:=n) (y:=x) HO3.out (Rep.flat_int HX.out)) (fun j h1 h2=>by have:=h1.2;have:=h2.1;omega) (by omega);refine Rep.wp_append _ _ _ rfl (by rfl) (by rfl) hr7 ?_;have hz7:=ht7.size;have HS7:Below wB.heap.size wB w7:=HS.trans (ht7.below HS.size (fun j q=>by have:=q.1.1;omega));clear hr7;generalize hq_:l++[(n,x)]=q at *;have HQL:Hid (q.length=l.length + 1):=hD (by rw [← hq_];simp);obtain ⟨a7,c7,hv7,_⟩:=Rep.kR ho7.raw;obtain rfl:v7=_:=(by simpa using hv7);have HO7:=hD (ho7.wide (T:=Btw w.heap.size w7.heap.size) (fun j q=>by rcases q with q | q | q;exact ⟨by have:=q.1;omega,by have:=q.2;omega⟩;exact ⟨by have:=q.1;omega,by have:=q.2;omega⟩;exact ⟨by have:=q.1;omega,q.2⟩));clear ho7 ht7 hv7;have HQE:=hD hq_;clear hq_;refine hK _ _ HS7 ?_;clear hK K HS)
 all_goals try simp only [Act.put,zA,zB,zC]
 all_goals first|(refine kC rfl HS ?_)|(refine kD (v:=?_) rfl (fun W hW=>?_) ?_;rotate_left;(· go_simp;try with_reducible rfl))
 all_goals try simp only [Act.put,zA,zB,zC]
 all_goals refine soft_nil ?_
 have EF:=EB.trans (HS7.mono EB.size)
 by_cases h24:24 < q.length
 · obtain ⟨_,b,off,rfl,hSb,hbl⟩:=Rep.own_addr HO7.out (by omega)
   have hcp:=(Rep.cap_raw HO7.out.raw)
   have h24I:(24:Int) < q.length:=by omega
   have h1I:(1:Int)≤q.length:=by omega
   have hc1:¬ c7=1:=by omega
   have hcI:(q.length:Int)≤c7:=by omega
   have hcI2:c7≤9223372036854775807:=hcp.2
   have HD:=hD (Rep.drop_own HO7.out (k:=1) (by omega))
   have HAD:Hid (addSeen l n x=q.drop 1):=hD (by unfold addSeen;rw [HQE.out,if_pos h24])
   clear HO7 HQE
   go_wp2
   go_ret
   refine ⟨_,rfl,?_,EF⟩
   rw [HAD.out]
   exact HD.out
 have h24I:¬ (24:Int) < q.length:=by omega
 have HAD:Hid (addSeen l n x=q):=hD (by unfold addSeen;rw [HQE.out,if_neg h24])
 clear HQE
 go_wp2
 go_ret
 refine ⟨_,rfl,?_,EF⟩
 rw [HAD.out]
 exact HO7.out
set_option maxRecDepth 100000 in
set_option maxHeartbeats 4000000 in
theorem implAddSeenNonce_c {w:World} {vl:Value} {l:List LSeenNonce} (hl:(Rep.slice 157 kK).rd w [vl] l) (hlen:l.length≤2000000) {cn:List Value} {n:LName} (hn:RName.rd w cn n) {x:Int} (hx:-9223372036854775808≤x∧x≤9223372036854775807) :
    Calls Tryz.prog 44 #[vl,.agg cn.toArray,.int .i64 x] w (MadePost (Rep.slice 157 kK) (addSeen l n x) w):=by
 have HL:=hD hl
 have HN:=hD hn
 have HX:=hD hx
 obtain ⟨la,lp,lh,ll⟩:=Rep.kR hl.1;obtain rfl:vl=_:=by simpa using lh
 obtain ⟨av,rfl,a_0⟩:=RName_raw hn.1
 obtain ⟨na,np,nh,_⟩:=Rep.kR a_0;obtain rfl:av=_:=by simpa using nh
 clear lh hl hn nh a_0 hx
 go_enter Tryz.func44,Tryz.ntmps44
 go_upto_region 1 with fail
 generalize hwB:World.alloc w _=wB
 have EB:Below w.heap.size w wB:=by rw [← hwB];exact (by repeat (first|(with_reducible exact Below.refl _ _) | refine Below.alloc ?_ (by simp;try omega) _ | refine Below.drew ?_ | refine Below.setCell ?_ (by simp;try omega) _))
 have hzB:w.heap.size + 1≤wB.heap.size:=by rw [← hwB];simp
 have K0:wB.cell? ⟨w.heap.size,0,none⟩=some (.slice na n.length np):=by rw [← hwB];simp [go_sem]
 clear hwB
 refine wp_region_softP (fun W=>Below wB.heap.size wB W) [(0,true),(2,true),(4,true),(1,false),(3,false),(5,true),(6,false),(7,false),(8,true)] (by kernel_rfl) (by kernel_rfl) (fun c a d v w h=>by cases d <;> exact h) ((Below.refl _ _).drew) ?_
 intro wS HS
 simp only [pickOps,List.getElem?_cons_succ,List.getElem?_cons_zero,List.map_cons,List.map_nil]
 all_goals first|(refine kC rfl HS ?_)|(refine kD (v:=?_) rfl (fun W hW=>?_) ?_;rotate_left;(· go_simp;try with_reducible rfl))
 all_goals try simp only [Act.put,zA,zB,zC]
 all_goals first|(refine kC rfl HS ?_)|(refine kD (v:=?_) rfl (fun W hW=>?_) ?_;rotate_left;(· have A_K0:=cL hW K0;clear hW;go_simp;try with_reducible rfl))
 all_goals try simp only [Act.put,zA,zB,zC]
 all_goals first|(refine kC rfl HS ?_)|(refine kD (v:=?_) rfl (fun W hW=>?_) ?_;rotate_left;(· go_simp;try with_reducible rfl))
 all_goals try simp only [Act.put,zA,zB,zC]
 all_goals first|(refine kC rfl HS ?_)|(refine kF rfl (fun K hK=>?_);go_simp;refine (implcopySeen_c (HL.out.below (EB.trans (HS.mono EB.size)))).mono ?_;rintro e wA ⟨v1,rfl,O1,hbA⟩;have hzS1:=HS.size;have hzA:=hbA.size;have hwS1:=HS;obtain ⟨va,vn,vc,hv1,HVN⟩:=O1.parts;obtain rfl:=hv1;have HO1:=hD O1;clear O1;replace HS:=HS.trans (hbA.mono HS.size);refine hK _ _ HS ?_;clear hK K hbA)
 all_goals try simp only [Act.put,zA,zB,zC]
 all_goals first|(refine kC rfl HS ?_)|(refine kF rfl (fun K hK=>?_);go_simp;refine (implcopyName_c (HN.out.below (EB.trans (HS.mono EB.size)))).mono ?_;rintro e wC ⟨tc,rfl,O3,hbC⟩;have hzC:=hbC.size;obtain ⟨tv,rfl,t_0⟩:=RName_raw O3.raw;obtain ⟨ta,tp,th,_⟩:=Rep.kR t_0;obtain rfl:tv=_:=(by simpa using th);clear th t_0;have HO3:=hD O3;clear O3;replace HO1:=hD (HO1.out.below hbC);have hvn:=HVN.out;subst hvn;clear HVN;replace HS:=HS.trans (hbC.mono HS.size);refine hK _ _ HS ?_;clear hK K hbC)
 all_goals try simp only [Act.put,zA,zB,zC]
 all_goals first|(refine kC rfl HS ?_)|(refine kD (v:=?_) rfl (fun W hW=>?_) ?_;rotate_left;(· go_simp;try with_reducible rfl))
 all_goals try simp only [Act.put,zA,zB,zC]
 all_goals first|(refine kC rfl HS ?_)|(refine kF rfl (fun K hK=>?_);go_simp;refine hK _ _ (HS.alloc HS.size _) ?_;clear hK K)
 all_goals try simp only [Act.put,zA,zB,zC]
 all_goals first|(refine kC rfl HS ?_)|(refine kF rfl (fun K hK=>?_);obtain ⟨v7,w7,hr7,ho7,ht7⟩:=Rep.run_pushG1 (P:=Tryz.prog) (t:=38) (ty:=38) (r:=kK) (e:=157) (w:=wC) (xs:=l) (c:=1) Tryz.underlying38 infSeenNonce rfl (by decide) (by decide) (HO1.out.own (by unfold Big;omega)) (Below.refl _ _) (Rep.own_flat (r:=RName) (q:=Rep.int) (cs:=[.slice ta n.length tp]) (ds:=[.int .i64 x]) (x:=n) (y:=x) HO3.out (Rep.flat_int HX.out)) (fun j h1 h2=>by have:=h1.2;have:=h2.1;omega) (by omega);refine Rep.wp_append _ _ _ rfl (by rfl) (by rfl) hr7 ?_;have hz7:=ht7.size;have HS7:Below wB.heap.size wB w7:=HS.trans (ht7.below HS.size (fun j q=>by have:=q.1.1;omega));clear hr7;generalize hq_:l++[(n,x)]=q at *;have HQL:Hid (q.length=l.length + 1):=hD (by rw [← hq_];simp);obtain ⟨a7,c7,hv7,_⟩:=Rep.kR ho7.raw;obtain rfl:v7=_:=(by simpa using hv7);have HO7:=hD (ho7.wide (T:=Btw w.heap.size w7.heap.size) (fun j q=>by rcases q with q | q | q;exact ⟨by have:=q.1;omega,by have:=q.2;omega⟩;exact ⟨by have:=q.1;omega,by have:=q.2;omega⟩;exact ⟨by have:=q.1;omega,q.2⟩));clear ho7 ht7 hv7;have HQE:=hD hq_;clear hq_;refine hK _ _ HS7 ?_;clear hK K HS)
 all_goals try simp only [Act.put,zA,zB,zC]
 all_goals first|(refine kC rfl HS ?_)|(refine kD (v:=?_) rfl (fun W hW=>?_) ?_;rotate_left;(· go_simp;try with_reducible rfl))
 all_goals try simp only [Act.put,zA,zB,zC]
 all_goals refine soft_nil ?_
 have EF:=EB.trans (HS7.mono EB.size)
 by_cases h24:24 < q.length
 · obtain ⟨_,b,off,rfl,hSb,hbl⟩:=Rep.own_addr HO7.out (by omega)
   have hcp:=(Rep.cap_raw HO7.out.raw)
   have h24I:(24:Int) < q.length:=by omega
   have h1I:(1:Int)≤q.length:=by omega
   have hc1:¬ c7=1:=by omega
   have hcI:(q.length:Int)≤c7:=by omega
   have hcI2:c7≤9223372036854775807:=hcp.2
   have HD:=hD (Rep.drop_own HO7.out (k:=1) (by omega))
   have HAD:Hid (addSeen l n x=q.drop 1):=hD (by unfold addSeen;rw [HQE.out,if_pos h24])
   clear HO7 HQE
   go_wp2
   go_ret
   refine ⟨_,rfl,?_,EF⟩
   rw [HAD.out]
   exact HD.out
 have h24I:¬ (24:Int) < q.length:=by omega
 have HAD:Hid (addSeen l n x=q):=hD (by unfold addSeen;rw [HQE.out,if_neg h24])
 clear HQE
 go_wp2
 go_ret
 refine ⟨_,rfl,?_,EF⟩
 rw [HAD.out]
 exact HO7.out
end Go.Proofs.YtomdenfcfbkfbaaGreat

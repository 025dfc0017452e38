/-
  The longest prefix among routes.
-/
import Derived.Test.YtomdenfcfbkfbaaGreatBase
import Derived.Test.YtomdenfcfbkfbaaGreatName
import Derived.Test.YtomdenfcfbkfbaaGreatClone
import Derived.Test.YtomdenfcfbkfbaaGreatTake2
import Derived.Test.YtomdenfcfbkfbaaGreatSoft2
import Derived.Test.YtomdenfcfbkfbaaGreatMin
import Derived.IntWalk
import Derived.Deep.Cut
import Derived.WalkSpells
import Derived.WalkLawsBesides
namespace Go.Proofs.YtomdenfcfbkfbaaGreat
open Go.RowKit
set_option linter.unusedVariables false
set_option linter.unusedSimpArgs false
set_option linter.unnecessarySimpa false
def prefN (n p:LName):Bool:=decide ((p.length:Int)≤n.length) && eqN (n.take p.length) p
theorem prefN_no {n p:LName} (h:¬ p.length≤n.length):prefN n p=false:=by unfold prefN;rw [decide_eq_false (by omega)];rfl
theorem prefN_yes {n p:LName} (h:p.length≤n.length):prefN n p=eqN (n.take p.length) p:=by unfold prefN;rw [decide_eq_true (by omega)];rfl
theorem clip {n:LName} (k:Int):∃ m:Nat,max 0 (min k n.length)=(m:Int)∧m≤n.length∧n.take k.toNat=n.take m:=by
 refine ⟨(max 0 (min k n.length)).toNat,by omega,by omega,?_⟩
 by_cases h:k.toNat≤n.length
 · congr 1;omega
 rw [List.take_of_length_le (by omega),List.take_of_length_le (by omega)]
def mB (n:LName) (l:List LRoute):Nat→Int
  | 0=>-1
  | k + 1=>if prefN n (l.getD k ([],0,0)).1=true∧(mB n l k < 0∨(l.getD (mB n l k).toNat ([],0,0)).1.length < (l.getD k ([],0,0)).1.length) then k else mB n l k
theorem mB_no {n:LName} {l:List LRoute} {k:Nat} (hk:k < l.length) (h:prefN n l[k].1=false):mB n l (k + 1)=mB n l k:=by
 conv=>lhs;unfold mB
 rw [getD_get hk,if_neg (by simp [h])]
theorem mB_new {n:LName} {l:List LRoute} {k:Nat} (hk:k < l.length) (h:prefN n l[k].1=true) (h2:mB n l k=-1):mB n l (k + 1)=k:=by
 conv=>lhs;unfold mB
 rw [getD_get hk,if_pos ⟨h,.inl (by omega)⟩]
theorem mB_up {n:LName} {l:List LRoute} {k j:Nat} (hk:k < l.length) (h:prefN n l[k].1=true) (hj:j < l.length) (h2:mB n l k=j) (h3:l[j].1.length < l[k].1.length):mB n l (k + 1)=k:=by
 conv=>lhs;unfold mB
 rw [getD_get hk,h2,Int.toNat_natCast,getD_get hj,if_pos ⟨h,.inr h3⟩]
theorem mB_keep {n:LName} {l:List LRoute} {k j:Nat} (hk:k < l.length) (hj:j < l.length) (h2:mB n l k=j) (h3:¬ l[j].1.length < l[k].1.length):mB n l (k + 1)=j:=by
 conv=>lhs;unfold mB
 rw [getD_get hk,h2,Int.toNat_natCast,getD_get hj,if_neg (fun q=>by rcases q.2 with h | h;omega;exact h3 h)]
def mOk (n:LName) (l:List LRoute):Bool:=!decide (mB n l l.length < 0)
def mName (n:LName) (l:List LRoute):LName:=if mB n l l.length < 0 then [] else (l.getD (mB n l l.length).toNat ([],0,0)).1
theorem m_no {n:LName} {l:List LRoute} (h:mB n l l.length=-1):mOk n l=false∧mName n l=[]:=by simp [mOk,mName,h]
theorem m_yes {n:LName} {l:List LRoute} {j:Nat} (hj:j < l.length) (h:mB n l l.length=j):mOk n l=true∧mName n l=l[j].1:=by
 unfold mOk mName
 rw [h,Int.toNat_natCast,getD_get hj,if_neg (by omega),decide_eq_false (by omega)]
 exact ⟨rfl,rfl⟩
set_option maxRecDepth 100000 in
set_option maxHeartbeats 1000000 in
theorem specTruncate_c {w:World} {ca:List Value} {x:LName} {k:Int} (ha:RName.rd w ca x):Calls Tryz.prog 184 #[.agg ca.toArray,.int .i64 k] w (MadeAgg RName (x.take k.toNat) w):=by
 have HA:=hD ha
 obtain ⟨av,rfl,a_0⟩:=RName_raw ha.1
 obtain ⟨aa,capa,hva,la⟩:=Rep.kR a_0;obtain rfl:av=_:=by simpa using hva
 have hcap:=Rep.cap_raw a_0
 have hb:x.length≤16777216:=ha.2.1
 obtain ⟨m,hm,hmx,htk⟩:=clip (n:=x) k
 have HTK:=hD htk
 clear hva ha a_0 htk
 go_enter Tryz.func184,Tryz.ntmps184
 go_wp2_with fail
 refine specMin_c.mono ?_
 rintro e w1 ⟨rfl,rfl⟩
 go_wp2_with fail
 refine specMax_c.mono ?_
 rintro e w1 ⟨rfl,rfl⟩
 rw [hm]
 have HS_:=hD (Rep.take_rd (e:=9) (r:=Rep.str) HA.out hmx)
 have hl:(x.take m).length=m:=by simp;omega
 generalize x.take m=y at *
 subst hl
 have hm1:(y.length:Int)≤capa:=by omega
 have O0:Rep.own0 9 Rep.str (((w.alloc (.cells #[.slice aa x.length capa] 58)).alloc (.cells #[.slice none 0 0] 58)).alloc (.cells #[] 9)) (.slice (some ⟨w.heap.size + 1 + 1,0,none⟩) 0 0) [] (fun k=>k=w.heap.size + 1 + 1):=by
  have h:=Rep.own0_lit (e:=9) (r:=Rep.str) (w:=(w.alloc (.cells #[.slice aa x.length capa] 58)).alloc (.cells #[.slice none 0 0] 58)) (cs:=[]) (xs:=[]) (T:=fun _=>False) (S:=fun k=>k=w.heap.size + 1 + 1) (by simp) (by simp) rfl (fun _ h=>h.elim) (by simp)
  simpa using h
 go_wp2_with (at_builtin;refine Rep.wpList_pushN rfl _ _ 48 rfl (r:=Rep.str) (e:=9) Tryz.underlying48 infString rfl (by decide) (by decide) Rep.isFlat_str (B:=w.heap.size + 1 + 1) O0 (by rfl) (by rfl) (HS_.out.below (by repeat (first|(with_reducible exact Below.refl _ _) | refine Below.alloc ?_ (by simp;try omega) _ | refine Below.drew ?_ | refine Below.setCell ?_ (by simp;try omega) _))) (fun k hk=>⟨by omega,by simp;omega⟩) (by simp) (by simp;omega) ?_)
 intro v2 w2 hown hbel hz
 obtain ⟨a2,c2,hv⟩:=hown.none_iff
 obtain rfl:=hv
 have hw:=hown.own (by simp [Big];omega)
 have HO:Hid (RName.own w2 [.slice a2 y.length c2] y (Btw (w.heap.size + 1 + 1) w2.heap.size)):=hD hw
 have EG:Below w.heap.size w w2:=Below.trans (by repeat (first|(with_reducible exact Below.refl _ _) | refine Below.alloc ?_ (by simp;try omega) _ | refine Below.drew ?_ | refine Below.setCell ?_ (by simp;try omega) _)) (hbel.mono (by first | omega|(simp;try omega)))
 clear hown O0 hw
 have R0:w2.cell? ⟨w.heap.size + 1,0,none⟩=some (.slice none 0 0):=(hbel.cell (p:=⟨w.heap.size + 1,0,none⟩) (by simp)).trans (by simp [go_sem])
 have F0:w2.frozen? ⟨w.heap.size + 1,0,none⟩=false:=(hbel.frozen (p:=⟨w.heap.size + 1,0,none⟩) (by simp)).trans (by simp [go_sem])
 clear hbel
 go_wp2
 refine bodyPost_ret (v:=.agg #[.slice a2 y.length c2]) (by simp [results,Tryz.results184,go_sem,R0,F0]) rfl ⟨[_],rfl,?_,?_⟩
 · rw [HTK.out]
   exact (HO.out.setCell (by intro q;have:=q.1;first | omega|(simp at this;omega)|(simp at this))).wide (fun j hj=>⟨by have:=hj.1;omega,by simpa [World.setCell] using hj.2⟩)
 exact EG.setCell (by simp) _
set_option maxHeartbeats 1000000 in
theorem specHasPrefix_c {w:World} {ca cb:List Value} {a b:LName} (ha:RName.rd w ca a) (hb:RName.rd w cb b) :
    Calls Tryz.prog 111 #[.agg ca.toArray,.agg cb.toArray] w fun e w'=>e=.returned (.bool (prefN a b))∧Below w.heap.size w w':=by
 have HA:=hD ha
 have HB:=hD hb
 obtain ⟨av,rfl,a_0⟩:=RName_raw ha.1
 obtain ⟨bv,rfl,b_0⟩:=RName_raw hb.1
 clear ha hb
 obtain ⟨aa,capa,hva,la⟩:=Rep.kR a_0;obtain rfl:av=_:=by simpa using hva
 obtain ⟨ab,capb,hvb,lb⟩:=Rep.kR b_0;obtain rfl:bv=_:=by simpa using hvb
 have hcap:=Rep.cap_raw a_0
 clear hva hvb
 go_enter Tryz.func111,Tryz.ntmps111
 go_wp2_with fail
 generalize hwB:World.alloc (World.alloc w _) _=wB
 have EB:Below w.heap.size w wB:=by rw [← hwB];exact (by repeat (first|(with_reducible exact Below.refl _ _) | refine Below.alloc ?_ (by simp;try omega) _ | refine Below.drew ?_ | refine Below.setCell ?_ (by simp;try omega) _))
 have K0:wB.cell? ⟨w.heap.size,0,none⟩=some (.slice aa a.length capa):=by rw [← hwB];simp [go_sem]
 have K1:wB.cell? ⟨w.heap.size + 1,0,none⟩=some (.slice ab b.length capb):=by rw [← hwB];simp [go_sem]
 clear hwB
 by_cases hc:b.length≤a.length
 · have hd:decide ((b.length:Int)≤a.length)=true:=by simpa using hc
   have hdn:decide (b.length≤a.length)=true:=by simpa using hc
   have hci:(b.length:Int)≤a.length:=by omega
   have hc1:(b.length:Int)≤capa:=by omega
   have HT:=hD (prefN_yes hc)
   refine wp_region_softP (fun W=>Below wB.heap.size wB W) [(0,true),(1,true),(2,true),(3,true),(4,true),(5,true),(6,true),(7,true),(8,true),(9,true),(10,true),(11,true),(13,true),(12,false),(14,false),(15,true),(16,true)] (by kernel_rfl) (by kernel_rfl) (fun c a d v w h=>by cases d <;> exact h) ((Below.refl _ _).drew) ?_
   intro wS HS
   simp only [pickOps,List.getElem?_cons_succ,List.getElem?_cons_zero,List.map_cons,List.map_nil]
   iterate 2
    all_goals first|(refine kC rfl HS ?_)|(refine kD (v:=?_) rfl (fun W hW=>?_) ?_;rotate_left;(· go_simp;try with_reducible rfl))
    all_goals try simp only [Act.put,zA,zB,zC]
    all_goals first|(refine kC rfl HS ?_)|(refine kD (v:=?_) rfl (fun W hW=>?_) ?_;rotate_left;(· have A_K0:=cL hW K0;have A_K1:=cL hW K1;clear hW;go_simp;try with_reducible rfl))
    all_goals try simp only [Act.put,zA,zB,zC]
    all_goals first|(refine kC rfl HS ?_)|(refine kD (v:=?_) rfl (fun W hW=>?_) ?_;rotate_left;(· go_simp;try with_reducible rfl))
    all_goals try simp only [Act.put,zA,zB,zC]
   all_goals first|(refine kC rfl HS ?_)|(refine kD (v:=?_) rfl (fun W hW=>?_) ?_;rotate_left;(· go_simp;try with_reducible rfl))
   all_goals try simp only [Act.put,zA,zB,zC]
   all_goals first|(refine kC rfl HS ?_;have hg7:=True.intro)|(refine kE (v:=?_) (b:=?_) rfl (fun W hW=>?_) ?_ (fun b hg7=>?_);rotate_left;rotate_left;(· go_simp;try with_reducible rfl);(· with_reducible rfl);cases b;all_goals first|(exact Bool.noConfusion hg7)|(simp only [Bool.not_eq_true',Bool.not_eq_false'] at hg7) | skip)
   iterate 2
    all_goals try simp only [Act.put,zA,zB,zC]
    all_goals first|(refine kC rfl HS ?_)|(refine kD (v:=?_) rfl (fun W hW=>?_) ?_;rotate_left;(· have A_K0:=cL hW K0;have A_K1:=cL hW K1;clear hW;go_simp;try with_reducible rfl))
    all_goals try simp only [Act.put,zA,zB,zC]
    all_goals first|(refine kC rfl HS ?_)|(refine kD (v:=?_) rfl (fun W hW=>?_) ?_;rotate_left;(· go_simp;try with_reducible rfl))
   all_goals try simp only [Act.put,zA,zB,zC]
   all_goals first|(refine kC rfl HS ?_)|(refine kD (v:=?_) rfl (fun W hW=>?_) ?_;rotate_left;(· have A_K0:=cL hW K0;have A_K1:=cL hW K1;clear hW;go_simp;try with_reducible rfl))
   all_goals try simp only [Act.put,zA,zB,zC]
   all_goals first|(refine kC rfl HS ?_)|(refine kF rfl (fun K hK=>?_);go_simp;refine (specTruncate_c (HA.out.below (EB.trans (HS.mono EB.size)))).mono ?_;rintro e wT ⟨tc,rfl,OT,hbT⟩;replace HS:=HS.trans (hbT.mono HS.size);refine hK _ _ HS ?_;clear hK K hbT)
   all_goals try simp only [Act.put,zA,zB,zC]
   all_goals first|(refine kC rfl HS ?_)|(refine kF rfl (fun K hK=>?_);go_simp;refine (specEqualNames_c OT.raw (HB.out.1.below (EB.trans (HS.mono EB.size)))).mono ?_;rintro e wS1 ⟨rfl,hbS⟩;replace HS:=HS.trans (hbS.mono HS.size);refine hK _ _ HS ?_;clear hK K hbS)
   iterate 2
    all_goals try simp only [Act.put,zA,zB,zC]
    all_goals first|(refine kC rfl HS ?_)|(refine kD (v:=?_) rfl (fun W hW=>?_) ?_;rotate_left;(· go_simp;try with_reducible rfl))
   all_goals try simp only [Act.put,zA,zB,zC]
   all_goals refine soft_nil ?_
   have EG:=EB.trans (HS.mono EB.size)
   go_wp2
   go_ret
   exact ⟨kT HT.out.symm,EG⟩
 have hd:decide ((b.length:Int)≤a.length)=false:=by simpa using hc
 have hdn:decide (b.length≤a.length)=false:=by simpa using hc
 have HT:=hD (prefN_no hc)
 refine wp_region_softP (fun W=>Below wB.heap.size wB W) [(0,true),(1,true),(2,true),(3,true),(4,true),(5,true),(6,true),(7,true),(8,true),(9,true),(10,true),(11,true),(13,true),(12,false),(14,false),(15,true),(16,true)] (by kernel_rfl) (by kernel_rfl) (fun c a d v w h=>by cases d <;> exact h) ((Below.refl _ _).drew) ?_
 intro wS HS
 simp only [pickOps,List.getElem?_cons_succ,List.getElem?_cons_zero,List.map_cons,List.map_nil]
 iterate 2
  all_goals first|(refine kC rfl HS ?_)|(refine kD (v:=?_) rfl (fun W hW=>?_) ?_;rotate_left;(· go_simp;try with_reducible rfl))
  all_goals try simp only [Act.put,zA,zB,zC]
  all_goals first|(refine kC rfl HS ?_)|(refine kD (v:=?_) rfl (fun W hW=>?_) ?_;rotate_left;(· have A_K0:=cL hW K0;have A_K1:=cL hW K1;clear hW;go_simp;try with_reducible rfl))
  all_goals try simp only [Act.put,zA,zB,zC]
  all_goals first|(refine kC rfl HS ?_)|(refine kD (v:=?_) rfl (fun W hW=>?_) ?_;rotate_left;(· go_simp;try with_reducible rfl))
  all_goals try simp only [Act.put,zA,zB,zC]
 all_goals first|(refine kC rfl HS ?_)|(refine kD (v:=?_) rfl (fun W hW=>?_) ?_;rotate_left;(· go_simp;try with_reducible rfl))
 all_goals try simp only [Act.put,zA,zB,zC]
 all_goals first|(refine kC rfl HS ?_;have hg7:=True.intro)|(refine kE (v:=?_) (b:=?_) rfl (fun W hW=>?_) ?_ (fun b hg7=>?_);rotate_left;rotate_left;(· go_simp;try with_reducible rfl);(· with_reducible rfl);cases b;all_goals first|(exact Bool.noConfusion hg7)|(simp only [Bool.not_eq_true',Bool.not_eq_false'] at hg7) | skip)
 iterate 2
  all_goals try simp only [Act.put,zA,zB,zC]
  all_goals first|(refine kC rfl HS ?_)|(refine kD (v:=?_) rfl (fun W hW=>?_) ?_;rotate_left;(· have A_K0:=cL hW K0;have A_K1:=cL hW K1;clear hW;go_simp;try with_reducible rfl))
  all_goals try simp only [Act.put,zA,zB,zC]
  all_goals first|(refine kC rfl HS ?_)|(refine kD (v:=?_) rfl (fun W hW=>?_) ?_;rotate_left;(· go_simp;try with_reducible rfl))
 all_goals try simp only [Act.put,zA,zB,zC]
 all_goals first|(refine kC rfl HS ?_)|(refine kD (v:=?_) rfl (fun W hW=>?_) ?_;rotate_left;(· have A_K0:=cL hW K0;have A_K1:=cL hW K1;clear hW;go_simp;try with_reducible rfl))
 iterate 2
  all_goals try simp only [Act.put,zA,zB,zC]
  all_goals first|(refine kC rfl HS ?_)|(fail)
 iterate 2
  all_goals try simp only [Act.put,zA,zB,zC]
  all_goals first|(refine kC rfl HS ?_)|(refine kD (v:=?_) rfl (fun W hW=>?_) ?_;rotate_left;(· go_simp;try with_reducible rfl))
 all_goals try simp only [Act.put,zA,zB,zC]
 all_goals refine soft_nil ?_
 have EG:=EB.trans (HS.mono EB.size)
 go_wp2
 go_ret
 exact ⟨kT HT.out.symm,EG⟩
set_option maxHeartbeats 1000000 in
theorem implHasPrefix_c {w:World} {ca cb:List Value} {a b:LName} (ha:RName.rd w ca a) (hb:RName.rd w cb b) :
    Calls Tryz.prog 135 #[.agg ca.toArray,.agg cb.toArray] w fun e w'=>e=.returned (.bool (prefN a b))∧Below w.heap.size w w':=by
 have HA:=hD ha
 have HB:=hD hb
 obtain ⟨av,rfl,a_0⟩:=RName_raw ha.1
 obtain ⟨bv,rfl,b_0⟩:=RName_raw hb.1
 clear ha hb
 obtain ⟨aa,capa,hva,la⟩:=Rep.kR a_0;obtain rfl:av=_:=by simpa using hva
 obtain ⟨ab,capb,hvb,lb⟩:=Rep.kR b_0;obtain rfl:bv=_:=by simpa using hvb
 have hcap:=Rep.cap_raw a_0
 clear hva hvb
 go_enter Tryz.func135,Tryz.ntmps135
 go_wp2_with fail
 generalize hwB:World.alloc (World.alloc w _) _=wB
 have EB:Below w.heap.size w wB:=by rw [← hwB];exact (by repeat (first|(with_reducible exact Below.refl _ _) | refine Below.alloc ?_ (by simp;try omega) _ | refine Below.drew ?_ | refine Below.setCell ?_ (by simp;try omega) _))
 have K0:wB.cell? ⟨w.heap.size,0,none⟩=some (.slice aa a.length capa):=by rw [← hwB];simp [go_sem]
 have K1:wB.cell? ⟨w.heap.size + 1,0,none⟩=some (.slice ab b.length capb):=by rw [← hwB];simp [go_sem]
 clear hwB
 by_cases hc:b.length≤a.length
 · have hd:decide ((b.length:Int)≤a.length)=true:=by simpa using hc
   have hdn:decide (b.length≤a.length)=true:=by simpa using hc
   have hci:(b.length:Int)≤a.length:=by omega
   have hc1:(b.length:Int)≤capa:=by omega
   have HT:=hD (prefN_yes hc)
   refine wp_region_soft (fun W=>Below wB.heap.size wB W) [true,true,true,true,true,true,true,true,true,true,true,true,true,true,true,true,false,true,true] (by kernel_rfl) (by kernel_rfl) (fun c a d v w h=>by cases d <;> exact h) ((Below.refl _ _).drew) ?_
   intro wS HS
   iterate 2
    all_goals first|(refine kC rfl HS ?_)|(refine kD (v:=?_) rfl (fun W hW=>?_) ?_;rotate_left;(· go_simp;try with_reducible rfl))
    all_goals try simp only [Act.put,zA,zB,zC]
    all_goals first|(refine kC rfl HS ?_)|(refine kD (v:=?_) rfl (fun W hW=>?_) ?_;rotate_left;(· have A_K0:=cL hW K0;have A_K1:=cL hW K1;clear hW;go_simp;try with_reducible rfl))
    all_goals try simp only [Act.put,zA,zB,zC]
    all_goals first|(refine kC rfl HS ?_)|(refine kD (v:=?_) rfl (fun W hW=>?_) ?_;rotate_left;(· go_simp;try with_reducible rfl))
    all_goals try simp only [Act.put,zA,zB,zC]
   all_goals first|(refine kC rfl HS ?_)|(refine kD (v:=?_) rfl (fun W hW=>?_) ?_;rotate_left;(· go_simp;try with_reducible rfl))
   all_goals try simp only [Act.put,zA,zB,zC]
   all_goals first|(refine kC rfl HS ?_;have hg7:=True.intro)|(refine kE (v:=?_) (b:=?_) rfl (fun W hW=>?_) ?_ (fun b hg7=>?_);rotate_left;rotate_left;(· go_simp;try with_reducible rfl);(· with_reducible rfl);cases b;all_goals first|(exact Bool.noConfusion hg7)|(simp only [Bool.not_eq_true',Bool.not_eq_false'] at hg7) | skip)
   iterate 2
    all_goals try simp only [Act.put,zA,zB,zC]
    all_goals first|(refine kC rfl HS ?_)|(refine kD (v:=?_) rfl (fun W hW=>?_) ?_;rotate_left;(· go_simp;try with_reducible rfl))
    all_goals try simp only [Act.put,zA,zB,zC]
    all_goals first|(refine kC rfl HS ?_)|(refine kD (v:=?_) rfl (fun W hW=>?_) ?_;rotate_left;(· have A_K0:=cL hW K0;have A_K1:=cL hW K1;clear hW;go_simp;try with_reducible rfl))
   iterate 3
    all_goals try simp only [Act.put,zA,zB,zC]
    all_goals first|(refine kC rfl HS ?_)|(refine kD (v:=?_) rfl (fun W hW=>?_) ?_;rotate_left;(· go_simp;try with_reducible rfl))
   all_goals try simp only [Act.put,zA,zB,zC]
   all_goals first|(refine kC rfl HS ?_)|(refine kD (v:=?_) rfl (fun W hW=>?_) ?_;rotate_left;(· have A_K0:=cL hW K0;have A_K1:=cL hW K1;clear hW;go_simp;try with_reducible rfl))
   all_goals try simp only [Act.put,zA,zB,zC]
   all_goals first|(refine kC rfl HS ?_)|(refine kF rfl (fun K hK=>?_);go_simp;refine (Equal_string_c (Rep.take_raw (e:=9) (r:=Rep.str) (HA.out.1.below (EB.trans (HS.mono EB.size))) hc) (HB.out.1.below (EB.trans (HS.mono EB.size)))).mono ?_;rintro e wS1 ⟨rfl,hbS⟩;replace HS:=HS.trans (hbS.mono HS.size);refine hK _ _ HS ?_;clear hK K hbS)
   iterate 2
    all_goals try simp only [Act.put,zA,zB,zC]
    all_goals first|(refine kC rfl HS ?_)|(refine kD (v:=?_) rfl (fun W hW=>?_) ?_;rotate_left;(· go_simp;try with_reducible rfl))
   all_goals try simp only [Act.put,zA,zB,zC]
   all_goals refine soft_nil ?_
   have EG:=EB.trans (HS.mono EB.size)
   go_wp2
   go_ret
   exact ⟨kT HT.out.symm,EG⟩
 have hd:decide ((b.length:Int)≤a.length)=false:=by simpa using hc
 have hdn:decide (b.length≤a.length)=false:=by simpa using hc
 have HT:=hD (prefN_no hc)
 refine wp_region_soft (fun W=>Below wB.heap.size wB W) [true,true,true,true,true,true,true,true,true,true,true,true,true,true,true,true,false,true,true] (by kernel_rfl) (by kernel_rfl) (fun c a d v w h=>by cases d <;> exact h) ((Below.refl _ _).drew) ?_
 intro wS HS
 iterate 2
  all_goals first|(refine kC rfl HS ?_)|(refine kD (v:=?_) rfl (fun W hW=>?_) ?_;rotate_left;(· go_simp;try with_reducible rfl))
  all_goals try simp only [Act.put,zA,zB,zC]
  all_goals first|(refine kC rfl HS ?_)|(refine kD (v:=?_) rfl (fun W hW=>?_) ?_;rotate_left;(· have A_K0:=cL hW K0;have A_K1:=cL hW K1;clear hW;go_simp;try with_reducible rfl))
  all_goals try simp only [Act.put,zA,zB,zC]
  all_goals first|(refine kC rfl HS ?_)|(refine kD (v:=?_) rfl (fun W hW=>?_) ?_;rotate_left;(· go_simp;try with_reducible rfl))
  all_goals try simp only [Act.put,zA,zB,zC]
 all_goals first|(refine kC rfl HS ?_)|(refine kD (v:=?_) rfl (fun W hW=>?_) ?_;rotate_left;(· go_simp;try with_reducible rfl))
 all_goals try simp only [Act.put,zA,zB,zC]
 all_goals first|(refine kC rfl HS ?_;have hg7:=True.intro)|(refine kE (v:=?_) (b:=?_) rfl (fun W hW=>?_) ?_ (fun b hg7=>?_);rotate_left;rotate_left;(· go_simp;try with_reducible rfl);(· with_reducible rfl);cases b;all_goals first|(exact Bool.noConfusion hg7)|(simp only [Bool.not_eq_true',Bool.not_eq_false'] at hg7) | skip)
 iterate 2
  all_goals try simp only [Act.put,zA,zB,zC]
  all_goals first|(refine kC rfl HS ?_)|(refine kD (v:=?_) rfl (fun W hW=>?_) ?_;rotate_left;(· go_simp;try with_reducible rfl))
  all_goals try simp only [Act.put,zA,zB,zC]
  all_goals first|(refine kC rfl HS ?_)|(refine kD (v:=?_) rfl (fun W hW=>?_) ?_;rotate_left;(· have A_K0:=cL hW K0;have A_K1:=cL hW K1;clear hW;go_simp;try with_reducible rfl))
 iterate 3
  all_goals try simp only [Act.put,zA,zB,zC]
  all_goals first|(refine kC rfl HS ?_)|(refine kD (v:=?_) rfl (fun W hW=>?_) ?_;rotate_left;(· go_simp;try with_reducible rfl))
 all_goals try simp only [Act.put,zA,zB,zC]
 all_goals first|(refine kC rfl HS ?_)|(refine kD (v:=?_) rfl (fun W hW=>?_) ?_;rotate_left;(· have A_K0:=cL hW K0;have A_K1:=cL hW K1;clear hW;go_simp;try with_reducible rfl))
 all_goals try simp only [Act.put,zA,zB,zC]
 all_goals first|(refine kC rfl HS ?_)|(fail)
 iterate 2
  all_goals try simp only [Act.put,zA,zB,zC]
  all_goals first|(refine kC rfl HS ?_)|(refine kD (v:=?_) rfl (fun W hW=>?_) ?_;rotate_left;(· go_simp;try with_reducible rfl))
 all_goals try simp only [Act.put,zA,zB,zC]
 all_goals refine soft_nil ?_
 have EG:=EB.trans (HS.mono EB.size)
 go_wp2
 go_ret
 exact ⟨kT HT.out.symm,EG⟩
set_option maxRecDepth 100000 in
set_option maxHeartbeats 4000000 in
theorem specMatchingPrefix_c {w:World} {vl:Value} {l:List LRoute} (hl:(Rep.slice 159 RRoute).rd w [vl] l) {cn:List Value} {n:LName} (hn:RName.rd w cn n) :
    Calls Tryz.prog 31 #[vl,.agg cn.toArray] w fun e w'=>∃ cs,e=.returned (.tuple #[.agg cs.toArray,.bool (mOk n l)])∧RName.own w' cs (mName n l) (Btw w.heap.size w'.heap.size)∧Below w.heap.size w w':=by
 have HN:=hD hn
 have HL:=hD hl
 obtain ⟨av,rfl,n_0⟩:=RName_raw hn.1
 obtain ⟨an,capn,hvn,ln⟩:=Rep.kR n_0;obtain rfl:av=_:=by simpa using hvn
 obtain ⟨aa,capa,hva,la⟩:=Rep.kR hl.1;obtain rfl:vl=_:=by simpa using hva
 clear hva hvn hn hl n_0
 go_enter Tryz.func31,Tryz.ntmps31
 go_wp2
 generalize hwB:World.alloc (World.alloc w _) _=wB
 have EB:Below w.heap.size w wB:=by rw [← hwB];exact (by repeat (first|(with_reducible exact Below.refl _ _) | refine Below.alloc ?_ (by simp;try omega) _ | refine Below.drew ?_ | refine Below.setCell ?_ (by simp;try omega) _))
 have hsz:wB.heap.size=w.heap.size + 2:=by rw [← hwB];simp
 have K0:wB.cell? ⟨w.heap.size,0,none⟩=some (.slice an n.length capn):=by rw [← hwB];simp [go_sem]
 have K1:wB.cell? ⟨w.heap.size + 1,0,none⟩=some (.slice none 0 0):=by rw [← hwB];simp [go_sem]
 have F1:wB.frozen? ⟨w.heap.size + 1,0,none⟩=false:=by rw [← hwB];simp [go_sem]
 clear hwB
 go_loopw [6,7] (fun b i wr=>∃ (k:Nat) (m:Int),k≤l.length∧i=.int .i64 k∧b=.int .i64 m∧Hid (mB n l k=m)∧Hid (m=-1∨∃ j:Nat,j < k∧m=j)∧Below wB.heap.size wB wr) (fun _ i _=>l.length - (intOf i).toNat)
 case atStart=>exact ⟨0,-1,Nat.zero_le _,rfl,rfl,hD rfl,hD (.inl rfl),Below.refl _ _⟩
 obtain ⟨k,m,hk,rfl,rfl,HM,HR,hbel⟩:=hrel
 have rdl:=Rep.rd.below HL.out (EB.trans (hbel.mono EB.size))
 by_cases hlt:k < l.length
 · have hk0:=Int.natCast_nonneg k
   have hk2:=Int.ofNat_lt.2 hlt
   obtain ⟨xb,xo,rfl,xc0,xc1,xc2,xr,Ax0,Ax1,Ax2⟩:=Rep.get3 rdl.1 hlt rfl
   obtain ⟨xv0,xhe,x_0,x_1,x_2,x_3⟩:=RRoute_raw xr
   simp only [List.cons.injEq,and_true] at xhe
   obtain ⟨rfl,rfl,rfl⟩:=xhe
   obtain ⟨xa,xp,xh,xl⟩:=Rep.kR x_1;obtain rfl:xc0=_:=by simpa using xh
   have px:RName.rd wr _ l[k].1:=⟨x_0,(Rep.raw_bdd HL.out hlt).1⟩
   clear xh xr x_2 x_3 x_1 x_0
   rcases HR.out with rfl|⟨j,hjk,rfl⟩
   · have hno:=fun q=>(mB_no (n:=n) hlt q).trans HM.out
     have hnew:=fun q=>mB_new (n:=n) hlt q HM.out
     clear rdl
     generalize l[k]=x at *
     have HNO:=hD hno;have HNEW:=hD hnew;clear hno hnew
     replace K0:=cL hbel K0
     go_upto_region 5 with fail
     refine wp_region_soft (fun W=>Below wr.heap.size wr W) [true,true,true,true,true,true,false,true,true,true,true,true,true,true,true,true,true,true,true,true,true,true,true,true,true,true,true,true] (by kernel_rfl) (by kernel_rfl) (fun c a d v w h=>by cases d <;> exact h) ((Below.refl _ _).drew) ?_
     intro wS HS
     all_goals first|(refine kC rfl HS ?_)|(refine kD (v:=?_) rfl (fun W hW=>?_) ?_;rotate_left;(· have A_K0:=cL hW K0;have A_Ax0:=cL hW Ax0;have A_Ax1:=cL hW Ax1;have A_Ax2:=cL hW Ax2;clear hW;go_simp;try with_reducible rfl))
     iterate 4
      all_goals try simp only [Act.put,zA,zB,zC]
      all_goals first|(refine kC rfl HS ?_)|(refine kD (v:=?_) rfl (fun W hW=>?_) ?_;rotate_left;(· go_simp;try with_reducible rfl))
     all_goals try simp only [Act.put,zA,zB,zC]
     all_goals first|(refine kC rfl HS ?_)|(refine kD (v:=?_) rfl (fun W hW=>?_) ?_;rotate_left;(· have A_K0:=cL hW K0;have A_Ax0:=cL hW Ax0;have A_Ax1:=cL hW Ax1;have A_Ax2:=cL hW Ax2;clear hW;go_simp;try with_reducible rfl))
     all_goals try simp only [Act.put,zA,zB,zC]
     all_goals first|(refine kC rfl HS ?_)|(refine kF rfl (fun K hK=>?_);go_simp;refine (specHasPrefix_c (HN.out.below (EB.trans ((hbel.trans (HS.mono hbel.size)).mono EB.size))) (px.below HS)).mono ?_;rintro e wS1 ⟨rfl,hbS⟩;replace HS:=HS.trans (hbS.mono HS.size);refine hK _ _ HS ?_;clear hK K hbS)
     all_goals try simp only [Act.put,zA,zB,zC]
     all_goals first|(refine kC rfl HS ?_;have hg7:=True.intro)|(refine kE (v:=?_) (b:=?_) rfl (fun W hW=>?_) ?_ (fun b hg7=>?_);rotate_left;rotate_left;(· go_simp;try with_reducible rfl);(· with_reducible rfl);cases b;all_goals first|(exact Bool.noConfusion hg7)|(simp only [Bool.not_eq_true',Bool.not_eq_false'] at hg7) | skip)
     iterate 2
      all_goals try simp only [Act.put,zA,zB,zC]
      all_goals first|(refine kC rfl HS ?_)|(refine kD (v:=?_) rfl (fun W hW=>?_) ?_;rotate_left;(· go_simp;try with_reducible rfl))
     all_goals try simp only [Act.put,zA,zB,zC]
     all_goals first|(refine kC rfl HS ?_;have hg10:=True.intro)|(refine kE (v:=?_) (b:=?_) rfl (fun W hW=>?_) ?_ (fun b hg10=>?_);rotate_left;rotate_left;(· go_simp;try with_reducible rfl);(· with_reducible rfl);cases b;all_goals first|(exact Bool.noConfusion hg10)|(simp only [Bool.not_eq_true',Bool.not_eq_false'] at hg10) | skip)
     iterate 5
      all_goals try simp only [Act.put,zA,zB,zC]
      all_goals first|(refine kC rfl HS ?_)|(refine kD (v:=?_) rfl (fun W hW=>?_) ?_;rotate_left;(· go_simp;try with_reducible rfl))
     all_goals try simp only [Act.put,zA,zB,zC]
     all_goals first|(refine kC rfl HS ?_)|(refine kD (v:=?_) rfl (fun W hW=>?_) ?_;rotate_left;(· have A_K0:=cL hW K0;have A_Ax0:=cL hW Ax0;have A_Ax1:=cL hW Ax1;have A_Ax2:=cL hW Ax2;clear hW;go_simp;try with_reducible rfl))
     iterate 6
      all_goals try simp only [Act.put,zA,zB,zC]
      all_goals first|(refine kC rfl HS ?_)|(refine kD (v:=?_) rfl (fun W hW=>?_) ?_;rotate_left;(· go_simp;try with_reducible rfl))
     all_goals try simp only [Act.put,zA,zB,zC]
     all_goals first|(refine kC rfl HS ?_)|(refine kD (v:=?_) rfl (fun W hW=>?_) ?_;rotate_left;(· have A_K0:=cL hW K0;have A_Ax0:=cL hW Ax0;have A_Ax1:=cL hW Ax1;have A_Ax2:=cL hW Ax2;clear hW;go_simp;try with_reducible rfl))
     iterate 3
      all_goals try simp only [Act.put,zA,zB,zC]
      all_goals first|(refine kC rfl HS ?_)|(refine kD (v:=?_) rfl (fun W hW=>?_) ?_;rotate_left;(· go_simp;try with_reducible rfl))
     all_goals try simp only [Act.put,zA,zB,zC]
     all_goals first|(refine kC rfl HS ?_;have hg27:=True.intro)|(refine kE (v:=?_) (b:=?_) rfl (fun W hW=>?_) ?_ (fun b hg27=>?_);rotate_left;rotate_left;(· go_simp;try with_reducible rfl);(· with_reducible rfl);cases b;all_goals first|(exact Bool.noConfusion hg27)|(simp only [Bool.not_eq_true',Bool.not_eq_false'] at hg27) | skip)
     all_goals try simp only [Act.put,zA,zB,zC]
     all_goals refine soft_nil ?_
     all_goals have EG:=hbel.trans (HS.mono hbel.size)
     all_goals first
       | (have HT:=hD (HNO.out hg7);go_wp2;go_roundw;(case rel=>exact ⟨k + 1,-1,by omega,by go_num,rfl,HT,hD (.inl rfl),EG⟩);(case measure=>simp [intOf];omega))
       | (have HT:=hD (HNEW.out hg7);go_wp2;go_roundw;(case rel=>exact ⟨k + 1,(k:Int),by omega,by go_num,rfl,HT,hD (.inr ⟨k,by omega,rfl⟩),EG⟩);(case measure=>simp [intOf];omega))
   have hj:j < l.length:=by omega
   have hj0:=Int.natCast_nonneg j
   have hj2:=Int.ofNat_lt.2 hj
   obtain ⟨yb,yo,yE,yc0,yc1,yc2,yr,Ay0,Ay1,Ay2⟩:=Rep.get3 rdl.1 hj rfl
   simp only [Option.some.injEq,Addr.mk.injEq,and_true] at yE
   obtain ⟨rfl,rfl⟩:=yE
   obtain ⟨yv0,yhe,y_0,y_1,y_2,y_3⟩:=RRoute_raw yr
   simp only [List.cons.injEq,and_true] at yhe
   obtain ⟨rfl,rfl,rfl⟩:=yhe
   obtain ⟨ya,yp,yh,yl⟩:=Rep.kR y_1;obtain rfl:yc0=_:=by simpa using yh
   have py:RName.rd wr _ l[j].1:=⟨y_0,(Rep.raw_bdd HL.out hj).1⟩
   clear yh yr y_2 y_3 y_1 y_0
   have hno:=fun q=>(mB_no (n:=n) hlt q).trans HM.out
   have hup:=fun q q2=>mB_up (n:=n) hlt q hj HM.out q2
   have hkeep:=fun q2=>mB_keep (n:=n) hlt hj HM.out q2
   clear rdl py
   generalize l[k]=x at *
   generalize l[j]=y at *
   have HNO:=hD hno;have HUP:=hD hup;have HKEEP:=hD hkeep;clear hno hup hkeep
   by_cases h3:y.1.length < x.1.length
   · have hd:decide ((y.1.length:Int) < x.1.length)=true:=by simpa using h3
     have hd2:decide ((x.1.length:Int) > y.1.length)=true:=by simpa using h3
     have hdn:decide (y.1.length < x.1.length)=true:=by simpa using h3
     replace K0:=cL hbel K0
     go_upto_region 5 with fail
     refine wp_region_soft (fun W=>Below wr.heap.size wr W) [true,true,true,true,true,true,false,true,true,true,true,true,true,true,true,true,true,true,true,true,true,true,true,true,true,true,true,true] (by kernel_rfl) (by kernel_rfl) (fun c a d v w h=>by cases d <;> exact h) ((Below.refl _ _).drew) ?_
     intro wS HS
     all_goals first|(refine kC rfl HS ?_)|(refine kD (v:=?_) rfl (fun W hW=>?_) ?_;rotate_left;(· have A_K0:=cL hW K0;have A_Ax0:=cL hW Ax0;have A_Ax1:=cL hW Ax1;have A_Ax2:=cL hW Ax2;have A_Ay0:=cL hW Ay0;clear hW;go_simp;try with_reducible rfl))
     iterate 4
      all_goals try simp only [Act.put,zA,zB,zC]
      all_goals first|(refine kC rfl HS ?_)|(refine kD (v:=?_) rfl (fun W hW=>?_) ?_;rotate_left;(· go_simp;try with_reducible rfl))
     all_goals try simp only [Act.put,zA,zB,zC]
     all_goals first|(refine kC rfl HS ?_)|(refine kD (v:=?_) rfl (fun W hW=>?_) ?_;rotate_left;(· have A_K0:=cL hW K0;have A_Ax0:=cL hW Ax0;have A_Ax1:=cL hW Ax1;have A_Ax2:=cL hW Ax2;have A_Ay0:=cL hW Ay0;clear hW;go_simp;try with_reducible rfl))
     all_goals try simp only [Act.put,zA,zB,zC]
     all_goals first|(refine kC rfl HS ?_)|(refine kF rfl (fun K hK=>?_);go_simp;refine (specHasPrefix_c (HN.out.below (EB.trans ((hbel.trans (HS.mono hbel.size)).mono EB.size))) (px.below HS)).mono ?_;rintro e wS1 ⟨rfl,hbS⟩;replace HS:=HS.trans (hbS.mono HS.size);refine hK _ _ HS ?_;clear hK K hbS)
     all_goals try simp only [Act.put,zA,zB,zC]
     all_goals first|(refine kC rfl HS ?_;have hg7:=True.intro)|(refine kE (v:=?_) (b:=?_) rfl (fun W hW=>?_) ?_ (fun b hg7=>?_);rotate_left;rotate_left;(· go_simp;try with_reducible rfl);(· with_reducible rfl);cases b;all_goals first|(exact Bool.noConfusion hg7)|(simp only [Bool.not_eq_true',Bool.not_eq_false'] at hg7) | skip)
     iterate 2
      all_goals try simp only [Act.put,zA,zB,zC]
      all_goals first|(refine kC rfl HS ?_)|(refine kD (v:=?_) rfl (fun W hW=>?_) ?_;rotate_left;(· go_simp;try with_reducible rfl))
     all_goals try simp only [Act.put,zA,zB,zC]
     all_goals first|(refine kC rfl HS ?_;have hg10:=True.intro)|(refine kE (v:=?_) (b:=?_) rfl (fun W hW=>?_) ?_ (fun b hg10=>?_);rotate_left;rotate_left;(· go_simp;try with_reducible rfl);(· with_reducible rfl);cases b;all_goals first|(exact Bool.noConfusion hg10)|(simp only [Bool.not_eq_true',Bool.not_eq_false'] at hg10) | skip)
     iterate 5
      all_goals try simp only [Act.put,zA,zB,zC]
      all_goals first|(refine kC rfl HS ?_)|(refine kD (v:=?_) rfl (fun W hW=>?_) ?_;rotate_left;(· go_simp;try with_reducible rfl))
     all_goals try simp only [Act.put,zA,zB,zC]
     all_goals first|(refine kC rfl HS ?_)|(refine kD (v:=?_) rfl (fun W hW=>?_) ?_;rotate_left;(· have A_K0:=cL hW K0;have A_Ax0:=cL hW Ax0;have A_Ax1:=cL hW Ax1;have A_Ax2:=cL hW Ax2;have A_Ay0:=cL hW Ay0;clear hW;go_simp;try with_reducible rfl))
     iterate 6
      all_goals try simp only [Act.put,zA,zB,zC]
      all_goals first|(refine kC rfl HS ?_)|(refine kD (v:=?_) rfl (fun W hW=>?_) ?_;rotate_left;(· go_simp;try with_reducible rfl))
     all_goals try simp only [Act.put,zA,zB,zC]
     all_goals first|(refine kC rfl HS ?_)|(refine kD (v:=?_) rfl (fun W hW=>?_) ?_;rotate_left;(· have A_K0:=cL hW K0;have A_Ax0:=cL hW Ax0;have A_Ax1:=cL hW Ax1;have A_Ax2:=cL hW Ax2;have A_Ay0:=cL hW Ay0;clear hW;go_simp;try with_reducible rfl))
     iterate 3
      all_goals try simp only [Act.put,zA,zB,zC]
      all_goals first|(refine kC rfl HS ?_)|(refine kD (v:=?_) rfl (fun W hW=>?_) ?_;rotate_left;(· go_simp;try with_reducible rfl))
     all_goals try simp only [Act.put,zA,zB,zC]
     all_goals first|(refine kC rfl HS ?_;have hg27:=True.intro)|(refine kE (v:=?_) (b:=?_) rfl (fun W hW=>?_) ?_ (fun b hg27=>?_);rotate_left;rotate_left;(· go_simp;try with_reducible rfl);(· with_reducible rfl);cases b;all_goals first|(exact Bool.noConfusion hg27)|(simp only [Bool.not_eq_true',Bool.not_eq_false'] at hg27) | skip)
     all_goals try simp only [Act.put,zA,zB,zC]
     all_goals refine soft_nil ?_
     all_goals have EG:=hbel.trans (HS.mono hbel.size)
     all_goals first
       | (have HT:=hD (HNO.out hg7);go_wp2;go_roundw;(case rel=>exact ⟨k + 1,(j:Int),by omega,by go_num,rfl,HT,hD (.inr ⟨j,by omega,rfl⟩),EG⟩);(case measure=>simp [intOf];omega))
       | (have HT:=hD ((fun q=>HUP.out q h3) hg7);go_wp2;go_roundw;(case rel=>exact ⟨k + 1,(k:Int),by omega,by go_num,rfl,HT,hD (.inr ⟨k,by omega,rfl⟩),EG⟩);(case measure=>simp [intOf];omega))
   have hd:decide ((y.1.length:Int) < x.1.length)=false:=by simpa using h3
   have hd2:decide ((x.1.length:Int) > y.1.length)=false:=by simpa using h3
   have hdn:decide (y.1.length < x.1.length)=false:=by simpa using h3
   replace K0:=cL hbel K0
   go_upto_region 5 with fail
   refine wp_region_soft (fun W=>Below wr.heap.size wr W) [true,true,true,true,true,true,false,true,true,true,true,true,true,true,true,true,true,true,true,true,true,true,true,true,true,true,true,true] (by kernel_rfl) (by kernel_rfl) (fun c a d v w h=>by cases d <;> exact h) ((Below.refl _ _).drew) ?_
   intro wS HS
   all_goals first|(refine kC rfl HS ?_)|(refine kD (v:=?_) rfl (fun W hW=>?_) ?_;rotate_left;(· have A_K0:=cL hW K0;have A_Ax0:=cL hW Ax0;have A_Ax1:=cL hW Ax1;have A_Ax2:=cL hW Ax2;have A_Ay0:=cL hW Ay0;clear hW;go_simp;try with_reducible rfl))
   iterate 4
    all_goals try simp only [Act.put,zA,zB,zC]
    all_goals first|(refine kC rfl HS ?_)|(refine kD (v:=?_) rfl (fun W hW=>?_) ?_;rotate_left;(· go_simp;try with_reducible rfl))
   all_goals try simp only [Act.put,zA,zB,zC]
   all_goals first|(refine kC rfl HS ?_)|(refine kD (v:=?_) rfl (fun W hW=>?_) ?_;rotate_left;(· have A_K0:=cL hW K0;have A_Ax0:=cL hW Ax0;have A_Ax1:=cL hW Ax1;have A_Ax2:=cL hW Ax2;have A_Ay0:=cL hW Ay0;clear hW;go_simp;try with_reducible rfl))
   all_goals try simp only [Act.put,zA,zB,zC]
   all_goals first|(refine kC rfl HS ?_)|(refine kF rfl (fun K hK=>?_);go_simp;refine (specHasPrefix_c (HN.out.below (EB.trans ((hbel.trans (HS.mono hbel.size)).mono EB.size))) (px.below HS)).mono ?_;rintro e wS1 ⟨rfl,hbS⟩;replace HS:=HS.trans (hbS.mono HS.size);refine hK _ _ HS ?_;clear hK K hbS)
   all_goals try simp only [Act.put,zA,zB,zC]
   all_goals first|(refine kC rfl HS ?_;have hg7:=True.intro)|(refine kE (v:=?_) (b:=?_) rfl (fun W hW=>?_) ?_ (fun b hg7=>?_);rotate_left;rotate_left;(· go_simp;try with_reducible rfl);(· with_reducible rfl);cases b;all_goals first|(exact Bool.noConfusion hg7)|(simp only [Bool.not_eq_true',Bool.not_eq_false'] at hg7) | skip)
   iterate 2
    all_goals try simp only [Act.put,zA,zB,zC]
    all_goals first|(refine kC rfl HS ?_)|(refine kD (v:=?_) rfl (fun W hW=>?_) ?_;rotate_left;(· go_simp;try with_reducible rfl))
   all_goals try simp only [Act.put,zA,zB,zC]
   all_goals first|(refine kC rfl HS ?_;have hg10:=True.intro)|(refine kE (v:=?_) (b:=?_) rfl (fun W hW=>?_) ?_ (fun b hg10=>?_);rotate_left;rotate_left;(· go_simp;try with_reducible rfl);(· with_reducible rfl);cases b;all_goals first|(exact Bool.noConfusion hg10)|(simp only [Bool.not_eq_true',Bool.not_eq_false'] at hg10) | skip)
   iterate 5
    all_goals try simp only [Act.put,zA,zB,zC]
    all_goals first|(refine kC rfl HS ?_)|(refine kD (v:=?_) rfl (fun W hW=>?_) ?_;rotate_left;(· go_simp;try with_reducible rfl))
   all_goals try simp only [Act.put,zA,zB,zC]
   all_goals first|(refine kC rfl HS ?_)|(refine kD (v:=?_) rfl (fun W hW=>?_) ?_;rotate_left;(· have A_K0:=cL hW K0;have A_Ax0:=cL hW Ax0;have A_Ax1:=cL hW Ax1;have A_Ax2:=cL hW Ax2;have A_Ay0:=cL hW Ay0;clear hW;go_simp;try with_reducible rfl))
   iterate 6
    all_goals try simp only [Act.put,zA,zB,zC]
    all_goals first|(refine kC rfl HS ?_)|(refine kD (v:=?_) rfl (fun W hW=>?_) ?_;rotate_left;(· go_simp;try with_reducible rfl))
   all_goals try simp only [Act.put,zA,zB,zC]
   all_goals first|(refine kC rfl HS ?_)|(refine kD (v:=?_) rfl (fun W hW=>?_) ?_;rotate_left;(· have A_K0:=cL hW K0;have A_Ax0:=cL hW Ax0;have A_Ax1:=cL hW Ax1;have A_Ax2:=cL hW Ax2;have A_Ay0:=cL hW Ay0;clear hW;go_simp;try with_reducible rfl))
   iterate 3
    all_goals try simp only [Act.put,zA,zB,zC]
    all_goals first|(refine kC rfl HS ?_)|(refine kD (v:=?_) rfl (fun W hW=>?_) ?_;rotate_left;(· go_simp;try with_reducible rfl))
   all_goals try simp only [Act.put,zA,zB,zC]
   all_goals first|(refine kC rfl HS ?_;have hg27:=True.intro)|(refine kE (v:=?_) (b:=?_) rfl (fun W hW=>?_) ?_ (fun b hg27=>?_);rotate_left;rotate_left;(· go_simp;try with_reducible rfl);(· with_reducible rfl);cases b;all_goals first|(exact Bool.noConfusion hg27)|(simp only [Bool.not_eq_true',Bool.not_eq_false'] at hg27) | skip)
   all_goals try simp only [Act.put,zA,zB,zC]
   all_goals refine soft_nil ?_
   all_goals have EG:=hbel.trans (HS.mono hbel.size)
   all_goals first
     | (have HT:=hD (HNO.out hg7);go_wp2;go_roundw;(case rel=>exact ⟨k + 1,(j:Int),by omega,by go_num,rfl,HT,hD (.inr ⟨j,by omega,rfl⟩),EG⟩);(case measure=>simp [intOf];omega))
     | (have HT:=hD ((fun (_:prefN n x.1=true)=>HKEEP.out h3) hg7);go_wp2;go_roundw;(case rel=>exact ⟨k + 1,(j:Int),by omega,by go_num,rfl,HT,hD (.inr ⟨j,by omega,rfl⟩),EG⟩);(case measure=>simp [intOf];omega))
 obtain rfl:k=l.length:=by omega
 have EG:=EB.trans (hbel.mono EB.size)
 have R0:=cL hbel K1
 have F0:wr.frozen? ⟨w.heap.size + 1,0,none⟩=false:=(hbel.frozen (p:=⟨w.heap.size + 1,0,none⟩) (by simp;omega)).trans F1
 rcases HR.out with rfl|⟨j,hj,rfl⟩
 · have HT:=hD (m_no HM.out)
   clear rdl
   go_wp2
   refine bodyPost_ret (v:=.tuple #[.agg #[.slice none 0 0],.bool false]) (by simp [results,Tryz.results31,go_sem,R0,F0]) rfl ⟨[.slice none 0 0],by rw [HT.out.1],?_,?_⟩
   · rw [HT.out.2];exact Rep.void_own
   exact EG.setCell (by simp) _
 have hj0:=Int.natCast_nonneg j
 have hj2:=Int.ofNat_lt.2 hj
 have HT:=hD (m_yes hj HM.out)
 obtain ⟨yb,yo,rfl,yc0,yc1,yc2,yr,Ay0,Ay1,Ay2⟩:=Rep.get3 rdl.1 hj rfl
 obtain ⟨yv0,yhe,y_0,y_1,y_2,y_3⟩:=RRoute_raw yr
 simp only [List.cons.injEq,and_true] at yhe
 obtain ⟨rfl,rfl,rfl⟩:=yhe
 obtain ⟨ya,yp,yh,yl⟩:=Rep.kR y_1;obtain rfl:yc0=_:=by simpa using yh
 have py:RName.rd wr _ l[j].1:=⟨y_0,(Rep.raw_bdd HL.out hj).1⟩
 clear yh yr y_2 y_3 y_1 y_0
 clear rdl
 generalize l[j]=y at *
 go_wp2_with fail
 refine (specl4Copy_c (py.below (by repeat (first|(with_reducible exact Below.refl _ _) | refine Below.alloc ?_ (by simp;try omega) _ | refine Below.drew ?_ | refine Below.setCell ?_ (by simp;try omega) _)))).mono ?_
 rintro e w2 ⟨cs,rfl,O2,hb2⟩
 obtain ⟨cv,rfl,c_0⟩:=RName_raw O2.raw
 obtain ⟨a2,c2,hv,_⟩:=Rep.kR c_0
 obtain rfl:cv=_:=by simpa using hv
 have HO:Hid (RName.own w2 [.slice a2 y.1.length c2] y.1 (Btw (w.heap.size + 1 + 1) w2.heap.size)):=hD (O2.wide (fun j hj=>⟨by have:=hj.1;have:=hbel.size;omega,hj.2⟩))
 have EF:Below w.heap.size w w2:=EG.trans (Below.mono (Below.trans (by repeat (first|(with_reducible exact Below.refl _ _) | refine Below.alloc ?_ (by simp;try omega) _ | refine Below.drew ?_ | refine Below.setCell ?_ (by simp;try omega) _)) hb2) EG.size)
 replace R0:=cL hb2 R0
 replace F0:w2.frozen? ⟨w.heap.size + 1,0,none⟩=false:=(hb2.frozen (p:=⟨w.heap.size + 1,0,none⟩) (by have:=hbel.size;simp;omega)).trans F0
 clear hv O2 c_0 hb2 EG
 go_wp2
 refine bodyPost_ret (v:=.tuple #[.agg #[.slice a2 y.1.length c2],.bool true]) (by simp [results,Tryz.results31,go_sem,R0,F0]) rfl ⟨[.slice a2 y.1.length c2],by rw [HT.out.1],?_,?_⟩
 · rw [HT.out.2]
   exact (HO.out.setCell (by intro q;have:=q.1;first | omega|(simp at this;omega)|(simp at this))).wide (fun j hj=>⟨by have:=hj.1;omega,by simpa [World.setCell] using hj.2⟩)
 exact EF.setCell (by simp) _
set_option maxRecDepth 100000 in
set_option maxHeartbeats 4000000 in
theorem implMatchingPrefix_c {w:World} {vl:Value} {l:List LRoute} (hl:(Rep.slice 159 RRoute).rd w [vl] l) {cn:List Value} {n:LName} (hn:RName.rd w cn n) :
    Calls Tryz.prog 45 #[vl,.agg cn.toArray] w fun e w'=>∃ cs,e=.returned (.tuple #[.agg cs.toArray,.bool (mOk n l)])∧RName.own w' cs (mName n l) (Btw w.heap.size w'.heap.size)∧Below w.heap.size w w':=by
 have HN:=hD hn
 have HL:=hD hl
 obtain ⟨av,rfl,n_0⟩:=RName_raw hn.1
 obtain ⟨an,capn,hvn,ln⟩:=Rep.kR n_0;obtain rfl:av=_:=by simpa using hvn
 obtain ⟨aa,capa,hva,la⟩:=Rep.kR hl.1;obtain rfl:vl=_:=by simpa using hva
 clear hva hvn hn hl n_0
 go_enter Tryz.func45,Tryz.ntmps45
 go_wp2
 generalize hwB:World.alloc (World.alloc w _) _=wB
 have EB:Below w.heap.size w wB:=by rw [← hwB];exact (by repeat (first|(with_reducible exact Below.refl _ _) | refine Below.alloc ?_ (by simp;try omega) _ | refine Below.drew ?_ | refine Below.setCell ?_ (by simp;try omega) _))
 have hsz:wB.heap.size=w.heap.size + 2:=by rw [← hwB];simp
 have K0:wB.cell? ⟨w.heap.size,0,none⟩=some (.slice an n.length capn):=by rw [← hwB];simp [go_sem]
 have K1:wB.cell? ⟨w.heap.size + 1,0,none⟩=some (.slice none 0 0):=by rw [← hwB];simp [go_sem]
 have F1:wB.frozen? ⟨w.heap.size + 1,0,none⟩=false:=by rw [← hwB];simp [go_sem]
 clear hwB
 go_loopw [6,11] (fun b i wr=>∃ (k:Nat) (m:Int),k≤l.length∧i=.int .i64 k∧b=.int .i64 m∧Hid (mB n l k=m)∧Hid (m=-1∨∃ j:Nat,j < k∧m=j)∧Below wB.heap.size wB wr) (fun _ i _=>l.length - (intOf i).toNat)
 case atStart=>exact ⟨0,-1,Nat.zero_le _,rfl,rfl,hD rfl,hD (.inl rfl),Below.refl _ _⟩
 obtain ⟨k,m,hk,rfl,rfl,HM,HR,hbel⟩:=hrel
 have rdl:=Rep.rd.below HL.out (EB.trans (hbel.mono EB.size))
 by_cases hlt:k < l.length
 · have hk0:=Int.natCast_nonneg k
   have hk2:=Int.ofNat_lt.2 hlt
   obtain ⟨xb,xo,rfl,xc0,xc1,xc2,xr,Ax0,Ax1,Ax2⟩:=Rep.get3 rdl.1 hlt rfl
   obtain ⟨xv0,xhe,x_0,x_1,x_2,x_3⟩:=RRoute_raw xr
   simp only [List.cons.injEq,and_true] at xhe
   obtain ⟨rfl,rfl,rfl⟩:=xhe
   obtain ⟨xa,xp,xh,xl⟩:=Rep.kR x_1;obtain rfl:xc0=_:=by simpa using xh
   have px:RName.rd wr _ l[k].1:=⟨x_0,(Rep.raw_bdd HL.out hlt).1⟩
   clear xh xr x_2 x_3 x_1 x_0
   rcases HR.out with rfl|⟨j,hjk,rfl⟩
   · have hno:=fun q=>(mB_no (n:=n) hlt q).trans HM.out
     have hnew:=fun q=>mB_new (n:=n) hlt q HM.out
     clear rdl
     generalize l[k]=x at *
     have HNO:=hD hno;have HNEW:=hD hnew;clear hno hnew
     replace K0:=cL hbel K0
     go_upto_region 5 with fail
     generalize hwC:World.alloc wr _=wC
     have EC:Below wr.heap.size wr wC:=by rw [← hwC];exact (Below.refl _ _).alloc (Nat.le_refl _) _
     have M0:wC.cell? ⟨wr.heap.size,0,none⟩=some (.slice xa x.1.length xp):=by rw [← hwC];simp [go_sem]
     have M1:wC.cell? ⟨wr.heap.size,1,none⟩=some (.int .i64 x.2.1):=by rw [← hwC];simp [go_sem]
     have M2:wC.cell? ⟨wr.heap.size,2,none⟩=some (.int .i64 x.2.2):=by rw [← hwC];simp [go_sem]
     replace K0:=cL EC K0
     (try replace Ay0:=cL EC Ay0);(try replace Ay1:=cL EC Ay1);(try replace Ay2:=cL EC Ay2);clear hwC
     refine wp_region_soft (fun W=>Below wC.heap.size wC W) [true,true,true,false,true,true,true,true,true,true,true,true,true,true,true,true,true,true,true,true,true,true] (by kernel_rfl) (by kernel_rfl) (fun c a d v w h=>by cases d <;> exact h) ((Below.refl _ _).drew) ?_
     intro wS HS
     all_goals first|(refine kC rfl HS ?_)|(refine kD (v:=?_) rfl (fun W hW=>?_) ?_;rotate_left;(· have A_K0:=cL hW K0;have A_M0:=cL hW M0;have A_M1:=cL hW M1;have A_M2:=cL hW M2;clear hW;go_simp;try with_reducible rfl))
     all_goals try simp only [Act.put,zA,zB,zC]
     all_goals first|(refine kC rfl HS ?_)|(refine kD (v:=?_) rfl (fun W hW=>?_) ?_;rotate_left;(· go_simp;try with_reducible rfl))
     all_goals try simp only [Act.put,zA,zB,zC]
     all_goals first|(refine kC rfl HS ?_)|(refine kD (v:=?_) rfl (fun W hW=>?_) ?_;rotate_left;(· have A_K0:=cL hW K0;have A_M0:=cL hW M0;have A_M1:=cL hW M1;have A_M2:=cL hW M2;clear hW;go_simp;try with_reducible rfl))
     all_goals try simp only [Act.put,zA,zB,zC]
     all_goals first|(refine kC rfl HS ?_)|(refine kF rfl (fun K hK=>?_);go_simp;refine (implHasPrefix_c (HN.out.below (EB.trans ((hbel.trans ((EC.trans (HS.mono EC.size)).mono hbel.size)).mono EB.size))) (px.below (EC.trans (HS.mono EC.size)))).mono ?_;rintro e wS1 ⟨rfl,hbS⟩;replace HS:=HS.trans (hbS.mono HS.size);refine hK _ _ HS ?_;clear hK K hbS)
     all_goals try simp only [Act.put,zA,zB,zC]
     all_goals first|(refine kC rfl HS ?_;have hg4:=True.intro)|(refine kE (v:=?_) (b:=?_) rfl (fun W hW=>?_) ?_ (fun b hg4=>?_);rotate_left;rotate_left;(· go_simp;try with_reducible rfl);(· with_reducible rfl);cases b;all_goals first|(exact Bool.noConfusion hg4)|(simp only [Bool.not_eq_true',Bool.not_eq_false'] at hg4) | skip)
     iterate 2
      all_goals try simp only [Act.put,zA,zB,zC]
      all_goals first|(refine kC rfl HS ?_)|(refine kD (v:=?_) rfl (fun W hW=>?_) ?_;rotate_left;(· go_simp;try with_reducible rfl))
     all_goals try simp only [Act.put,zA,zB,zC]
     all_goals first|(refine kC rfl HS ?_;have hg7:=True.intro)|(refine kE (v:=?_) (b:=?_) rfl (fun W hW=>?_) ?_ (fun b hg7=>?_);rotate_left;rotate_left;(· go_simp;try with_reducible rfl);(· with_reducible rfl);cases b;all_goals first|(exact Bool.noConfusion hg7)|(simp only [Bool.not_eq_true',Bool.not_eq_false'] at hg7) | skip)
     iterate 2
      all_goals try simp only [Act.put,zA,zB,zC]
      all_goals first|(refine kC rfl HS ?_)|(refine kD (v:=?_) rfl (fun W hW=>?_) ?_;rotate_left;(· go_simp;try with_reducible rfl))
     all_goals try simp only [Act.put,zA,zB,zC]
     all_goals first|(refine kC rfl HS ?_)|(refine kD (v:=?_) rfl (fun W hW=>?_) ?_;rotate_left;(· have A_K0:=cL hW K0;have A_M0:=cL hW M0;have A_M1:=cL hW M1;have A_M2:=cL hW M2;clear hW;go_simp;try with_reducible rfl))
     iterate 6
      all_goals try simp only [Act.put,zA,zB,zC]
      all_goals first|(refine kC rfl HS ?_)|(refine kD (v:=?_) rfl (fun W hW=>?_) ?_;rotate_left;(· go_simp;try with_reducible rfl))
     all_goals try simp only [Act.put,zA,zB,zC]
     all_goals first|(refine kC rfl HS ?_)|(refine kD (v:=?_) rfl (fun W hW=>?_) ?_;rotate_left;(· have A_K0:=cL hW K0;have A_M0:=cL hW M0;have A_M1:=cL hW M1;have A_M2:=cL hW M2;clear hW;go_simp;try with_reducible rfl))
     iterate 3
      all_goals try simp only [Act.put,zA,zB,zC]
      all_goals first|(refine kC rfl HS ?_)|(refine kD (v:=?_) rfl (fun W hW=>?_) ?_;rotate_left;(· go_simp;try with_reducible rfl))
     all_goals try simp only [Act.put,zA,zB,zC]
     all_goals first|(refine kC rfl HS ?_;have hg21:=True.intro)|(refine kE (v:=?_) (b:=?_) rfl (fun W hW=>?_) ?_ (fun b hg21=>?_);rotate_left;rotate_left;(· go_simp;try with_reducible rfl);(· with_reducible rfl);cases b;all_goals first|(exact Bool.noConfusion hg21)|(simp only [Bool.not_eq_true',Bool.not_eq_false'] at hg21) | skip)
     all_goals try simp only [Act.put,zA,zB,zC]
     all_goals refine soft_nil ?_
     all_goals have EG:=hbel.trans ((EC.trans (HS.mono EC.size)).mono hbel.size)
     all_goals first
       | (have HT:=hD (HNO.out hg4);go_wp2;go_roundw;(case rel=>exact ⟨k + 1,-1,by omega,by go_num,rfl,HT,hD (.inl rfl),EG⟩);(case measure=>simp [intOf];omega))
       | (have HT:=hD (HNEW.out hg4);go_wp2;go_roundw;(case rel=>exact ⟨k + 1,(k:Int),by omega,by go_num,rfl,HT,hD (.inr ⟨k,by omega,rfl⟩),EG⟩);(case measure=>simp [intOf];omega))
   have hj:j < l.length:=by omega
   have hj0:=Int.natCast_nonneg j
   have hj2:=Int.ofNat_lt.2 hj
   obtain ⟨yb,yo,yE,yc0,yc1,yc2,yr,Ay0,Ay1,Ay2⟩:=Rep.get3 rdl.1 hj rfl
   simp only [Option.some.injEq,Addr.mk.injEq,and_true] at yE
   obtain ⟨rfl,rfl⟩:=yE
   obtain ⟨yv0,yhe,y_0,y_1,y_2,y_3⟩:=RRoute_raw yr
   simp only [List.cons.injEq,and_true] at yhe
   obtain ⟨rfl,rfl,rfl⟩:=yhe
   obtain ⟨ya,yp,yh,yl⟩:=Rep.kR y_1;obtain rfl:yc0=_:=by simpa using yh
   have py:RName.rd wr _ l[j].1:=⟨y_0,(Rep.raw_bdd HL.out hj).1⟩
   clear yh yr y_2 y_3 y_1 y_0
   have hno:=fun q=>(mB_no (n:=n) hlt q).trans HM.out
   have hup:=fun q q2=>mB_up (n:=n) hlt q hj HM.out q2
   have hkeep:=fun q2=>mB_keep (n:=n) hlt hj HM.out q2
   clear rdl py
   generalize l[k]=x at *
   generalize l[j]=y at *
   have HNO:=hD hno;have HUP:=hD hup;have HKEEP:=hD hkeep;clear hno hup hkeep
   by_cases h3:y.1.length < x.1.length
   · have hd:decide ((y.1.length:Int) < x.1.length)=true:=by simpa using h3
     have hd2:decide ((x.1.length:Int) > y.1.length)=true:=by simpa using h3
     have hdn:decide (y.1.length < x.1.length)=true:=by simpa using h3
     replace K0:=cL hbel K0
     go_upto_region 5 with fail
     generalize hwC:World.alloc wr _=wC
     have EC:Below wr.heap.size wr wC:=by rw [← hwC];exact (Below.refl _ _).alloc (Nat.le_refl _) _
     have M0:wC.cell? ⟨wr.heap.size,0,none⟩=some (.slice xa x.1.length xp):=by rw [← hwC];simp [go_sem]
     have M1:wC.cell? ⟨wr.heap.size,1,none⟩=some (.int .i64 x.2.1):=by rw [← hwC];simp [go_sem]
     have M2:wC.cell? ⟨wr.heap.size,2,none⟩=some (.int .i64 x.2.2):=by rw [← hwC];simp [go_sem]
     replace K0:=cL EC K0
     (try replace Ay0:=cL EC Ay0);(try replace Ay1:=cL EC Ay1);(try replace Ay2:=cL EC Ay2);clear hwC
     refine wp_region_soft (fun W=>Below wC.heap.size wC W) [true,true,true,false,true,true,true,true,true,true,true,true,true,true,true,true,true,true,true,true,true,true] (by kernel_rfl) (by kernel_rfl) (fun c a d v w h=>by cases d <;> exact h) ((Below.refl _ _).drew) ?_
     intro wS HS
     all_goals first|(refine kC rfl HS ?_)|(refine kD (v:=?_) rfl (fun W hW=>?_) ?_;rotate_left;(· have A_K0:=cL hW K0;have A_M0:=cL hW M0;have A_M1:=cL hW M1;have A_M2:=cL hW M2;have A_Ay0:=cL hW Ay0;clear hW;go_simp;try with_reducible rfl))
     all_goals try simp only [Act.put,zA,zB,zC]
     all_goals first|(refine kC rfl HS ?_)|(refine kD (v:=?_) rfl (fun W hW=>?_) ?_;rotate_left;(· go_simp;try with_reducible rfl))
     all_goals try simp only [Act.put,zA,zB,zC]
     all_goals first|(refine kC rfl HS ?_)|(refine kD (v:=?_) rfl (fun W hW=>?_) ?_;rotate_left;(· have A_K0:=cL hW K0;have A_M0:=cL hW M0;have A_M1:=cL hW M1;have A_M2:=cL hW M2;have A_Ay0:=cL hW Ay0;clear hW;go_simp;try with_reducible rfl))
     all_goals try simp only [Act.put,zA,zB,zC]
     all_goals first|(refine kC rfl HS ?_)|(refine kF rfl (fun K hK=>?_);go_simp;refine (implHasPrefix_c (HN.out.below (EB.trans ((hbel.trans ((EC.trans (HS.mono EC.size)).mono hbel.size)).mono EB.size))) (px.below (EC.trans (HS.mono EC.size)))).mono ?_;rintro e wS1 ⟨rfl,hbS⟩;replace HS:=HS.trans (hbS.mono HS.size);refine hK _ _ HS ?_;clear hK K hbS)
     all_goals try simp only [Act.put,zA,zB,zC]
     all_goals first|(refine kC rfl HS ?_;have hg4:=True.intro)|(refine kE (v:=?_) (b:=?_) rfl (fun W hW=>?_) ?_ (fun b hg4=>?_);rotate_left;rotate_left;(· go_simp;try with_reducible rfl);(· with_reducible rfl);cases b;all_goals first|(exact Bool.noConfusion hg4)|(simp only [Bool.not_eq_true',Bool.not_eq_false'] at hg4) | skip)
     iterate 2
      all_goals try simp only [Act.put,zA,zB,zC]
      all_goals first|(refine kC rfl HS ?_)|(refine kD (v:=?_) rfl (fun W hW=>?_) ?_;rotate_left;(· go_simp;try with_reducible rfl))
     all_goals try simp only [Act.put,zA,zB,zC]
     all_goals first|(refine kC rfl HS ?_;have hg7:=True.intro)|(refine kE (v:=?_) (b:=?_) rfl (fun W hW=>?_) ?_ (fun b hg7=>?_);rotate_left;rotate_left;(· go_simp;try with_reducible rfl);(· with_reducible rfl);cases b;all_goals first|(exact Bool.noConfusion hg7)|(simp only [Bool.not_eq_true',Bool.not_eq_false'] at hg7) | skip)
     iterate 2
      all_goals try simp only [Act.put,zA,zB,zC]
      all_goals first|(refine kC rfl HS ?_)|(refine kD (v:=?_) rfl (fun W hW=>?_) ?_;rotate_left;(· go_simp;try with_reducible rfl))
     all_goals try simp only [Act.put,zA,zB,zC]
     all_goals first|(refine kC rfl HS ?_)|(refine kD (v:=?_) rfl (fun W hW=>?_) ?_;rotate_left;(· have A_K0:=cL hW K0;have A_M0:=cL hW M0;have A_M1:=cL hW M1;have A_M2:=cL hW M2;have A_Ay0:=cL hW Ay0;clear hW;go_simp;try with_reducible rfl))
     iterate 6
      all_goals try simp only [Act.put,zA,zB,zC]
      all_goals first|(refine kC rfl HS ?_)|(refine kD (v:=?_) rfl (fun W hW=>?_) ?_;rotate_left;(· go_simp;try with_reducible rfl))
     all_goals try simp only [Act.put,zA,zB,zC]
     all_goals first|(refine kC rfl HS ?_)|(refine kD (v:=?_) rfl (fun W hW=>?_) ?_;rotate_left;(· have A_K0:=cL hW K0;have A_M0:=cL hW M0;have A_M1:=cL hW M1;have A_M2:=cL hW M2;have A_Ay0:=cL hW Ay0;clear hW;go_simp;try with_reducible rfl))
     iterate 3
      all_goals try simp only [Act.put,zA,zB,zC]
      all_goals first|(refine kC rfl HS ?_)|(refine kD (v:=?_) rfl (fun W hW=>?_) ?_;rotate_left;(· go_simp;try with_reducible rfl))
     all_goals try simp only [Act.put,zA,zB,zC]
     all_goals first|(refine kC rfl HS ?_;have hg21:=True.intro)|(refine kE (v:=?_) (b:=?_) rfl (fun W hW=>?_) ?_ (fun b hg21=>?_);rotate_left;rotate_left;(· go_simp;try with_reducible rfl);(· with_reducible rfl);cases b;all_goals first|(exact Bool.noConfusion hg21)|(simp only [Bool.not_eq_true',Bool.not_eq_false'] at hg21) | skip)
     all_goals try simp only [Act.put,zA,zB,zC]
     all_goals refine soft_nil ?_
     all_goals have EG:=hbel.trans ((EC.trans (HS.mono EC.size)).mono hbel.size)
     all_goals first
       | (have HT:=hD (HNO.out hg4);go_wp2;go_roundw;(case rel=>exact ⟨k + 1,(j:Int),by omega,by go_num,rfl,HT,hD (.inr ⟨j,by omega,rfl⟩),EG⟩);(case measure=>simp [intOf];omega))
       | (have HT:=hD ((fun q=>HUP.out q h3) hg4);go_wp2;go_roundw;(case rel=>exact ⟨k + 1,(k:Int),by omega,by go_num,rfl,HT,hD (.inr ⟨k,by omega,rfl⟩),EG⟩);(case measure=>simp [intOf];omega))
   have hd:decide ((y.1.length:Int) < x.1.length)=false:=by simpa using h3
   have hd2:decide ((x.1.length:Int) > y.1.length)=false:=by simpa using h3
   have hdn:decide (y.1.length < x.1.length)=false:=by simpa using h3
   replace K0:=cL hbel K0
   go_upto_region 5 with fail
   generalize hwC:World.alloc wr _=wC
   have EC:Below wr.heap.size wr wC:=by rw [← hwC];exact (Below.refl _ _).alloc (Nat.le_refl _) _
   have M0:wC.cell? ⟨wr.heap.size,0,none⟩=some (.slice xa x.1.length xp):=by rw [← hwC];simp [go_sem]
   have M1:wC.cell? ⟨wr.heap.size,1,none⟩=some (.int .i64 x.2.1):=by rw [← hwC];simp [go_sem]
   have M2:wC.cell? ⟨wr.heap.size,2,none⟩=some (.int .i64 x.2.2):=by rw [← hwC];simp [go_sem]
   replace K0:=cL EC K0
   (try replace Ay0:=cL EC Ay0);(try replace Ay1:=cL EC Ay1);(try replace Ay2:=cL EC Ay2);clear hwC
   refine wp_region_soft (fun W=>Below wC.heap.size wC W) [true,true,true,false,true,true,true,true,true,true,true,true,true,true,true,true,true,true,true,true,true,true] (by kernel_rfl) (by kernel_rfl) (fun c a d v w h=>by cases d <;> exact h) ((Below.refl _ _).drew) ?_
   intro wS HS
   all_goals first|(refine kC rfl HS ?_)|(refine kD (v:=?_) rfl (fun W hW=>?_) ?_;rotate_left;(· have A_K0:=cL hW K0;have A_M0:=cL hW M0;have A_M1:=cL hW M1;have A_M2:=cL hW M2;have A_Ay0:=cL hW Ay0;clear hW;go_simp;try with_reducible rfl))
   all_goals try simp only [Act.put,zA,zB,zC]
   all_goals first|(refine kC rfl HS ?_)|(refine kD (v:=?_) rfl (fun W hW=>?_) ?_;rotate_left;(· go_simp;try with_reducible rfl))
   all_goals try simp only [Act.put,zA,zB,zC]
   all_goals first|(refine kC rfl HS ?_)|(refine kD (v:=?_) rfl (fun W hW=>?_) ?_;rotate_left;(· have A_K0:=cL hW K0;have A_M0:=cL hW M0;have A_M1:=cL hW M1;have A_M2:=cL hW M2;have A_Ay0:=cL hW Ay0;clear hW;go_simp;try with_reducible rfl))
   all_goals try simp only [Act.put,zA,zB,zC]
   all_goals first|(refine kC rfl HS ?_)|(refine kF rfl (fun K hK=>?_);go_simp;refine (implHasPrefix_c (HN.out.below (EB.trans ((hbel.trans ((EC.trans (HS.mono EC.size)).mono hbel.size)).mono EB.size))) (px.below (EC.trans (HS.mono EC.size)))).mono ?_;rintro e wS1 ⟨rfl,hbS⟩;replace HS:=HS.trans (hbS.mono HS.size);refine hK _ _ HS ?_;clear hK K hbS)
   all_goals try simp only [Act.put,zA,zB,zC]
   all_goals first|(refine kC rfl HS ?_;have hg4:=True.intro)|(refine kE (v:=?_) (b:=?_) rfl (fun W hW=>?_) ?_ (fun b hg4=>?_);rotate_left;rotate_left;(· go_simp;try with_reducible rfl);(· with_reducible rfl);cases b;all_goals first|(exact Bool.noConfusion hg4)|(simp only [Bool.not_eq_true',Bool.not_eq_false'] at hg4) | skip)
   iterate 2
    all_goals try simp only [Act.put,zA,zB,zC]
    all_goals first|(refine kC rfl HS ?_)|(refine kD (v:=?_) rfl (fun W hW=>?_) ?_;rotate_left;(· go_simp;try with_reducible rfl))
   all_goals try simp only [Act.put,zA,zB,zC]
   all_goals first|(refine kC rfl HS ?_;have hg7:=True.intro)|(refine kE (v:=?_) (b:=?_) rfl (fun W hW=>?_) ?_ (fun b hg7=>?_);rotate_left;rotate_left;(· go_simp;try with_reducible rfl);(· with_reducible rfl);cases b;all_goals first|(exact Bool.noConfusion hg7)|(simp only [Bool.not_eq_true',Bool.not_eq_false'] at hg7) | skip)
   iterate 2
    all_goals try simp only [Act.put,zA,zB,zC]
    all_goals first|(refine kC rfl HS ?_)|(refine kD (v:=?_) rfl (fun W hW=>?_) ?_;rotate_left;(· go_simp;try with_reducible rfl))
   all_goals try simp only [Act.put,zA,zB,zC]
   all_goals first|(refine kC rfl HS ?_)|(refine kD (v:=?_) rfl (fun W hW=>?_) ?_;rotate_left;(· have A_K0:=cL hW K0;have A_M0:=cL hW M0;have A_M1:=cL hW M1;have A_M2:=cL hW M2;have A_Ay0:=cL hW Ay0;clear hW;go_simp;try with_reducible rfl))
   iterate 6
    all_goals try simp only [Act.put,zA,zB,zC]
    all_goals first|(refine kC rfl HS ?_)|(refine kD (v:=?_) rfl (fun W hW=>?_) ?_;rotate_left;(· go_simp;try with_reducible rfl))
   all_goals try simp only [Act.put,zA,zB,zC]
   all_goals first|(refine kC rfl HS ?_)|(refine kD (v:=?_) rfl (fun W hW=>?_) ?_;rotate_left;(· have A_K0:=cL hW K0;have A_M0:=cL hW M0;have A_M1:=cL hW M1;have A_M2:=cL hW M2;have A_Ay0:=cL hW Ay0;clear hW;go_simp;try with_reducible rfl))
   iterate 3
    all_goals try simp only [Act.put,zA,zB,zC]
    all_goals first|(refine kC rfl HS ?_)|(refine kD (v:=?_) rfl (fun W hW=>?_) ?_;rotate_left;(· go_simp;try with_reducible rfl))
   all_goals try simp only [Act.put,zA,zB,zC]
   all_goals first|(refine kC rfl HS ?_;have hg21:=True.intro)|(refine kE (v:=?_) (b:=?_) rfl (fun W hW=>?_) ?_ (fun b hg21=>?_);rotate_left;rotate_left;(· go_simp;try with_reducible rfl);(· with_reducible rfl);cases b;all_goals first|(exact Bool.noConfusion hg21)|(simp only [Bool.not_eq_true',Bool.not_eq_false'] at hg21) | skip)
   all_goals try simp only [Act.put,zA,zB,zC]
   all_goals refine soft_nil ?_
   all_goals have EG:=hbel.trans ((EC.trans (HS.mono EC.size)).mono hbel.size)
   all_goals first
     | (have HT:=hD (HNO.out hg4);go_wp2;go_roundw;(case rel=>exact ⟨k + 1,(j:Int),by omega,by go_num,rfl,HT,hD (.inr ⟨j,by omega,rfl⟩),EG⟩);(case measure=>simp [intOf];omega))
     | (have HT:=hD ((fun (_:prefN n x.1=true)=>HKEEP.out h3) hg4);go_wp2;go_roundw;(case rel=>exact ⟨k + 1,(j:Int),by omega,by go_num,rfl,HT,hD (.inr ⟨j,by omega,rfl⟩),EG⟩);(case measure=>simp [intOf];omega))
 obtain rfl:k=l.length:=by omega
 have EG:=EB.trans (hbel.mono EB.size)
 have R0:=cL hbel K1
 have F0:wr.frozen? ⟨w.heap.size + 1,0,none⟩=false:=(hbel.frozen (p:=⟨w.heap.size + 1,0,none⟩) (by simp;omega)).trans F1
 rcases HR.out with rfl|⟨j,hj,rfl⟩
 · have HT:=hD (m_no HM.out)
   clear rdl
   go_wp2
   refine bodyPost_ret (v:=.tuple #[.agg #[.slice none 0 0],.bool false]) (by simp [results,Tryz.results45,go_sem,R0,F0]) rfl ⟨[.slice none 0 0],by rw [HT.out.1],?_,?_⟩
   · rw [HT.out.2];exact Rep.void_own
   exact EG.setCell (by simp) _
 have hj0:=Int.natCast_nonneg j
 have hj2:=Int.ofNat_lt.2 hj
 have HT:=hD (m_yes hj HM.out)
 obtain ⟨yb,yo,rfl,yc0,yc1,yc2,yr,Ay0,Ay1,Ay2⟩:=Rep.get3 rdl.1 hj rfl
 obtain ⟨yv0,yhe,y_0,y_1,y_2,y_3⟩:=RRoute_raw yr
 simp only [List.cons.injEq,and_true] at yhe
 obtain ⟨rfl,rfl,rfl⟩:=yhe
 obtain ⟨ya,yp,yh,yl⟩:=Rep.kR y_1;obtain rfl:yc0=_:=by simpa using yh
 have py:RName.rd wr _ l[j].1:=⟨y_0,(Rep.raw_bdd HL.out hj).1⟩
 clear yh yr y_2 y_3 y_1 y_0
 clear rdl
 generalize l[j]=y at *
 go_wp2_with fail
 refine (implcopyName_c (py.below (by repeat (first|(with_reducible exact Below.refl _ _) | refine Below.alloc ?_ (by simp;try omega) _ | refine Below.drew ?_ | refine Below.setCell ?_ (by simp;try omega) _)))).mono ?_
 rintro e w2 ⟨cs,rfl,O2,hb2⟩
 obtain ⟨cv,rfl,c_0⟩:=RName_raw O2.raw
 obtain ⟨a2,c2,hv,_⟩:=Rep.kR c_0
 obtain rfl:cv=_:=by simpa using hv
 have HO:Hid (RName.own w2 [.slice a2 y.1.length c2] y.1 (Btw (w.heap.size + 1 + 1) w2.heap.size)):=hD (O2.wide (fun j hj=>⟨by have:=hj.1;have:=hbel.size;omega,hj.2⟩))
 have EF:Below w.heap.size w w2:=EG.trans (Below.mono (Below.trans (by repeat (first|(with_reducible exact Below.refl _ _) | refine Below.alloc ?_ (by simp;try omega) _ | refine Below.drew ?_ | refine Below.setCell ?_ (by simp;try omega) _)) hb2) EG.size)
 replace R0:=cL hb2 R0
 replace F0:w2.frozen? ⟨w.heap.size + 1,0,none⟩=false:=(hb2.frozen (p:=⟨w.heap.size + 1,0,none⟩) (by have:=hbel.size;simp;omega)).trans F0
 clear hv O2 c_0 hb2 EG
 go_wp2
 refine bodyPost_ret (v:=.tuple #[.agg #[.slice a2 y.1.length c2],.bool true]) (by simp [results,Tryz.results45,go_sem,R0,F0]) rfl ⟨[.slice a2 y.1.length c2],by rw [HT.out.1],?_,?_⟩
 · rw [HT.out.2]
   exact (HO.out.setCell (by intro q;have:=q.1;first | omega|(simp at this;omega)|(simp at this))).wide (fun j hj=>⟨by have:=hj.1;omega,by simpa [World.setCell] using hj.2⟩)
 exact EF.setCell (by simp) _
end Go.Proofs.YtomdenfcfbkfbaaGreat

/-
  Parts and names that are valid.
  Names that are valid.
-/
import Derived.Test.YtomdenfcfbkfbaaGreatBase
import Derived.Test.YtomdenfcfbkfbaaGreatName
import Derived.IntWalk
import Derived.Deep.Cut
namespace Go.Proofs.YtomdenfcfbkfbaaGreat
open Go.RowKit
set_option linter.unusedVariables false
set_option linter.unusedSimpArgs false
set_option linter.unnecessarySimpa false
def okBs (c:Int):Bool:=!((!inR c 97 122 && !inR c 48 57) && (c != 45))
def okBi (c:Int):Bool:=((decide (c ≥ 97) && decide (c≤122)) || (decide (c ≥ 48) && decide (c≤57))) || (c==45)
def byteAt (s:ByteArray) (j:Nat):Int:=(s.data.toList.getD j 0).toNat
def vPart (s:ByteArray):Bool:=allB (fun j=>okBs (byteAt s j)) s.size && inR s.size 1 8
theorem okBi_eq (c:Int):okBi c=okBs c:=by
 unfold okBi okBs inR
 rw [Bool.eq_iff_iff]
 simp
 try omega
theorem vPart_out {s:ByteArray} (h:inR s.size 1 8=false):vPart s=false:=by simp [vPart,h]
theorem vPart_bad {s:ByteArray} {k:Nat} (h:k < s.size) (q:okBs (byteAt s k)=false):vPart s=false:=by
 unfold vPart;rw [allB_bad h q];rfl
theorem vPart_good {s:ByteArray} {k:Nat} (q:allB (fun j=>okBs (byteAt s j)) k=true) (h:¬ k < s.size) (hk:k≤s.size):vPart s=inR s.size 1 8:=by
 obtain rfl:k=s.size:=by omega
 unfold vPart;rw [q];rfl
theorem byteAt_get {s:ByteArray} {k:Nat} (h:k < s.size):byteAt s k=(s[k].toNat:Int):=by
 unfold byteAt
 rw [getD_get (by simpa using h)]
 rfl
theorem byteAt_rng (s:ByteArray) (k:Nat):0≤byteAt s k∧byteAt s k < 256:=by
 unfold byteAt;have:=(s.data.toList.getD k 0).toNat_lt;omega
set_option maxRecDepth 100000 in
set_option maxHeartbeats 1000000 in
theorem specValidPart_c {w:World} {s:ByteArray} (hs:s.size≤maxLen):Calls Tryz.prog 187 #[.string s] w fun e w'=>e=.returned (.bool (vPart s))∧w'=w:=by
 unfold maxLen at hs
 go_enter Tryz.func187,Tryz.ntmps187
 go_wp2_with fail
 refine specl1In_c.mono ?_
 rintro e w1 ⟨rfl,hw⟩
 obtain rfl:=hw.symm
 cases hin:inR s.size 1 8
 · have HT:=hD (vPart_out hin)
   go_wp2
   go_ret
   exact ⟨kT HT.out.symm,rfl⟩
 have HI:=hD hin
 go_wp2
 go_loop [3] (fun i=>∃ k:Nat,k≤s.size∧i=.int .i64 k∧Hid (allB (fun j=>okBs (byteAt s j)) k=true)) (fun i=>s.size - (intOf i).toNat)
 case atStart=>exact ⟨0,Nat.zero_le _,rfl,hD rfl⟩
 obtain ⟨k,hk,rfl,HN⟩:=hrel
 by_cases hlt:k < s.size
 · have hr:=byteAt_rng s k
   have hg:=byteAt_get hlt
   have HB:=hD (fun q=>vPart_bad hlt q)
   have HX:=hD (fun q=>allB_succ (f:=fun j=>okBs (byteAt s j)) HN.out q)
   go_upto_region 7 with fail
   generalize (s[k].toNat:Int)=c at *
   have HC:=hD hg
   clear hg
   refine wp_region_soft_plain (fun W=>Hid (W=w)) [true,false,true,true,true,false,true,true,true,true,true,true] (hD rfl) ?_
   intro wS HS
   all_goals first|(refine kC rfl HS ?_)|(refine kD (v:=?_) rfl (fun W hW=>?_) ?_;rotate_left;(· go_simp;try with_reducible rfl))
   all_goals try simp only [Act.put,zA,zB,zC]
   all_goals first|(refine kC rfl HS ?_)|(refine kF rfl (fun K hK=>?_);go_simp;refine (specl1In_c).mono ?_;rintro e wS1 ⟨rfl,hwS⟩;obtain rfl:=hwS.symm;refine hK _ _ HS ?_;clear hK K)
   all_goals try simp only [Act.put,zA,zB,zC]
   all_goals first|(refine kC rfl HS ?_)|(refine kD (v:=?_) rfl (fun W hW=>?_) ?_;rotate_left;(· go_simp;try with_reducible rfl))
   all_goals try simp only [Act.put,zA,zB,zC]
   all_goals first|(refine kC rfl HS ?_;have hg3:=True.intro)|(refine kE (v:=?_) (b:=?_) rfl (fun W hW=>?_) ?_ (fun b hg3=>?_);rotate_left;rotate_left;(· go_simp;try with_reducible rfl);(· with_reducible rfl);cases b;all_goals first|(exact Bool.noConfusion hg3)|(simp only [Bool.not_eq_true',Bool.not_eq_false'] at hg3) | skip)
   all_goals try simp only [Act.put,zA,zB,zC]
   all_goals first|(refine kC rfl HS ?_)|(refine kD (v:=?_) rfl (fun W hW=>?_) ?_;rotate_left;(· go_simp;try with_reducible rfl))
   all_goals try simp only [Act.put,zA,zB,zC]
   all_goals first|(refine kC rfl HS ?_)|(refine kF rfl (fun K hK=>?_);go_simp;refine (specl1In_c).mono ?_;rintro e wS1 ⟨rfl,hwS⟩;obtain rfl:=hwS.symm;refine hK _ _ HS ?_;clear hK K)
   iterate 2
    all_goals try simp only [Act.put,zA,zB,zC]
    all_goals first|(refine kC rfl HS ?_)|(refine kD (v:=?_) rfl (fun W hW=>?_) ?_;rotate_left;(· go_simp;try with_reducible rfl))
   all_goals try simp only [Act.put,zA,zB,zC]
   all_goals first|(refine kC rfl HS ?_;have hg8:=True.intro)|(refine kE (v:=?_) (b:=?_) rfl (fun W hW=>?_) ?_ (fun b hg8=>?_);rotate_left;rotate_left;(· go_simp;try with_reducible rfl);(· with_reducible rfl);cases b;all_goals first|(exact Bool.noConfusion hg8)|(simp only [Bool.not_eq_true',Bool.not_eq_false'] at hg8) | skip)
   iterate 2
    all_goals try simp only [Act.put,zA,zB,zC]
    all_goals first|(refine kC rfl HS ?_)|(refine kD (v:=?_) rfl (fun W hW=>?_) ?_;rotate_left;(· go_simp;try with_reducible rfl))
   all_goals try simp only [Act.put,zA,zB,zC]
   all_goals first|(refine kC rfl HS ?_;have hg11:=True.intro)|(refine kE (v:=?_) (b:=?_) rfl (fun W hW=>?_) ?_ (fun b hg11=>?_);rotate_left;rotate_left;(· go_simp;try with_reducible rfl);(· with_reducible rfl);cases b;all_goals first|(exact Bool.noConfusion hg11)|(simp only [Bool.not_eq_true',Bool.not_eq_false'] at hg11) | skip)
   all_goals try simp only [Act.put,zA,zB,zC]
   all_goals refine soft_nil ?_
   all_goals obtain rfl:=HS.out.symm
   all_goals first
     | (have HV:=(congrArg okBs HC.out).trans (show _=false by simp only [okBs,Bool.not_true,Bool.not_false,Bool.and_true,Bool.true_and,Bool.and_false,Bool.false_and,Bool.or_true,Bool.true_or,Bool.or_false,Bool.false_or,Bool.not_not,hg3,hg8,hg11]);have HT:=hD (HB.out HV);clear HV HB HX HC;go_wp2;go_ret;exact ⟨kT HT.out.symm,rfl⟩)
     | (have HV:=(congrArg okBs HC.out).trans (show _=true by simp only [okBs,Bool.not_true,Bool.not_false,Bool.and_true,Bool.true_and,Bool.and_false,Bool.false_and,Bool.or_true,Bool.true_or,Bool.or_false,Bool.false_or,Bool.not_not,hg3,hg8,hg11]);have HT:=hD (HX.out HV);clear HV HB HX HC;go_wp2;go_round;(case rel=>exact ⟨k + 1,by omega,by go_num,HT⟩);(case measure=>simp [intOf];omega))
 have HT:=hD (vPart_good HN.out hlt hk)
 have HU:=hD (HT.out.trans HI.out)
 go_wp2
 go_ret
 exact ⟨kT HU.out.symm,rfl⟩
set_option maxRecDepth 100000 in
set_option maxHeartbeats 1000000 in
theorem implValidPart_c {w:World} {s:ByteArray} (hs:s.size≤maxLen):Calls Tryz.prog 210 #[.string s] w fun e w'=>e=.returned (.bool (vPart s))∧w'=w:=by
 unfold maxLen at hs
 go_enter Tryz.func210,Tryz.ntmps210
 go_wp2
 go_loop [7] (fun i=>∃ k:Nat,k≤s.size∧i=.int .i64 k∧Hid (allB (fun j=>okBs (byteAt s j)) k=true)) (fun i=>s.size - (intOf i).toNat)
 case atStart=>exact ⟨0,Nat.zero_le _,rfl,hD rfl⟩
 obtain ⟨k,hk,rfl,HN⟩:=hrel
 by_cases hlt:k < s.size
 · have hr:=byteAt_rng s k
   have hg:=byteAt_get hlt
   have HB:=hD (fun q=>vPart_bad hlt q)
   have HX:=hD (fun q=>allB_succ (f:=fun j=>okBs (byteAt s j)) HN.out q)
   go_upto_region 5 with fail
   generalize (s[k].toNat:Int)=c at *
   have HC:=hD hg
   clear hg
   refine wp_region_soft_plain (fun W=>Hid (W=w)) [true,true,true,true,true,true,true,true,true,true,true,true,true,true,true,true,true,true,true] (hD rfl) ?_
   intro wS HS
   iterate 2
    all_goals first|(refine kC rfl HS ?_)|(refine kD (v:=?_) rfl (fun W hW=>?_) ?_;rotate_left;(· go_simp;try with_reducible rfl))
    all_goals try simp only [Act.put,zA,zB,zC]
   all_goals first|(refine kC rfl HS ?_;have hg2:=True.intro)|(refine kE (v:=?_) (b:=?_) rfl (fun W hW=>?_) ?_ (fun b hg2=>?_);rotate_left;rotate_left;(· go_simp;try with_reducible rfl);(· with_reducible rfl);cases b;all_goals first|(exact Bool.noConfusion hg2)|(simp only [Bool.not_eq_true',Bool.not_eq_false'] at hg2) | skip)
   iterate 3
    all_goals try simp only [Act.put,zA,zB,zC]
    all_goals first|(refine kC rfl HS ?_)|(refine kD (v:=?_) rfl (fun W hW=>?_) ?_;rotate_left;(· go_simp;try with_reducible rfl))
   all_goals try simp only [Act.put,zA,zB,zC]
   all_goals first|(refine kC rfl HS ?_;have hg6:=True.intro)|(refine kE (v:=?_) (b:=?_) rfl (fun W hW=>?_) ?_ (fun b hg6=>?_);rotate_left;rotate_left;(· go_simp;try with_reducible rfl);(· with_reducible rfl);cases b;all_goals first|(exact Bool.noConfusion hg6)|(simp only [Bool.not_eq_true',Bool.not_eq_false'] at hg6) | skip)
   iterate 2
    all_goals try simp only [Act.put,zA,zB,zC]
    all_goals first|(refine kC rfl HS ?_)|(refine kD (v:=?_) rfl (fun W hW=>?_) ?_;rotate_left;(· go_simp;try with_reducible rfl))
   all_goals try simp only [Act.put,zA,zB,zC]
   all_goals first|(refine kC rfl HS ?_;have hg9:=True.intro)|(refine kE (v:=?_) (b:=?_) rfl (fun W hW=>?_) ?_ (fun b hg9=>?_);rotate_left;rotate_left;(· go_simp;try with_reducible rfl);(· with_reducible rfl);cases b;all_goals first|(exact Bool.noConfusion hg9)|(simp only [Bool.not_eq_true',Bool.not_eq_false'] at hg9) | skip)
   iterate 4
    all_goals try simp only [Act.put,zA,zB,zC]
    all_goals first|(refine kC rfl HS ?_)|(refine kD (v:=?_) rfl (fun W hW=>?_) ?_;rotate_left;(· go_simp;try with_reducible rfl))
   all_goals try simp only [Act.put,zA,zB,zC]
   all_goals first|(refine kC rfl HS ?_;have hg14:=True.intro)|(refine kE (v:=?_) (b:=?_) rfl (fun W hW=>?_) ?_ (fun b hg14=>?_);rotate_left;rotate_left;(· go_simp;try with_reducible rfl);(· with_reducible rfl);cases b;all_goals first|(exact Bool.noConfusion hg14)|(simp only [Bool.not_eq_true',Bool.not_eq_false'] at hg14) | skip)
   iterate 3
    all_goals try simp only [Act.put,zA,zB,zC]
    all_goals first|(refine kC rfl HS ?_)|(refine kD (v:=?_) rfl (fun W hW=>?_) ?_;rotate_left;(· go_simp;try with_reducible rfl))
   all_goals try simp only [Act.put,zA,zB,zC]
   all_goals first|(refine kC rfl HS ?_;have hg18:=True.intro)|(refine kE (v:=?_) (b:=?_) rfl (fun W hW=>?_) ?_ (fun b hg18=>?_);rotate_left;rotate_left;(· go_simp;try with_reducible rfl);(· with_reducible rfl);cases b;all_goals first|(exact Bool.noConfusion hg18)|(simp only [Bool.not_eq_true',Bool.not_eq_false'] at hg18) | skip)
   all_goals try simp only [Act.put,zA,zB,zC]
   all_goals refine soft_nil ?_
   all_goals obtain rfl:=HS.out.symm
   all_goals first
     | (have HV:=(congrArg okBs HC.out).trans ((okBi_eq _).symm.trans (show _=false by simp only [okBi,Bool.not_true,Bool.not_false,Bool.and_true,Bool.true_and,Bool.and_false,Bool.false_and,Bool.or_true,Bool.true_or,Bool.or_false,Bool.false_or,Bool.not_not,ge_iff_le,hg2,hg6,hg9,hg14,hg18]));have HT:=hD (HB.out HV);clear HV HB HX HC;go_wp2;go_ret;exact ⟨kT HT.out.symm,rfl⟩)
     | (have HV:=(congrArg okBs HC.out).trans ((okBi_eq _).symm.trans (show _=true by simp only [okBi,Bool.not_true,Bool.not_false,Bool.and_true,Bool.true_and,Bool.and_false,Bool.false_and,Bool.or_true,Bool.true_or,Bool.or_false,Bool.false_or,Bool.not_not,ge_iff_le,hg2,hg6,hg9,hg14,hg18]));have HT:=hD (HX.out HV);clear HV HB HX HC;go_wp2;go_round;(case rel=>exact ⟨k + 1,by omega,by go_num,HT⟩);(case measure=>simp [intOf];omega))
 have HT:=hD (vPart_good HN.out hlt hk)
 go_wp2_with fail
 refine implInRange_c.mono ?_
 rintro e w1 ⟨rfl,hw⟩
 obtain rfl:=hw.symm
 go_wp2
 go_ret
 exact ⟨kT HT.out.symm,rfl⟩
end Go.Proofs.YtomdenfcfbkfbaaGreat
namespace Go.Proofs.YtomdenfcfbkfbaaGreat
open Go.RowKit
set_option linter.unusedVariables false
set_option linter.unusedSimpArgs false
set_option linter.unnecessarySimpa false
def vName (n:LName):Bool:=allB (fun j=>vPart (n.getD j ByteArray.empty)) n.length && decide (n.length≤6)
theorem vName_bad {n:LName} {k:Nat} (h:k < n.length) (q:vPart n[k]=false):vName n=false:=by
 unfold vName;rw [allB_bad h (by (try simp only);rw [getD_get h];exact q)];rfl
theorem vName_next {n:LName} {k:Nat} (h:k < n.length) (q:vPart n[k]=true) (a:allB (fun j=>vPart (n.getD j ByteArray.empty)) k=true):allB (fun j=>vPart (n.getD j ByteArray.empty)) (k + 1)=true :=
  allB_succ a (by (try simp only);rw [getD_get h];exact q)
theorem vName_good {n:LName} {k:Nat} (q:allB (fun j=>vPart (n.getD j ByteArray.empty)) k=true) (h:¬ k < n.length) (hk:k≤n.length):vName n=decide (n.length≤6):=by
 obtain rfl:k=n.length:=by omega
 unfold vName;rw [q];rfl
theorem idx_all {α:Type} (p:α→Bool) (x:List α) (d:α):(!decide (0≤idxOf p x))=allB (fun j=>!p (x.getD j d)) x.length:=by
 unfold idxOf
 cases h:x.findIdx? p with
 | none =>
   have hn:=List.findIdx?_eq_none_iff.1 h
   have:allB (fun j=>!p (x.getD j d)) x.length=true:=by
     have key:∀ n,n≤x.length→allB (fun j=>!p (x.getD j d)) n=true:=by
       intro n
       induction n with
       | zero=>intro _;rfl
       | succ n ih =>
         intro hn2
         refine allB_succ (ih (by omega)) ?_
         (try simp only)
         rw [getD_get (by omega),hn _ (List.getElem_mem _)]
         rfl
     exact key _ (Nat.le_refl _)
   rw [this];simp
 | some i =>
   obtain ⟨hi,hp,_⟩:=List.findIdx?_eq_some_iff_getElem.1 h
   rw [allB_bad hi (by (try simp only);rw [getD_get hi,hp];rfl)]
   simp
theorem vName_idx (n:LName):vName n=(decide (n.length≤6) && !decide (0≤idxOf (fun p=>!vPart p) n)):=by
 unfold vName
 rw [idx_all _ n ByteArray.empty]
 simp only [Bool.not_not]
 exact Bool.and_comm _ _
set_option maxRecDepth 100000 in
set_option maxHeartbeats 1000000 in
theorem specValidName_c {w:World} {cn:List Value} {n:LName} (hn:RName.raw w cn n):Calls Tryz.prog 114 #[.agg cn.toArray] w fun e w'=>e=.returned (.bool (vName n))∧Below w.heap.size w w':=by
 obtain ⟨av,rfl,a_0⟩:=RName_raw hn
 obtain ⟨aa,capa,hva,la⟩:=Rep.kR a_0;obtain rfl:av=_:=by simpa using hva
 clear hn hva
 go_enter Tryz.func114,Tryz.ntmps114
 go_wp2
 generalize hwB:World.alloc w _=wB
 have EB:Below w.heap.size w wB:=by rw [← hwB];exact (by repeat (first|(with_reducible exact Below.refl _ _) | refine Below.alloc ?_ (by simp;try omega) _ | refine Below.drew ?_ | refine Below.setCell ?_ (by simp;try omega) _))
 have K0:wB.cell? ⟨w.heap.size,0,none⟩=some (.slice aa n.length capa):=by rw [← hwB];simp [go_sem]
 clear hwB
 replace a_0:=a_0.below EB
 go_loopw [3] (fun i wr=>∃ k:Nat,k≤n.length∧i=.int .i64 k∧Hid (allB (fun j=>vPart (n.getD j ByteArray.empty)) k=true)∧Below wB.heap.size wB wr) (fun i _=>n.length - (intOf i).toNat)
 case atStart=>exact ⟨0,Nat.zero_le _,rfl,hD rfl,Below.refl _ _⟩
 obtain ⟨k,hk,rfl,HN,hbel⟩:=hrel
 replace K0:=cL hbel K0
 have EB2:=EB.trans (hbel.mono EB.size)
 by_cases hlt:k < n.length
 · obtain ⟨ba,offa,rfl,c0,hr,A0⟩:=Rep.get1 (a_0.below hbel) hlt rfl
   obtain ⟨he,hsz⟩:=Rep.str_raw hr
   obtain rfl:c0=_:=by simpa using he
   clear he hr
   have hb:=fun q=>vName_bad hlt q
   have hx:=fun q=>vName_next hlt q HN.out
   generalize n[k]=s at *
   have HB:=hD hb;have HX:=hD hx;have HSZ:=hD hsz;clear hb hx hsz
   go_wp2_with fail
   refine (specValidPart_c HSZ.out).mono ?_
   rintro e w1 ⟨rfl,hw⟩
   obtain rfl:=hw.symm
   cases hv:vPart s
   · have HT:=hD (HB.out hv)
     go_wp2
     go_ret
     exact ⟨kT HT.out.symm,EB2⟩
   have HT:=hD (HX.out hv)
   go_wp2
   go_roundw
   case rel=>exact ⟨k + 1,by omega,by go_num,HT,hbel⟩
   simp [intOf];omega
 have HT:=hD (vName_good HN.out hlt hk)
 go_wp2
 go_ret
 exact ⟨kT (by rw [HT.out];simp;try omega),EB2⟩
set_option maxHeartbeats 400000 in
theorem implValidName1_c {w:World} {s:ByteArray} (hs:s.size≤maxLen):Calls Tryz.prog 209 (#[.string s]++#[]) w fun e w'=>e=.returned (.bool (!vPart s))∧Below w.heap.size w w':=by
 show Calls Tryz.prog 209 #[_] w _
 go_enter Tryz.func209,Tryz.ntmps209
 go_wp2_with fail
 refine (implValidPart_c hs).mono ?_
 rintro e w1 ⟨rfl,hw⟩
 obtain rfl:=hw.symm
 go_wp2
 go_ret
 exact ⟨rfl,Below.refl _ _⟩
theorem callable_implValidName1_c:Callable Tryz.prog 209:=callable_of Tryz.func209 (by kernel_rfl) (by kernel_rfl)
set_option maxRecDepth 100000 in
set_option maxHeartbeats 1000000 in
theorem implValidName_c {w:World} {cn:List Value} {n:LName} (hn:RName.raw w cn n):Calls Tryz.prog 140 #[.agg cn.toArray] w fun e w'=>e=.returned (.bool (vName n))∧Below w.heap.size w w':=by
 obtain ⟨av,rfl,a_0⟩:=RName_raw hn
 obtain ⟨aa,capa,hva,la⟩:=Rep.kR a_0;obtain rfl:av=_:=by simpa using hva
 clear hn hva
 have HV:=hD (vName_idx n)
 go_enter Tryz.func140,Tryz.ntmps140
 by_cases hl:n.length≤6
 · have hd:decide ((n.length:Int)≤6)=true:=by simp;omega
   have hdn:decide (n.length≤6)=true:=by simpa using hl
   go_wp2_with fail
   refine (ContainsFunc_String_c (fun p=>!vPart p) callable_implValidName1_c (a_0.below (by repeat (first|(with_reducible exact Below.refl _ _) | refine Below.alloc ?_ (by simp;try omega) _ | refine Below.drew ?_ | refine Below.setCell ?_ (by simp;try omega) _))) ?_).mono ?_
   · intro wr hb i h c hr
     obtain ⟨he,hsz⟩:=Rep.str_raw hr
     obtain rfl:c=_:=by simpa using he
     exact implValidName1_c hsz
   rintro e w1 ⟨rfl,hb1⟩
   have EF:Below w.heap.size w w1:=Below.trans (by repeat (first|(with_reducible exact Below.refl _ _) | refine Below.alloc ?_ (by simp;try omega) _ | refine Below.drew ?_ | refine Below.setCell ?_ (by simp;try omega) _)) (hb1.mono (by simp))
   clear hb1
   go_wp2
   go_ret
   exact ⟨kT (by rw [HV.out,hdn];simp),EF⟩
 have hd:decide ((n.length:Int)≤6)=false:=by simp;omega
 have hdn:decide (n.length≤6)=false:=by simpa using hl
 go_wp2
 go_ret
 exact ⟨kT (by rw [HV.out,hdn];rfl),(by repeat (first|(with_reducible exact Below.refl _ _) | refine Below.alloc ?_ (by simp;try omega) _ | refine Below.drew ?_ | refine Below.setCell ?_ (by simp;try omega) _))⟩
end Go.Proofs.YtomdenfcfbkfbaaGreat

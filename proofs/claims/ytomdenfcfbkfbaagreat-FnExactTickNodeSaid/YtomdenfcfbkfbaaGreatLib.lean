/-
  The library's functions on slices, at the program's types. Printed by genlib.py.
-/
import Derived.Test.YtomdenfcfbkfbaaGreatBase
import Derived.Test.YtomdenfcfbkfbaaGreatProg
import Derived.Test.YtomdenfcfbkfbaaGreatTypes
import Derived.WalkKit
import Derived.WalkSpells
import Derived.WalkLawsBesides
import Derived.BigQuiet
import Derived.Deep.QuietTactic
import Derived.StillTailTactics
namespace Go.Proofs.YtomdenfcfbkfbaaGreat
open Go.RowKit
set_option linter.unusedVariables false
def idxOf {α:Type} (p:α→Bool) (l:List α):Int:=match l.findIdx? p with | some i=>i | none=>-1
theorem idxOf_hit {α:Type} {p:α→Bool} {x:List α} {k:Nat} (hlt:k < x.length) (hp:p x[k]=true) (hno:∀ j,(h:j < k)→(h2:j < x.length)→p x[j]=false):idxOf p x=k:=by
 unfold idxOf
 have:x.findIdx? p=some k:=by
  rw [List.findIdx?_eq_some_iff_getElem]
  exact ⟨hlt,hp,fun j hj=>by simpa using hno j hj (by omega)⟩
 rw [this]
theorem idxOf_miss {α:Type} {p:α→Bool} {x:List α} {k:Nat} (hlt:¬ k < x.length) (hno:∀ j,(h:j < k)→(h2:j < x.length)→p x[j]=false):idxOf p x=-1:=by
 unfold idxOf
 have:x.findIdx? p=none:=by
  rw [List.findIdx?_eq_none_iff]
  intro y hy
  obtain ⟨j,hj,rfl⟩:=List.getElem_of_mem hy
  simpa using hno j (by omega) hj
 rw [this]
theorem no_succ {α:Type} {p:α→Bool} {x:List α} {k:Nat} (hlt:k < x.length) (hp:p x[k]=false) (hno:∀ j,(h:j < k)→(h2:j < x.length)→p x[j]=false):∀ j,(h:j < k + 1)→(h2:j < x.length)→p x[j]=false:=by
 intro j h h2
 by_cases q:j=k
 · subst q;exact hp
 exact hno j (by omega) h2
def Callable (P:Program) (g:FuncId):Prop:=∀ vs W,(callFunc g vs).run P W=.ok (.enter g vs) W
theorem callable_of {P:Program} {g:FuncId} {fn:Func} (hf:P.funcs[g]?=some fn) (hn:(fn.name == "runtime.NumGoroutine")=false) (hb:fn.body.isNone=false):Callable P g:=by
 intro vs W
 have hp:(program:Sem Program).run P W=.ok P W:=rfl
 have hn':¬ (fn.name = "runtime.NumGoroutine"):=by simpa using hn
 unfold callFunc
 simp only [Sem.run_bind,hp,Result.andThen_ok,hf,hn,hb,Bool.false_eq_true,if_false,Sem.run_pure]
set_option maxHeartbeats 400000 in
theorem IndexFunc_Int_c {w:World} {va:Value} {x:List Int} {g:FuncId} {cp:Array Value} (p:Int→Bool) (hg:Callable Tryz.prog g) (ha:(Rep.slice 3 Rep.int).raw w [va] x)
    (hcl:∀ wr,Below w.heap.size w wr→∀ (i:Nat) (h:i < x.length) c,Rep.int.raw wr [c] x[i]→Calls Tryz.prog g (#[c]++cp) wr (fun e w'=>e=.returned (.bool (p x[i]))∧Below wr.heap.size wr w')) :
    Calls Tryz.prog 197 #[va,.func (.func g) #[] cp] w fun e w'=>e=.returned (.int .i64 (idxOf p x))∧Below w.heap.size w w':=by
 obtain ⟨aa,capa,hva,la⟩:=Rep.kR ha;obtain rfl:va=_:=by simpa using hva
 clear hva
 have HCL:=hD hcl;clear hcl
 unfold Callable at hg
 go_enter Tryz.func197,Tryz.ntmps197
 go_wp2
 go_loopw [8] (fun i wr=>∃ k:Nat,k≤x.length∧i=.int .i64 k∧(∀ j,(h:j < k)→(h2:j < x.length)→p x[j]=false)∧Below w.heap.size w wr) (fun i _=>x.length - (intOf i).toNat)
 case atStart=>exact ⟨0,Nat.zero_le _,rfl,fun _ h=>by omega,Below.refl _ _⟩
 obtain ⟨k,hk,rfl,hno,hbel⟩:=hrel
 have HN:=hD hno;clear hno
 by_cases hlt:k < x.length
 · obtain ⟨ba,offa,rfl,c0,hr,A0⟩:=Rep.get1 (ha.below hbel) hlt rfl
   have C:=HCL.out wr hbel k hlt _ hr
   obtain ⟨he,_⟩:=Rep.int_raw hr
   obtain rfl:c0=_:=by simpa using he
   clear he hr
   by_cases hp:p x[k]=true
   · rw [hp] at C
     have HC:=hD C;clear C
     have HT:=hD (idxOf_hit hlt hp HN.out);clear hp
     go_wp2_with fail
     refine HC.out.mono ?_
     rintro e w1 ⟨rfl,hb1⟩
     go_wp2
     go_ret
     exact ⟨ret_int HT.out.symm,hbel.trans (hb1.mono hbel.size)⟩
   have hp:p x[k]=false:=by simpa using hp
   rw [hp] at C
   have HC:=hD C;clear C
   have HT:=hD (no_succ hlt hp HN.out);clear hp
   go_wp2_with fail
   refine HC.out.mono ?_
   rintro e w1 ⟨rfl,hb1⟩
   go_wp2
   go_roundw
   case rel=>exact ⟨k + 1,by omega,by go_num,HT.out,hbel.trans (hb1.mono hbel.size)⟩
   simp [intOf];omega
 have HT:=hD (idxOf_miss hlt HN.out)
 go_wp2
 go_ret
 exact ⟨ret_int HT.out.symm,hbel⟩
set_option maxHeartbeats 400000 in
theorem IndexFunc_String_c {w:World} {va:Value} {x:List ByteArray} {g:FuncId} {cp:Array Value} (p:ByteArray→Bool) (hg:Callable Tryz.prog g) (ha:(Rep.slice 9 Rep.str).raw w [va] x)
    (hcl:∀ wr,Below w.heap.size w wr→∀ (i:Nat) (h:i < x.length) c,Rep.str.raw wr [c] x[i]→Calls Tryz.prog g (#[c]++cp) wr (fun e w'=>e=.returned (.bool (p x[i]))∧Below wr.heap.size wr w')) :
    Calls Tryz.prog 230 #[va,.func (.func g) #[] cp] w fun e w'=>e=.returned (.int .i64 (idxOf p x))∧Below w.heap.size w w':=by
 obtain ⟨aa,capa,hva,la⟩:=Rep.kR ha;obtain rfl:va=_:=by simpa using hva
 clear hva
 have HCL:=hD hcl;clear hcl
 unfold Callable at hg
 go_enter Tryz.func230,Tryz.ntmps230
 go_wp2
 go_loopw [8] (fun i wr=>∃ k:Nat,k≤x.length∧i=.int .i64 k∧(∀ j,(h:j < k)→(h2:j < x.length)→p x[j]=false)∧Below w.heap.size w wr) (fun i _=>x.length - (intOf i).toNat)
 case atStart=>exact ⟨0,Nat.zero_le _,rfl,fun _ h=>by omega,Below.refl _ _⟩
 obtain ⟨k,hk,rfl,hno,hbel⟩:=hrel
 have HN:=hD hno;clear hno
 by_cases hlt:k < x.length
 · obtain ⟨ba,offa,rfl,c0,hr,A0⟩:=Rep.get1 (ha.below hbel) hlt rfl
   have C:=HCL.out wr hbel k hlt _ hr
   obtain ⟨he,_⟩:=Rep.str_raw hr
   obtain rfl:c0=_:=by simpa using he
   clear he hr
   by_cases hp:p x[k]=true
   · rw [hp] at C
     have HC:=hD C;clear C
     have HT:=hD (idxOf_hit hlt hp HN.out);clear hp
     go_wp2_with fail
     refine HC.out.mono ?_
     rintro e w1 ⟨rfl,hb1⟩
     go_wp2
     go_ret
     exact ⟨ret_int HT.out.symm,hbel.trans (hb1.mono hbel.size)⟩
   have hp:p x[k]=false:=by simpa using hp
   rw [hp] at C
   have HC:=hD C;clear C
   have HT:=hD (no_succ hlt hp HN.out);clear hp
   go_wp2_with fail
   refine HC.out.mono ?_
   rintro e w1 ⟨rfl,hb1⟩
   go_wp2
   go_roundw
   case rel=>exact ⟨k + 1,by omega,by go_num,HT.out,hbel.trans (hb1.mono hbel.size)⟩
   simp [intOf];omega
 have HT:=hD (idxOf_miss hlt HN.out)
 go_wp2
 go_ret
 exact ⟨ret_int HT.out.symm,hbel⟩
set_option maxHeartbeats 400000 in
theorem ContainsFunc_String_c {w:World} {va:Value} {x:List ByteArray} {g:FuncId} {cp:Array Value} (p:ByteArray→Bool) (hg:Callable Tryz.prog g) (ha:(Rep.slice 9 Rep.str).raw w [va] x)
    (hcl:∀ wr,Below w.heap.size w wr→∀ (i:Nat) (h:i < x.length) c,Rep.str.raw wr [c] x[i]→Calls Tryz.prog g (#[c]++cp) wr (fun e w'=>e=.returned (.bool (p x[i]))∧Below wr.heap.size wr w')) :
    Calls Tryz.prog 208 #[va,.func (.func g) #[] cp] w fun e w'=>e=.returned (.bool (decide (0≤idxOf p x)))∧Below w.heap.size w w':=by
 have HCL:=hD hcl;clear hcl
 go_enter Tryz.func208,Tryz.ntmps208
 go_wp2_with fail
 refine (IndexFunc_String_c p hg ha HCL.out).mono ?_
 rintro e w1 ⟨rfl,hb1⟩
 go_wp2
 go_ret
 exact ⟨rfl,hb1⟩
set_option maxHeartbeats 400000 in
theorem IndexFunc_Measurement_c {w:World} {va:Value} {x:List kQ} {g:FuncId} {cp:Array Value} (p:kQ→Bool) (hg:Callable Tryz.prog g) (ha:(Rep.slice 166 kI).raw w [va] x)
    (hcl:∀ wr,Below w.heap.size w wr→∀ (i:Nat) (h:i < x.length) cs,kI.raw wr cs x[i]→Calls Tryz.prog g (#[.agg cs.toArray]++cp) wr (fun e w'=>e=.returned (.bool (p x[i]))∧Below wr.heap.size wr w')) :
    Calls Tryz.prog 211 #[va,.func (.func g) #[] cp] w fun e w'=>e=.returned (.int .i64 (idxOf p x))∧Below w.heap.size w w':=by
 obtain ⟨aa,capa,hva,la⟩:=Rep.kR ha;obtain rfl:va=_:=by simpa using hva
 clear hva
 have HCL:=hD hcl;clear hcl
 unfold Callable at hg
 go_enter Tryz.func211,Tryz.ntmps211
 go_wp2
 go_loopw [8] (fun i wr=>∃ k:Nat,k≤x.length∧i=.int .i64 k∧(∀ j,(h:j < k)→(h2:j < x.length)→p x[j]=false)∧Below w.heap.size w wr) (fun i _=>x.length - (intOf i).toNat)
 case atStart=>exact ⟨0,Nat.zero_le _,rfl,fun _ h=>by omega,Below.refl _ _⟩
 obtain ⟨k,hk,rfl,hno,hbel⟩:=hrel
 have HN:=hD hno;clear hno
 by_cases hlt:k < x.length
 · obtain ⟨ba,offa,rfl,c0,c1,c2,hr,A0,A1,A2⟩:=Rep.get3 (ha.below hbel) hlt rfl
   have C:=HCL.out wr hbel k hlt _ hr
   by_cases hp:p x[k]=true
   · rw [hp] at C
     have HC:=hD C;clear C
     have HT:=hD (idxOf_hit hlt hp HN.out);clear hp
     go_wp2_with fail
     refine HC.out.mono ?_
     rintro e w1 ⟨rfl,hb1⟩
     go_wp2
     go_ret
     exact ⟨ret_int HT.out.symm,hbel.trans (hb1.mono hbel.size)⟩
   have hp:p x[k]=false:=by simpa using hp
   rw [hp] at C
   have HC:=hD C;clear C
   have HT:=hD (no_succ hlt hp HN.out);clear hp
   go_wp2_with fail
   refine HC.out.mono ?_
   rintro e w1 ⟨rfl,hb1⟩
   go_wp2
   go_roundw
   case rel=>exact ⟨k + 1,by omega,by go_num,HT.out,hbel.trans (hb1.mono hbel.size)⟩
   simp [intOf];omega
 have HT:=hD (idxOf_miss hlt HN.out)
 go_wp2
 go_ret
 exact ⟨ret_int HT.out.symm,hbel⟩
set_option maxHeartbeats 400000 in
theorem IndexFunc_Route_c {w:World} {va:Value} {x:List LRoute} {g:FuncId} {cp:Array Value} (p:LRoute→Bool) (hg:Callable Tryz.prog g) (ha:(Rep.slice 159 RRoute).raw w [va] x)
    (hcl:∀ wr,Below w.heap.size w wr→∀ (i:Nat) (h:i < x.length) cs,RRoute.raw wr cs x[i]→Calls Tryz.prog g (#[.agg cs.toArray]++cp) wr (fun e w'=>e=.returned (.bool (p x[i]))∧Below wr.heap.size wr w')) :
    Calls Tryz.prog 226 #[va,.func (.func g) #[] cp] w fun e w'=>e=.returned (.int .i64 (idxOf p x))∧Below w.heap.size w w':=by
 obtain ⟨aa,capa,hva,la⟩:=Rep.kR ha;obtain rfl:va=_:=by simpa using hva
 clear hva
 have HCL:=hD hcl;clear hcl
 unfold Callable at hg
 go_enter Tryz.func226,Tryz.ntmps226
 go_wp2
 go_loopw [8] (fun i wr=>∃ k:Nat,k≤x.length∧i=.int .i64 k∧(∀ j,(h:j < k)→(h2:j < x.length)→p x[j]=false)∧Below w.heap.size w wr) (fun i _=>x.length - (intOf i).toNat)
 case atStart=>exact ⟨0,Nat.zero_le _,rfl,fun _ h=>by omega,Below.refl _ _⟩
 obtain ⟨k,hk,rfl,hno,hbel⟩:=hrel
 have HN:=hD hno;clear hno
 by_cases hlt:k < x.length
 · obtain ⟨ba,offa,rfl,c0,c1,c2,hr,A0,A1,A2⟩:=Rep.get3 (ha.below hbel) hlt rfl
   have C:=HCL.out wr hbel k hlt _ hr
   by_cases hp:p x[k]=true
   · rw [hp] at C
     have HC:=hD C;clear C
     have HT:=hD (idxOf_hit hlt hp HN.out);clear hp
     go_wp2_with fail
     refine HC.out.mono ?_
     rintro e w1 ⟨rfl,hb1⟩
     go_wp2
     go_ret
     exact ⟨ret_int HT.out.symm,hbel.trans (hb1.mono hbel.size)⟩
   have hp:p x[k]=false:=by simpa using hp
   rw [hp] at C
   have HC:=hD C;clear C
   have HT:=hD (no_succ hlt hp HN.out);clear hp
   go_wp2_with fail
   refine HC.out.mono ?_
   rintro e w1 ⟨rfl,hb1⟩
   go_wp2
   go_roundw
   case rel=>exact ⟨k + 1,by omega,by go_num,HT.out,hbel.trans (hb1.mono hbel.size)⟩
   simp [intOf];omega
 have HT:=hD (idxOf_miss hlt HN.out)
 go_wp2
 go_ret
 exact ⟨ret_int HT.out.symm,hbel⟩
set_option maxHeartbeats 400000 in
theorem IndexFunc_Requester_c {w:World} {va:Value} {x:List LRequester} {g:FuncId} {cp:Array Value} (p:LRequester→Bool) (hg:Callable Tryz.prog g) (ha:(Rep.slice 81 kM).raw w [va] x)
    (hcl:∀ wr,Below w.heap.size w wr→∀ (i:Nat) (h:i < x.length) cs,kM.raw wr cs x[i]→Calls Tryz.prog g (#[.agg cs.toArray]++cp) wr (fun e w'=>e=.returned (.bool (p x[i]))∧Below wr.heap.size wr w')) :
    Calls Tryz.prog 175 #[va,.func (.func g) #[] cp] w fun e w'=>e=.returned (.int .i64 (idxOf p x))∧Below w.heap.size w w':=by
 obtain ⟨aa,capa,hva,la⟩:=Rep.kR ha;obtain rfl:va=_:=by simpa using hva
 clear hva
 have HCL:=hD hcl;clear hcl
 unfold Callable at hg
 go_enter Tryz.func175,Tryz.ntmps175
 go_wp2
 go_loopw [8] (fun i wr=>∃ k:Nat,k≤x.length∧i=.int .i64 k∧(∀ j,(h:j < k)→(h2:j < x.length)→p x[j]=false)∧Below w.heap.size w wr) (fun i _=>x.length - (intOf i).toNat)
 case atStart=>exact ⟨0,Nat.zero_le _,rfl,fun _ h=>by omega,Below.refl _ _⟩
 obtain ⟨k,hk,rfl,hno,hbel⟩:=hrel
 have HN:=hD hno;clear hno
 by_cases hlt:k < x.length
 · obtain ⟨ba,offa,rfl,c0,c1,c2,hr,A0,A1,A2⟩:=Rep.get3 (ha.below hbel) hlt rfl
   have C:=HCL.out wr hbel k hlt _ hr
   by_cases hp:p x[k]=true
   · rw [hp] at C
     have HC:=hD C;clear C
     have HT:=hD (idxOf_hit hlt hp HN.out);clear hp
     go_wp2_with fail
     refine HC.out.mono ?_
     rintro e w1 ⟨rfl,hb1⟩
     go_wp2
     go_ret
     exact ⟨ret_int HT.out.symm,hbel.trans (hb1.mono hbel.size)⟩
   have hp:p x[k]=false:=by simpa using hp
   rw [hp] at C
   have HC:=hD C;clear C
   have HT:=hD (no_succ hlt hp HN.out);clear hp
   go_wp2_with fail
   refine HC.out.mono ?_
   rintro e w1 ⟨rfl,hb1⟩
   go_wp2
   go_roundw
   case rel=>exact ⟨k + 1,by omega,by go_num,HT.out,hbel.trans (hb1.mono hbel.size)⟩
   simp [intOf];omega
 have HT:=hD (idxOf_miss hlt HN.out)
 go_wp2
 go_ret
 exact ⟨ret_int HT.out.symm,hbel⟩
set_option maxHeartbeats 400000 in
theorem IndexFunc_PendingInterest_c {w:World} {va:Value} {x:List kP} {g:FuncId} {cp:Array Value} (p:kP→Bool) (hg:Callable Tryz.prog g) (ha:(Rep.slice 77 kH).raw w [va] x)
    (hcl:∀ wr,Below w.heap.size w wr→∀ (i:Nat) (h:i < x.length) cs,kH.raw wr cs x[i]→Calls Tryz.prog g (#[.agg cs.toArray]++cp) wr (fun e w'=>e=.returned (.bool (p x[i]))∧Below wr.heap.size wr w')) :
    Calls Tryz.prog 193 #[va,.func (.func g) #[] cp] w fun e w'=>e=.returned (.int .i64 (idxOf p x))∧Below w.heap.size w w':=by
 obtain ⟨aa,capa,hva,la⟩:=Rep.kR ha;obtain rfl:va=_:=by simpa using hva
 clear hva
 have HCL:=hD hcl;clear hcl
 unfold Callable at hg
 go_enter Tryz.func193,Tryz.ntmps193
 go_wp2
 go_loopw [8] (fun i wr=>∃ k:Nat,k≤x.length∧i=.int .i64 k∧(∀ j,(h:j < k)→(h2:j < x.length)→p x[j]=false)∧Below w.heap.size w wr) (fun i _=>x.length - (intOf i).toNat)
 case atStart=>exact ⟨0,Nat.zero_le _,rfl,fun _ h=>by omega,Below.refl _ _⟩
 obtain ⟨k,hk,rfl,hno,hbel⟩:=hrel
 have HN:=hD hno;clear hno
 by_cases hlt:k < x.length
 · obtain ⟨ba,offa,rfl,c0,c1,c2,hr,A0,A1,A2⟩:=Rep.get3 (ha.below hbel) hlt rfl
   have C:=HCL.out wr hbel k hlt _ hr
   by_cases hp:p x[k]=true
   · rw [hp] at C
     have HC:=hD C;clear C
     have HT:=hD (idxOf_hit hlt hp HN.out);clear hp
     go_wp2_with fail
     refine HC.out.mono ?_
     rintro e w1 ⟨rfl,hb1⟩
     go_wp2
     go_ret
     exact ⟨ret_int HT.out.symm,hbel.trans (hb1.mono hbel.size)⟩
   have hp:p x[k]=false:=by simpa using hp
   rw [hp] at C
   have HC:=hD C;clear C
   have HT:=hD (no_succ hlt hp HN.out);clear hp
   go_wp2_with fail
   refine HC.out.mono ?_
   rintro e w1 ⟨rfl,hb1⟩
   go_wp2
   go_roundw
   case rel=>exact ⟨k + 1,by omega,by go_num,HT.out,hbel.trans (hb1.mono hbel.size)⟩
   simp [intOf];omega
 have HT:=hD (idxOf_miss hlt HN.out)
 go_wp2
 go_ret
 exact ⟨ret_int HT.out.symm,hbel⟩
end Go.Proofs.YtomdenfcfbkfbaaGreat

/-
  The library's functions on slices, at the program's types. Printed by genlib.py.
-/
import Derived.Test.YtpgnbablhdknnaaProg
import Derived.Test.YtpgnbablhdknnaaBig
import Derived.WalkLawsBesides
import Derived.BigQuiet
import Derived.Deep.QuietTactic
import Derived.StillTailTactics
set_option linter.unusedVariables false
set_option linter.unusedSimpArgs false
set_option linter.unnecessarySimpa false
set_option maxHeartbeats 4000000
namespace Go.Proofs.Ytpgnbablhdknnaa
open Go.RowKit
def idxOf {α:Type} (p:α→Bool) (l:List α):Int:=match l.findIdx? p with | some i=>i | none=>-1
theorem idxOf_hit {α:Type} {p:α→Bool} {x:List α} {k:Nat} (hlt:k < x.length) (hp:p x[k]=true) (hno:∀ j,(h:j < k)→(h2:j < x.length)→p x[j]=false):idxOf p x=k:=by
 unfold idxOf
 have:x.findIdx? p=some k:=by
  rw [List.findIdx?_eq_some_iff_getElem]
  exact ⟨hlt,hp,fun j hj=>by simpa using hno j hj gV⟩
 rw [this]
theorem idxOf_miss {α:Type} {p:α→Bool} {x:List α} {k:Nat} (hlt:¬ k < x.length) (hno:∀ j,(h:j < k)→(h2:j < x.length)→p x[j]=false):idxOf p x=-1:=by
 unfold idxOf
 have:x.findIdx? p=none:=by
  rw [List.findIdx?_eq_none_iff]
  intro y hy
  obtain ⟨j,hj,rfl⟩:=List.getElem_of_mem hy
  simpa using hno j gV hj
 rw [this]
theorem kEn {α:Type} {p:α→Bool} {x:List α} {k:Nat} (hlt:k < x.length) (hp:p x[k]=false) (hno:∀ j,(h:j < k)→(h2:j < x.length)→p x[j]=false):∀ j,(h:j < k + 1)→(h2:j < x.length)→p x[j]=false:=by
 intro j h h2
 by_cases q:j=k
 · subst q;exact hp
 exact hno j gV h2
def jG (P:Program) (g:FuncId):Prop:=∀ vs W,(callFunc g vs).run P W=.ok (.enter g vs) W
theorem jr {P:Program} {g:FuncId} {fn:Func} (hf:P.funcs[g]?=some fn) (hn:(fn.name == "runtime.NumGoroutine")=false) (hb:fn.body.isNone=false):jG P g:=by
 intro vs W
 have hp:(program:Sem Program).run P W=.ok P W:=rfl
 have hn':¬ (fn.name = "runtime.NumGoroutine"):=by simpa using hn
 unfold callFunc
 simp only [Sem.run_bind,hp,Result.andThen_ok,hf,hn,hb,Bool.false_eq_true,if_false,Sem.run_pure]
theorem kEd {w:World} {va:Value} {x:List ByteArray} {g:FuncId} {cp:Array Value} (p:ByteArray→Bool) (hg:jG Try.prog g) (ha:(Rep.slice 9 Rep.str).raw w [va] x)
    (hcl:∀ wr,Below w.heap.size w wr→∀ (i:Nat) (h:i < x.length) c,Rep.str.raw wr [c] x[i]→Calls Try.prog g (#[c]++cp) wr (fun e w'=>e=.returned (.bool (p x[i]))∧Below wr.heap.size wr w')) :
    Calls Try.prog 98 #[va,.func (.func g) #[] cp] w fun e w'=>e=.returned (.int .i64 (idxOf p x))∧Below w.heap.size w w':=by
 obtain ⟨aa,capa,rfl,la⟩:=Rep.sl ha
 have HCL:=yD hcl;clear hcl
 unfold jG at hg
 go_enter Try.func98,Try.ntmps98
 go_wp2
 go_loopw [8] (fun i wr=>∃ k:Nat,k≤x.length∧i=.int .i64 k∧(∀ j,(h:j < k)→(h2:j < x.length)→p x[j]=false)∧Below w.heap.size w wr) (fun i _=>x.length - (intOf i).toNat)
 case atStart=>exact ⟨0,Nat.zero_le _,rfl,fun _ h=>by omega,bR⟩
 obtain ⟨k,hk,rfl,hno,hbel⟩:=hrel
 have HN:=yD hno;clear hno
 by_cases hlt:k < x.length
 · obtain ⟨ba,offa,rfl,c0,hr,A0⟩:=Rep.get1 (ha.below hbel) hlt rfl
   have C:=HCL.out wr hbel k hlt _ hr
   obtain ⟨he,_⟩:=Rep.yY hr
   obtain rfl:c0=_:=by simpa using he
   clear he hr
   by_cases hp:p x[k]=true
   · rw [hp] at C
     have HC:=yD C;clear C
     have HT:=yD (idxOf_hit hlt hp HN.out);clear hp
     go_wp2_with fail
     refine HC.out.mono ?_
     rintro e w1 ⟨rfl,hb1⟩
     go_wp2
     go_ret
     exact ⟨jS HT.out.symm,(tQ hbel hb1)⟩
   have hp:p x[k]=false:=gK
   rw [hp] at C
   have HC:=yD C;clear C
   have HT:=yD (kEn hlt hp HN.out);clear hp
   go_wp2_with fail
   refine HC.out.mono ?_
   rintro e w1 ⟨rfl,hb1⟩
   go_wp2
   go_roundw
   case rel=>exact ⟨k + 1,by omega,by go_num,HT.out,(tQ hbel hb1)⟩
   simp [intOf];omega
 have HT:=yD (idxOf_miss hlt HN.out)
 go_wp2
 go_ret
 exact ⟨jS HT.out.symm,hbel⟩
theorem kCg {w:World} {va:Value} {x:List ByteArray} {g:FuncId} {cp:Array Value} (p:ByteArray→Bool) (hg:jG Try.prog g) (ha:(Rep.slice 9 Rep.str).raw w [va] x)
    (hcl:∀ wr,Below w.heap.size w wr→∀ (i:Nat) (h:i < x.length) c,Rep.str.raw wr [c] x[i]→Calls Try.prog g (#[c]++cp) wr (fun e w'=>e=.returned (.bool (p x[i]))∧Below wr.heap.size wr w')) :
    Calls Try.prog 88 #[va,.func (.func g) #[] cp] w fun e w'=>e=.returned (.bool (decide (0≤idxOf p x)))∧Below w.heap.size w w':=by
 have HCL:=yD hcl;clear hcl
 go_enter Try.func88,Try.ntmps88
 go_wp2_with fail
 refine (kEd p hg ha HCL.out).mono ?_
 rintro e w1 ⟨rfl,hb1⟩
 go_wp2
 go_ret
 exact ⟨rfl,hb1⟩
theorem yG {w:World} {va:Value} {x:List kH} {g:FuncId} {cp:Array Value} (p:kH→Bool) (hg:jG Try.prog g) (ha:(Rep.slice 56 kF).raw w [va] x)
    (hcl:∀ wr,Below w.heap.size w wr→∀ (i:Nat) (h:i < x.length) cs,kF.raw wr cs x[i]→Calls Try.prog g (#[.agg cs.toArray]++cp) wr (fun e w'=>e=.returned (.bool (p x[i]))∧Below wr.heap.size wr w')) :
    Calls Try.prog 41 #[va,.func (.func g) #[] cp] w fun e w'=>e=.returned (.int .i64 (idxOf p x))∧Below w.heap.size w w':=by
 obtain ⟨aa,capa,rfl,la⟩:=Rep.sl ha
 have HCL:=yD hcl;clear hcl
 unfold jG at hg
 go_enter Try.func41,Try.ntmps41
 go_wp2
 go_loopw [8] (fun i wr=>∃ k:Nat,k≤x.length∧i=.int .i64 k∧(∀ j,(h:j < k)→(h2:j < x.length)→p x[j]=false)∧Below w.heap.size w wr) (fun i _=>x.length - (intOf i).toNat)
 case atStart=>exact ⟨0,Nat.zero_le _,rfl,fun _ h=>by omega,bR⟩
 obtain ⟨k,hk,rfl,hno,hbel⟩:=hrel
 have HN:=yD hno;clear hno
 by_cases hlt:k < x.length
 · obtain ⟨ba,offa,rfl,c0,c1,c2,hr,A0,A1,A2⟩:=Rep.yP (ha.below hbel) hlt rfl
   have C:=HCL.out wr hbel k hlt _ hr
   by_cases hp:p x[k]=true
   · rw [hp] at C
     have HC:=yD C;clear C
     have HT:=yD (idxOf_hit hlt hp HN.out);clear hp
     go_wp2_with fail
     refine HC.out.mono ?_
     rintro e w1 ⟨rfl,hb1⟩
     go_wp2
     go_ret
     exact ⟨jS HT.out.symm,(tQ hbel hb1)⟩
   have hp:p x[k]=false:=gK
   rw [hp] at C
   have HC:=yD C;clear C
   have HT:=yD (kEn hlt hp HN.out);clear hp
   go_wp2_with fail
   refine HC.out.mono ?_
   rintro e w1 ⟨rfl,hb1⟩
   go_wp2
   go_roundw
   case rel=>exact ⟨k + 1,by omega,by go_num,HT.out,(tQ hbel hb1)⟩
   simp [intOf];omega
 have HT:=yD (idxOf_miss hlt HN.out)
 go_wp2
 go_ret
 exact ⟨jS HT.out.symm,hbel⟩
theorem kAu {w:World} {va:Value} {x:List kH} {g:FuncId} {cp:Array Value} (p:kH→Bool) (hg:jG Try.prog g) (ha:(Rep.slice 56 kF).raw w [va] x)
    (hcl:∀ wr,Below w.heap.size w wr→∀ (i:Nat) (h:i < x.length) cs,kF.raw wr cs x[i]→Calls Try.prog g (#[.agg cs.toArray]++cp) wr (fun e w'=>e=.returned (.bool (p x[i]))∧Below wr.heap.size wr w')) :
    Calls Try.prog 60 #[va,.func (.func g) #[] cp] w fun e w'=>e=.returned (.bool (decide (0≤idxOf p x)))∧Below w.heap.size w w':=by
 have HCL:=yD hcl;clear hcl
 go_enter Try.func60,Try.ntmps60
 go_wp2_with fail
 refine (yG p hg ha HCL.out).mono ?_
 rintro e w1 ⟨rfl,hb1⟩
 go_wp2
 go_ret
 exact ⟨rfl,hb1⟩
theorem zk {w:World} {va:Value} {x:List kD} {g:FuncId} {cp:Array Value} (p:kD→Bool) (hg:jG Try.prog g) (ha:(Rep.slice 67 kE).raw w [va] x)
    (hcl:∀ wr,Below w.heap.size w wr→∀ (i:Nat) (h:i < x.length) cs,kE.raw wr cs x[i]→Calls Try.prog g (#[.agg cs.toArray]++cp) wr (fun e w'=>e=.returned (.bool (p x[i]))∧Below wr.heap.size wr w')) :
    Calls Try.prog 77 #[va,.func (.func g) #[] cp] w fun e w'=>e=.returned (.int .i64 (idxOf p x))∧Below w.heap.size w w':=by
 obtain ⟨aa,capa,rfl,la⟩:=Rep.sl ha
 have HCL:=yD hcl;clear hcl
 unfold jG at hg
 go_enter Try.func77,Try.ntmps77
 go_wp2
 go_loopw [8] (fun i wr=>∃ k:Nat,k≤x.length∧i=.int .i64 k∧(∀ j,(h:j < k)→(h2:j < x.length)→p x[j]=false)∧Below w.heap.size w wr) (fun i _=>x.length - (intOf i).toNat)
 case atStart=>exact ⟨0,Nat.zero_le _,rfl,fun _ h=>by omega,bR⟩
 obtain ⟨k,hk,rfl,hno,hbel⟩:=hrel
 have HN:=yD hno;clear hno
 by_cases hlt:k < x.length
 · obtain ⟨ba,offa,rfl,c0,c1,c2,hr,A0,A1,A2⟩:=Rep.yP (ha.below hbel) hlt rfl
   have C:=HCL.out wr hbel k hlt _ hr
   by_cases hp:p x[k]=true
   · rw [hp] at C
     have HC:=yD C;clear C
     have HT:=yD (idxOf_hit hlt hp HN.out);clear hp
     go_wp2_with fail
     refine HC.out.mono ?_
     rintro e w1 ⟨rfl,hb1⟩
     go_wp2
     go_ret
     exact ⟨jS HT.out.symm,(tQ hbel hb1)⟩
   have hp:p x[k]=false:=gK
   rw [hp] at C
   have HC:=yD C;clear C
   have HT:=yD (kEn hlt hp HN.out);clear hp
   go_wp2_with fail
   refine HC.out.mono ?_
   rintro e w1 ⟨rfl,hb1⟩
   go_wp2
   go_roundw
   case rel=>exact ⟨k + 1,by omega,by go_num,HT.out,(tQ hbel hb1)⟩
   simp [intOf];omega
 have HT:=yD (idxOf_miss hlt HN.out)
 go_wp2
 go_ret
 exact ⟨jS HT.out.symm,hbel⟩
theorem kCf {w:World} {va:Value} {x:List kz} {g:FuncId} {cp:Array Value} (p:kz→Bool) (hg:jG Try.prog g) (ha:(Rep.slice 77 ky).raw w [va] x)
    (hcl:∀ wr,Below w.heap.size w wr→∀ (i:Nat) (h:i < x.length) cs,ky.raw wr cs x[i]→Calls Try.prog g (#[.agg cs.toArray]++cp) wr (fun e w'=>e=.returned (.bool (p x[i]))∧Below wr.heap.size wr w')) :
    Calls Try.prog 86 #[va,.func (.func g) #[] cp] w fun e w'=>e=.returned (.int .i64 (idxOf p x))∧Below w.heap.size w w':=by
 obtain ⟨aa,capa,rfl,la⟩:=Rep.sl ha
 have HCL:=yD hcl;clear hcl
 unfold jG at hg
 go_enter Try.func86,Try.ntmps86
 go_wp2
 go_loopw [8] (fun i wr=>∃ k:Nat,k≤x.length∧i=.int .i64 k∧(∀ j,(h:j < k)→(h2:j < x.length)→p x[j]=false)∧Below w.heap.size w wr) (fun i _=>x.length - (intOf i).toNat)
 case atStart=>exact ⟨0,Nat.zero_le _,rfl,fun _ h=>by omega,bR⟩
 obtain ⟨k,hk,rfl,hno,hbel⟩:=hrel
 have HN:=yD hno;clear hno
 by_cases hlt:k < x.length
 · obtain ⟨ba,offa,rfl,c0,c1,hr,A0,A1⟩:=Rep.get2 (ha.below hbel) hlt rfl
   have C:=HCL.out wr hbel k hlt _ hr
   by_cases hp:p x[k]=true
   · rw [hp] at C
     have HC:=yD C;clear C
     have HT:=yD (idxOf_hit hlt hp HN.out);clear hp
     go_wp2_with fail
     refine HC.out.mono ?_
     rintro e w1 ⟨rfl,hb1⟩
     go_wp2
     go_ret
     exact ⟨jS HT.out.symm,(tQ hbel hb1)⟩
   have hp:p x[k]=false:=gK
   rw [hp] at C
   have HC:=yD C;clear C
   have HT:=yD (kEn hlt hp HN.out);clear hp
   go_wp2_with fail
   refine HC.out.mono ?_
   rintro e w1 ⟨rfl,hb1⟩
   go_wp2
   go_roundw
   case rel=>exact ⟨k + 1,by omega,by go_num,HT.out,(tQ hbel hb1)⟩
   simp [intOf];omega
 have HT:=yD (idxOf_miss hlt HN.out)
 go_wp2
 go_ret
 exact ⟨jS HT.out.symm,hbel⟩
theorem kAt {w:World} {va:Value} {x:List kz} {g:FuncId} {cp:Array Value} (p:kz→Bool) (hg:jG Try.prog g) (ha:(Rep.slice 77 ky).raw w [va] x)
    (hcl:∀ wr,Below w.heap.size w wr→∀ (i:Nat) (h:i < x.length) cs,ky.raw wr cs x[i]→Calls Try.prog g (#[.agg cs.toArray]++cp) wr (fun e w'=>e=.returned (.bool (p x[i]))∧Below wr.heap.size wr w')) :
    Calls Try.prog 62 #[va,.func (.func g) #[] cp] w fun e w'=>e=.returned (.bool (decide (0≤idxOf p x)))∧Below w.heap.size w w':=by
 have HCL:=yD hcl;clear hcl
 go_enter Try.func62,Try.ntmps62
 go_wp2_with fail
 refine (kCf p hg ha HCL.out).mono ?_
 rintro e w1 ⟨rfl,hb1⟩
 go_wp2
 go_ret
 exact ⟨rfl,hb1⟩
end Go.Proofs.Ytpgnbablhdknnaa

/-
  The library's functions on slices, at the program's types. Printed by genlib.py.
  Content stores, copied.
  Copies of lists of data.
  Copies of routes and measurements.
-/
import Derived.Test.YtlfblpgkegeaeaaGreatCopyD
set_option linter.unusedVariables false
set_option linter.unusedSimpArgs false
set_option linter.unnecessarySimpa false
set_option maxRecDepth 100000
set_option maxHeartbeats 4000000
namespace Go.Proofs.YtlfblpgkegeaeaaGreat
open Go.RowKit
def idxOf {α:Type} (p:α→Bool) (l:List α):Int:=match l.findIdx? p with | some i=>i | none=>-1
theorem idxOf_hit {α:Type} {p:α→Bool} {x:List α} {k:Nat} (hlt:k < x.length) (hp:p x[k]=true) (hno:∀ j,(h:j < k)→(h2:j < x.length)→p x[j]=false):idxOf p x=k:=by
 unfold idxOf
 have:x.findIdx? p=some k:=by
  rw [List.findIdx?_eq_some_iff_getElem]
  exact ⟨hlt,hp,fun j hj=>by simpa using hno j hj rP⟩
 rw [this]
theorem idxOf_miss {α:Type} {p:α→Bool} {x:List α} {k:Nat} (hlt:¬ k < x.length) (hno:∀ j,(h:j < k)→(h2:j < x.length)→p x[j]=false):idxOf p x=-1:=by
 unfold idxOf
 have:x.findIdx? p=none:=by
  rw [List.findIdx?_eq_none_iff]
  intro y hy
  obtain ⟨j,hj,rfl⟩:=List.getElem_of_mem hy
  simpa using hno j rP hj
 rw [this]
theorem kAk {α:Type} {p:α→Bool} {x:List α} {k:Nat} (hlt:k < x.length) (hp:p x[k]=false) (hno:∀ j,(h:j < k)→(h2:j < x.length)→p x[j]=false):∀ j,(h:j < k + 1)→(h2:j < x.length)→p x[j]=false:=by
 intro j h h2
 by_cases q:j=k
 · subst q;exact hp
 exact hno j rP h2
def jm (P:Program) (g:FuncId):Prop:=∀ vs W,(callFunc g vs).run P W=.ok (.enter g vs) W
theorem kAn {P:Program} {g:FuncId} {fn:Func} (hf:P.funcs[g]?=some fn) (hn:(fn.name == "runtime.NumGoroutine")=false) (hb:fn.body.isNone=false):jm P g:=by
 intro vs W
 have hp:(program:Sem Program).run P W=.ok P W:=rfl
 have hn':¬ (fn.name = "runtime.NumGoroutine"):=by simpa using hn
 unfold callFunc
 simp only [Sem.run_bind,hp,Result.andThen_ok,hf,hn,hb,Bool.false_eq_true,if_false,Sem.run_pure]
theorem kLh {w:World} {va:Value} {x:List ByteArray} {g:FuncId} {cp:Array Value} (p:ByteArray→Bool) (hg:jm Tryz.prog g) (ha:(Rep.slice 9 Rep.str).raw w [va] x)
    (hcl:∀ wr,Below w.heap.size w wr→∀ (i:Nat) (h:i < x.length) c,Rep.str.raw wr [c] x[i]→Calls Tryz.prog g (#[c]++cp) wr (fun e w'=>e=.returned (.bool (p x[i]))∧Below wr.heap.size wr w')) :
    Calls Tryz.prog 240 #[va,.func (.func g) #[] cp] w fun e w'=>e=.returned (.int .i64 (idxOf p x))∧Below w.heap.size w w':=by
 obtain ⟨aa,capa,rfl,la⟩:=Rep.sl ha
 have HCL:=yD hcl;clear hcl
 unfold jm at hg
 go_enter Tryz.func240,Tryz.ntmps240
 go_wp2
 go_loopw [8] (fun i wr=>∃ k:Nat,k≤x.length∧i=.int .i64 k∧(∀ j,(h:j < k)→(h2:j < x.length)→p x[j]=false)∧Below w.heap.size w wr) (fun i _=>x.length - (intOf i).toNat)
 case atStart=>exact ⟨0,Nat.zero_le _,rfl,fun _ h=>by omega,bR⟩
 obtain ⟨k,hk,rfl,hno,hbel⟩:=hrel
 have HN:=yD hno;clear hno
 by_cases hlt:k < x.length
 · obtain ⟨ba,offa,rfl,c0,hr,A0⟩:=Rep.kAy (ha.below hbel) hlt rfl
   have C:=HCL.out wr hbel k hlt _ hr
   obtain ⟨he,_⟩:=Rep.yQ hr
   obtain rfl:c0=_:=by simpa using he
   clear he hr
   by_cases hp:p x[k]=true
   · rw [hp] at C
     have HC:=yD C;clear C
     have HT:=yD (idxOf_hit hlt hp HN.out);clear hp
     go_wp2_with fail
     refine HC.out.mono ?_
     rintro e w1 ⟨rfl,hb1⟩
     go_wp2
     go_ret
     exact ⟨ku HT.out.symm,(tQ hbel hb1)⟩
   have hp:p x[k]=false:=qX
   rw [hp] at C
   have HC:=yD C;clear C
   have HT:=yD (kAk hlt hp HN.out);clear hp
   go_wp2_with fail
   refine HC.out.mono ?_
   rintro e w1 ⟨rfl,hb1⟩
   go_wp2
   go_roundw
   case rel=>exact ⟨k + 1,by omega,by go_num,HT.out,(tQ hbel hb1)⟩
   simp [intOf];omega
 have HT:=yD (idxOf_miss hlt HN.out)
 go_wp2
 go_ret
 exact ⟨ku HT.out.symm,hbel⟩
theorem kIb {w:World} {va:Value} {x:List ByteArray} {g:FuncId} {cp:Array Value} (p:ByteArray→Bool) (hg:jm Tryz.prog g) (ha:(Rep.slice 9 Rep.str).raw w [va] x)
    (hcl:∀ wr,Below w.heap.size w wr→∀ (i:Nat) (h:i < x.length) c,Rep.str.raw wr [c] x[i]→Calls Tryz.prog g (#[c]++cp) wr (fun e w'=>e=.returned (.bool (p x[i]))∧Below wr.heap.size wr w')) :
    Calls Tryz.prog 217 #[va,.func (.func g) #[] cp] w fun e w'=>e=.returned (.bool (decide (0≤idxOf p x)))∧Below w.heap.size w w':=by
 have HCL:=yD hcl;clear hcl
 go_enter Tryz.func217,Tryz.ntmps217
 go_wp2_with fail
 refine (kLh p hg ha HCL.out).mono ?_
 rintro e w1 ⟨rfl,hb1⟩
 go_wp2
 go_ret
 exact ⟨rfl,hb1⟩
theorem kOn {w:World} {va:Value} {x:List kW} {g:FuncId} {cp:Array Value} (p:kW→Bool) (hg:jm Tryz.prog g) (ha:(Rep.slice 64 kL).raw w [va] x)
    (hcl:∀ wr,Below w.heap.size w wr→∀ (i:Nat) (h:i < x.length) cs,kL.raw wr cs x[i]→Calls Tryz.prog g (#[.agg cs.toArray]++cp) wr (fun e w'=>e=.returned (.bool (p x[i]))∧Below wr.heap.size wr w')) :
    Calls Tryz.prog 237 #[va,.func (.func g) #[] cp] w fun e w'=>e=.returned (.int .i64 (idxOf p x))∧Below w.heap.size w w':=by
 obtain ⟨aa,capa,rfl,la⟩:=Rep.sl ha
 have HCL:=yD hcl;clear hcl
 unfold jm at hg
 go_enter Tryz.func237,Tryz.ntmps237
 go_wp2
 go_loopw [8] (fun i wr=>∃ k:Nat,k≤x.length∧i=.int .i64 k∧(∀ j,(h:j < k)→(h2:j < x.length)→p x[j]=false)∧Below w.heap.size w wr) (fun i _=>x.length - (intOf i).toNat)
 case atStart=>exact ⟨0,Nat.zero_le _,rfl,fun _ h=>by omega,bR⟩
 obtain ⟨k,hk,rfl,hno,hbel⟩:=hrel
 have HN:=yD hno;clear hno
 by_cases hlt:k < x.length
 · obtain ⟨ba,offa,rfl,c0,hr,A0⟩:=Rep.kAy (ha.below hbel) hlt rfl
   have C:=HCL.out wr hbel k hlt _ hr
   by_cases hp:p x[k]=true
   · rw [hp] at C
     have HC:=yD C;clear C
     have HT:=yD (idxOf_hit hlt hp HN.out);clear hp
     go_wp2_with fail
     refine HC.out.mono ?_
     rintro e w1 ⟨rfl,hb1⟩
     go_wp2
     go_ret
     exact ⟨ku HT.out.symm,(tQ hbel hb1)⟩
   have hp:p x[k]=false:=qX
   rw [hp] at C
   have HC:=yD C;clear C
   have HT:=yD (kAk hlt hp HN.out);clear hp
   go_wp2_with fail
   refine HC.out.mono ?_
   rintro e w1 ⟨rfl,hb1⟩
   go_wp2
   go_roundw
   case rel=>exact ⟨k + 1,by omega,by go_num,HT.out,(tQ hbel hb1)⟩
   simp [intOf];omega
 have HT:=yD (idxOf_miss hlt HN.out)
 go_wp2
 go_ret
 exact ⟨ku HT.out.symm,hbel⟩
theorem kJy {w:World} {va:Value} {x:List kW} {g:FuncId} {cp:Array Value} (p:kW→Bool) (hg:jm Tryz.prog g) (ha:(Rep.slice 64 kL).raw w [va] x)
    (hcl:∀ wr,Below w.heap.size w wr→∀ (i:Nat) (h:i < x.length) cs,kL.raw wr cs x[i]→Calls Tryz.prog g (#[.agg cs.toArray]++cp) wr (fun e w'=>e=.returned (.bool (p x[i]))∧Below wr.heap.size wr w')) :
    Calls Tryz.prog 211 #[va,.func (.func g) #[] cp] w fun e w'=>e=.returned (.bool (decide (0≤idxOf p x)))∧Below w.heap.size w w':=by
 have HCL:=yD hcl;clear hcl
 go_enter Tryz.func211,Tryz.ntmps211
 go_wp2_with fail
 refine (kOn p hg ha HCL.out).mono ?_
 rintro e w1 ⟨rfl,hb1⟩
 go_wp2
 go_ret
 exact ⟨rfl,hb1⟩
theorem kGr {w:World} {va:Value} {x:List kZ} {g:FuncId} {cp:Array Value} (p:kZ→Bool) (hg:jm Tryz.prog g) (ha:(Rep.slice 184 kF).raw w [va] x)
    (hcl:∀ wr,Below w.heap.size w wr→∀ (i:Nat) (h:i < x.length) cs,kF.raw wr cs x[i]→Calls Tryz.prog g (#[.agg cs.toArray]++cp) wr (fun e w'=>e=.returned (.bool (p x[i]))∧Below wr.heap.size wr w')) :
    Calls Tryz.prog 194 #[va,.func (.func g) #[] cp] w fun e w'=>e=.returned (.int .i64 (idxOf p x))∧Below w.heap.size w w':=by
 obtain ⟨aa,capa,rfl,la⟩:=Rep.sl ha
 have HCL:=yD hcl;clear hcl
 unfold jm at hg
 go_enter Tryz.func194,Tryz.ntmps194
 go_wp2
 go_loopw [8] (fun i wr=>∃ k:Nat,k≤x.length∧i=.int .i64 k∧(∀ j,(h:j < k)→(h2:j < x.length)→p x[j]=false)∧Below w.heap.size w wr) (fun i _=>x.length - (intOf i).toNat)
 case atStart=>exact ⟨0,Nat.zero_le _,rfl,fun _ h=>by omega,bR⟩
 obtain ⟨k,hk,rfl,hno,hbel⟩:=hrel
 have HN:=yD hno;clear hno
 by_cases hlt:k < x.length
 · obtain ⟨ba,offa,rfl,c0,c1,c2,hr,A0,A1,A2⟩:=Rep.kBg (ha.below hbel) hlt rfl
   have C:=HCL.out wr hbel k hlt _ hr
   by_cases hp:p x[k]=true
   · rw [hp] at C
     have HC:=yD C;clear C
     have HT:=yD (idxOf_hit hlt hp HN.out);clear hp
     go_wp2_with fail
     refine HC.out.mono ?_
     rintro e w1 ⟨rfl,hb1⟩
     go_wp2
     go_ret
     exact ⟨ku HT.out.symm,(tQ hbel hb1)⟩
   have hp:p x[k]=false:=qX
   rw [hp] at C
   have HC:=yD C;clear C
   have HT:=yD (kAk hlt hp HN.out);clear hp
   go_wp2_with fail
   refine HC.out.mono ?_
   rintro e w1 ⟨rfl,hb1⟩
   go_wp2
   go_roundw
   case rel=>exact ⟨k + 1,by omega,by go_num,HT.out,(tQ hbel hb1)⟩
   simp [intOf];omega
 have HT:=yD (idxOf_miss hlt HN.out)
 go_wp2
 go_ret
 exact ⟨ku HT.out.symm,hbel⟩
theorem kEv {w:World} {va:Value} {x:List kS} {g:FuncId} {cp:Array Value} (p:kS→Bool) (hg:jm Tryz.prog g) (ha:(Rep.slice 175 kE).raw w [va] x)
    (hcl:∀ wr,Below w.heap.size w wr→∀ (i:Nat) (h:i < x.length) cs,kE.raw wr cs x[i]→Calls Tryz.prog g (#[.agg cs.toArray]++cp) wr (fun e w'=>e=.returned (.bool (p x[i]))∧Below wr.heap.size wr w')) :
    Calls Tryz.prog 177 #[va,.func (.func g) #[] cp] w fun e w'=>e=.returned (.int .i64 (idxOf p x))∧Below w.heap.size w w':=by
 obtain ⟨aa,capa,rfl,la⟩:=Rep.sl ha
 have HCL:=yD hcl;clear hcl
 unfold jm at hg
 go_enter Tryz.func177,Tryz.ntmps177
 go_wp2
 go_loopw [8] (fun i wr=>∃ k:Nat,k≤x.length∧i=.int .i64 k∧(∀ j,(h:j < k)→(h2:j < x.length)→p x[j]=false)∧Below w.heap.size w wr) (fun i _=>x.length - (intOf i).toNat)
 case atStart=>exact ⟨0,Nat.zero_le _,rfl,fun _ h=>by omega,bR⟩
 obtain ⟨k,hk,rfl,hno,hbel⟩:=hrel
 have HN:=yD hno;clear hno
 by_cases hlt:k < x.length
 · obtain ⟨ba,offa,rfl,c0,c1,c2,hr,A0,A1,A2⟩:=Rep.kBg (ha.below hbel) hlt rfl
   have C:=HCL.out wr hbel k hlt _ hr
   by_cases hp:p x[k]=true
   · rw [hp] at C
     have HC:=yD C;clear C
     have HT:=yD (idxOf_hit hlt hp HN.out);clear hp
     go_wp2_with fail
     refine HC.out.mono ?_
     rintro e w1 ⟨rfl,hb1⟩
     go_wp2
     go_ret
     exact ⟨ku HT.out.symm,(tQ hbel hb1)⟩
   have hp:p x[k]=false:=qX
   rw [hp] at C
   have HC:=yD C;clear C
   have HT:=yD (kAk hlt hp HN.out);clear hp
   go_wp2_with fail
   refine HC.out.mono ?_
   rintro e w1 ⟨rfl,hb1⟩
   go_wp2
   go_roundw
   case rel=>exact ⟨k + 1,by omega,by go_num,HT.out,(tQ hbel hb1)⟩
   simp [intOf];omega
 have HT:=yD (idxOf_miss hlt HN.out)
 go_wp2
 go_ret
 exact ⟨ku HT.out.symm,hbel⟩
theorem kGs {w:World} {va:Value} {x:List jJ} {g:FuncId} {cp:Array Value} (p:jJ→Bool) (hg:jm Tryz.prog g) (ha:(Rep.slice 66 kP).raw w [va] x)
    (hcl:∀ wr,Below w.heap.size w wr→∀ (i:Nat) (h:i < x.length) cs,kP.raw wr cs x[i]→Calls Tryz.prog g (#[.agg cs.toArray]++cp) wr (fun e w'=>e=.returned (.bool (p x[i]))∧Below wr.heap.size wr w')) :
    Calls Tryz.prog 144 #[va,.func (.func g) #[] cp] w fun e w'=>e=.returned (.int .i64 (idxOf p x))∧Below w.heap.size w w':=by
 obtain ⟨aa,capa,rfl,la⟩:=Rep.sl ha
 have HCL:=yD hcl;clear hcl
 unfold jm at hg
 go_enter Tryz.func144,Tryz.ntmps144
 go_wp2
 go_loopw [8] (fun i wr=>∃ k:Nat,k≤x.length∧i=.int .i64 k∧(∀ j,(h:j < k)→(h2:j < x.length)→p x[j]=false)∧Below w.heap.size w wr) (fun i _=>x.length - (intOf i).toNat)
 case atStart=>exact ⟨0,Nat.zero_le _,rfl,fun _ h=>by omega,bR⟩
 obtain ⟨k,hk,rfl,hno,hbel⟩:=hrel
 have HN:=yD hno;clear hno
 by_cases hlt:k < x.length
 · obtain ⟨ba,offa,rfl,c0,c1,c2,c3,c4,hr,A0,A1,A2,A3,A4⟩:=Rep.get5 (ha.below hbel) hlt rfl
   have C:=HCL.out wr hbel k hlt _ hr
   by_cases hp:p x[k]=true
   · rw [hp] at C
     have HC:=yD C;clear C
     have HT:=yD (idxOf_hit hlt hp HN.out);clear hp
     go_wp2_with fail
     refine HC.out.mono ?_
     rintro e w1 ⟨rfl,hb1⟩
     go_wp2
     go_ret
     exact ⟨ku HT.out.symm,(tQ hbel hb1)⟩
   have hp:p x[k]=false:=qX
   rw [hp] at C
   have HC:=yD C;clear C
   have HT:=yD (kAk hlt hp HN.out);clear hp
   go_wp2_with fail
   refine HC.out.mono ?_
   rintro e w1 ⟨rfl,hb1⟩
   go_wp2
   go_roundw
   case rel=>exact ⟨k + 1,by omega,by go_num,HT.out,(tQ hbel hb1)⟩
   simp [intOf];omega
 have HT:=yD (idxOf_miss hlt HN.out)
 go_wp2
 go_ret
 exact ⟨ku HT.out.symm,hbel⟩
theorem kOm {w:World} {va:Value} {x:List kBb} {g:FuncId} {cp:Array Value} (p:kBb→Bool) (hg:jm Tryz.prog g) (ha:(Rep.slice 191 jM).raw w [va] x)
    (hcl:∀ wr,Below w.heap.size w wr→∀ (i:Nat) (h:i < x.length) cs,jM.raw wr cs x[i]→Calls Tryz.prog g (#[.agg cs.toArray]++cp) wr (fun e w'=>e=.returned (.bool (p x[i]))∧Below wr.heap.size wr w')) :
    Calls Tryz.prog 234 #[va,.func (.func g) #[] cp] w fun e w'=>e=.returned (.int .i64 (idxOf p x))∧Below w.heap.size w w':=by
 obtain ⟨aa,capa,rfl,la⟩:=Rep.sl ha
 have HCL:=yD hcl;clear hcl
 unfold jm at hg
 go_enter Tryz.func234,Tryz.ntmps234
 go_wp2
 go_loopw [8] (fun i wr=>∃ k:Nat,k≤x.length∧i=.int .i64 k∧(∀ j,(h:j < k)→(h2:j < x.length)→p x[j]=false)∧Below w.heap.size w wr) (fun i _=>x.length - (intOf i).toNat)
 case atStart=>exact ⟨0,Nat.zero_le _,rfl,fun _ h=>by omega,bR⟩
 obtain ⟨k,hk,rfl,hno,hbel⟩:=hrel
 have HN:=yD hno;clear hno
 by_cases hlt:k < x.length
 · obtain ⟨ba,offa,rfl,c0,c1,hr,A0,A1⟩:=Rep.kEk (ha.below hbel) hlt rfl
   have C:=HCL.out wr hbel k hlt _ hr
   by_cases hp:p x[k]=true
   · rw [hp] at C
     have HC:=yD C;clear C
     have HT:=yD (idxOf_hit hlt hp HN.out);clear hp
     go_wp2_with fail
     refine HC.out.mono ?_
     rintro e w1 ⟨rfl,hb1⟩
     go_wp2
     go_ret
     exact ⟨ku HT.out.symm,(tQ hbel hb1)⟩
   have hp:p x[k]=false:=qX
   rw [hp] at C
   have HC:=yD C;clear C
   have HT:=yD (kAk hlt hp HN.out);clear hp
   go_wp2_with fail
   refine HC.out.mono ?_
   rintro e w1 ⟨rfl,hb1⟩
   go_wp2
   go_roundw
   case rel=>exact ⟨k + 1,by omega,by go_num,HT.out,(tQ hbel hb1)⟩
   simp [intOf];omega
 have HT:=yD (idxOf_miss hlt HN.out)
 go_wp2
 go_ret
 exact ⟨ku HT.out.symm,hbel⟩
def kWe (x:kr) (w:World):Ending→World→Prop:=fun e w'=>∃ v,e=.returned (.agg #[.int .i64 x.1,v])∧Rep.kg 212 kH w' v x.2 (Btw w.heap.size w'.heap.size)∧Below w.heap.size w w'
theorem kWe.made {x:kr} {w:World} {e:Ending} {w':World} (hr:-9223372036854775808≤x.1∧x.1≤9223372036854775807) (hl:x.2.length≤Big) (h:kWe x w e w'):yM kI x w e w':=by
 obtain ⟨v,rfl,O,hb⟩:=h
 exact ⟨[_,_],rfl,Rep.kCc (r:=Rep.int) (q:=Rep.slice 212 kH) (cs:=[_]) (Rep.jG hr) (O.own hl),hb⟩
theorem store_hr {w:World} {cs:List Value} {x:kr} (hx:kI.rd w cs x):-9223372036854775808≤x.1∧x.1≤9223372036854775807:=by
 obtain ⟨sv,_,s_r,_⟩:=jI hx.1
 exact s_r
theorem kKg {w:World} {cs:List Value} {x:kr} (hx:kI.rd w cs x):Calls Tryz.prog 124 #[.agg cs.toArray] w (kWe x w):=by
 obtain ⟨hx,hbd⟩:=hx
 obtain ⟨sv,rfl,s_r,hl⟩:=jI hx
 obtain ⟨la,lp,rfl,_⟩:=Rep.sl hl
 obtain ⟨c,l⟩:=x
 have HL:Hid ((Rep.slice 212 kH).rd w [.slice la l.length lp] l):=yD ⟨hl,hbd.2⟩
 have hlb:l.length≤16777216:=hbd.2.1
 have HCR:=yD s_r
 clear hx s_r hl hbd
 go_enter Tryz.func124,Tryz.ntmps124
 go_wp2
 generalize hwA:World.alloc (World.alloc (World.alloc w _) _) _=wA
 have HZ:Hid (wA.heap.size=w.heap.size + 3):=yD (by rw [← hwA];simp)
 have EA:Below w.heap.size w wA:=by rw [← hwA];exact bH
 have XB:Hid (wA.heap[w.heap.size]?=some (.cells #[.int .i64 c,.slice la l.length lp] 50 (0,0))):=yD (by rw [← hwA];exact jD (jD (kN rfl)))
 have XR:Hid (wA.heap[w.heap.size + 1]?=some (.cells #[.int .i64 0,.slice none 0 0] 50 (0,0))):=yD (by rw [← hwA];exact jD (kN rQ))
 have XO:Hid (wA.heap[w.heap.size + 1 + 1]?=some (.cells #[.int .i64 c,.slice none 0 0] 50 (0,0))):=yD (by rw [← hwA];exact kN rQ)
 clear hwA
 go_loopw [4] (fun i wr=>∃ (k:Nat) (v:Value),k≤l.length∧i=.int .i64 k∧Hid (wr.heap[w.heap.size + 1 + 1]?=some (.cells #[.int .i64 c,v] 50 (0,0)))∧Hid (Rep.kg 212 kH wr v (l.take k) (Btw (w.heap.size + 3) wr.heap.size))∧Below (w.heap.size + 1 + 1) wA wr∧w.heap.size + 3≤wr.heap.size) (fun i _=>l.length - (intOf i).toNat)
 case atStart=>exact ⟨0,_,Nat.zero_le _,rfl,XO,yD Rep.kg.nil,bR,by have:=HZ.out;omega⟩
 obtain ⟨k,v,hk,rfl,XV,HO,hbel,hge⟩:=hrel
 obtain ⟨oa,on,oc,ho,HON⟩:=HO.out.parts;obtain rfl:=ho
 have L0:=kK ((hbel.block _ (show w.heap.size < w.heap.size + 1 + 1 by omega)).trans XB.out) (j:=0) (v:=.int .i64 c) rfl
 have L1:=kK ((hbel.block _ (show w.heap.size < w.heap.size + 1 + 1 by omega)).trans XB.out) (j:=1) (v:=.slice la l.length lp) rfl
 have EW:Below w.heap.size w wr:=EA.trans (hbel.mono rP)
 have hkn:=Int.natCast_nonneg k
 by_cases hlt:k < l.length
 · obtain ⟨qb,qo,rfl,qc0,qc1,qc2,qc3,qc4,qc5,qr,Aq0,Aq1,Aq2,Aq3,Aq4,Aq5⟩:=Rep.get6 (HL.out.1.below EW) hlt rfl
   have hbd:=Rep.yF HL.out hlt
   have HSN:=yD (List.take_succ_eq_append_getElem hlt)
   generalize l[k]=x at *
   obtain ⟨qv0,qv1,qv2,qhe,q_0,q_1,q_2,q_3,q_4,q_5,q_6,q_7,q_8⟩:=jQ qr
   simp only [List.cons.injEq,and_true] at qhe
   obtain ⟨rfl,rfl,rfl,rfl,rfl,rfl⟩:=qhe
   obtain ⟨qa0,qp0,rfl,ql0⟩:=Rep.sl q_2
   obtain ⟨qa1,qp1,rfl,ql1⟩:=Rep.sl q_3
   obtain ⟨qa2,qp2,rfl,ql2⟩:=Rep.sl q_5
   have PX:kP.rd wr _ x.1:=⟨q_0,hbd.1⟩
   have HU:=yD q_8
   go_wp2_with fail
   refine (kDj PX).mono ?_
   rintro e wT ⟨tc,rfl,OT,hbT⟩
   obtain ⟨tv0,tv1,tv2,rfl,t_0,t_1,t_2,t_3,t_4,t_5,t_6⟩:=kY OT.raw
   obtain ⟨ta0,tp0,rfl,tl0⟩:=Rep.sl t_1
   obtain ⟨ta1,tp1,rfl,tl1⟩:=Rep.sl t_2
   obtain ⟨ta2,tp2,rfl,tl2⟩:=Rep.sl t_4
   clear t_0 t_1 t_2 t_3 t_4 t_5 t_6
   have hsT:=hbT.size
   go_upto_region 6 with fail
   generalize hwD:World.alloc wT _=wD
   have ED:Below wT.heap.size wT wD:=by rw [← hwD];exact bR.alloc nL _
   have hsD:=ED.size
   have D0:wD.cell? ⟨wT.heap.size,0,none⟩=some (.slice ta0 x.1.1.length tp0):=nX
   have D1:wD.cell? ⟨wT.heap.size,1,none⟩=some (.slice ta1 x.1.2.1.length tp1):=nX
   have D2:wD.cell? ⟨wT.heap.size,2,none⟩=some (.slice ta2 x.1.2.2.1.length tp2):=nX
   have D3:wD.cell? ⟨wT.heap.size,3,none⟩=some (.int .i64 x.1.2.2.2.1):=nX
   have D4:wD.cell? ⟨wT.heap.size,4,none⟩=some (.int .i64 x.1.2.2.2.2):=nX
   clear hwD
   have hbS:=(tQ hbT ED)
   have XS:=kD XV.out hbS
   have M0:=kK XS (j:=0) (v:=.int .i64 c) rfl
   have M1:=kK XS (j:=1) rfl
   replace L0:=cL hbS L0
   replace L1:=cL hbS L1
   replace Aq5:=cL hbS Aq5
   have FX:=yD (fun (W:World) (hW:Below wD.heap.size wD W)=>cLs10 hW L0 L1 M0 M1 Aq5 D0 D1 D2 D3 D4)
   refine jT (fun W=>Below wD.heap.size wD W) [true,true,true,true,true,true,true,true,true,true,false] rF rF gX (bR.drew) ?_
   intro wS HS
   iterate 10
    all_goals refine wkR ?_
   all_goals first|(refine kU rfl HS ?_)|(refine ky rfl (fun K hK=>?_);go_simp;refine hK _ _ (HS.alloc HS.size _) ?_;clear hK K)
   all_goals refine wkP ?_
   all_goals refine jv ?_
   have hsW:=HS.size
   have hbSW:=(tQ hbS HS)
   have XW:=kD XV.out hbSW
   have hbelW:=hbel.trans (hbSW.mono rP)
   replace HO:=yD (HO.out.below hbSW)
   have hol:(l.take k).length≤16777216:=rG
   go_wp2_with (at_builtin;refine Rep.jZ rfl _ _ 48 rfl (r:=kH) (e:=212) Tryz.underlying48 yX rfl rM rM (B:=w.heap.size + 3) HO.out rR rR rfl (Rep.own.wide (T:=Btw wr.heap.size wT.heap.size) (Rep.jy (r:=kP) (q:=Rep.int) (cs:=[.slice ta0 x.1.1.length tp0,.slice ta1 x.1.2.1.length tp1,.slice ta2 x.1.2.2.1.length tp2,.int .i64 x.1.2.2.2.1,.int .i64 x.1.2.2.2.2]) (ds:=[.int .i64 x.2]) (x:=x.1) (y:=x.2) (OT.below (tQ ED HS)) (Rep.jG HU.out)) (fun j hj=>hj)) rfl fP mH fG rP rP ?_)
   intro v2 w2 hown2 hbel2 hz2
   obtain ⟨va2,vn2,vc2,hv2,HV2N⟩:=hown2.parts;obtain rfl:=hv2
   have XV2:=(hbel2.block _ rP).trans XW
   have N1:=kK XV2 (j:=1) rfl
   have NF:=frozen_of_row w2 (w.heap.size + 1 + 1) 1 _ _ XV2
   have hbel3:=hbelW.trans (hbel2.mono rP)
   have HX2:=yD XV2
   have HO2:=yD (Rep.kg.cast hown2 (HSN.out.symm))
   clear XV2 hown2 HO hbel2 hbel
   go_wp2
   go_roundw
   case rel=>exact ⟨k + 1,_,by omega,by go_num,yD (heap_setCell_same w2 _ 1 _ _ _ HX2.out),yD ((HO2.out.setCell dP).wide fE),hbel3.setCell rQ _,by simp [World.setCell];omega⟩
   simp [intOf];omega
 obtain rfl:k=l.length:=rP
 skip
 have M0:=kK XV.out (j:=0) (v:=.int .i64 c) rfl
 have M1:=kK XV.out (j:=1) rfl
 have R0:=kK ((hbel.block _ (show w.heap.size + 1 < w.heap.size + 1 + 1 by omega)).trans XR.out) (j:=0) (v:=.int .i64 0) rfl
 have R1:=kK ((hbel.block _ (show w.heap.size + 1 < w.heap.size + 1 + 1 by omega)).trans XR.out) (j:=1) (v:=.slice none 0 0) rfl
 have F0:=fun j=>frozen_of_row wr (w.heap.size + 1) j _ _ ((hbel.block _ (show w.heap.size + 1 < w.heap.size + 1 + 1 by omega)).trans XR.out)
 have F00:=F0 0
 have F01:=F0 1
 clear F0
 have HF:=yD (HO.out.cast pR)
 have HFL:Hid (l.length≤Big):=yD qF
 go_wp2
 refine bodyPost_ret (v:=.agg #[.int .i64 c,.slice oa on oc]) (by simp [results,Tryz.results124,go_sem,R0,R1,F00,F01]) rfl ⟨_,rfl,?_,?_⟩
 · exact (((HF.out.setCell dP).setCell dP)).wide dR
 exact (EW.setCell rQ _).setCell rQ _
theorem kTj {w:World} {cs:List Value} {x:kr} (hx:kI.rd w cs x):Calls Tryz.prog 124 #[.agg cs.toArray] w (yM kI x w) :=
  (kKg hx).mono fun _ _ h=>h.made (store_hr hx) hx.2.2.1
theorem kHn {w:World} {cs:List Value} {x:kr} {g:FuncId} {cp:Array Value} (p:ko→Bool) (hg:jm Tryz.prog g) (hx:kI.rd w cs x)
    (hcl:∀ wr,Below w.heap.size w wr→∀ y ds,kH.raw wr ds y→Calls Tryz.prog g (#[.agg ds.toArray]++cp) wr (fun e w'=>e=.returned (.bool (p y))∧Below wr.heap.size wr w')) :
    Calls Tryz.prog 147 #[.agg cs.toArray,.func (.func g) #[] cp] w (kWe (x.1,x.2.filter p) w):=by
 have HCL:=yD hcl
 unfold jm at hg
 clear hcl
 obtain ⟨hx,hbd⟩:=hx
 obtain ⟨sv,rfl,s_r,hl⟩:=jI hx
 obtain ⟨la,lp,rfl,_⟩:=Rep.sl hl
 obtain ⟨c,l⟩:=x
 have HL:Hid ((Rep.slice 212 kH).rd w [.slice la l.length lp] l):=yD ⟨hl,hbd.2⟩
 have hlb:l.length≤16777216:=hbd.2.1
 have HCR:=yD s_r
 clear hx s_r hl hbd
 go_enter Tryz.func147,Tryz.ntmps147
 go_wp2
 generalize hwA:World.alloc (World.alloc (World.alloc w _) _) _=wA
 have HZ:Hid (wA.heap.size=w.heap.size + 3):=yD (by rw [← hwA];simp)
 have EA:Below w.heap.size w wA:=by rw [← hwA];exact bH
 have XB:Hid (wA.heap[w.heap.size]?=some (.cells #[.int .i64 c,.slice la l.length lp] 50 (0,0))):=yD (by rw [← hwA];exact jD (jD (kN rfl)))
 have XR:Hid (wA.heap[w.heap.size + 1]?=some (.cells #[.int .i64 0,.slice none 0 0] 50 (0,0))):=yD (by rw [← hwA];exact jD (kN rQ))
 have XO:Hid (wA.heap[w.heap.size + 1 + 1]?=some (.cells #[.int .i64 c,.slice none 0 0] 50 (0,0))):=yD (by rw [← hwA];exact kN rQ)
 clear hwA
 go_loopw [14] (fun i wr=>∃ (k:Nat) (v:Value),k≤l.length∧i=.int .i64 k∧Hid (wr.heap[w.heap.size + 1 + 1]?=some (.cells #[.int .i64 c,v] 50 (0,0)))∧Hid (Rep.kg 212 kH wr v ((l.take k).filter p) (Btw (w.heap.size + 3) wr.heap.size))∧Below (w.heap.size + 1 + 1) wA wr∧w.heap.size + 3≤wr.heap.size) (fun i _=>l.length - (intOf i).toNat)
 case atStart=>exact ⟨0,_,Nat.zero_le _,rfl,XO,yD Rep.kg.nil,bR,by have:=HZ.out;omega⟩
 obtain ⟨k,v,hk,rfl,XV,HO,hbel,hge⟩:=hrel
 obtain ⟨oa,on,oc,ho,HON⟩:=HO.out.parts;obtain rfl:=ho
 have L0:=kK ((hbel.block _ (show w.heap.size < w.heap.size + 1 + 1 by omega)).trans XB.out) (j:=0) (v:=.int .i64 c) rfl
 have L1:=kK ((hbel.block _ (show w.heap.size < w.heap.size + 1 + 1 by omega)).trans XB.out) (j:=1) (v:=.slice la l.length lp) rfl
 have EW:Below w.heap.size w wr:=EA.trans (hbel.mono rP)
 have hkn:=Int.natCast_nonneg k
 by_cases hlt:k < l.length
 · obtain ⟨qb,qo,rfl,qc0,qc1,qc2,qc3,qc4,qc5,qr,Aq0,Aq1,Aq2,Aq3,Aq4,Aq5⟩:=Rep.get6 (HL.out.1.below EW) hlt rfl
   have hbd:=Rep.yF HL.out hlt
   have hfy:=fun q=>filter_yes (p:=p) hlt q
   have hfn:=fun q=>filter_no (p:=p) hlt q
   have hol:((l.take k).filter p).length≤16777216:=by have h2:=kSj (p:=p) (l:=l) (k:=k) rP;omega
   generalize l[k]=x at *
   have HFY:=yD hfy;have HFN:=yD hfn;clear hfy hfn
   have HXR:=yD qr
   obtain ⟨qv0,qv1,qv2,qhe,q_0,q_1,q_2,q_3,q_4,q_5,q_6,q_7,q_8⟩:=jQ qr
   simp only [List.cons.injEq,and_true] at qhe
   obtain ⟨rfl,rfl,rfl,rfl,rfl,rfl⟩:=qhe
   obtain ⟨qa0,qp0,rfl,ql0⟩:=Rep.sl q_2
   obtain ⟨qa1,qp1,rfl,ql1⟩:=Rep.sl q_3
   obtain ⟨qa2,qp2,rfl,ql2⟩:=Rep.sl q_5
   have PX:Hid (kP.rd wr _ x.1):=yD ⟨q_0,hbd.1⟩
   have HU:=yD q_8
   go_wp2_with fail
   generalize hwC:World.alloc wr _=wC
   have EC:Below wr.heap.size wr wC:=nA
   have M0:wC.cell? ⟨wr.heap.size,0,none⟩=some (.slice qa0 x.1.1.length qp0):=nW
   have M1:wC.cell? ⟨wr.heap.size,1,none⟩=some (.slice qa1 x.1.2.1.length qp1):=nW
   have M2:wC.cell? ⟨wr.heap.size,2,none⟩=some (.slice qa2 x.1.2.2.1.length qp2):=nW
   have M3:wC.cell? ⟨wr.heap.size,3,none⟩=some (.int .i64 x.1.2.2.2.1):=nW
   have M4:wC.cell? ⟨wr.heap.size,4,none⟩=some (.int .i64 x.1.2.2.2.2):=nW
   have M5:wC.cell? ⟨wr.heap.size,5,none⟩=some (.int .i64 x.2):=nW
   clear hwC
   have hsC:=EC.size
   refine (HCL.out wC (tQ EW EC) _ _ (HXR.out.below EC)).mono ?_
   rintro e wD ⟨rfl,hbD⟩
   replace M0:=cL hbD M0
   replace M1:=cL hbD M1
   replace M2:=cL hbD M2
   replace M3:=cL hbD M3
   replace M4:=cL hbD M4
   replace M5:=cL hbD M5
   have hbS:=(tQ EC hbD)
   have hsD:=hbD.size
   have XS:=kD XV.out hbS
   have hbelS:=hbel.trans (hbS.mono rP)
   have HOS:=yD (HO.out.below hbS)
   clear hbD
   cases hp:p x
   · have HT:=yD (HFN.out hp)
     clear HFY HFN hp
     have HX2:=yD XS
     clear XS
     go_wp2
     go_roundw
     case rel=>exact ⟨k + 1,_,by omega,by go_num,HX2,yD ((HOS.out.cast HT.out.symm).wide mH),hbelS,by omega⟩
     simp [intOf];omega
   have HSN:=yD (HFY.out hp)
   clear HFY HFN hp
   have B0:=kK XS (j:=0) (v:=.int .i64 c) rfl
   have B1:=kK XS (j:=1) rfl
   go_upto_region 6 with fail
   have FX:=yD (fun (W:World) (hW:Below wD.heap.size wD W)=>cLs8 hW B0 B1 M0 M1 M2 M3 M4 M5)
   refine jf (fun W=>Below wD.heap.size wD W) [(0,true),(1,true),(2,true),(3,true),(5,true),(6,true),(4,false),(7,true),(8,false)] rF rF gX (bR.drew) ?_
   intro wS HS
   simp only [jY,List.length_cons,List.length_nil,List.getElem?_cons_succ,List.getElem?_cons_zero,List.map_cons,List.map_nil,List.cons_append,List.nil_append,List.drop_succ_cons,List.drop_zero]
   iterate 6
    all_goals refine wkR ?_
   all_goals first|(refine kU rfl HS ?_)|(refine ky rfl (fun K hK=>?_);go_simp;refine (kCb (PX.out.below (tQ hbS HS))).mono ?_;rintro e wT ⟨tc,rfl,OT,hbT⟩;obtain ⟨tv0,tv1,tv2,rfl,t_0,t_1,t_2,t_3,t_4,t_5,t_6⟩:=kY OT.raw;obtain ⟨ta0,tp0,rfl,tl0⟩:=Rep.sl t_1;skip;obtain ⟨ta1,tp1,rfl,tl1⟩:=Rep.sl t_2;skip;obtain ⟨ta2,tp2,rfl,tl2⟩:=Rep.sl t_4;skip;clear t_0 t_1 t_2 t_3 t_4 t_5 t_6;have hsT:=hbT.size;have hrS:=HS.size;have HOT:=yD OT;replace HS:=(tQ HS hbT);refine hK _ _ HS ?_;clear hK K hbT OT)
   all_goals refine wkP ?_
   all_goals refine wkR ?_
   all_goals first|(refine kU rfl HS ?_)|(refine ky rfl (fun K hK=>?_);go_simp;refine hK _ _ (HS.alloc HS.size _) ?_;clear hK K)
   all_goals refine wkP ?_
   all_goals refine jv ?_
   have hsW:=HS.size
   have hbSW:=(tQ hbS HS)
   have XW:=kD XV.out hbSW
   have hbelW:=hbel.trans (hbSW.mono rP)
   replace HO:=yD (HO.out.below hbSW)
   go_wp2_with (at_builtin;refine Rep.jZ rfl _ _ 48 rfl (r:=kH) (e:=212) Tryz.underlying48 yX rfl rM rM (B:=w.heap.size + 3) HO.out rR rR rfl (Rep.own.wide (T:=Btw wr.heap.size wT.heap.size) (Rep.jy (r:=kP) (q:=Rep.int) (cs:=[.slice ta0 x.1.1.length tp0,.slice ta1 x.1.2.1.length tp1,.slice ta2 x.1.2.2.1.length tp2,.int .i64 x.1.2.2.2.1,.int .i64 x.1.2.2.2.2]) (ds:=[.int .i64 x.2]) (x:=x.1) (y:=x.2) (HOT.out) (Rep.jG HU.out)) mI) rfl fP mH fG rP rP ?_)
   intro v2 w2 hown2 hbel2 hz2
   obtain ⟨va2,vn2,vc2,hv2,HV2N⟩:=hown2.parts;obtain rfl:=hv2
   have XV2:=(hbel2.block _ rP).trans XW
   have N1:=kK XV2 (j:=1) rfl
   have NF:=frozen_of_row w2 (w.heap.size + 1 + 1) 1 _ _ XV2
   have hbel3:=hbelW.trans (hbel2.mono rP)
   have HX2:=yD XV2
   have HO2:=yD (Rep.kg.cast hown2 (HSN.out.symm))
   clear XV2 hown2 HO hbel2 hbel
   go_wp2
   go_roundw
   case rel=>exact ⟨k + 1,_,by omega,by go_num,yD (heap_setCell_same w2 _ 1 _ _ _ HX2.out),yD ((HO2.out.setCell dP).wide fE),hbel3.setCell rQ _,by simp [World.setCell];omega⟩
   simp [intOf];omega
 obtain rfl:k=l.length:=rP
 skip
 have M0:=kK XV.out (j:=0) (v:=.int .i64 c) rfl
 have M1:=kK XV.out (j:=1) rfl
 have R0:=kK ((hbel.block _ (show w.heap.size + 1 < w.heap.size + 1 + 1 by omega)).trans XR.out) (j:=0) (v:=.int .i64 0) rfl
 have R1:=kK ((hbel.block _ (show w.heap.size + 1 < w.heap.size + 1 + 1 by omega)).trans XR.out) (j:=1) (v:=.slice none 0 0) rfl
 have F0:=fun j=>frozen_of_row wr (w.heap.size + 1) j _ _ ((hbel.block _ (show w.heap.size + 1 < w.heap.size + 1 + 1 by omega)).trans XR.out)
 have F00:=F0 0
 have F01:=F0 1
 clear F0
 have HF:=yD (HO.out.cast pR)
 have HFL:Hid ((l.filter p).length≤Big):=yD (by have:=List.length_filter_le p l;unfold Big;omega)
 go_wp2
 refine bodyPost_ret (v:=.agg #[.int .i64 c,.slice oa on oc]) (by simp [results,Tryz.results147,go_sem,R0,R1,F00,F01]) rfl ⟨_,rfl,?_,?_⟩
 · exact (((HF.out.setCell dP).setCell dP)).wide dR
 exact (EW.setCell rQ _).setCell rQ _
theorem kPt {w:World} {cs:List Value} {x:kr} {g:FuncId} {cp:Array Value} (p:ko→Bool) (hg:jm Tryz.prog g) (hx:kI.rd w cs x)
    (hcl:∀ wr,Below w.heap.size w wr→∀ y ds,kH.raw wr ds y→Calls Tryz.prog g (#[.agg ds.toArray]++cp) wr (fun e w'=>e=.returned (.bool (p y))∧Below wr.heap.size wr w')) :
    Calls Tryz.prog 147 #[.agg cs.toArray,.func (.func g) #[] cp] w (yM kI (x.1,x.2.filter p) w) :=
  (kHn p hg hx hcl).mono fun _ _ h=>h.made (x:=(x.1,x.2.filter p)) (store_hr (x:=x) hx) (Nat.le_trans (List.length_filter_le _ _) hx.2.2.1)
theorem kNs {w:World} {ds:List Value} {y:ko} (hy:kH.raw w ds y):Calls Tryz.prog 190 (#[.agg ds.toArray]++#[]) w fun e w'=>e=.returned (.bool true)∧Below w.heap.size w w':=by
 obtain ⟨av0,av1,av2,rfl,a_0,a_1,a_2,a_3,a_4,a_5,a_6,a_7,a_8⟩:=jQ hy
 obtain ⟨aa0,ap0,rfl,al0⟩:=Rep.sl a_2
 obtain ⟨aa1,ap1,rfl,al1⟩:=Rep.sl a_3
 obtain ⟨aa2,ap2,rfl,al2⟩:=Rep.sl a_5
 clear hy a_0 a_1 a_2 a_3 a_4 a_5 a_6 a_7 a_8
 show Calls Tryz.prog 190 #[_] w _
 go_enter Tryz.func190,Tryz.ntmps190
 go_wp2
 go_ret
 exact ⟨rfl,bH⟩
theorem kJo:jm Tryz.prog 190:=kAn Tryz.func190 rF rF
theorem kHo {w:World} {cs:List Value} {x:kr} (hx:kI.rd w cs x):Calls Tryz.prog 136 #[.agg cs.toArray] w (yM kI x w):=by
 have HX:=yD hx
 obtain ⟨hx,hbd⟩:=hx
 obtain ⟨sv,rfl,s_r,hl⟩:=jI hx
 obtain ⟨la,lp,rfl,_⟩:=Rep.sl hl
 obtain ⟨c,l⟩:=x
 have HL:Hid ((Rep.slice 212 kH).rd w [.slice la l.length lp] l):=yD ⟨hl,hbd.2⟩
 have hlb:l.length≤16777216:=hbd.2.1
 have HCR:=yD s_r
 clear hx s_r hl hbd
 have HFT:Hid (l.filter (fun _=>true)=l):=yD rQ
 go_enter Tryz.func136,Tryz.ntmps136
 go_wp2_with fail
 generalize hwB:World.alloc (World.alloc w _) _=wB
 have EB:Below w.heap.size w wB:=by rw [← hwB];exact bH
 have XR:Hid (wB.heap[w.heap.size + 1]?=some (.cells #[.int .i64 0,.slice none 0 0] 50 (0,0))):=yD nK
 clear hwB
 have hzB:=EB.size
 refine (kPt (fun _=>true) kJo (HX.out.below EB) (fun wr _ y ds hy=>kNs hy)).mono ?_
 rintro e w1 ⟨oc,rfl,O1,hb1⟩
 replace O1:=show kI.own w1 oc (c,l) _ from HFT.out ▸ O1
 obtain ⟨ov,rfl,o_r,o_l⟩:=jI O1.raw
 obtain ⟨oa,op,rfl,_⟩:=Rep.sl o_l
 have X1:=kD XR.out hb1
 have M0:=kK (b:=w.heap.size + 1) X1 (j:=0) rfl
 have M1:=kK (b:=w.heap.size + 1) X1 (j:=1) rfl
 have F0:=frozen_of_row w1 (w.heap.size + 1) 0 _ _ X1
 have F1:=frozen_of_row w1 (w.heap.size + 1) 1 _ _ X1
 have HO1:=yD O1
 have E1:=(tQ EB hb1)
 have hbz:w.heap.size + 2≤wB.heap.size:=by have:=(Array.getElem?_eq_some_iff.1 XR.out).1;omega
 clear o_r o_l O1 hb1
 go_wp2
 refine bodyPost_ret (v:=.agg #[.int .i64 c,.slice oa l.length op]) (by simp [results,Tryz.results136,go_sem,M0,M1,F0,F1]) rfl ⟨[_,_],rfl,?_,?_⟩
 · exact ((HO1.out.setCell dP).setCell dP).wide dR
 exact (E1.setCell rQ _).setCell rQ _
theorem kPu {w:World} {vl:Value} {l:List jJ} (hl:(Rep.slice 66 kP).rd w [vl] l) :
    Calls Tryz.prog 135 #[vl] w (kAt 66 kP l w):=by
 have HL:=yD hl
 obtain ⟨la,lp,rfl,ll⟩:=Rep.sl hl.1
 have hlb:l.length≤16777216:=hl.2.1
 clear hl
 go_enter Tryz.func135,Tryz.ntmps135
 go_wp2
 go_loopw [3,9] (fun v i wr=>∃ k:Nat,k≤l.length∧i=.int .i64 k∧Hid (Rep.kg 66 kP wr v (l.take k) (Btw w.heap.size wr.heap.size))∧Below w.heap.size w wr) (fun _ i _=>l.length - (intOf i).toNat)
 case atStart=>exact ⟨0,Nat.zero_le _,rfl,yD Rep.kg.void,bR.alloc nL _⟩
 obtain ⟨k,hk,rfl,HO,hbel⟩:=hrel
 obtain ⟨oa,on,oc,ho,HON⟩:=HO.out.parts;obtain rfl:=ho
 have hlk:(l.take k).length≤k:=rG
 have hrC:=hbel.size
 by_cases hlt:k < l.length
 · obtain ⟨qb,qo,rfl,qc0,qc1,qc2,qc3,qc4,qr,Aq0,Aq1,Aq2,Aq3,Aq4⟩:=Rep.get5 (HL.out.1.below hbel) hlt rfl
   have hbd:=Rep.yF HL.out hlt
   have hsn:=List.take_succ_eq_append_getElem hlt
   generalize l[k]=x at *
   have HSN:=yD hsn;clear hsn
   obtain ⟨x0,x1,x2,x3,x4⟩:=x
   obtain ⟨qv0,qv1,qv2,qhe,q_0,q_1,q_2,q_3,q_4,q_5,q_6⟩:=kY qr
   simp only [List.cons.injEq,and_true] at qhe
   obtain ⟨rfl,rfl,rfl,rfl,rfl⟩:=qhe
   obtain ⟨qa0,qp0,rfl,ql0⟩:=Rep.sl q_1
   obtain ⟨qa1,qp1,rfl,ql1⟩:=Rep.sl q_2
   obtain ⟨qa2,qp2,rfl,ql2⟩:=Rep.sl q_4
   have px:kP.rd wr _ (x0,x1,x2,x3,x4):=⟨qr,hbd⟩
   go_upto_region 5 with fail
   generalize hwC:World.alloc wr _=wC
   have EC:Below wr.heap.size wr wC:=nA
   have hsC:=EC.size
   have M0:wC.cell? ⟨wr.heap.size,0,none⟩=some (.slice qa0 (x0).length qp0):=nW
   have M1:wC.cell? ⟨wr.heap.size,1,none⟩=some (.slice qa1 (x1).length qp1):=nW
   have M2:wC.cell? ⟨wr.heap.size,2,none⟩=some (.slice qa2 (x2).length qp2):=nW
   have M3:wC.cell? ⟨wr.heap.size,3,none⟩=some (.int .i64 x3):=nW
   have M4:wC.cell? ⟨wr.heap.size,4,none⟩=some (.int .i64 x4):=nW
   clear hwC
   replace HO:=yD ((HO.out.below EC).wide (T:=Btw w.heap.size wC.heap.size) mH)
   have hbC:=(tQ hbel EC)
   go_wp2_with fail
   refine (kCb (px.below EC)).mono ?_
   rintro e wT ⟨tc,rfl,OT,hbT⟩
   obtain ⟨tv0,tv1,tv2,rfl,t_0,t_1,t_2,t_3,t_4,t_5,t_6⟩:=kY OT.raw
   obtain ⟨ta0,tp0,rfl,tl0⟩:=Rep.sl t_1
   obtain ⟨ta1,tp1,rfl,tl1⟩:=Rep.sl t_2
   obtain ⟨ta2,tp2,rfl,tl2⟩:=Rep.sl t_4
   clear t_0 t_1 t_2 t_3 t_4 t_5 t_6
   have hsT:=hbT.size
   have hbS:=hbT
   replace HO:=yD (HO.out.below hbS)
   have hbW:=(tQ hbC hbS)
   go_wp2_with (at_builtin;refine Rep.jZ rfl _ _ 47 rfl (r:=kP) (e:=66) Tryz.underlying47 infData rfl rM rM (B:=w.heap.size) HO.out rR rR rfl (Rep.own.wide (T:=Btw wC.heap.size wT.heap.size) (OT) fG) rfl fP mH fG rP rP ?_)
   intro v2 w2 hown2 hbel2 hz2
   replace hown2:=Rep.kg.cast hown2 (HSN.out.symm)
   have HO2:=yD hown2
   have hbel3:=hbW.trans hbel2
   clear hown2 HO hbel2
   go_wp2
   go_roundw
   case rel=>exact ⟨k + 1,by omega,by go_num,HO2,hbel3⟩
   simp [intOf];omega
 obtain rfl:k=l.length:=rP
 go_wp2
 go_ret
 exact ⟨_,rfl,Rep.kg.cast HO.out pR,hbel⟩
theorem kPm {w:World} {vl:Value} {l:List jJ} (hl:(Rep.slice 66 kP).rd w [vl] l) :
    Calls Tryz.prog 123 #[vl] w (kAt 66 kP l w):=by
 have HL:=yD hl
 obtain ⟨la,lp,rfl,ll⟩:=Rep.sl hl.1
 have hlb:l.length≤16777216:=hl.2.1
 clear hl
 go_enter Tryz.func123,Tryz.ntmps123
 go_wp2
 go_loopw [3,4] (fun v i wr=>∃ k:Nat,k≤l.length∧i=.int .i64 k∧Hid (Rep.kg 66 kP wr v (l.take k) (Btw w.heap.size wr.heap.size))∧Below w.heap.size w wr) (fun _ i _=>l.length - (intOf i).toNat)
 case atStart=>exact ⟨0,Nat.zero_le _,rfl,yD Rep.kg.void,bR.alloc nL _⟩
 obtain ⟨k,hk,rfl,HO,hbel⟩:=hrel
 obtain ⟨oa,on,oc,ho,HON⟩:=HO.out.parts;obtain rfl:=ho
 have hlk:(l.take k).length≤k:=rG
 have hrC:=hbel.size
 by_cases hlt:k < l.length
 · obtain ⟨qb,qo,rfl,qc0,qc1,qc2,qc3,qc4,qr,Aq0,Aq1,Aq2,Aq3,Aq4⟩:=Rep.get5 (HL.out.1.below hbel) hlt rfl
   have hbd:=Rep.yF HL.out hlt
   have hsn:=List.take_succ_eq_append_getElem hlt
   generalize l[k]=x at *
   have HSN:=yD hsn;clear hsn
   obtain ⟨x0,x1,x2,x3,x4⟩:=x
   obtain ⟨qv0,qv1,qv2,qhe,q_0,q_1,q_2,q_3,q_4,q_5,q_6⟩:=kY qr
   simp only [List.cons.injEq,and_true] at qhe
   obtain ⟨rfl,rfl,rfl,rfl,rfl⟩:=qhe
   obtain ⟨qa0,qp0,rfl,ql0⟩:=Rep.sl q_1
   obtain ⟨qa1,qp1,rfl,ql1⟩:=Rep.sl q_2
   obtain ⟨qa2,qp2,rfl,ql2⟩:=Rep.sl q_4
   have px:kP.rd wr _ (x0,x1,x2,x3,x4):=⟨qr,hbd⟩
   go_wp2_with fail
   refine (kDj px).mono ?_
   rintro e wT ⟨tc,rfl,OT,hbT⟩
   obtain ⟨tv0,tv1,tv2,rfl,t_0,t_1,t_2,t_3,t_4,t_5,t_6⟩:=kY OT.raw
   obtain ⟨ta0,tp0,rfl,tl0⟩:=Rep.sl t_1
   obtain ⟨ta1,tp1,rfl,tl1⟩:=Rep.sl t_2
   obtain ⟨ta2,tp2,rfl,tl2⟩:=Rep.sl t_4
   clear t_0 t_1 t_2 t_3 t_4 t_5 t_6
   have hsT:=hbT.size
   go_upto_region 6 with fail
   generalize hwD:World.alloc wT _=wD
   have ED:Below wT.heap.size wT wD:=by rw [← hwD];exact bR.alloc nL _
   have hsD:=ED.size
   have D0:wD.cell? ⟨wT.heap.size,0,none⟩=some (.slice ta0 (x0).length tp0):=nX
   have D1:wD.cell? ⟨wT.heap.size,1,none⟩=some (.slice ta1 (x1).length tp1):=nX
   have D2:wD.cell? ⟨wT.heap.size,2,none⟩=some (.slice ta2 (x2).length tp2):=nX
   have D3:wD.cell? ⟨wT.heap.size,3,none⟩=some (.int .i64 x3):=nX
   have D4:wD.cell? ⟨wT.heap.size,4,none⟩=some (.int .i64 x4):=nX
   clear hwD
   have hbS:=(tQ hbT ED)
   replace HO:=yD (HO.out.below hbS)
   have hbW:=(tQ hbel hbS)
   go_wp2_with (at_builtin;refine Rep.jZ rfl _ _ 47 rfl (r:=kP) (e:=66) Tryz.underlying47 infData rfl rM rM (B:=w.heap.size) HO.out rR rR rfl (Rep.own.wide (T:=Btw wr.heap.size wT.heap.size) (OT.below ED) fG) rfl fP mH fG rP rP ?_)
   intro v2 w2 hown2 hbel2 hz2
   replace hown2:=Rep.kg.cast hown2 (HSN.out.symm)
   have HO2:=yD hown2
   have hbel3:=hbW.trans hbel2
   clear hown2 HO hbel2
   go_wp2
   go_roundw
   case rel=>exact ⟨k + 1,by omega,by go_num,HO2,hbel3⟩
   simp [intOf];omega
 obtain rfl:k=l.length:=rP
 go_wp2
 go_ret
 exact ⟨_,rfl,Rep.kg.cast HO.out pR,hbel⟩
theorem kNt {w:World} {vl:Value} {l:List yA} (hl:(Rep.slice 181 kX).rd w [vl] l) :
    Calls Tryz.prog 139 #[vl] w (kAt 181 kX l w):=by
 have HL:=yD hl
 obtain ⟨la,lp,rfl,ll⟩:=Rep.sl hl.1
 have hlb:l.length≤16777216:=hl.2.1
 clear hl
 go_enter Tryz.func139,Tryz.ntmps139
 go_wp2
 have O0:Rep.kg 181 kX (w.alloc (.cells #[] 181)) (.slice (some ⟨w.heap.size,0,none⟩) 0 0) [] (Btw w.heap.size (w.alloc (.cells #[] 181)).heap.size) :=
   Rep.yj (e:=181) (r:=kX) (w:=w) (cs:=[]) (xs:=[]) (T:=fun _=>False) rQ rQ rfl (fun _ h=>h.elim) ⟨Nat.le_refl _,by simp⟩
 go_loopw [3,9] (fun v i wr=>∃ k:Nat,k≤l.length∧i=.int .i64 k∧Hid (Rep.kg 181 kX wr v (l.take k) (Btw w.heap.size wr.heap.size))∧Below w.heap.size w wr) (fun _ i _=>l.length - (intOf i).toNat)
 case atStart=>exact ⟨0,Nat.zero_le _,rfl,yD O0,bR.alloc nL _⟩
 clear O0
 obtain ⟨k,hk,rfl,HO,hbel⟩:=hrel
 obtain ⟨oa,on,oc,ho,HON⟩:=HO.out.parts;obtain rfl:=ho
 have hlk:(l.take k).length≤k:=rG
 by_cases hlt:k < l.length
 · obtain ⟨qb,qo,rfl,qc0,qc1,qc2,qr,Aq0,Aq1,Aq2⟩:=Rep.kBg (HL.out.1.below hbel) hlt rfl
   have hbd:=Rep.yF HL.out hlt
   have hsn:=List.take_succ_eq_append_getElem hlt
   generalize l[k]=x at *
   have HSN:=yD hsn;clear hsn
   obtain ⟨x0,x1,x2⟩:=x
   obtain ⟨qv0,qhe,q_0,q_1,q_2,q_3⟩:=yg qr
   simp only [List.cons.injEq,and_true] at qhe
   obtain ⟨rfl,rfl,rfl⟩:=qhe
   obtain ⟨qa0,qp0,rfl,ql0⟩:=Rep.sl q_1
   have px0:kL.rd wr _ x0:=⟨q_0,hbd.1⟩
   go_upto_region 5 with fail
   generalize hwC:World.alloc wr _=wC
   have EC:Below wr.heap.size wr wC:=nA
   have hzC:wC.heap.size=wr.heap.size + 1:=qN
   have M0:wC.cell? ⟨wr.heap.size,0,none⟩=some (.slice qa0 (x0).length qp0):=nW
   have M1:wC.cell? ⟨wr.heap.size,1,none⟩=some (.int .i64 x1):=nW
   have M2:wC.cell? ⟨wr.heap.size,2,none⟩=some (.int .i64 x2):=nW
   clear hwC
   have FX:=yD (fun (W:World) (hW:Below wC.heap.size wC W)=>cLs3 hW M0 M1 M2)
   refine jf (fun W=>Below wC.heap.size wC W) [(0,true),(1,true),(2,true),(4,true),(5,true),(6,true),(7,true),(3,false),(8,true),(9,false)] rF rF gX (bR.drew) ?_
   intro wS HS
   simp only [jY,List.length_cons,List.length_nil,List.getElem?_cons_succ,List.getElem?_cons_zero,List.map_cons,List.map_nil,List.cons_append,List.nil_append,List.drop_succ_cons,List.drop_zero]
   iterate 7
    all_goals refine wkR ?_
   all_goals first|(refine kU rfl HS ?_)|(refine ky rfl (fun K hK=>?_);go_simp;refine (zW (px0.below (tQ EC HS))).mono ?_;rintro e wT0 ⟨t0_c,rfl,OT0,hbT⟩;obtain ⟨t0_qv0,rfl,t0_q_0⟩:=kM OT0.raw;obtain ⟨t0_qa0,t0_qp0,rfl,t0_ql0⟩:=Rep.sl t0_q_0;skip;clear t0_q_0;replace OT0:=yD OT0;have hs0:=hbT.size;have hr0:=HS.size;replace HS:=(tQ HS hbT);refine hK _ _ HS ?_;clear hK K hbT)
   all_goals refine wkP ?_
   all_goals refine wkR ?_
   all_goals first|(refine kU rfl HS ?_)|(refine ky rfl (fun K hK=>?_);go_simp;refine hK _ _ (HS.alloc HS.size _) ?_;clear hK K)
   all_goals refine wkP ?_
   all_goals refine jv ?_
   have hsW:=HS.size
   have hsC:=EC.size
   have hrC:=hbel.size
   have hbS:Below wr.heap.size wr _:=(tQ EC HS)
   replace HO:=yD (HO.out.below hbS)
   have hbW:=(tQ hbel hbS)
   go_wp2_with (at_builtin;refine Rep.jZ rfl _ _ 53 rfl (r:=kX) (e:=181) Tryz.underlying53 infRoute rfl rM rM (B:=w.heap.size) HO.out rR rR rfl (Rep.own.wide (T:=Btw wr.heap.size wT0.heap.size) (Rep.jy (OT0.out) (Rep.kAw (Rep.jG q_2) (Rep.jG q_3))) fG) rfl fP mH fG rP nS ?_)
   intro v2 w2 hown2 hbel2 hz2
   replace hown2:=Rep.kg.cast hown2 (HSN.out.symm)
   have HO2:=yD hown2
   have hbel3:=hbW.trans hbel2
   clear hown2 HO hbel2
   go_wp2
   go_roundw
   case rel=>exact ⟨k + 1,by omega,by go_num,HO2,hbel3⟩
   simp [intOf];omega
 obtain rfl:k=l.length:=rP
 go_wp2
 go_ret
 exact ⟨_,rfl,Rep.kg.cast HO.out rQ,hbel⟩
theorem kDn {w:World} {vl:Value} {l:List kZ} (hl:(Rep.slice 184 kF).rd w [vl] l) :
    Calls Tryz.prog 140 #[vl] w (kAt 184 kF l w):=by
 have HL:=yD hl
 obtain ⟨la,lp,rfl,ll⟩:=Rep.sl hl.1
 have hlb:l.length≤16777216:=hl.2.1
 clear hl
 go_enter Tryz.func140,Tryz.ntmps140
 go_wp2
 have O0:Rep.kg 184 kF (w.alloc (.cells #[] 184)) (.slice (some ⟨w.heap.size,0,none⟩) 0 0) [] (Btw w.heap.size (w.alloc (.cells #[] 184)).heap.size) :=
   Rep.yj (e:=184) (r:=kF) (w:=w) (cs:=[]) (xs:=[]) (T:=fun _=>False) rQ rQ rfl (fun _ h=>h.elim) ⟨Nat.le_refl _,by simp⟩
 go_loopw [3,9] (fun v i wr=>∃ k:Nat,k≤l.length∧i=.int .i64 k∧Hid (Rep.kg 184 kF wr v (l.take k) (Btw w.heap.size wr.heap.size))∧Below w.heap.size w wr) (fun _ i _=>l.length - (intOf i).toNat)
 case atStart=>exact ⟨0,Nat.zero_le _,rfl,yD O0,bR.alloc nL _⟩
 clear O0
 obtain ⟨k,hk,rfl,HO,hbel⟩:=hrel
 obtain ⟨oa,on,oc,ho,HON⟩:=HO.out.parts;obtain rfl:=ho
 have hlk:(l.take k).length≤k:=rG
 by_cases hlt:k < l.length
 · obtain ⟨qb,qo,rfl,qc0,qc1,qc2,qr,Aq0,Aq1,Aq2⟩:=Rep.kBg (HL.out.1.below hbel) hlt rfl
   have hbd:=Rep.yF HL.out hlt
   have hsn:=List.take_succ_eq_append_getElem hlt
   generalize l[k]=x at *
   have HSN:=yD hsn;clear hsn
   obtain ⟨x0,x1,x2⟩:=x
   obtain ⟨qv0,qhe,q_0,q_1,q_2,q_3⟩:=jX qr
   simp only [List.cons.injEq,and_true] at qhe
   obtain ⟨rfl,rfl,rfl⟩:=qhe
   obtain ⟨qa0,qp0,rfl,ql0⟩:=Rep.sl q_1
   have px0:kL.rd wr _ x0:=⟨q_0,hbd.1⟩
   go_upto_region 5 with fail
   generalize hwC:World.alloc wr _=wC
   have EC:Below wr.heap.size wr wC:=nA
   have hzC:wC.heap.size=wr.heap.size + 1:=qN
   have M0:wC.cell? ⟨wr.heap.size,0,none⟩=some (.slice qa0 (x0).length qp0):=nW
   have M1:wC.cell? ⟨wr.heap.size,1,none⟩=some (.int .i64 x1):=nW
   have M2:wC.cell? ⟨wr.heap.size,2,none⟩=some (.int .i64 x2):=nW
   clear hwC
   have FX:=yD (fun (W:World) (hW:Below wC.heap.size wC W)=>cLs3 hW M0 M1 M2)
   refine jf (fun W=>Below wC.heap.size wC W) [(0,true),(1,true),(2,true),(4,true),(5,true),(6,true),(7,true),(3,false),(8,true),(9,false)] rF rF gX (bR.drew) ?_
   intro wS HS
   simp only [jY,List.length_cons,List.length_nil,List.getElem?_cons_succ,List.getElem?_cons_zero,List.map_cons,List.map_nil,List.cons_append,List.nil_append,List.drop_succ_cons,List.drop_zero]
   iterate 7
    all_goals refine wkR ?_
   all_goals first|(refine kU rfl HS ?_)|(refine ky rfl (fun K hK=>?_);go_simp;refine (zW (px0.below (tQ EC HS))).mono ?_;rintro e wT0 ⟨t0_c,rfl,OT0,hbT⟩;obtain ⟨t0_qv0,rfl,t0_q_0⟩:=kM OT0.raw;obtain ⟨t0_qa0,t0_qp0,rfl,t0_ql0⟩:=Rep.sl t0_q_0;skip;clear t0_q_0;replace OT0:=yD OT0;have hs0:=hbT.size;have hr0:=HS.size;replace HS:=(tQ HS hbT);refine hK _ _ HS ?_;clear hK K hbT)
   all_goals refine wkP ?_
   all_goals refine wkR ?_
   all_goals first|(refine kU rfl HS ?_)|(refine ky rfl (fun K hK=>?_);go_simp;refine hK _ _ (HS.alloc HS.size _) ?_;clear hK K)
   all_goals refine wkP ?_
   all_goals refine jv ?_
   have hsW:=HS.size
   have hsC:=EC.size
   have hrC:=hbel.size
   have hbS:Below wr.heap.size wr _:=(tQ EC HS)
   replace HO:=yD (HO.out.below hbS)
   have hbW:=(tQ hbel hbS)
   go_wp2_with (at_builtin;refine Rep.jZ rfl _ _ 54 rfl (r:=kF) (e:=184) Tryz.underlying54 zx rfl rM rM (B:=w.heap.size) HO.out rR rR rfl (Rep.own.wide (T:=Btw wr.heap.size wT0.heap.size) (Rep.jy (OT0.out) (Rep.kAw (Rep.jG q_2) (Rep.jG q_3))) fG) rfl fP mH fG rP nS ?_)
   intro v2 w2 hown2 hbel2 hz2
   replace hown2:=Rep.kg.cast hown2 (HSN.out.symm)
   have HO2:=yD hown2
   have hbel3:=hbW.trans hbel2
   clear hown2 HO hbel2
   go_wp2
   go_roundw
   case rel=>exact ⟨k + 1,by omega,by go_num,HO2,hbel3⟩
   simp [intOf];omega
 obtain rfl:k=l.length:=rP
 go_wp2
 go_ret
 exact ⟨_,rfl,Rep.kg.cast HO.out rQ,hbel⟩
theorem kTi {w:World} {vl:Value} {l:List yA} (hl:(Rep.slice 181 kX).rd w [vl] l) :
    Calls Tryz.prog 127 #[vl] w (kAt 181 kX l w):=by
 have HL:=yD hl
 obtain ⟨la,lp,rfl,ll⟩:=Rep.sl hl.1
 have hlb:l.length≤16777216:=hl.2.1
 clear hl
 go_enter Tryz.func127,Tryz.ntmps127
 go_wp2
 have O0:Rep.kg 181 kX (w.alloc (.cells #[] 181)) (.slice (some ⟨w.heap.size,0,none⟩) 0 0) [] (Btw w.heap.size (w.alloc (.cells #[] 181)).heap.size) :=
   Rep.yj (e:=181) (r:=kX) (w:=w) (cs:=[]) (xs:=[]) (T:=fun _=>False) rQ rQ rfl (fun _ h=>h.elim) ⟨Nat.le_refl _,by simp⟩
 go_loopw [3,4] (fun v i wr=>∃ k:Nat,k≤l.length∧i=.int .i64 k∧Hid (Rep.kg 181 kX wr v (l.take k) (Btw w.heap.size wr.heap.size))∧Below w.heap.size w wr) (fun _ i _=>l.length - (intOf i).toNat)
 case atStart=>exact ⟨0,Nat.zero_le _,rfl,yD O0,bR.alloc nL _⟩
 clear O0
 obtain ⟨k,hk,rfl,HO,hbel⟩:=hrel
 obtain ⟨oa,on,oc,ho,HON⟩:=HO.out.parts;obtain rfl:=ho
 have hlk:(l.take k).length≤k:=rG
 by_cases hlt:k < l.length
 · obtain ⟨qb,qo,rfl,qc0,qc1,qc2,qr,Aq0,Aq1,Aq2⟩:=Rep.kBg (HL.out.1.below hbel) hlt rfl
   have hbd:=Rep.yF HL.out hlt
   have hsn:=List.take_succ_eq_append_getElem hlt
   generalize l[k]=x at *
   have HSN:=yD hsn;clear hsn
   obtain ⟨x0,x1,x2⟩:=x
   obtain ⟨qv0,qhe,q_0,q_1,q_2,q_3⟩:=yg qr
   simp only [List.cons.injEq,and_true] at qhe
   obtain ⟨rfl,rfl,rfl⟩:=qhe
   obtain ⟨qa0,qp0,rfl,ql0⟩:=Rep.sl q_1
   have px0:kL.rd wr _ x0:=⟨q_0,hbd.1⟩
   go_wp2_with fail
   refine (kAj px0).mono ?_
   rintro e wT ⟨tc,rfl,OT,hbT⟩
   obtain ⟨tv0,rfl,t_0⟩:=kM OT.raw
   obtain ⟨ta0,tp0,rfl,_⟩:=Rep.sl t_0
   clear t_0
   go_upto_region 6 with fail
   generalize hwC:World.alloc wT _=wC
   have EC:Below wT.heap.size wT wC:=nA
   have K0:wC.cell? ⟨wT.heap.size,0,none⟩=some (.slice ta0 x0.length tp0):=nW
   clear hwC
   have ER:=(tQ hbT EC)
   replace Aq0:=cL ER Aq0
   replace Aq1:=cL ER Aq1
   replace Aq2:=cL ER Aq2
   have FX:=yD (fun (W:World) (hW:Below wC.heap.size wC W)=>cLs4 hW K0 Aq0 Aq1 Aq2)
   refine jT (fun W=>Below wC.heap.size wC W) [true,true,true,true,true,true,true,true,true,true,true,true,true,false] rF rF gX (bR.drew) ?_
   intro wS HS
   iterate 13
    all_goals refine wkR ?_
   all_goals first|(refine kU rfl HS ?_)|(refine ky rfl (fun K hK=>?_);go_simp;refine hK _ _ (HS.alloc HS.size _) ?_;clear hK K)
   all_goals refine wkP ?_
   all_goals refine jv ?_
   have hsW:=HS.size
   have hsC:=EC.size
   have hrC:=hbel.size
   have hsT:=hbT.size
   have hbS:Below wr.heap.size wr wS:=(tQ ER HS)
   replace HO:=yD (HO.out.below hbS)
   have hbW:=(tQ hbel hbS)
   go_wp2_with (at_builtin;refine Rep.jZ rfl _ _ 53 rfl (r:=kX) (e:=181) Tryz.underlying53 infRoute rfl rM rM (B:=w.heap.size) HO.out rR rR rfl (Rep.own.wide (T:=Btw wr.heap.size wT.heap.size) (Rep.jy (OT.below (tQ EC HS)) (Rep.kAw (Rep.jG q_2) (Rep.jG q_3))) fG) rfl fP mH fG rP nS ?_)
   intro v2 w2 hown2 hbel2 hz2
   replace hown2:=Rep.kg.cast hown2 (HSN.out.symm)
   have HO2:=yD hown2
   have hbel3:=hbW.trans hbel2
   clear hown2 HO hbel2
   go_wp2
   go_roundw
   case rel=>exact ⟨k + 1,by omega,by go_num,HO2,hbel3⟩
   simp [intOf];omega
 obtain rfl:k=l.length:=rP
 go_wp2
 go_ret
 exact ⟨_,rfl,Rep.kg.cast HO.out rQ,hbel⟩
theorem kKb {w:World} {vl:Value} {l:List kZ} (hl:(Rep.slice 184 kF).rd w [vl] l) :
    Calls Tryz.prog 128 #[vl] w (kAt 184 kF l w):=by
 have HL:=yD hl
 obtain ⟨la,lp,rfl,ll⟩:=Rep.sl hl.1
 have hlb:l.length≤16777216:=hl.2.1
 clear hl
 go_enter Tryz.func128,Tryz.ntmps128
 go_wp2
 have O0:Rep.kg 184 kF (w.alloc (.cells #[] 184)) (.slice (some ⟨w.heap.size,0,none⟩) 0 0) [] (Btw w.heap.size (w.alloc (.cells #[] 184)).heap.size) :=
   Rep.yj (e:=184) (r:=kF) (w:=w) (cs:=[]) (xs:=[]) (T:=fun _=>False) rQ rQ rfl (fun _ h=>h.elim) ⟨Nat.le_refl _,by simp⟩
 go_loopw [3,4] (fun v i wr=>∃ k:Nat,k≤l.length∧i=.int .i64 k∧Hid (Rep.kg 184 kF wr v (l.take k) (Btw w.heap.size wr.heap.size))∧Below w.heap.size w wr) (fun _ i _=>l.length - (intOf i).toNat)
 case atStart=>exact ⟨0,Nat.zero_le _,rfl,yD O0,bR.alloc nL _⟩
 clear O0
 obtain ⟨k,hk,rfl,HO,hbel⟩:=hrel
 obtain ⟨oa,on,oc,ho,HON⟩:=HO.out.parts;obtain rfl:=ho
 have hlk:(l.take k).length≤k:=rG
 by_cases hlt:k < l.length
 · obtain ⟨qb,qo,rfl,qc0,qc1,qc2,qr,Aq0,Aq1,Aq2⟩:=Rep.kBg (HL.out.1.below hbel) hlt rfl
   have hbd:=Rep.yF HL.out hlt
   have hsn:=List.take_succ_eq_append_getElem hlt
   generalize l[k]=x at *
   have HSN:=yD hsn;clear hsn
   obtain ⟨x0,x1,x2⟩:=x
   obtain ⟨qv0,qhe,q_0,q_1,q_2,q_3⟩:=jX qr
   simp only [List.cons.injEq,and_true] at qhe
   obtain ⟨rfl,rfl,rfl⟩:=qhe
   obtain ⟨qa0,qp0,rfl,ql0⟩:=Rep.sl q_1
   have px0:kL.rd wr _ x0:=⟨q_0,hbd.1⟩
   go_wp2_with fail
   refine (kAj px0).mono ?_
   rintro e wT ⟨tc,rfl,OT,hbT⟩
   obtain ⟨tv0,rfl,t_0⟩:=kM OT.raw
   obtain ⟨ta0,tp0,rfl,_⟩:=Rep.sl t_0
   clear t_0
   go_upto_region 6 with fail
   generalize hwC:World.alloc wT _=wC
   have EC:Below wT.heap.size wT wC:=nA
   have K0:wC.cell? ⟨wT.heap.size,0,none⟩=some (.slice ta0 x0.length tp0):=nW
   clear hwC
   have ER:=(tQ hbT EC)
   replace Aq0:=cL ER Aq0
   replace Aq1:=cL ER Aq1
   replace Aq2:=cL ER Aq2
   have FX:=yD (fun (W:World) (hW:Below wC.heap.size wC W)=>cLs4 hW K0 Aq0 Aq1 Aq2)
   refine jT (fun W=>Below wC.heap.size wC W) [true,true,true,true,true,true,true,true,true,true,true,true,true,false] rF rF gX (bR.drew) ?_
   intro wS HS
   iterate 13
    all_goals refine wkR ?_
   all_goals first|(refine kU rfl HS ?_)|(refine ky rfl (fun K hK=>?_);go_simp;refine hK _ _ (HS.alloc HS.size _) ?_;clear hK K)
   all_goals refine wkP ?_
   all_goals refine jv ?_
   have hsW:=HS.size
   have hsC:=EC.size
   have hrC:=hbel.size
   have hsT:=hbT.size
   have hbS:Below wr.heap.size wr wS:=(tQ ER HS)
   replace HO:=yD (HO.out.below hbS)
   have hbW:=(tQ hbel hbS)
   go_wp2_with (at_builtin;refine Rep.jZ rfl _ _ 54 rfl (r:=kF) (e:=184) Tryz.underlying54 zx rfl rM rM (B:=w.heap.size) HO.out rR rR rfl (Rep.own.wide (T:=Btw wr.heap.size wT.heap.size) (Rep.jy (OT.below (tQ EC HS)) (Rep.kAw (Rep.jG q_2) (Rep.jG q_3))) fG) rfl fP mH fG rP nS ?_)
   intro v2 w2 hown2 hbel2 hz2
   replace hown2:=Rep.kg.cast hown2 (HSN.out.symm)
   have HO2:=yD hown2
   have hbel3:=hbW.trans hbel2
   clear hown2 HO hbel2
   go_wp2
   go_roundw
   case rel=>exact ⟨k + 1,by omega,by go_num,HO2,hbel3⟩
   simp [intOf];omega
 obtain rfl:k=l.length:=rP
 go_wp2
 go_ret
 exact ⟨_,rfl,Rep.kg.cast HO.out rQ,hbel⟩
end Go.Proofs.YtlfblpgkegeaeaaGreat

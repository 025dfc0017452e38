/-
  The laws' measures of size: what they let pass is bounded. Printed by gensz.py.
-/
import Derived.Test.YtlfblpgkegeaeaaGreatProg
import Derived.Test.YtlfblpgkegeaeaaGreatTypes
import Derived.WalkLawsBesides
import Derived.BigQuiet
import Derived.Deep.QuietTactic
import Derived.StillTailTactics
set_option linter.unusedVariables false
set_option linter.unusedSimpArgs false
set_option linter.unnecessarySimpa false
set_option maxRecDepth 100000
set_option maxHeartbeats 4000000
namespace Go.Proofs.YtlfblpgkegeaeaaGreat
open Go.RowKit
def zz (bd:Prop) (left:Int) (w:World) (e:Ending) (w':World):Prop:=∃ r:Int,e=.returned (.int .i64 r)∧-1≤r∧r≤left∧(0≤r→bd)∧Below w.heap.size w w'
theorem jL {bd:Prop} {left:Int} {w w':World} (hl:0≤left) (h:Below w.heap.size w w'):zz bd left w (.returned (.int .i64 (-1))) w':=⟨-1,rfl,by omega,by omega,by omega,h⟩
theorem zQ {α:Type} {P:α→Prop} {x:List α} {k:Nat} (h:∀ y∈x.take k,P y) (hk:k < x.length) (hy:P x[k]):∀ y∈x.take (k + 1),P y:=by
 rw [List.take_succ_eq_append_getElem hk]
 intro y hm
 rcases List.mem_append.1 hm with hm | hm
 · exact h y hm
 rw [List.mem_singleton.1 hm];exact hy
theorem zR {α:Type} {P:α→Prop} {x:List α} {k:Nat} (h:∀ y∈x.take k,P y) (hk:¬ k < x.length):∀ y∈x,P y:=by
 rwa [List.take_of_length_le rP] at h
theorem kOs {w:World} {va:Value} {x:List ByteArray} {left:Int} (ha:(Rep.slice 9 Rep.str).raw w [va] x) (hl0:0≤left) (hl1:left≤1048576) :
    Calls Tryz.prog 100 #[va,.int .i64 left] w (zz ((Rep.slice 9 Rep.str).bdd 1048576 x) left w):=by
 obtain ⟨aa,capa,rfl,la⟩:=Rep.sl ha
 go_enter Tryz.func100,Tryz.ntmps100
 by_cases hb:left < (x.length:Int)
 · have hb1:left - (x.length:Int) < 0:=rP
   have hb2:-9223372036854775808≤left - (x.length:Int):=rP
   go_wp2
   go_ret
   exact jL hl0 bR
 have hb1:0≤left - (x.length:Int):=rP
 have hb2:¬ left - (x.length:Int) < 0:=rP
 go_wp2
 go_loopw [1,5] (fun l i wr=>∃ (k:Nat) (r:Int),k≤x.length∧i=.int .i64 k∧l=.int .i64 r∧0≤r∧r≤left∧(∀ y∈x.take k,Rep.str.bdd 1048576 y)∧Below w.heap.size w wr) (fun _ i _=>x.length - (intOf i).toNat)
 case atStart=>exact ⟨0,_,Nat.zero_le _,rfl,rfl,hb1,by omega,by simp,bR⟩
 obtain ⟨k,r,hk,rfl,rfl,hr0,hr1,hall,hbel⟩:=hrel
 have HA:=yD hall;clear hall
 by_cases hlt:k < x.length
 · obtain ⟨ba,offa,rfl,c0,hr,A0⟩:=Rep.kAy (ha.below hbel) hlt rfl
   obtain ⟨he,hz⟩:=Rep.yQ hr
   obtain rfl:c0=_:=by simpa using he
   unfold maxLen at hz
   clear he hr
   by_cases hs:r < (x[k].size:Int)
   · have h1:r - (x[k].size:Int) < 0:=rP
     have h2:-9223372036854775808≤r - (x[k].size:Int):=rP
     go_wp2
     go_ret
     exact jL hl0 hbel
   have h1:0≤r - (x[k].size:Int):=rP
   have h2:¬ r - (x[k].size:Int) < 0:=rP
   go_wp2
   go_roundw
   case rel=>exact ⟨k + 1,_,by omega,by go_num,rfl,h1,by omega,zQ HA.out hlt (by show x[k].size≤1048576;omega),hbel⟩
   simp [intOf];omega
 go_wp2
 go_ret
 exact ⟨_,rfl,by omega,by omega,fun _=>⟨by omega,zR HA.out hlt⟩,hbel⟩
theorem szByteS_c {w:World} {va:Value} {x:List UInt8} {left:Int} (ha:(Rep.slice 5 Rep.byte).raw w [va] x) (hl0:0≤left) (hl1:left≤1048576) :
    Calls Tryz.prog 34 #[va,.int .i64 left] w (zz ((Rep.slice 5 Rep.byte).bdd 1048576 x) left w):=by
 obtain ⟨aa,capa,rfl,la⟩:=Rep.sl ha
 go_enter Tryz.func34,Tryz.ntmps34
 by_cases hb:left < (x.length:Int)
 · have hb1:left - (x.length:Int) < 0:=rP
   have hb2:-9223372036854775808≤left - (x.length:Int):=rP
   go_wp2
   go_ret
   exact jL hl0 bR
 have hb1:0≤left - (x.length:Int):=rP
 have hb2:¬ left - (x.length:Int) < 0:=rP
 go_wp2
 go_ret
 exact ⟨_,rfl,by omega,by omega,fun _=>⟨by omega,fun _ _=>by first | trivial | exact ⟨trivial,trivial⟩ | exact ⟨trivial,trivial,trivial⟩ | exact ⟨trivial,trivial,trivial,trivial⟩⟩,bR⟩
theorem kEf {w:World} {ca:List Value} {x:kW} {left:Int} (ha:kL.raw w ca x) (hl0:0≤left) (hl1:left≤1048576) :
    Calls Tryz.prog 33 #[.agg ca.toArray,.int .i64 left] w (zz (kL.bdd 1048576 x) left w):=by
 obtain ⟨av0,rfl,a_0⟩:=kM ha
 obtain ⟨x0,rfl⟩:∃ x0,x0=x:=⟨_,rfl⟩
 clear ha
 go_enter Tryz.func33,Tryz.ntmps33
 go_wp2_with fail
 refine (kOs (a_0.alloc _) hl0 hl1).mono ?_
 rintro e w1 ⟨r1,rfl,p1,q1,s1,hb1⟩
 have S1:=yD s1;clear s1
 have D1:=hb1
 have E1:Below w.heap.size w w1:=(bR.alloc nL _).trans (hb1.mono rQ)
 obtain ⟨hc1,hf1⟩:=jO D1;clear hb1
 by_cases m1:r1 < 0
 · go_wp2
   go_ret
   exact jL hl0 E1
 have n1:0≤r1:=rP
 go_wp2
 go_ret
 exact ⟨_,rfl,by omega,by omega,fun _=>S1.out n1,E1⟩
theorem szNameS_c {w:World} {va:Value} {x:List kW} {left:Int} (ha:(Rep.slice 64 kL).raw w [va] x) (hl0:0≤left) (hl1:left≤1048576) :
    Calls Tryz.prog 32 #[va,.int .i64 left] w (zz ((Rep.slice 64 kL).bdd 1048576 x) left w):=by
 obtain ⟨aa,capa,rfl,la⟩:=Rep.sl ha
 go_enter Tryz.func32,Tryz.ntmps32
 by_cases hb:left < (x.length:Int)
 · have hb1:left - (x.length:Int) < 0:=rP
   have hb2:-9223372036854775808≤left - (x.length:Int):=rP
   go_wp2
   go_ret
   exact jL hl0 bR
 have hb1:0≤left - (x.length:Int):=rP
 have hb2:¬ left - (x.length:Int) < 0:=rP
 go_wp2
 go_loopw [1,5] (fun l i wr=>∃ (k:Nat) (r:Int),k≤x.length∧i=.int .i64 k∧l=.int .i64 r∧0≤r∧r≤left∧(∀ y∈x.take k,kL.bdd 1048576 y)∧Below w.heap.size w wr) (fun _ i _=>x.length - (intOf i).toNat)
 case atStart=>exact ⟨0,_,Nat.zero_le _,rfl,rfl,hb1,by omega,by simp,bR⟩
 obtain ⟨k,r,hk,rfl,rfl,hr0,hr1,hall,hbel⟩:=hrel
 have HA:=yD hall;clear hall
 by_cases hlt:k < x.length
 · obtain ⟨ba,offa,rfl,c0,hr,A0⟩:=Rep.kAy (ha.below hbel) hlt rfl
   go_wp2_with fail
   refine (kEf hr hr0 rP).mono ?_
   rintro e w' ⟨r',rfl,h1,h2,h3,hb3⟩
   have HB:=yD h3;clear h3 hr
   have hbel2:=(tQ hbel hb3)
   by_cases hs:r' < 0
   · go_wp2
     go_ret
     exact jL hl0 hbel2
   have h4:0≤r':=rP
   go_wp2
   go_roundw
   case rel=>exact ⟨k + 1,_,by omega,by go_num,rfl,h4,by omega,zQ HA.out hlt (HB.out h4),hbel2⟩
   simp [intOf];omega
 go_wp2
 go_ret
 exact ⟨_,rfl,by omega,by omega,fun _=>⟨by omega,zR HA.out hlt⟩,hbel⟩
theorem kPk {w:World} {ca:List Value} {x:kZ} {left:Int} (ha:kF.raw w ca x) (hl0:0≤left) (hl1:left≤1048576) :
    Calls Tryz.prog 97 #[.agg ca.toArray,.int .i64 left] w (zz (kF.bdd 1048576 x) left w):=by
 obtain ⟨av0,rfl,a_0,a_1,a_2,a_3⟩:=jX ha
 obtain ⟨x0,x1,x2⟩:=x
 clear ha a_1 a_2 a_3
 go_enter Tryz.func97,Tryz.ntmps97
 go_wp2_with fail
 refine (kEf (a_0.alloc _) hl0 hl1).mono ?_
 rintro e w1 ⟨r1,rfl,p1,q1,s1,hb1⟩
 have S1:=yD s1;clear s1
 have D1:=hb1
 have E1:Below w.heap.size w w1:=(bR.alloc nL _).trans (hb1.mono rQ)
 obtain ⟨hc1,hf1⟩:=jO D1;clear hb1
 by_cases m1:r1 < 0
 · go_wp2
   go_ret
   exact jL hl0 E1
 have n1:0≤r1:=rP
 go_wp2
 go_ret
 exact ⟨_,rfl,by omega,by omega,fun _=>⟨S1.out n1,trivial,trivial⟩,E1⟩
theorem kNa {w:World} {va:Value} {x:List kZ} {left:Int} (ha:(Rep.slice 184 kF).raw w [va] x) (hl0:0≤left) (hl1:left≤1048576) :
    Calls Tryz.prog 29 #[va,.int .i64 left] w (zz ((Rep.slice 184 kF).bdd 1048576 x) left w):=by
 obtain ⟨aa,capa,rfl,la⟩:=Rep.sl ha
 go_enter Tryz.func29,Tryz.ntmps29
 by_cases hb:left < (x.length:Int)
 · have hb1:left - (x.length:Int) < 0:=rP
   have hb2:-9223372036854775808≤left - (x.length:Int):=rP
   go_wp2
   go_ret
   exact jL hl0 bR
 have hb1:0≤left - (x.length:Int):=rP
 have hb2:¬ left - (x.length:Int) < 0:=rP
 go_wp2
 go_loopw [1,5] (fun l i wr=>∃ (k:Nat) (r:Int),k≤x.length∧i=.int .i64 k∧l=.int .i64 r∧0≤r∧r≤left∧(∀ y∈x.take k,kF.bdd 1048576 y)∧Below w.heap.size w wr) (fun _ i _=>x.length - (intOf i).toNat)
 case atStart=>exact ⟨0,_,Nat.zero_le _,rfl,rfl,hb1,by omega,by simp,bR⟩
 obtain ⟨k,r,hk,rfl,rfl,hr0,hr1,hall,hbel⟩:=hrel
 have HA:=yD hall;clear hall
 by_cases hlt:k < x.length
 · obtain ⟨ba,offa,rfl,c0,c1,c2,hr,A0,A1,A2⟩:=Rep.kBg (ha.below hbel) hlt rfl
   go_wp2_with fail
   refine (kPk hr hr0 rP).mono ?_
   rintro e w' ⟨r',rfl,h1,h2,h3,hb3⟩
   have HB:=yD h3;clear h3 hr
   have hbel2:=(tQ hbel hb3)
   by_cases hs:r' < 0
   · go_wp2
     go_ret
     exact jL hl0 hbel2
   have h4:0≤r':=rP
   go_wp2
   go_roundw
   case rel=>exact ⟨k + 1,_,by omega,by go_num,rfl,h4,by omega,zQ HA.out hlt (HB.out h4),hbel2⟩
   simp [intOf];omega
 go_wp2
 go_ret
 exact ⟨_,rfl,by omega,by omega,fun _=>⟨by omega,zR HA.out hlt⟩,hbel⟩
theorem szRoute_c {w:World} {ca:List Value} {x:yA} {left:Int} (ha:kX.raw w ca x) (hl0:0≤left) (hl1:left≤1048576) :
    Calls Tryz.prog 96 #[.agg ca.toArray,.int .i64 left] w (zz (kX.bdd 1048576 x) left w):=by
 obtain ⟨av0,rfl,a_0,a_1,a_2,a_3⟩:=yg ha
 obtain ⟨x0,x1,x2⟩:=x
 clear ha a_1 a_2 a_3
 go_enter Tryz.func96,Tryz.ntmps96
 go_wp2_with fail
 refine (kEf (a_0.alloc _) hl0 hl1).mono ?_
 rintro e w1 ⟨r1,rfl,p1,q1,s1,hb1⟩
 have S1:=yD s1;clear s1
 have D1:=hb1
 have E1:Below w.heap.size w w1:=(bR.alloc nL _).trans (hb1.mono rQ)
 obtain ⟨hc1,hf1⟩:=jO D1;clear hb1
 by_cases m1:r1 < 0
 · go_wp2
   go_ret
   exact jL hl0 E1
 have n1:0≤r1:=rP
 go_wp2
 go_ret
 exact ⟨_,rfl,by omega,by omega,fun _=>⟨S1.out n1,trivial,trivial⟩,E1⟩
theorem szRouteS_c {w:World} {va:Value} {x:List yA} {left:Int} (ha:(Rep.slice 181 kX).raw w [va] x) (hl0:0≤left) (hl1:left≤1048576) :
    Calls Tryz.prog 28 #[va,.int .i64 left] w (zz ((Rep.slice 181 kX).bdd 1048576 x) left w):=by
 obtain ⟨aa,capa,rfl,la⟩:=Rep.sl ha
 go_enter Tryz.func28,Tryz.ntmps28
 by_cases hb:left < (x.length:Int)
 · have hb1:left - (x.length:Int) < 0:=rP
   have hb2:-9223372036854775808≤left - (x.length:Int):=rP
   go_wp2
   go_ret
   exact jL hl0 bR
 have hb1:0≤left - (x.length:Int):=rP
 have hb2:¬ left - (x.length:Int) < 0:=rP
 go_wp2
 go_loopw [1,5] (fun l i wr=>∃ (k:Nat) (r:Int),k≤x.length∧i=.int .i64 k∧l=.int .i64 r∧0≤r∧r≤left∧(∀ y∈x.take k,kX.bdd 1048576 y)∧Below w.heap.size w wr) (fun _ i _=>x.length - (intOf i).toNat)
 case atStart=>exact ⟨0,_,Nat.zero_le _,rfl,rfl,hb1,by omega,by simp,bR⟩
 obtain ⟨k,r,hk,rfl,rfl,hr0,hr1,hall,hbel⟩:=hrel
 have HA:=yD hall;clear hall
 by_cases hlt:k < x.length
 · obtain ⟨ba,offa,rfl,c0,c1,c2,hr,A0,A1,A2⟩:=Rep.kBg (ha.below hbel) hlt rfl
   go_wp2_with fail
   refine (szRoute_c hr hr0 rP).mono ?_
   rintro e w' ⟨r',rfl,h1,h2,h3,hb3⟩
   have HB:=yD h3;clear h3 hr
   have hbel2:=(tQ hbel hb3)
   by_cases hs:r' < 0
   · go_wp2
     go_ret
     exact jL hl0 hbel2
   have h4:0≤r':=rP
   go_wp2
   go_roundw
   case rel=>exact ⟨k + 1,_,by omega,by go_num,rfl,h4,by omega,zQ HA.out hlt (HB.out h4),hbel2⟩
   simp [intOf];omega
 go_wp2
 go_ret
 exact ⟨_,rfl,by omega,by omega,fun _=>⟨by omega,zR HA.out hlt⟩,hbel⟩
theorem kQz {w:World} {va:Value} {x:List jP} {left:Int} (ha:(Rep.slice 123 kQ).raw w [va] x) (hl0:0≤left) (hl1:left≤1048576) :
    Calls Tryz.prog 166 #[va,.int .i64 left] w (zz ((Rep.slice 123 kQ).bdd 1048576 x) left w):=by
 obtain ⟨aa,capa,rfl,la⟩:=Rep.sl ha
 go_enter Tryz.func166,Tryz.ntmps166
 by_cases hb:left < (x.length:Int)
 · have hb1:left - (x.length:Int) < 0:=rP
   have hb2:-9223372036854775808≤left - (x.length:Int):=rP
   go_wp2
   go_ret
   exact jL hl0 bR
 have hb1:0≤left - (x.length:Int):=rP
 have hb2:¬ left - (x.length:Int) < 0:=rP
 go_wp2
 go_ret
 exact ⟨_,rfl,by omega,by omega,fun _=>⟨by omega,fun _ _=>by first | trivial | exact ⟨trivial,trivial⟩ | exact ⟨trivial,trivial,trivial⟩ | exact ⟨trivial,trivial,trivial,trivial⟩⟩,bR⟩
theorem kJj {w:World} {ca:List Value} {x:kS} {left:Int} (ha:kE.raw w ca x) (hl0:0≤left) (hl1:left≤1048576) :
    Calls Tryz.prog 94 #[.agg ca.toArray,.int .i64 left] w (zz (kE.bdd 1048576 x) left w):=by
 obtain ⟨av0,av1,rfl,a_0,a_1,a_2,a_3⟩:=jN ha
 obtain ⟨x0,x1,x2⟩:=x
 clear ha a_1 a_3
 go_enter Tryz.func94,Tryz.ntmps94
 go_wp2_with fail
 refine (kEf (a_0.alloc _) hl0 hl1).mono ?_
 rintro e w1 ⟨r1,rfl,p1,q1,s1,hb1⟩
 have S1:=yD s1;clear s1
 have D1:=hb1
 have E1:Below w.heap.size w w1:=(bR.alloc nL _).trans (hb1.mono rQ)
 obtain ⟨hc1,hf1⟩:=jO D1;clear hb1
 by_cases m1:r1 < 0
 · go_wp2
   go_ret
   exact jL hl0 E1
 have n1:0≤r1:=rP
 go_wp2_with fail
 refine (kQz (a_2.below E1) n1 rP).mono ?_
 rintro e w2 ⟨r2,rfl,p2,q2,s2,hb2⟩
 have S2:=yD s2;clear s2
 have D2:=(tQ D1 hb2)
 have E2:=(tQ E1 hb2)
 clear hc1 hf1 hb2
 obtain ⟨hc2,hf2⟩:=jO D2
 by_cases m2:r2 < 0
 · go_wp2
   go_ret
   exact jL hl0 E2
 have n2:0≤r2:=rP
 go_wp2
 go_ret
 exact ⟨_,rfl,by omega,by omega,fun _=>⟨S1.out n1,S2.out n2,trivial⟩,E2⟩
theorem kIe {w:World} {va:Value} {x:List kS} {left:Int} (ha:(Rep.slice 175 kE).raw w [va] x) (hl0:0≤left) (hl1:left≤1048576) :
    Calls Tryz.prog 26 #[va,.int .i64 left] w (zz ((Rep.slice 175 kE).bdd 1048576 x) left w):=by
 obtain ⟨aa,capa,rfl,la⟩:=Rep.sl ha
 go_enter Tryz.func26,Tryz.ntmps26
 by_cases hb:left < (x.length:Int)
 · have hb1:left - (x.length:Int) < 0:=rP
   have hb2:-9223372036854775808≤left - (x.length:Int):=rP
   go_wp2
   go_ret
   exact jL hl0 bR
 have hb1:0≤left - (x.length:Int):=rP
 have hb2:¬ left - (x.length:Int) < 0:=rP
 go_wp2
 go_loopw [1,5] (fun l i wr=>∃ (k:Nat) (r:Int),k≤x.length∧i=.int .i64 k∧l=.int .i64 r∧0≤r∧r≤left∧(∀ y∈x.take k,kE.bdd 1048576 y)∧Below w.heap.size w wr) (fun _ i _=>x.length - (intOf i).toNat)
 case atStart=>exact ⟨0,_,Nat.zero_le _,rfl,rfl,hb1,by omega,by simp,bR⟩
 obtain ⟨k,r,hk,rfl,rfl,hr0,hr1,hall,hbel⟩:=hrel
 have HA:=yD hall;clear hall
 by_cases hlt:k < x.length
 · obtain ⟨ba,offa,rfl,c0,c1,c2,hr,A0,A1,A2⟩:=Rep.kBg (ha.below hbel) hlt rfl
   go_wp2_with fail
   refine (kJj hr hr0 rP).mono ?_
   rintro e w' ⟨r',rfl,h1,h2,h3,hb3⟩
   have HB:=yD h3;clear h3 hr
   have hbel2:=(tQ hbel hb3)
   by_cases hs:r' < 0
   · go_wp2
     go_ret
     exact jL hl0 hbel2
   have h4:0≤r':=rP
   go_wp2
   go_roundw
   case rel=>exact ⟨k + 1,_,by omega,by go_num,rfl,h4,by omega,zQ HA.out hlt (HB.out h4),hbel2⟩
   simp [intOf];omega
 go_wp2
 go_ret
 exact ⟨_,rfl,by omega,by omega,fun _=>⟨by omega,zR HA.out hlt⟩,hbel⟩
theorem kTe {w:World} {ca:List Value} {x:jK} {left:Int} (ha:kJ.raw w ca x) (hl0:0≤left) (hl1:left≤1048576) :
    Calls Tryz.prog 95 #[.agg ca.toArray,.int .i64 left] w (zz (kJ.bdd 1048576 x) left w):=by
 obtain ⟨av0,rfl,a_0,a_1,a_2⟩:=yt ha
 obtain ⟨x0,x1⟩:=x
 clear ha a_1 a_2
 go_enter Tryz.func95,Tryz.ntmps95
 go_wp2_with fail
 refine (kEf (a_0.alloc _) hl0 hl1).mono ?_
 rintro e w1 ⟨r1,rfl,p1,q1,s1,hb1⟩
 have S1:=yD s1;clear s1
 have D1:=hb1
 have E1:Below w.heap.size w w1:=(bR.alloc nL _).trans (hb1.mono rQ)
 obtain ⟨hc1,hf1⟩:=jO D1;clear hb1
 by_cases m1:r1 < 0
 · go_wp2
   go_ret
   exact jL hl0 E1
 have n1:0≤r1:=rP
 go_wp2
 go_ret
 exact ⟨_,rfl,by omega,by omega,fun _=>⟨S1.out n1,trivial⟩,E1⟩
theorem kQy {w:World} {va:Value} {x:List jK} {left:Int} (ha:(Rep.slice 178 kJ).raw w [va] x) (hl0:0≤left) (hl1:left≤1048576) :
    Calls Tryz.prog 27 #[va,.int .i64 left] w (zz ((Rep.slice 178 kJ).bdd 1048576 x) left w):=by
 obtain ⟨aa,capa,rfl,la⟩:=Rep.sl ha
 go_enter Tryz.func27,Tryz.ntmps27
 by_cases hb:left < (x.length:Int)
 · have hb1:left - (x.length:Int) < 0:=rP
   have hb2:-9223372036854775808≤left - (x.length:Int):=rP
   go_wp2
   go_ret
   exact jL hl0 bR
 have hb1:0≤left - (x.length:Int):=rP
 have hb2:¬ left - (x.length:Int) < 0:=rP
 go_wp2
 go_loopw [1,5] (fun l i wr=>∃ (k:Nat) (r:Int),k≤x.length∧i=.int .i64 k∧l=.int .i64 r∧0≤r∧r≤left∧(∀ y∈x.take k,kJ.bdd 1048576 y)∧Below w.heap.size w wr) (fun _ i _=>x.length - (intOf i).toNat)
 case atStart=>exact ⟨0,_,Nat.zero_le _,rfl,rfl,hb1,by omega,by simp,bR⟩
 obtain ⟨k,r,hk,rfl,rfl,hr0,hr1,hall,hbel⟩:=hrel
 have HA:=yD hall;clear hall
 by_cases hlt:k < x.length
 · obtain ⟨ba,offa,rfl,c0,c1,hr,A0,A1⟩:=Rep.kEk (ha.below hbel) hlt rfl
   go_wp2_with fail
   refine (kTe hr hr0 rP).mono ?_
   rintro e w' ⟨r',rfl,h1,h2,h3,hb3⟩
   have HB:=yD h3;clear h3 hr
   have hbel2:=(tQ hbel hb3)
   by_cases hs:r' < 0
   · go_wp2
     go_ret
     exact jL hl0 hbel2
   have h4:0≤r':=rP
   go_wp2
   go_roundw
   case rel=>exact ⟨k + 1,_,by omega,by go_num,rfl,h4,by omega,zQ HA.out hlt (HB.out h4),hbel2⟩
   simp [intOf];omega
 go_wp2
 go_ret
 exact ⟨_,rfl,by omega,by omega,fun _=>⟨by omega,zR HA.out hlt⟩,hbel⟩
theorem kRa {w:World} {ca:List Value} {x:jJ} {left:Int} (ha:kP.raw w ca x) (hl0:0≤left) (hl1:left≤1048576) :
    Calls Tryz.prog 7 #[.agg ca.toArray,.int .i64 left] w (zz (kP.bdd 1048576 x) left w):=by
 obtain ⟨av0,av1,av2,rfl,a_0,a_1,a_2,a_3,a_4,a_5,a_6⟩:=kY ha
 obtain ⟨x0,x1,x2,x3,x4⟩:=x
 clear ha a_1 a_4 a_5 a_6
 go_enter Tryz.func7,Tryz.ntmps7
 go_wp2_with fail
 refine (kEf (a_0.alloc _) hl0 hl1).mono ?_
 rintro e w1 ⟨r1,rfl,p1,q1,s1,hb1⟩
 have S1:=yD s1;clear s1
 have D1:=hb1
 have E1:Below w.heap.size w w1:=(bR.alloc nL _).trans (hb1.mono rQ)
 obtain ⟨hc1,hf1⟩:=jO D1;clear hb1
 by_cases m1:r1 < 0
 · go_wp2
   go_ret
   exact jL hl0 E1
 have n1:0≤r1:=rP
 go_wp2_with fail
 refine (szByteS_c (a_2.below E1) n1 rP).mono ?_
 rintro e w2 ⟨r2,rfl,p2,q2,s2,hb2⟩
 have S2:=yD s2;clear s2
 have D2:=(tQ D1 hb2)
 have E2:=(tQ E1 hb2)
 clear hc1 hf1 hb2
 obtain ⟨hc2,hf2⟩:=jO D2
 by_cases m2:r2 < 0
 · go_wp2
   go_ret
   exact jL hl0 E2
 have n2:0≤r2:=rP
 go_wp2_with fail
 refine (kEf (a_3.below E2) n2 rP).mono ?_
 rintro e w3 ⟨r3,rfl,p3,q3,s3,hb3⟩
 have S3:=yD s3;clear s3
 have D3:=(tQ D2 hb3)
 have E3:=(tQ E2 hb3)
 clear hc2 hf2 hb3
 obtain ⟨hc3,hf3⟩:=jO D3
 by_cases m3:r3 < 0
 · go_wp2
   go_ret
   exact jL hl0 E3
 have n3:0≤r3:=rP
 go_wp2
 go_ret
 exact ⟨_,rfl,by omega,by omega,fun _=>⟨S1.out n1,S2.out n2,S3.out n3,trivial,trivial⟩,E3⟩
theorem kUj {w:World} {va:Value} {x:List jJ} {left:Int} (ha:(Rep.slice 66 kP).raw w [va] x) (hl0:0≤left) (hl1:left≤1048576) :
    Calls Tryz.prog 24 #[va,.int .i64 left] w (zz ((Rep.slice 66 kP).bdd 1048576 x) left w):=by
 obtain ⟨aa,capa,rfl,la⟩:=Rep.sl ha
 go_enter Tryz.func24,Tryz.ntmps24
 by_cases hb:left < (x.length:Int)
 · have hb1:left - (x.length:Int) < 0:=rP
   have hb2:-9223372036854775808≤left - (x.length:Int):=rP
   go_wp2
   go_ret
   exact jL hl0 bR
 have hb1:0≤left - (x.length:Int):=rP
 have hb2:¬ left - (x.length:Int) < 0:=rP
 go_wp2
 go_loopw [1,5] (fun l i wr=>∃ (k:Nat) (r:Int),k≤x.length∧i=.int .i64 k∧l=.int .i64 r∧0≤r∧r≤left∧(∀ y∈x.take k,kP.bdd 1048576 y)∧Below w.heap.size w wr) (fun _ i _=>x.length - (intOf i).toNat)
 case atStart=>exact ⟨0,_,Nat.zero_le _,rfl,rfl,hb1,by omega,by simp,bR⟩
 obtain ⟨k,r,hk,rfl,rfl,hr0,hr1,hall,hbel⟩:=hrel
 have HA:=yD hall;clear hall
 by_cases hlt:k < x.length
 · obtain ⟨ba,offa,rfl,c0,c1,c2,c3,c4,hr,A0,A1,A2,A3,A4⟩:=Rep.get5 (ha.below hbel) hlt rfl
   go_wp2_with fail
   refine (kRa hr hr0 rP).mono ?_
   rintro e w' ⟨r',rfl,h1,h2,h3,hb3⟩
   have HB:=yD h3;clear h3 hr
   have hbel2:=(tQ hbel hb3)
   by_cases hs:r' < 0
   · go_wp2
     go_ret
     exact jL hl0 hbel2
   have h4:0≤r':=rP
   go_wp2
   go_roundw
   case rel=>exact ⟨k + 1,_,by omega,by go_num,rfl,h4,by omega,zQ HA.out hlt (HB.out h4),hbel2⟩
   simp [intOf];omega
 go_wp2
 go_ret
 exact ⟨_,rfl,by omega,by omega,fun _=>⟨by omega,zR HA.out hlt⟩,hbel⟩
theorem kRb {w:World} {ca:List Value} {x:ko} {left:Int} (ha:kH.raw w ca x) (hl0:0≤left) (hl1:left≤1048576) :
    Calls Tryz.prog 165 #[.agg ca.toArray,.int .i64 left] w (zz (kH.bdd 1048576 x) left w):=by
 obtain ⟨av0,av1,av2,rfl,a_0,a_1,a_2,a_3,a_4,a_5,a_6,a_7,a_8⟩:=jQ ha
 obtain ⟨x0,x1⟩:=x
 clear ha a_1 a_2 a_3 a_4 a_5 a_6 a_7 a_8
 go_enter Tryz.func165,Tryz.ntmps165
 go_wp2_with fail
 refine (kRa (a_0.alloc _) hl0 hl1).mono ?_
 rintro e w1 ⟨r1,rfl,p1,q1,s1,hb1⟩
 have S1:=yD s1;clear s1
 have D1:=hb1
 have E1:Below w.heap.size w w1:=(bR.alloc nL _).trans (hb1.mono rQ)
 obtain ⟨hc1,hf1⟩:=jO D1;clear hb1
 by_cases m1:r1 < 0
 · go_wp2
   go_ret
   exact jL hl0 E1
 have n1:0≤r1:=rP
 go_wp2
 go_ret
 exact ⟨_,rfl,by omega,by omega,fun _=>⟨S1.out n1,trivial⟩,E1⟩
theorem kPl {w:World} {va:Value} {x:List ko} {left:Int} (ha:(Rep.slice 212 kH).raw w [va] x) (hl0:0≤left) (hl1:left≤1048576) :
    Calls Tryz.prog 93 #[va,.int .i64 left] w (zz ((Rep.slice 212 kH).bdd 1048576 x) left w):=by
 obtain ⟨aa,capa,rfl,la⟩:=Rep.sl ha
 go_enter Tryz.func93,Tryz.ntmps93
 by_cases hb:left < (x.length:Int)
 · have hb1:left - (x.length:Int) < 0:=rP
   have hb2:-9223372036854775808≤left - (x.length:Int):=rP
   go_wp2
   go_ret
   exact jL hl0 bR
 have hb1:0≤left - (x.length:Int):=rP
 have hb2:¬ left - (x.length:Int) < 0:=rP
 go_wp2
 go_loopw [1,5] (fun l i wr=>∃ (k:Nat) (r:Int),k≤x.length∧i=.int .i64 k∧l=.int .i64 r∧0≤r∧r≤left∧(∀ y∈x.take k,kH.bdd 1048576 y)∧Below w.heap.size w wr) (fun _ i _=>x.length - (intOf i).toNat)
 case atStart=>exact ⟨0,_,Nat.zero_le _,rfl,rfl,hb1,by omega,by simp,bR⟩
 obtain ⟨k,r,hk,rfl,rfl,hr0,hr1,hall,hbel⟩:=hrel
 have HA:=yD hall;clear hall
 by_cases hlt:k < x.length
 · obtain ⟨ba,offa,rfl,c0,c1,c2,c3,c4,c5,hr,A0,A1,A2,A3,A4,A5⟩:=Rep.get6 (ha.below hbel) hlt rfl
   go_wp2_with fail
   refine (kRb hr hr0 rP).mono ?_
   rintro e w' ⟨r',rfl,h1,h2,h3,hb3⟩
   have HB:=yD h3;clear h3 hr
   have hbel2:=(tQ hbel hb3)
   by_cases hs:r' < 0
   · go_wp2
     go_ret
     exact jL hl0 hbel2
   have h4:0≤r':=rP
   go_wp2
   go_roundw
   case rel=>exact ⟨k + 1,_,by omega,by go_num,rfl,h4,by omega,zQ HA.out hlt (HB.out h4),hbel2⟩
   simp [intOf];omega
 go_wp2
 go_ret
 exact ⟨_,rfl,by omega,by omega,fun _=>⟨by omega,zR HA.out hlt⟩,hbel⟩
theorem kNb {w:World} {ca:List Value} {x:kr} {left:Int} (ha:kI.raw w ca x) (hl0:0≤left) (hl1:left≤1048576) :
    Calls Tryz.prog 25 #[.agg ca.toArray,.int .i64 left] w (zz (kI.bdd 1048576 x) left w):=by
 obtain ⟨av0,rfl,a_0,a_1⟩:=jI ha
 obtain ⟨x0,x1⟩:=x
 clear ha a_0
 go_enter Tryz.func25,Tryz.ntmps25
 go_wp2_with fail
 refine (kPl (a_1.alloc _) hl0 hl1).mono ?_
 rintro e w1 ⟨r1,rfl,p1,q1,s1,hb1⟩
 have S1:=yD s1;clear s1
 have D1:=hb1
 have E1:Below w.heap.size w w1:=(bR.alloc nL _).trans (hb1.mono rQ)
 obtain ⟨hc1,hf1⟩:=jO D1;clear hb1
 by_cases m1:r1 < 0
 · go_wp2
   go_ret
   exact jL hl0 E1
 have n1:0≤r1:=rP
 go_wp2
 go_ret
 exact ⟨_,rfl,by omega,by omega,fun _=>⟨trivial,S1.out n1⟩,E1⟩
theorem szNode_c {w:World} {ca:List Value} {x:kAf} {left:Int} (ha:jC.raw w ca x) (hl0:0≤left) (hl1:left≤1048576) :
    Calls Tryz.prog 5 #[.agg ca.toArray,.int .i64 left] w (zz (jC.bdd 1048576 x) left w):=by
 obtain ⟨av0,av1,av2,av3,av4,av5,rfl,a_0,a_1,a_2,a_3,a_4,a_5,a_6,a_7,a_8⟩:=jo ha
 obtain ⟨x0,x1,x2,x3,x4,x5,x6⟩:=x
 clear ha a_2 a_3 a_8
 go_enter Tryz.func5,Tryz.ntmps5
 go_wp2_with fail
 refine (kUj (a_0.alloc _) hl0 hl1).mono ?_
 rintro e w1 ⟨r1,rfl,p1,q1,s1,hb1⟩
 have S1:=yD s1;clear s1
 have D1:=hb1
 have E1:Below w.heap.size w w1:=(bR.alloc nL _).trans (hb1.mono rQ)
 obtain ⟨hc1,hf1⟩:=jO D1;clear hb1
 by_cases m1:r1 < 0
 · go_wp2
   go_ret
   exact jL hl0 E1
 have n1:0≤r1:=rP
 go_wp2_with fail
 refine (kNb (a_1.below E1) n1 rP).mono ?_
 rintro e w2 ⟨r2,rfl,p2,q2,s2,hb2⟩
 have S2:=yD s2;clear s2
 have D2:=(tQ D1 hb2)
 have E2:=(tQ E1 hb2)
 clear hc1 hf1 hb2
 obtain ⟨hc2,hf2⟩:=jO D2
 by_cases m2:r2 < 0
 · go_wp2
   go_ret
   exact jL hl0 E2
 have n2:0≤r2:=rP
 go_wp2_with fail
 refine (kIe (a_4.below E2) n2 rP).mono ?_
 rintro e w3 ⟨r3,rfl,p3,q3,s3,hb3⟩
 have S3:=yD s3;clear s3
 have D3:=(tQ D2 hb3)
 have E3:=(tQ E2 hb3)
 clear hc2 hf2 hb3
 obtain ⟨hc3,hf3⟩:=jO D3
 by_cases m3:r3 < 0
 · go_wp2
   go_ret
   exact jL hl0 E3
 have n3:0≤r3:=rP
 go_wp2_with fail
 refine (kQy (a_5.below E3) n3 rP).mono ?_
 rintro e w4 ⟨r4,rfl,p4,q4,s4,hb4⟩
 have S4:=yD s4;clear s4
 have D4:=(tQ D3 hb4)
 have E4:=(tQ E3 hb4)
 clear hc3 hf3 hb4
 obtain ⟨hc4,hf4⟩:=jO D4
 by_cases m4:r4 < 0
 · go_wp2
   go_ret
   exact jL hl0 E4
 have n4:0≤r4:=rP
 go_wp2_with fail
 refine (szRouteS_c (a_6.below E4) n4 rP).mono ?_
 rintro e w5 ⟨r5,rfl,p5,q5,s5,hb5⟩
 have S5:=yD s5;clear s5
 have D5:=(tQ D4 hb5)
 have E5:=(tQ E4 hb5)
 clear hc4 hf4 hb5
 obtain ⟨hc5,hf5⟩:=jO D5
 by_cases m5:r5 < 0
 · go_wp2
   go_ret
   exact jL hl0 E5
 have n5:0≤r5:=rP
 go_wp2_with fail
 refine (kNa (a_7.below E5) n5 rP).mono ?_
 rintro e w6 ⟨r6,rfl,p6,q6,s6,hb6⟩
 have S6:=yD s6;clear s6
 have D6:=(tQ D5 hb6)
 have E6:=(tQ E5 hb6)
 clear hc5 hf5 hb6
 obtain ⟨hc6,hf6⟩:=jO D6
 by_cases m6:r6 < 0
 · go_wp2
   go_ret
   exact jL hl0 E6
 have n6:0≤r6:=rP
 go_wp2
 go_ret
 exact ⟨_,rfl,by omega,by omega,fun _=>⟨S1.out n1,S2.out n2,S3.out n3,S4.out n4,S5.out n5,S6.out n6,trivial⟩,E6⟩
theorem szKey_c {w:World} {ca:List Value} {x:kDu} {left:Int} (ha:jg.raw w ca x) (hl0:0≤left) (hl1:left≤1048576) :
    Calls Tryz.prog 98 #[.agg ca.toArray,.int .i64 left] w (zz (jg.bdd 1048576 x) left w):=by
 obtain ⟨av0,rfl,a_0,a_1,a_2⟩:=kCe ha
 obtain ⟨x0,x1⟩:=x
 clear ha a_1 a_2
 go_enter Tryz.func98,Tryz.ntmps98
 go_wp2_with fail
 refine (kEf (a_0.alloc _) hl0 hl1).mono ?_
 rintro e w1 ⟨r1,rfl,p1,q1,s1,hb1⟩
 have S1:=yD s1;clear s1
 have D1:=hb1
 have E1:Below w.heap.size w w1:=(bR.alloc nL _).trans (hb1.mono rQ)
 obtain ⟨hc1,hf1⟩:=jO D1;clear hb1
 by_cases m1:r1 < 0
 · go_wp2
   go_ret
   exact jL hl0 E1
 have n1:0≤r1:=rP
 go_wp2
 go_ret
 exact ⟨_,rfl,by omega,by omega,fun _=>⟨S1.out n1,trivial⟩,E1⟩
theorem szKeyS_c {w:World} {va:Value} {x:List kDu} {left:Int} (ha:(Rep.slice 187 jg).raw w [va] x) (hl0:0≤left) (hl1:left≤1048576) :
    Calls Tryz.prog 30 #[va,.int .i64 left] w (zz ((Rep.slice 187 jg).bdd 1048576 x) left w):=by
 obtain ⟨aa,capa,rfl,la⟩:=Rep.sl ha
 go_enter Tryz.func30,Tryz.ntmps30
 by_cases hb:left < (x.length:Int)
 · have hb1:left - (x.length:Int) < 0:=rP
   have hb2:-9223372036854775808≤left - (x.length:Int):=rP
   go_wp2
   go_ret
   exact jL hl0 bR
 have hb1:0≤left - (x.length:Int):=rP
 have hb2:¬ left - (x.length:Int) < 0:=rP
 go_wp2
 go_loopw [1,5] (fun l i wr=>∃ (k:Nat) (r:Int),k≤x.length∧i=.int .i64 k∧l=.int .i64 r∧0≤r∧r≤left∧(∀ y∈x.take k,jg.bdd 1048576 y)∧Below w.heap.size w wr) (fun _ i _=>x.length - (intOf i).toNat)
 case atStart=>exact ⟨0,_,Nat.zero_le _,rfl,rfl,hb1,by omega,by simp,bR⟩
 obtain ⟨k,r,hk,rfl,rfl,hr0,hr1,hall,hbel⟩:=hrel
 have HA:=yD hall;clear hall
 by_cases hlt:k < x.length
 · obtain ⟨ba,offa,rfl,c0,c1,hr,A0,A1⟩:=Rep.kEk (ha.below hbel) hlt rfl
   go_wp2_with fail
   refine (szKey_c hr hr0 rP).mono ?_
   rintro e w' ⟨r',rfl,h1,h2,h3,hb3⟩
   have HB:=yD h3;clear h3 hr
   have hbel2:=(tQ hbel hb3)
   by_cases hs:r' < 0
   · go_wp2
     go_ret
     exact jL hl0 hbel2
   have h4:0≤r':=rP
   go_wp2
   go_roundw
   case rel=>exact ⟨k + 1,_,by omega,by go_num,rfl,h4,by omega,zQ HA.out hlt (HB.out h4),hbel2⟩
   simp [intOf];omega
 go_wp2
 go_ret
 exact ⟨_,rfl,by omega,by omega,fun _=>⟨by omega,zR HA.out hlt⟩,hbel⟩
theorem kOt {w:World} {ca:List Value} {x:yV} {left:Int} (ha:yU.raw w ca x) (hl0:0≤left) (hl1:left≤1048576) :
    Calls Tryz.prog 167 #[.agg ca.toArray,.int .i64 left] w (zz (yU.bdd 1048576 x) left w):=by
 obtain ⟨av0,rfl,a_0⟩:=yc ha
 obtain ⟨x0,rfl⟩:∃ x0,x0=x:=⟨_,rfl⟩
 clear ha
 go_enter Tryz.func167,Tryz.ntmps167
 go_wp2_with fail
 refine (kOs (a_0.alloc _) hl0 hl1).mono ?_
 rintro e w1 ⟨r1,rfl,p1,q1,s1,hb1⟩
 have S1:=yD s1;clear s1
 have D1:=hb1
 have E1:Below w.heap.size w w1:=(bR.alloc nL _).trans (hb1.mono rQ)
 obtain ⟨hc1,hf1⟩:=jO D1;clear hb1
 by_cases m1:r1 < 0
 · go_wp2
   go_ret
   exact jL hl0 E1
 have n1:0≤r1:=rP
 go_wp2
 go_ret
 exact ⟨_,rfl,by omega,by omega,fun _=>S1.out n1,E1⟩
theorem szRule_c {w:World} {ca:List Value} {x:kBb} {left:Int} (ha:jM.raw w ca x) (hl0:0≤left) (hl1:left≤1048576) :
    Calls Tryz.prog 99 #[.agg ca.toArray,.int .i64 left] w (zz (jM.bdd 1048576 x) left w):=by
 obtain ⟨av0,av1,rfl,a_0,a_1,a_2,a_3⟩:=kAe ha
 obtain ⟨x0,x1⟩:=x
 clear ha a_1 a_3
 go_enter Tryz.func99,Tryz.ntmps99
 go_wp2_with fail
 refine (kOt (a_0.alloc _) hl0 hl1).mono ?_
 rintro e w1 ⟨r1,rfl,p1,q1,s1,hb1⟩
 have S1:=yD s1;clear s1
 have D1:=hb1
 have E1:Below w.heap.size w w1:=(bR.alloc nL _).trans (hb1.mono rQ)
 obtain ⟨hc1,hf1⟩:=jO D1;clear hb1
 by_cases m1:r1 < 0
 · go_wp2
   go_ret
   exact jL hl0 E1
 have n1:0≤r1:=rP
 go_wp2_with fail
 refine (kOt (a_2.below E1) n1 rP).mono ?_
 rintro e w2 ⟨r2,rfl,p2,q2,s2,hb2⟩
 have S2:=yD s2;clear s2
 have D2:=(tQ D1 hb2)
 have E2:=(tQ E1 hb2)
 clear hc1 hf1 hb2
 obtain ⟨hc2,hf2⟩:=jO D2
 by_cases m2:r2 < 0
 · go_wp2
   go_ret
   exact jL hl0 E2
 have n2:0≤r2:=rP
 go_wp2
 go_ret
 exact ⟨_,rfl,by omega,by omega,fun _=>⟨S1.out n1,S2.out n2⟩,E2⟩
theorem szRuleS_c {w:World} {va:Value} {x:List kBb} {left:Int} (ha:(Rep.slice 191 jM).raw w [va] x) (hl0:0≤left) (hl1:left≤1048576) :
    Calls Tryz.prog 31 #[va,.int .i64 left] w (zz ((Rep.slice 191 jM).bdd 1048576 x) left w):=by
 obtain ⟨aa,capa,rfl,la⟩:=Rep.sl ha
 go_enter Tryz.func31,Tryz.ntmps31
 by_cases hb:left < (x.length:Int)
 · have hb1:left - (x.length:Int) < 0:=rP
   have hb2:-9223372036854775808≤left - (x.length:Int):=rP
   go_wp2
   go_ret
   exact jL hl0 bR
 have hb1:0≤left - (x.length:Int):=rP
 have hb2:¬ left - (x.length:Int) < 0:=rP
 go_wp2
 go_loopw [1,5] (fun l i wr=>∃ (k:Nat) (r:Int),k≤x.length∧i=.int .i64 k∧l=.int .i64 r∧0≤r∧r≤left∧(∀ y∈x.take k,jM.bdd 1048576 y)∧Below w.heap.size w wr) (fun _ i _=>x.length - (intOf i).toNat)
 case atStart=>exact ⟨0,_,Nat.zero_le _,rfl,rfl,hb1,by omega,by simp,bR⟩
 obtain ⟨k,r,hk,rfl,rfl,hr0,hr1,hall,hbel⟩:=hrel
 have HA:=yD hall;clear hall
 by_cases hlt:k < x.length
 · obtain ⟨ba,offa,rfl,c0,c1,hr,A0,A1⟩:=Rep.kEk (ha.below hbel) hlt rfl
   go_wp2_with fail
   refine (szRule_c hr hr0 rP).mono ?_
   rintro e w' ⟨r',rfl,h1,h2,h3,hb3⟩
   have HB:=yD h3;clear h3 hr
   have hbel2:=(tQ hbel hb3)
   by_cases hs:r' < 0
   · go_wp2
     go_ret
     exact jL hl0 hbel2
   have h4:0≤r':=rP
   go_wp2
   go_roundw
   case rel=>exact ⟨k + 1,_,by omega,by go_num,rfl,h4,by omega,zQ HA.out hlt (HB.out h4),hbel2⟩
   simp [intOf];omega
 go_wp2
 go_ret
 exact ⟨_,rfl,by omega,by omega,fun _=>⟨by omega,zR HA.out hlt⟩,hbel⟩
theorem kPj {w:World} {ca:List Value} {x:kz} {left:Int} (ha:kT.raw w ca x) (hl0:0≤left) (hl1:left≤1048576) :
    Calls Tryz.prog 6 #[.agg ca.toArray,.int .i64 left] w (zz (kT.bdd 1048576 x) left w):=by
 obtain ⟨av0,av1,av2,av3,rfl,a_0,a_1,a_2,a_3⟩:=kw ha
 obtain ⟨x0,x1,x2,x3⟩:=x
 clear ha
 go_enter Tryz.func6,Tryz.ntmps6
 go_wp2_with fail
 refine (szKeyS_c (a_0.alloc _) hl0 hl1).mono ?_
 rintro e w1 ⟨r1,rfl,p1,q1,s1,hb1⟩
 have S1:=yD s1;clear s1
 have D1:=hb1
 have E1:Below w.heap.size w w1:=(bR.alloc nL _).trans (hb1.mono rQ)
 obtain ⟨hc1,hf1⟩:=jO D1;clear hb1
 by_cases m1:r1 < 0
 · go_wp2
   go_ret
   exact jL hl0 E1
 have n1:0≤r1:=rP
 go_wp2_with fail
 refine (szRuleS_c (a_1.below E1) n1 rP).mono ?_
 rintro e w2 ⟨r2,rfl,p2,q2,s2,hb2⟩
 have S2:=yD s2;clear s2
 have D2:=(tQ D1 hb2)
 have E2:=(tQ E1 hb2)
 clear hc1 hf1 hb2
 obtain ⟨hc2,hf2⟩:=jO D2
 by_cases m2:r2 < 0
 · go_wp2
   go_ret
   exact jL hl0 E2
 have n2:0≤r2:=rP
 go_wp2_with fail
 refine (szNameS_c (a_2.below E2) n2 rP).mono ?_
 rintro e w3 ⟨r3,rfl,p3,q3,s3,hb3⟩
 have S3:=yD s3;clear s3
 have D3:=(tQ D2 hb3)
 have E3:=(tQ E2 hb3)
 clear hc2 hf2 hb3
 obtain ⟨hc3,hf3⟩:=jO D3
 by_cases m3:r3 < 0
 · go_wp2
   go_ret
   exact jL hl0 E3
 have n3:0≤r3:=rP
 go_wp2_with fail
 refine (kUj (a_3.below E3) n3 rP).mono ?_
 rintro e w4 ⟨r4,rfl,p4,q4,s4,hb4⟩
 have S4:=yD s4;clear s4
 have D4:=(tQ D3 hb4)
 have E4:=(tQ E3 hb4)
 clear hc3 hf3 hb4
 obtain ⟨hc4,hf4⟩:=jO D4
 by_cases m4:r4 < 0
 · go_wp2
   go_ret
   exact jL hl0 E4
 have n4:0≤r4:=rP
 go_wp2
 go_ret
 exact ⟨_,rfl,by omega,by omega,fun _=>⟨S1.out n1,S2.out n2,S3.out n3,S4.out n4⟩,E4⟩
end Go.Proofs.YtlfblpgkegeaeaaGreat

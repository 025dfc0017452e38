/-
  The laws' measures of size: what they let pass is bounded. Printed by gensz.py.
-/
import Derived.Test.YtomdenfcfbkfbaaGreatBase
import Derived.Test.YtomdenfcfbkfbaaGreatProg
import Derived.Test.YtomdenfcfbkfbaaGreatTypes
import Derived.WalkKit
import Derived.WalkSpells
import Derived.WalkLawsBesides
import Derived.BigQuiet
import Derived.Deep.QuietTactic
import Derived.StillTailTactics
namespace Go.Proofs.YtomdenfcfbkfbaaGreat
open Go.RowKit
set_option linter.unusedVariables false
def SzPost (bd:Prop) (left:Int) (w:World) (e:Ending) (w':World):Prop:=∃ r:Int,e=.returned (.int .i64 r)∧-1≤r∧r≤left∧(0≤r→bd)∧Below w.heap.size w w'
theorem sz_minus {bd:Prop} {left:Int} {w w':World} (hl:0≤left) (h:Below w.heap.size w w'):SzPost bd left w (.returned (.int .i64 (-1))) w':=⟨-1,rfl,by omega,by omega,by omega,h⟩
theorem all_take_succ {α:Type} {P:α→Prop} {x:List α} {k:Nat} (h:∀ y∈x.take k,P y) (hk:k < x.length) (hy:P x[k]):∀ y∈x.take (k + 1),P y:=by
 rw [List.take_succ_eq_append_getElem hk]
 intro y hm
 rcases List.mem_append.1 hm with hm | hm
 · exact h y hm
 rw [List.mem_singleton.1 hm];exact hy
theorem all_take_full {α:Type} {P:α→Prop} {x:List α} {k:Nat} (h:∀ y∈x.take k,P y) (hk:¬ k < x.length):∀ y∈x,P y:=by
 rwa [List.take_of_length_le (by omega)] at h
set_option maxRecDepth 100000 in
set_option maxHeartbeats 400000 in
theorem szStringS_c {w:World} {va:Value} {x:List ByteArray} {left:Int} (ha:(Rep.slice 9 Rep.str).raw w [va] x) (hl0:0≤left) (hl1:left≤1048576) :
    Calls Tryz.prog 159 #[va,.int .i64 left] w (SzPost ((Rep.slice 9 Rep.str).bdd 1048576 x) left w):=by
 obtain ⟨aa,capa,hva,la⟩:=Rep.kR ha;obtain rfl:va=_:=by simpa using hva
 clear hva
 go_enter Tryz.func159,Tryz.ntmps159
 by_cases hb:left < (x.length:Int)
 · have hb1:left - (x.length:Int) < 0:=by omega
   have hb2:-9223372036854775808≤left - (x.length:Int):=by omega
   go_wp2
   go_ret
   exact sz_minus hl0 (Below.refl _ _)
 have hb1:0≤left - (x.length:Int):=by omega
 have hb2:¬ left - (x.length:Int) < 0:=by omega
 go_wp2
 go_loopw [1,5] (fun l i wr=>∃ (k:Nat) (r:Int),k≤x.length∧i=.int .i64 k∧l=.int .i64 r∧0≤r∧r≤left∧(∀ y∈x.take k,Rep.str.bdd 1048576 y)∧Below w.heap.size w wr) (fun _ i _=>x.length - (intOf i).toNat)
 case atStart=>exact ⟨0,_,Nat.zero_le _,rfl,rfl,hb1,by omega,by simp,Below.refl _ _⟩
 obtain ⟨k,r,hk,rfl,rfl,hr0,hr1,hall,hbel⟩:=hrel
 have HA:=hD hall;clear hall
 by_cases hlt:k < x.length
 · obtain ⟨ba,offa,rfl,c0,hr,A0⟩:=Rep.get1 (ha.below hbel) hlt rfl
   obtain ⟨he,hz⟩:=Rep.str_raw hr
   obtain rfl:c0=_:=by simpa using he
   unfold maxLen at hz
   clear he hr
   by_cases hs:r < (x[k].size:Int)
   · have h1:r - (x[k].size:Int) < 0:=by omega
     have h2:-9223372036854775808≤r - (x[k].size:Int):=by omega
     go_wp2
     go_ret
     exact sz_minus hl0 hbel
   have h1:0≤r - (x[k].size:Int):=by omega
   have h2:¬ r - (x[k].size:Int) < 0:=by omega
   go_wp2
   go_roundw
   case rel=>exact ⟨k + 1,_,by omega,by go_num,rfl,h1,by omega,all_take_succ HA.out hlt (by show x[k].size≤1048576;omega),hbel⟩
   simp [intOf];omega
 go_wp2
 go_ret
 exact ⟨_,rfl,by omega,by omega,fun _=>⟨by omega,all_take_full HA.out hlt⟩,hbel⟩
set_option maxRecDepth 100000 in
set_option maxHeartbeats 400000 in
theorem szByteS_c {w:World} {va:Value} {x:List UInt8} {left:Int} (ha:(Rep.slice 5 Rep.byte).raw w [va] x) (hl0:0≤left) (hl1:left≤1048576) :
    Calls Tryz.prog 181 #[va,.int .i64 left] w (SzPost ((Rep.slice 5 Rep.byte).bdd 1048576 x) left w):=by
 obtain ⟨aa,capa,hva,la⟩:=Rep.kR ha;obtain rfl:va=_:=by simpa using hva
 clear hva
 go_enter Tryz.func181,Tryz.ntmps181
 by_cases hb:left < (x.length:Int)
 · have hb1:left - (x.length:Int) < 0:=by omega
   have hb2:-9223372036854775808≤left - (x.length:Int):=by omega
   go_wp2
   go_ret
   exact sz_minus hl0 (Below.refl _ _)
 have hb1:0≤left - (x.length:Int):=by omega
 have hb2:¬ left - (x.length:Int) < 0:=by omega
 go_wp2
 go_ret
 exact ⟨_,rfl,by omega,by omega,fun _=>⟨by omega,fun _ _=>by first | trivial | exact ⟨trivial,trivial⟩ | exact ⟨trivial,trivial,trivial⟩ | exact ⟨trivial,trivial,trivial,trivial⟩⟩,Below.refl _ _⟩
set_option maxRecDepth 100000 in
set_option maxHeartbeats 400000 in
theorem szName_c {w:World} {ca:List Value} {x:LName} {left:Int} (ha:RName.raw w ca x) (hl0:0≤left) (hl1:left≤1048576) :
    Calls Tryz.prog 67 #[.agg ca.toArray,.int .i64 left] w (SzPost (RName.bdd 1048576 x) left w):=by
 obtain ⟨av0,rfl,a_0⟩:=RName_raw ha
 obtain ⟨x0,rfl⟩:∃ x0,x0=x:=⟨_,rfl⟩
 clear ha
 go_enter Tryz.func67,Tryz.ntmps67
 go_wp2_with fail
 refine (szStringS_c (a_0.alloc _) hl0 hl1).mono ?_
 rintro e w1 ⟨r1,rfl,p1,q1,s1,hb1⟩
 have S1:=hD s1;clear s1
 have D1:=hb1
 have E1:Below w.heap.size w w1:=((Below.refl _ _).alloc (Nat.le_refl _) _).trans (hb1.mono (by simp))
 obtain ⟨hc1,hf1⟩:=bcell D1;clear hb1
 by_cases m1:r1 < 0
 · go_wp2
   go_ret
   exact sz_minus hl0 E1
 have n1:0≤r1:=by omega
 go_wp2
 go_ret
 exact ⟨_,rfl,by omega,by omega,fun _=>S1.out n1,E1⟩
set_option maxRecDepth 100000 in
set_option maxHeartbeats 400000 in
theorem szMeasurement_c {w:World} {ca:List Value} {x:kQ} {left:Int} (ha:kI.raw w ca x) (hl0:0≤left) (hl1:left≤1048576) :
    Calls Tryz.prog 102 #[.agg ca.toArray,.int .i64 left] w (SzPost (kI.bdd 1048576 x) left w):=by
 obtain ⟨av0,rfl,a_0,a_1,a_2,a_3⟩:=RMeasurement_raw ha
 obtain ⟨x0,x1,x2⟩:=x
 clear ha a_1 a_2 a_3
 go_enter Tryz.func102,Tryz.ntmps102
 go_wp2_with fail
 refine (szName_c (a_0.alloc _) hl0 hl1).mono ?_
 rintro e w1 ⟨r1,rfl,p1,q1,s1,hb1⟩
 have S1:=hD s1;clear s1
 have D1:=hb1
 have E1:Below w.heap.size w w1:=((Below.refl _ _).alloc (Nat.le_refl _) _).trans (hb1.mono (by simp))
 obtain ⟨hc1,hf1⟩:=bcell D1;clear hb1
 by_cases m1:r1 < 0
 · go_wp2
   go_ret
   exact sz_minus hl0 E1
 have n1:0≤r1:=by omega
 go_wp2
 go_ret
 exact ⟨_,rfl,by omega,by omega,fun _=>⟨S1.out n1,trivial,trivial⟩,E1⟩
set_option maxRecDepth 100000 in
set_option maxHeartbeats 400000 in
theorem szMeasurementS_c {w:World} {va:Value} {x:List kQ} {left:Int} (ha:(Rep.slice 166 kI).raw w [va] x) (hl0:0≤left) (hl1:left≤1048576) :
    Calls Tryz.prog 26 #[va,.int .i64 left] w (SzPost ((Rep.slice 166 kI).bdd 1048576 x) left w):=by
 obtain ⟨aa,capa,hva,la⟩:=Rep.kR ha;obtain rfl:va=_:=by simpa using hva
 clear hva
 go_enter Tryz.func26,Tryz.ntmps26
 by_cases hb:left < (x.length:Int)
 · have hb1:left - (x.length:Int) < 0:=by omega
   have hb2:-9223372036854775808≤left - (x.length:Int):=by omega
   go_wp2
   go_ret
   exact sz_minus hl0 (Below.refl _ _)
 have hb1:0≤left - (x.length:Int):=by omega
 have hb2:¬ left - (x.length:Int) < 0:=by omega
 go_wp2
 go_loopw [1,5] (fun l i wr=>∃ (k:Nat) (r:Int),k≤x.length∧i=.int .i64 k∧l=.int .i64 r∧0≤r∧r≤left∧(∀ y∈x.take k,kI.bdd 1048576 y)∧Below w.heap.size w wr) (fun _ i _=>x.length - (intOf i).toNat)
 case atStart=>exact ⟨0,_,Nat.zero_le _,rfl,rfl,hb1,by omega,by simp,Below.refl _ _⟩
 obtain ⟨k,r,hk,rfl,rfl,hr0,hr1,hall,hbel⟩:=hrel
 have HA:=hD hall;clear hall
 by_cases hlt:k < x.length
 · obtain ⟨ba,offa,rfl,c0,c1,c2,hr,A0,A1,A2⟩:=Rep.get3 (ha.below hbel) hlt rfl
   go_wp2_with fail
   refine (szMeasurement_c hr hr0 (by omega)).mono ?_
   rintro e w' ⟨r',rfl,h1,h2,h3,hb3⟩
   have HB:=hD h3;clear h3 hr
   have hbel2:=hbel.trans (hb3.mono hbel.size)
   by_cases hs:r' < 0
   · go_wp2
     go_ret
     exact sz_minus hl0 hbel2
   have h4:0≤r':=by omega
   go_wp2
   go_roundw
   case rel=>exact ⟨k + 1,_,by omega,by go_num,rfl,h4,by omega,all_take_succ HA.out hlt (HB.out h4),hbel2⟩
   simp [intOf];omega
 go_wp2
 go_ret
 exact ⟨_,rfl,by omega,by omega,fun _=>⟨by omega,all_take_full HA.out hlt⟩,hbel⟩
set_option maxRecDepth 100000 in
set_option maxHeartbeats 400000 in
theorem szRoute_c {w:World} {ca:List Value} {x:LRoute} {left:Int} (ha:RRoute.raw w ca x) (hl0:0≤left) (hl1:left≤1048576) :
    Calls Tryz.prog 101 #[.agg ca.toArray,.int .i64 left] w (SzPost (RRoute.bdd 1048576 x) left w):=by
 obtain ⟨av0,rfl,a_0,a_1,a_2,a_3⟩:=RRoute_raw ha
 obtain ⟨x0,x1,x2⟩:=x
 clear ha a_1 a_2 a_3
 go_enter Tryz.func101,Tryz.ntmps101
 go_wp2_with fail
 refine (szName_c (a_0.alloc _) hl0 hl1).mono ?_
 rintro e w1 ⟨r1,rfl,p1,q1,s1,hb1⟩
 have S1:=hD s1;clear s1
 have D1:=hb1
 have E1:Below w.heap.size w w1:=((Below.refl _ _).alloc (Nat.le_refl _) _).trans (hb1.mono (by simp))
 obtain ⟨hc1,hf1⟩:=bcell D1;clear hb1
 by_cases m1:r1 < 0
 · go_wp2
   go_ret
   exact sz_minus hl0 E1
 have n1:0≤r1:=by omega
 go_wp2
 go_ret
 exact ⟨_,rfl,by omega,by omega,fun _=>⟨S1.out n1,trivial,trivial⟩,E1⟩
set_option maxRecDepth 100000 in
set_option maxHeartbeats 400000 in
theorem szRouteS_c {w:World} {va:Value} {x:List LRoute} {left:Int} (ha:(Rep.slice 159 RRoute).raw w [va] x) (hl0:0≤left) (hl1:left≤1048576) :
    Calls Tryz.prog 25 #[va,.int .i64 left] w (SzPost ((Rep.slice 159 RRoute).bdd 1048576 x) left w):=by
 obtain ⟨aa,capa,hva,la⟩:=Rep.kR ha;obtain rfl:va=_:=by simpa using hva
 clear hva
 go_enter Tryz.func25,Tryz.ntmps25
 by_cases hb:left < (x.length:Int)
 · have hb1:left - (x.length:Int) < 0:=by omega
   have hb2:-9223372036854775808≤left - (x.length:Int):=by omega
   go_wp2
   go_ret
   exact sz_minus hl0 (Below.refl _ _)
 have hb1:0≤left - (x.length:Int):=by omega
 have hb2:¬ left - (x.length:Int) < 0:=by omega
 go_wp2
 go_loopw [1,5] (fun l i wr=>∃ (k:Nat) (r:Int),k≤x.length∧i=.int .i64 k∧l=.int .i64 r∧0≤r∧r≤left∧(∀ y∈x.take k,RRoute.bdd 1048576 y)∧Below w.heap.size w wr) (fun _ i _=>x.length - (intOf i).toNat)
 case atStart=>exact ⟨0,_,Nat.zero_le _,rfl,rfl,hb1,by omega,by simp,Below.refl _ _⟩
 obtain ⟨k,r,hk,rfl,rfl,hr0,hr1,hall,hbel⟩:=hrel
 have HA:=hD hall;clear hall
 by_cases hlt:k < x.length
 · obtain ⟨ba,offa,rfl,c0,c1,c2,hr,A0,A1,A2⟩:=Rep.get3 (ha.below hbel) hlt rfl
   go_wp2_with fail
   refine (szRoute_c hr hr0 (by omega)).mono ?_
   rintro e w' ⟨r',rfl,h1,h2,h3,hb3⟩
   have HB:=hD h3;clear h3 hr
   have hbel2:=hbel.trans (hb3.mono hbel.size)
   by_cases hs:r' < 0
   · go_wp2
     go_ret
     exact sz_minus hl0 hbel2
   have h4:0≤r':=by omega
   go_wp2
   go_roundw
   case rel=>exact ⟨k + 1,_,by omega,by go_num,rfl,h4,by omega,all_take_succ HA.out hlt (HB.out h4),hbel2⟩
   simp [intOf];omega
 go_wp2
 go_ret
 exact ⟨_,rfl,by omega,by omega,fun _=>⟨by omega,all_take_full HA.out hlt⟩,hbel⟩
set_option maxRecDepth 100000 in
set_option maxHeartbeats 400000 in
theorem szRequesterS_c {w:World} {va:Value} {x:List LRequester} {left:Int} (ha:(Rep.slice 81 kM).raw w [va] x) (hl0:0≤left) (hl1:left≤1048576) :
    Calls Tryz.prog 183 #[va,.int .i64 left] w (SzPost ((Rep.slice 81 kM).bdd 1048576 x) left w):=by
 obtain ⟨aa,capa,hva,la⟩:=Rep.kR ha;obtain rfl:va=_:=by simpa using hva
 clear hva
 go_enter Tryz.func183,Tryz.ntmps183
 by_cases hb:left < (x.length:Int)
 · have hb1:left - (x.length:Int) < 0:=by omega
   have hb2:-9223372036854775808≤left - (x.length:Int):=by omega
   go_wp2
   go_ret
   exact sz_minus hl0 (Below.refl _ _)
 have hb1:0≤left - (x.length:Int):=by omega
 have hb2:¬ left - (x.length:Int) < 0:=by omega
 go_wp2
 go_ret
 exact ⟨_,rfl,by omega,by omega,fun _=>⟨by omega,fun _ _=>by first | trivial | exact ⟨trivial,trivial⟩ | exact ⟨trivial,trivial,trivial⟩ | exact ⟨trivial,trivial,trivial,trivial⟩⟩,Below.refl _ _⟩
set_option maxRecDepth 100000 in
set_option maxHeartbeats 400000 in
theorem szPendingInterest_c {w:World} {ca:List Value} {x:kP} {left:Int} (ha:kH.raw w ca x) (hl0:0≤left) (hl1:left≤1048576) :
    Calls Tryz.prog 99 #[.agg ca.toArray,.int .i64 left] w (SzPost (kH.bdd 1048576 x) left w):=by
 obtain ⟨av0,av1,rfl,a_0,a_1,a_2,a_3⟩:=RPendingInterest_raw ha
 obtain ⟨x0,x1,x2⟩:=x
 clear ha a_1 a_3
 go_enter Tryz.func99,Tryz.ntmps99
 go_wp2_with fail
 refine (szName_c (a_0.alloc _) hl0 hl1).mono ?_
 rintro e w1 ⟨r1,rfl,p1,q1,s1,hb1⟩
 have S1:=hD s1;clear s1
 have D1:=hb1
 have E1:Below w.heap.size w w1:=((Below.refl _ _).alloc (Nat.le_refl _) _).trans (hb1.mono (by simp))
 obtain ⟨hc1,hf1⟩:=bcell D1;clear hb1
 by_cases m1:r1 < 0
 · go_wp2
   go_ret
   exact sz_minus hl0 E1
 have n1:0≤r1:=by omega
 go_wp2_with fail
 refine (szRequesterS_c (a_2.below E1) n1 (by omega)).mono ?_
 rintro e w2 ⟨r2,rfl,p2,q2,s2,hb2⟩
 have S2:=hD s2;clear s2
 have D2:=D1.trans (hb2.mono D1.size)
 have E2:=E1.trans (hb2.mono E1.size)
 clear hc1 hf1 hb2
 obtain ⟨hc2,hf2⟩:=bcell D2
 by_cases m2:r2 < 0
 · go_wp2
   go_ret
   exact sz_minus hl0 E2
 have n2:0≤r2:=by omega
 go_wp2
 go_ret
 exact ⟨_,rfl,by omega,by omega,fun _=>⟨S1.out n1,S2.out n2,trivial⟩,E2⟩
set_option maxRecDepth 100000 in
set_option maxHeartbeats 400000 in
theorem szPendingInterestS_c {w:World} {va:Value} {x:List kP} {left:Int} (ha:(Rep.slice 77 kH).raw w [va] x) (hl0:0≤left) (hl1:left≤1048576) :
    Calls Tryz.prog 23 #[va,.int .i64 left] w (SzPost ((Rep.slice 77 kH).bdd 1048576 x) left w):=by
 obtain ⟨aa,capa,hva,la⟩:=Rep.kR ha;obtain rfl:va=_:=by simpa using hva
 clear hva
 go_enter Tryz.func23,Tryz.ntmps23
 by_cases hb:left < (x.length:Int)
 · have hb1:left - (x.length:Int) < 0:=by omega
   have hb2:-9223372036854775808≤left - (x.length:Int):=by omega
   go_wp2
   go_ret
   exact sz_minus hl0 (Below.refl _ _)
 have hb1:0≤left - (x.length:Int):=by omega
 have hb2:¬ left - (x.length:Int) < 0:=by omega
 go_wp2
 go_loopw [1,5] (fun l i wr=>∃ (k:Nat) (r:Int),k≤x.length∧i=.int .i64 k∧l=.int .i64 r∧0≤r∧r≤left∧(∀ y∈x.take k,kH.bdd 1048576 y)∧Below w.heap.size w wr) (fun _ i _=>x.length - (intOf i).toNat)
 case atStart=>exact ⟨0,_,Nat.zero_le _,rfl,rfl,hb1,by omega,by simp,Below.refl _ _⟩
 obtain ⟨k,r,hk,rfl,rfl,hr0,hr1,hall,hbel⟩:=hrel
 have HA:=hD hall;clear hall
 by_cases hlt:k < x.length
 · obtain ⟨ba,offa,rfl,c0,c1,c2,hr,A0,A1,A2⟩:=Rep.get3 (ha.below hbel) hlt rfl
   go_wp2_with fail
   refine (szPendingInterest_c hr hr0 (by omega)).mono ?_
   rintro e w' ⟨r',rfl,h1,h2,h3,hb3⟩
   have HB:=hD h3;clear h3 hr
   have hbel2:=hbel.trans (hb3.mono hbel.size)
   by_cases hs:r' < 0
   · go_wp2
     go_ret
     exact sz_minus hl0 hbel2
   have h4:0≤r':=by omega
   go_wp2
   go_roundw
   case rel=>exact ⟨k + 1,_,by omega,by go_num,rfl,h4,by omega,all_take_succ HA.out hlt (HB.out h4),hbel2⟩
   simp [intOf];omega
 go_wp2
 go_ret
 exact ⟨_,rfl,by omega,by omega,fun _=>⟨by omega,all_take_full HA.out hlt⟩,hbel⟩
set_option maxRecDepth 100000 in
set_option maxHeartbeats 400000 in
theorem szSeenNonce_c {w:World} {ca:List Value} {x:LSeenNonce} {left:Int} (ha:kK.raw w ca x) (hl0:0≤left) (hl1:left≤1048576) :
    Calls Tryz.prog 100 #[.agg ca.toArray,.int .i64 left] w (SzPost (kK.bdd 1048576 x) left w):=by
 obtain ⟨av0,rfl,a_0,a_1,a_2⟩:=RSeenNonce_raw ha
 obtain ⟨x0,x1⟩:=x
 clear ha a_1 a_2
 go_enter Tryz.func100,Tryz.ntmps100
 go_wp2_with fail
 refine (szName_c (a_0.alloc _) hl0 hl1).mono ?_
 rintro e w1 ⟨r1,rfl,p1,q1,s1,hb1⟩
 have S1:=hD s1;clear s1
 have D1:=hb1
 have E1:Below w.heap.size w w1:=((Below.refl _ _).alloc (Nat.le_refl _) _).trans (hb1.mono (by simp))
 obtain ⟨hc1,hf1⟩:=bcell D1;clear hb1
 by_cases m1:r1 < 0
 · go_wp2
   go_ret
   exact sz_minus hl0 E1
 have n1:0≤r1:=by omega
 go_wp2
 go_ret
 exact ⟨_,rfl,by omega,by omega,fun _=>⟨S1.out n1,trivial⟩,E1⟩
set_option maxRecDepth 100000 in
set_option maxHeartbeats 400000 in
theorem szSeenNonceS_c {w:World} {va:Value} {x:List LSeenNonce} {left:Int} (ha:(Rep.slice 157 kK).raw w [va] x) (hl0:0≤left) (hl1:left≤1048576) :
    Calls Tryz.prog 24 #[va,.int .i64 left] w (SzPost ((Rep.slice 157 kK).bdd 1048576 x) left w):=by
 obtain ⟨aa,capa,hva,la⟩:=Rep.kR ha;obtain rfl:va=_:=by simpa using hva
 clear hva
 go_enter Tryz.func24,Tryz.ntmps24
 by_cases hb:left < (x.length:Int)
 · have hb1:left - (x.length:Int) < 0:=by omega
   have hb2:-9223372036854775808≤left - (x.length:Int):=by omega
   go_wp2
   go_ret
   exact sz_minus hl0 (Below.refl _ _)
 have hb1:0≤left - (x.length:Int):=by omega
 have hb2:¬ left - (x.length:Int) < 0:=by omega
 go_wp2
 go_loopw [1,5] (fun l i wr=>∃ (k:Nat) (r:Int),k≤x.length∧i=.int .i64 k∧l=.int .i64 r∧0≤r∧r≤left∧(∀ y∈x.take k,kK.bdd 1048576 y)∧Below w.heap.size w wr) (fun _ i _=>x.length - (intOf i).toNat)
 case atStart=>exact ⟨0,_,Nat.zero_le _,rfl,rfl,hb1,by omega,by simp,Below.refl _ _⟩
 obtain ⟨k,r,hk,rfl,rfl,hr0,hr1,hall,hbel⟩:=hrel
 have HA:=hD hall;clear hall
 by_cases hlt:k < x.length
 · obtain ⟨ba,offa,rfl,c0,c1,hr,A0,A1⟩:=Rep.get2 (ha.below hbel) hlt rfl
   go_wp2_with fail
   refine (szSeenNonce_c hr hr0 (by omega)).mono ?_
   rintro e w' ⟨r',rfl,h1,h2,h3,hb3⟩
   have HB:=hD h3;clear h3 hr
   have hbel2:=hbel.trans (hb3.mono hbel.size)
   by_cases hs:r' < 0
   · go_wp2
     go_ret
     exact sz_minus hl0 hbel2
   have h4:0≤r':=by omega
   go_wp2
   go_roundw
   case rel=>exact ⟨k + 1,_,by omega,by go_num,rfl,h4,by omega,all_take_succ HA.out hlt (HB.out h4),hbel2⟩
   simp [intOf];omega
 go_wp2
 go_ret
 exact ⟨_,rfl,by omega,by omega,fun _=>⟨by omega,all_take_full HA.out hlt⟩,hbel⟩
set_option maxRecDepth 100000 in
set_option maxHeartbeats 400000 in
theorem szData_c {w:World} {ca:List Value} {x:LData} {left:Int} (ha:RData.raw w ca x) (hl0:0≤left) (hl1:left≤1048576) :
    Calls Tryz.prog 97 #[.agg ca.toArray,.int .i64 left] w (SzPost (RData.bdd 1048576 x) left w):=by
 obtain ⟨av0,av1,av2,rfl,a_0,a_1,a_2,a_3,a_4,a_5,a_6⟩:=RData_raw ha
 obtain ⟨x0,x1,x2,x3,x4⟩:=x
 clear ha a_1 a_4 a_5 a_6
 go_enter Tryz.func97,Tryz.ntmps97
 go_wp2_with fail
 refine (szName_c (a_0.alloc _) hl0 hl1).mono ?_
 rintro e w1 ⟨r1,rfl,p1,q1,s1,hb1⟩
 have S1:=hD s1;clear s1
 have D1:=hb1
 have E1:Below w.heap.size w w1:=((Below.refl _ _).alloc (Nat.le_refl _) _).trans (hb1.mono (by simp))
 obtain ⟨hc1,hf1⟩:=bcell D1;clear hb1
 by_cases m1:r1 < 0
 · go_wp2
   go_ret
   exact sz_minus hl0 E1
 have n1:0≤r1:=by omega
 go_wp2_with fail
 refine (szByteS_c (a_2.below E1) n1 (by omega)).mono ?_
 rintro e w2 ⟨r2,rfl,p2,q2,s2,hb2⟩
 have S2:=hD s2;clear s2
 have D2:=D1.trans (hb2.mono D1.size)
 have E2:=E1.trans (hb2.mono E1.size)
 clear hc1 hf1 hb2
 obtain ⟨hc2,hf2⟩:=bcell D2
 by_cases m2:r2 < 0
 · go_wp2
   go_ret
   exact sz_minus hl0 E2
 have n2:0≤r2:=by omega
 go_wp2_with fail
 refine (szName_c (a_3.below E2) n2 (by omega)).mono ?_
 rintro e w3 ⟨r3,rfl,p3,q3,s3,hb3⟩
 have S3:=hD s3;clear s3
 have D3:=D2.trans (hb3.mono D2.size)
 have E3:=E2.trans (hb3.mono E2.size)
 clear hc2 hf2 hb3
 obtain ⟨hc3,hf3⟩:=bcell D3
 by_cases m3:r3 < 0
 · go_wp2
   go_ret
   exact sz_minus hl0 E3
 have n3:0≤r3:=by omega
 go_wp2
 go_ret
 exact ⟨_,rfl,by omega,by omega,fun _=>⟨S1.out n1,S2.out n2,S3.out n3,trivial,trivial⟩,E3⟩
set_option maxRecDepth 100000 in
set_option maxHeartbeats 400000 in
theorem szDataS_c {w:World} {va:Value} {x:List LData} {left:Int} (ha:(Rep.slice 113 RData).raw w [va] x) (hl0:0≤left) (hl1:left≤1048576) :
    Calls Tryz.prog 21 #[va,.int .i64 left] w (SzPost ((Rep.slice 113 RData).bdd 1048576 x) left w):=by
 obtain ⟨aa,capa,hva,la⟩:=Rep.kR ha;obtain rfl:va=_:=by simpa using hva
 clear hva
 go_enter Tryz.func21,Tryz.ntmps21
 by_cases hb:left < (x.length:Int)
 · have hb1:left - (x.length:Int) < 0:=by omega
   have hb2:-9223372036854775808≤left - (x.length:Int):=by omega
   go_wp2
   go_ret
   exact sz_minus hl0 (Below.refl _ _)
 have hb1:0≤left - (x.length:Int):=by omega
 have hb2:¬ left - (x.length:Int) < 0:=by omega
 go_wp2
 go_loopw [1,5] (fun l i wr=>∃ (k:Nat) (r:Int),k≤x.length∧i=.int .i64 k∧l=.int .i64 r∧0≤r∧r≤left∧(∀ y∈x.take k,RData.bdd 1048576 y)∧Below w.heap.size w wr) (fun _ i _=>x.length - (intOf i).toNat)
 case atStart=>exact ⟨0,_,Nat.zero_le _,rfl,rfl,hb1,by omega,by simp,Below.refl _ _⟩
 obtain ⟨k,r,hk,rfl,rfl,hr0,hr1,hall,hbel⟩:=hrel
 have HA:=hD hall;clear hall
 by_cases hlt:k < x.length
 · obtain ⟨ba,offa,rfl,c0,c1,c2,c3,c4,hr,A0,A1,A2,A3,A4⟩:=Rep.get5 (ha.below hbel) hlt rfl
   go_wp2_with fail
   refine (szData_c hr hr0 (by omega)).mono ?_
   rintro e w' ⟨r',rfl,h1,h2,h3,hb3⟩
   have HB:=hD h3;clear h3 hr
   have hbel2:=hbel.trans (hb3.mono hbel.size)
   by_cases hs:r' < 0
   · go_wp2
     go_ret
     exact sz_minus hl0 hbel2
   have h4:0≤r':=by omega
   go_wp2
   go_roundw
   case rel=>exact ⟨k + 1,_,by omega,by go_num,rfl,h4,by omega,all_take_succ HA.out hlt (HB.out h4),hbel2⟩
   simp [intOf];omega
 go_wp2
 go_ret
 exact ⟨_,rfl,by omega,by omega,fun _=>⟨by omega,all_take_full HA.out hlt⟩,hbel⟩
set_option maxRecDepth 100000 in
set_option maxHeartbeats 400000 in
theorem szCacheEntry_c {w:World} {ca:List Value} {x:LCacheEntry} {left:Int} (ha:kL.raw w ca x) (hl0:0≤left) (hl1:left≤1048576) :
    Calls Tryz.prog 182 #[.agg ca.toArray,.int .i64 left] w (SzPost (kL.bdd 1048576 x) left w):=by
 obtain ⟨av0,av1,av2,rfl,a_0,a_1,a_2,a_3,a_4,a_5,a_6,a_7,a_8⟩:=RCacheEntry_raw ha
 obtain ⟨x0,x1⟩:=x
 clear ha a_1 a_2 a_3 a_4 a_5 a_6 a_7 a_8
 go_enter Tryz.func182,Tryz.ntmps182
 go_wp2_with fail
 refine (szData_c (a_0.alloc _) hl0 hl1).mono ?_
 rintro e w1 ⟨r1,rfl,p1,q1,s1,hb1⟩
 have S1:=hD s1;clear s1
 have D1:=hb1
 have E1:Below w.heap.size w w1:=((Below.refl _ _).alloc (Nat.le_refl _) _).trans (hb1.mono (by simp))
 obtain ⟨hc1,hf1⟩:=bcell D1;clear hb1
 by_cases m1:r1 < 0
 · go_wp2
   go_ret
   exact sz_minus hl0 E1
 have n1:0≤r1:=by omega
 go_wp2
 go_ret
 exact ⟨_,rfl,by omega,by omega,fun _=>⟨S1.out n1,trivial⟩,E1⟩
set_option maxRecDepth 100000 in
set_option maxHeartbeats 400000 in
theorem szCacheEntryS_c {w:World} {va:Value} {x:List LCacheEntry} {left:Int} (ha:(Rep.slice 169 kL).raw w [va] x) (hl0:0≤left) (hl1:left≤1048576) :
    Calls Tryz.prog 98 #[va,.int .i64 left] w (SzPost ((Rep.slice 169 kL).bdd 1048576 x) left w):=by
 obtain ⟨aa,capa,hva,la⟩:=Rep.kR ha;obtain rfl:va=_:=by simpa using hva
 clear hva
 go_enter Tryz.func98,Tryz.ntmps98
 by_cases hb:left < (x.length:Int)
 · have hb1:left - (x.length:Int) < 0:=by omega
   have hb2:-9223372036854775808≤left - (x.length:Int):=by omega
   go_wp2
   go_ret
   exact sz_minus hl0 (Below.refl _ _)
 have hb1:0≤left - (x.length:Int):=by omega
 have hb2:¬ left - (x.length:Int) < 0:=by omega
 go_wp2
 go_loopw [1,5] (fun l i wr=>∃ (k:Nat) (r:Int),k≤x.length∧i=.int .i64 k∧l=.int .i64 r∧0≤r∧r≤left∧(∀ y∈x.take k,kL.bdd 1048576 y)∧Below w.heap.size w wr) (fun _ i _=>x.length - (intOf i).toNat)
 case atStart=>exact ⟨0,_,Nat.zero_le _,rfl,rfl,hb1,by omega,by simp,Below.refl _ _⟩
 obtain ⟨k,r,hk,rfl,rfl,hr0,hr1,hall,hbel⟩:=hrel
 have HA:=hD hall;clear hall
 by_cases hlt:k < x.length
 · obtain ⟨ba,offa,rfl,c0,c1,c2,c3,c4,c5,hr,A0,A1,A2,A3,A4,A5⟩:=Rep.get6 (ha.below hbel) hlt rfl
   go_wp2_with fail
   refine (szCacheEntry_c hr hr0 (by omega)).mono ?_
   rintro e w' ⟨r',rfl,h1,h2,h3,hb3⟩
   have HB:=hD h3;clear h3 hr
   have hbel2:=hbel.trans (hb3.mono hbel.size)
   by_cases hs:r' < 0
   · go_wp2
     go_ret
     exact sz_minus hl0 hbel2
   have h4:0≤r':=by omega
   go_wp2
   go_roundw
   case rel=>exact ⟨k + 1,_,by omega,by go_num,rfl,h4,by omega,all_take_succ HA.out hlt (HB.out h4),hbel2⟩
   simp [intOf];omega
 go_wp2
 go_ret
 exact ⟨_,rfl,by omega,by omega,fun _=>⟨by omega,all_take_full HA.out hlt⟩,hbel⟩
set_option maxRecDepth 100000 in
set_option maxHeartbeats 400000 in
theorem szContentStore_c {w:World} {ca:List Value} {x:LContentStore} {left:Int} (ha:kJ.raw w ca x) (hl0:0≤left) (hl1:left≤1048576) :
    Calls Tryz.prog 22 #[.agg ca.toArray,.int .i64 left] w (SzPost (kJ.bdd 1048576 x) left w):=by
 obtain ⟨av0,rfl,a_0,a_1⟩:=RContentStore_raw ha
 obtain ⟨x0,x1⟩:=x
 clear ha a_0
 go_enter Tryz.func22,Tryz.ntmps22
 go_wp2_with fail
 refine (szCacheEntryS_c (a_1.alloc _) hl0 hl1).mono ?_
 rintro e w1 ⟨r1,rfl,p1,q1,s1,hb1⟩
 have S1:=hD s1;clear s1
 have D1:=hb1
 have E1:Below w.heap.size w w1:=((Below.refl _ _).alloc (Nat.le_refl _) _).trans (hb1.mono (by simp))
 obtain ⟨hc1,hf1⟩:=bcell D1;clear hb1
 by_cases m1:r1 < 0
 · go_wp2
   go_ret
   exact sz_minus hl0 E1
 have n1:0≤r1:=by omega
 go_wp2
 go_ret
 exact ⟨_,rfl,by omega,by omega,fun _=>⟨trivial,S1.out n1⟩,E1⟩
set_option maxRecDepth 100000 in
set_option maxHeartbeats 400000 in
theorem szNode_c {w:World} {ca:List Value} {x:LNode} {left:Int} (ha:RNode.raw w ca x) (hl0:0≤left) (hl1:left≤1048576) :
    Calls Tryz.prog 5 #[.agg ca.toArray,.int .i64 left] w (SzPost (RNode.bdd 1048576 x) left w):=by
 obtain ⟨av0,av1,av2,av3,av4,av5,rfl,a_0,a_1,a_2,a_3,a_4,a_5,a_6,a_7,a_8⟩:=RNode_raw ha
 obtain ⟨x0,x1,x2,x3,x4,x5,x6⟩:=x
 clear ha a_2 a_3 a_8
 go_enter Tryz.func5,Tryz.ntmps5
 go_wp2_with fail
 refine (szDataS_c (a_0.alloc _) hl0 hl1).mono ?_
 rintro e w1 ⟨r1,rfl,p1,q1,s1,hb1⟩
 have S1:=hD s1;clear s1
 have D1:=hb1
 have E1:Below w.heap.size w w1:=((Below.refl _ _).alloc (Nat.le_refl _) _).trans (hb1.mono (by simp))
 obtain ⟨hc1,hf1⟩:=bcell D1;clear hb1
 by_cases m1:r1 < 0
 · go_wp2
   go_ret
   exact sz_minus hl0 E1
 have n1:0≤r1:=by omega
 go_wp2_with fail
 refine (szContentStore_c (a_1.below E1) n1 (by omega)).mono ?_
 rintro e w2 ⟨r2,rfl,p2,q2,s2,hb2⟩
 have S2:=hD s2;clear s2
 have D2:=D1.trans (hb2.mono D1.size)
 have E2:=E1.trans (hb2.mono E1.size)
 clear hc1 hf1 hb2
 obtain ⟨hc2,hf2⟩:=bcell D2
 by_cases m2:r2 < 0
 · go_wp2
   go_ret
   exact sz_minus hl0 E2
 have n2:0≤r2:=by omega
 go_wp2_with fail
 refine (szPendingInterestS_c (a_4.below E2) n2 (by omega)).mono ?_
 rintro e w3 ⟨r3,rfl,p3,q3,s3,hb3⟩
 have S3:=hD s3;clear s3
 have D3:=D2.trans (hb3.mono D2.size)
 have E3:=E2.trans (hb3.mono E2.size)
 clear hc2 hf2 hb3
 obtain ⟨hc3,hf3⟩:=bcell D3
 by_cases m3:r3 < 0
 · go_wp2
   go_ret
   exact sz_minus hl0 E3
 have n3:0≤r3:=by omega
 go_wp2_with fail
 refine (szSeenNonceS_c (a_5.below E3) n3 (by omega)).mono ?_
 rintro e w4 ⟨r4,rfl,p4,q4,s4,hb4⟩
 have S4:=hD s4;clear s4
 have D4:=D3.trans (hb4.mono D3.size)
 have E4:=E3.trans (hb4.mono E3.size)
 clear hc3 hf3 hb4
 obtain ⟨hc4,hf4⟩:=bcell D4
 by_cases m4:r4 < 0
 · go_wp2
   go_ret
   exact sz_minus hl0 E4
 have n4:0≤r4:=by omega
 go_wp2_with fail
 refine (szRouteS_c (a_6.below E4) n4 (by omega)).mono ?_
 rintro e w5 ⟨r5,rfl,p5,q5,s5,hb5⟩
 have S5:=hD s5;clear s5
 have D5:=D4.trans (hb5.mono D4.size)
 have E5:=E4.trans (hb5.mono E4.size)
 clear hc4 hf4 hb5
 obtain ⟨hc5,hf5⟩:=bcell D5
 by_cases m5:r5 < 0
 · go_wp2
   go_ret
   exact sz_minus hl0 E5
 have n5:0≤r5:=by omega
 go_wp2_with fail
 refine (szMeasurementS_c (a_7.below E5) n5 (by omega)).mono ?_
 rintro e w6 ⟨r6,rfl,p6,q6,s6,hb6⟩
 have S6:=hD s6;clear s6
 have D6:=D5.trans (hb6.mono D5.size)
 have E6:=E5.trans (hb6.mono E5.size)
 clear hc5 hf5 hb6
 obtain ⟨hc6,hf6⟩:=bcell D6
 by_cases m6:r6 < 0
 · go_wp2
   go_ret
   exact sz_minus hl0 E6
 have n6:0≤r6:=by omega
 go_wp2
 go_ret
 exact ⟨_,rfl,by omega,by omega,fun _=>⟨S1.out n1,S2.out n2,S3.out n3,S4.out n4,S5.out n5,S6.out n6,trivial⟩,E6⟩
end Go.Proofs.YtomdenfcfbkfbaaGreat

/-
  The laws' copies: each makes new memory that stands for the same data. Printed by gento.py.
-/
import Derived.Test.YtlfblpgkegeaeaaGreatProg
import Derived.Test.YtlfblpgkegeaeaaGreatTypes
import Derived.WalkLawsBesides
import Derived.BigQuiet
import Derived.Deep.QuietTactic
import Derived.StillTailTactics
set_option linter.unusedVariables false
set_option linter.unusedSimpArgs false
set_option linter.unnecessarySimpa false
set_option maxRecDepth 100000
set_option maxHeartbeats 4000000
namespace Go.Proofs.YtlfblpgkegeaeaaGreat
open Go.RowKit
theorem infoString:(Tryz.prog.info? 9).map (fun i=>(i.zero,i.size,i.bytes))=some (some (.string ByteArray.empty),1,16):=by kernel_rfl
theorem kOo {w:World} {va:Value} {x:List ByteArray} (ha:(Rep.slice 9 Rep.str).rd w [va] x):Calls Tryz.prog 111 #[va] w (zH (Rep.slice 9 Rep.str) x w):=by
 obtain ⟨aa,capa,rfl,la⟩:=Rep.sl ha.1
 have lb:x.length≤16777216:=ha.2.1
 obtain ⟨i0,hi,hz0,hz1,hz2⟩:=info_parts infoString
 have hmk:∀ W:World,(Instr.makeSlice 37 (.int .i64 (x.length:Int)) (.int .i64 (x.length:Int))).run Tryz.prog W=.ok (.slice (some ⟨W.heap.size,0,none⟩) x.length x.length) (W.alloc (.cells (madeCells #[.string ByteArray.empty] (x.length * 1)) 9)):=by
  intro W
  have h:=run_make (P:=Tryz.prog) W 37 9 i0 _ rF hi hz0 .i64 .i64 (x.length:Int) (x.length:Int) rP rP qP rP
  rw [hz1] at h
  simpa [Value.cells] using h
 clear hz0 hz1 hz2 hi
 go_enter Tryz.func111,Tryz.ntmps111
 go_wp2;clear hmk
 have h0:=Rep.kAv (e:=9) (w:=w) (r:=Rep.str) (zs:=#[.string ByteArray.empty]) (n:=x.length) (S:=Btw w.heap.size (w.heap.size + 1)) rfl rfl rM pW ⟨Nat.le_refl _,by omega⟩
 have h1:(Rep.slice 9 Rep.str).own (w.alloc (.cells (madeCells #[.string ByteArray.empty] (x.length * 1)) 9)) _ _ _:=h0.own qB
 rw [Nat.mul_one] at h1
 clear h0
 go_loopw [4] (fun i wr=>∃ k:Nat,k≤x.length∧i=.int .i64 k∧(Rep.slice 9 Rep.str).own wr [.slice (some ⟨w.heap.size,0,none⟩) x.length x.length] (x.take k++List.replicate (x.length - k) Rep.str.zero) (Btw w.heap.size wr.heap.size)∧Below w.heap.size w wr∧w.heap.size < wr.heap.size) (fun i _=>x.length - (intOf i).toNat)
 case atStart=>exact ⟨0,Nat.zero_le _,rfl,by simpa using h1,bR.alloc nL _,by simp⟩
 obtain ⟨k,hk,rfl,hout,hbel,hgt⟩:=hrel
 by_cases hlt:k < x.length
 · obtain ⟨ba,offa,rfl,c0,hr,A0⟩:=Rep.kAy (ha.1.below hbel) hlt rfl
   have hlen:(x.take k++List.replicate (x.length - k) Rep.str.zero).length=x.length:=Rep.zg hk
   have hbd:=Rep.yF ha hlt
   obtain ⟨he,hrg⟩:=Rep.yQ hr
   obtain rfl:c0=_:=by simpa using he
   have hfl:=Rep.kSh hbd
   obtain ⟨o0,hro,O0⟩:=Rep.at1 hout.raw (i:=k) rP rfl
   have hfz:=Rep.kAg hout rP k
   clear he hr
   obtain ⟨hs,ht⟩:=Rep.kCo hout (i:=k) (p:=k) rP (hfl wr) (fun _ _ h=>h) (show k=0 + k * 1 by omega)
   rw [Rep.kBm hlt] at hs
   have HS:=yD hs;have HT:=yD ht;clear hs ht hout hro hlen hfl hbd hrg
   go_wp2
   go_roundw
   case rel=>exact ⟨k + 1,by omega,by go_num,HS.out.wide (fun j hj=>hj.elim (fun q=>⟨q.1,by simpa [World.setCell] using q.2⟩) (fun q=>q.elim)),hbel.setCell nL _,by simpa [World.setCell] using hgt⟩
   simp [intOf];omega
 rw [Rep.kBn hk hlt] at hout
 have HO:=yD hout;clear hout
 go_wp2
 go_ret
 exact ⟨_,rfl,HO.out,hbel⟩
theorem infoByte:(Tryz.prog.info? 5).map (fun i=>(i.zero,i.size,i.bytes))=some (some (.int .u8 0),1,1):=by kernel_rfl
theorem toByteS_c {w:World} {va:Value} {x:List UInt8} (ha:(Rep.slice 5 Rep.byte).rd w [va] x):Calls Tryz.prog 47 #[va] w (zH (Rep.slice 5 Rep.byte) x w):=by
 obtain ⟨aa,capa,rfl,la⟩:=Rep.sl ha.1
 have lb:x.length≤16777216:=ha.2.1
 obtain ⟨i0,hi,hz0,hz1,hz2⟩:=info_parts infoByte
 have hmk:∀ W:World,(Instr.makeSlice 40 (.int .i64 (x.length:Int)) (.int .i64 (x.length:Int))).run Tryz.prog W=.ok (.slice (some ⟨W.heap.size,0,none⟩) x.length x.length) (W.alloc (.cells (madeCells #[.int .u8 0] (x.length * 1)) 5)):=by
  intro W
  have h:=run_make (P:=Tryz.prog) W 40 5 i0 _ rF hi hz0 .i64 .i64 (x.length:Int) (x.length:Int) rP rP qP rP
  rw [hz1] at h
  simpa [Value.cells] using h
 clear hz0 hz1 hz2 hi
 go_enter Tryz.func47,Tryz.ntmps47
 go_wp2;clear hmk
 have h0:=Rep.kAv (e:=5) (w:=w) (r:=Rep.byte) (zs:=#[.int .u8 0]) (n:=x.length) (S:=Btw w.heap.size (w.heap.size + 1)) rfl rfl rM pW ⟨Nat.le_refl _,by omega⟩
 have h1:(Rep.slice 5 Rep.byte).own (w.alloc (.cells (madeCells #[.int .u8 0] (x.length * 1)) 5)) _ _ _:=h0.own qB
 rw [Nat.mul_one] at h1
 clear h0
 go_loopw [4] (fun i wr=>∃ k:Nat,k≤x.length∧i=.int .i64 k∧(Rep.slice 5 Rep.byte).own wr [.slice (some ⟨w.heap.size,0,none⟩) x.length x.length] (x.take k++List.replicate (x.length - k) Rep.byte.zero) (Btw w.heap.size wr.heap.size)∧Below w.heap.size w wr∧w.heap.size < wr.heap.size) (fun i _=>x.length - (intOf i).toNat)
 case atStart=>exact ⟨0,Nat.zero_le _,rfl,by simpa using h1,bR.alloc nL _,by simp⟩
 obtain ⟨k,hk,rfl,hout,hbel,hgt⟩:=hrel
 by_cases hlt:k < x.length
 · obtain ⟨ba,offa,rfl,c0,hr,A0⟩:=Rep.kAy (ha.1.below hbel) hlt rfl
   have hlen:(x.take k++List.replicate (x.length - k) Rep.byte.zero).length=x.length:=Rep.zg hk
   have hbd:=Rep.yF ha hlt
   obtain he:=Rep.kCn hr
   obtain rfl:c0=_:=by simpa using he
   have hfl:=Rep.flat_byte x[k]
   obtain ⟨o0,hro,O0⟩:=Rep.at1 hout.raw (i:=k) rP rfl
   have hfz:=Rep.kAg hout rP k
   clear he hr
   obtain ⟨hs,ht⟩:=Rep.kCo hout (i:=k) (p:=k) rP (hfl wr) (fun _ _ h=>h) (show k=0 + k * 1 by omega)
   rw [Rep.kBm hlt] at hs
   have HS:=yD hs;have HT:=yD ht;clear hs ht hout hro hlen hfl hbd
   go_wp2
   go_roundw
   case rel=>exact ⟨k + 1,by omega,by go_num,HS.out.wide (fun j hj=>hj.elim (fun q=>⟨q.1,by simpa [World.setCell] using q.2⟩) (fun q=>q.elim)),hbel.setCell nL _,by simpa [World.setCell] using hgt⟩
   simp [intOf];omega
 rw [Rep.kBn hk hlt] at hout
 have HO:=yD hout;clear hout
 go_wp2
 go_ret
 exact ⟨_,rfl,HO.out,hbel⟩
theorem kEe {w:World} {ca:List Value} {x:kW} (ha:kL.rd w ca x):Calls Tryz.prog 46 #[.agg ca.toArray] w (yM kL x w):=by
 obtain ⟨ha,hbd⟩:=ha
 obtain ⟨av0,rfl,a_0⟩:=kM ha
 obtain ⟨x0,rfl⟩:∃ x0,x0=x:=⟨_,rfl⟩
 have r0:(Rep.slice 9 Rep.str).rd w _ x0:=⟨a_0,hbd⟩
 clear ha hbd a_0
 go_enter Tryz.func46,Tryz.ntmps46
 go_wp2_with fail
 refine (kOo (((r0.alloc _).alloc _).alloc _)).mono ?_
 rintro e w1 ⟨v1,rfl,O1,hb1⟩
 obtain ⟨ta1,tp1,rfl,_⟩:=Rep.sl O1.raw
 have L1:w.heap.size + 3≤w1.heap.size:=mK
 have HO1:=yD (Rep.own.wide (T:=Btw (w.heap.size + 3) w1.heap.size) O1 fO);clear O1
 have E1:Below w.heap.size w w1:=(((bR.alloc nL _).alloc rQ _).alloc rG _).trans (hb1.mono rG)
 have HE1:=yD E1;clear E1
 have g1_0:w.heap.size < w1.heap.size:=rP
 have g1_1:w.heap.size + 1 < w1.heap.size:=rP
 have g1_2:w.heap.size + 1 + 1 < w1.heap.size:=rP
 obtain ⟨hc1,hf1⟩:=jO hb1
 clear hb1
 go_wp2
 refine bodyPost_ret (v:=.agg #[.slice ta1 x0.length tp1]) (by simp [results,Tryz.results46,go_sem,hc1,g1_0,g1_1,g1_2]) rfl ⟨[_],rfl,?_,?_⟩
 · refine Rep.own.wide (S:=Btw (w.heap.size + 3) (w1.heap.size)) ?_ dN
   exact Rep.own.out HO1.out dM
 repeat (first|(with_reducible exact HE1.out) | refine Below.setCell ?_ qO _)
theorem infoName:(Tryz.prog.info? 64).map (fun i=>(i.zero,i.size,i.bytes))=some (some (.agg #[.slice none 0 0]),1,24):=by kernel_rfl
theorem toNameS_c {w:World} {va:Value} {x:List kW} (ha:(Rep.slice 64 kL).rd w [va] x):Calls Tryz.prog 45 #[va] w (zH (Rep.slice 64 kL) x w):=by
 obtain ⟨aa,capa,rfl,la⟩:=Rep.sl ha.1
 have lb:x.length≤16777216:=ha.2.1
 obtain ⟨i0,hi,hz0,hz1,hz2⟩:=info_parts infoName
 have hmk:∀ W:World,(Instr.makeSlice 60 (.int .i64 (x.length:Int)) (.int .i64 (x.length:Int))).run Tryz.prog W=.ok (.slice (some ⟨W.heap.size,0,none⟩) x.length x.length) (W.alloc (.cells (madeCells #[.slice none 0 0] (x.length * 1)) 64)):=by
  intro W
  have h:=run_make (P:=Tryz.prog) W 60 64 i0 _ rF hi hz0 .i64 .i64 (x.length:Int) (x.length:Int) rP rP qP rP
  rw [hz1] at h
  simpa [Value.cells] using h
 clear hz0 hz1 hz2 hi
 go_enter Tryz.func45,Tryz.ntmps45
 go_wp2;clear hmk
 have h0:=Rep.kAv (e:=64) (w:=w) (r:=kL) (zs:=#[.slice none 0 0]) (n:=x.length) (S:=Btw w.heap.size (w.heap.size + 1)) rfl rfl rM pW ⟨Nat.le_refl _,by omega⟩
 have h1:(Rep.slice 64 kL).own (w.alloc (.cells (madeCells #[.slice none 0 0] (x.length * 1)) 64)) _ _ _:=h0.own qB
 rw [Nat.mul_one] at h1
 clear h0
 go_loopw [4] (fun i wr=>∃ k:Nat,k≤x.length∧i=.int .i64 k∧(Rep.slice 64 kL).own wr [.slice (some ⟨w.heap.size,0,none⟩) x.length x.length] (x.take k++List.replicate (x.length - k) kL.zero) (Btw w.heap.size wr.heap.size)∧Below w.heap.size w wr∧w.heap.size < wr.heap.size) (fun i _=>x.length - (intOf i).toNat)
 case atStart=>exact ⟨0,Nat.zero_le _,rfl,by simpa using h1,bR.alloc nL _,by simp⟩
 obtain ⟨k,hk,rfl,hout,hbel,hgt⟩:=hrel
 by_cases hlt:k < x.length
 · obtain ⟨ba,offa,rfl,c0,hr,A0⟩:=Rep.kAy (ha.1.below hbel) hlt rfl
   have hlen:(x.take k++List.replicate (x.length - k) kL.zero).length=x.length:=Rep.zg hk
   have hrd:kL.rd wr [c0] x[k]:=⟨hr,Rep.yF ha hlt⟩
   clear hr
   go_wp2_with fail
   refine (kEe hrd).mono ?_
   rintro e w2 ⟨cs,rfl,hown,hb2⟩
   obtain ⟨tv0,rfl,t_0⟩:=kM hown.raw
   obtain ⟨ta0,tp0,rfl,tl0⟩:=Rep.sl t_0
   clear t_0
   have hout2:=hout.below hb2
   obtain ⟨o0,hro,O0⟩:=Rep.at1 hout2.raw (i:=k) rP rfl
   have hfz:=Rep.kAg hout2 rP
   have Z0:=hfz (k)
   obtain ⟨hs,ht⟩:=Rep.kCo hout2 (i:=k) (p:=k) rP hown fI (show k=0 + k * 1 by omega)
   rw [Rep.kBm hlt] at hs
   have hsz:=hb2.size
   have hbel2:=(tQ hbel hb2)
   have HS:=yD hs;have HT:=yD ht;clear hs ht hout hout2 hro hlen hrd hfz hown hb2
   go_wp2
   go_roundw
   case rel=>exact ⟨k + 1,by omega,by go_num,HS.out.wide bG,(hbel2.setCell nL _),by simp [World.setCell];omega⟩
   simp [intOf];omega
 rw [Rep.kBn hk hlt] at hout
 have HO:=yD hout;clear hout
 go_wp2
 go_ret
 exact ⟨_,rfl,HO.out,hbel⟩
theorem kPh {w:World} {ca:List Value} {x:kZ} (ha:kF.rd w ca x):Calls Tryz.prog 108 #[.agg ca.toArray] w (yM kF x w):=by
 obtain ⟨ha,hbd⟩:=ha
 obtain ⟨av0,rfl,a_0,a_1,a_2,a_3⟩:=jX ha
 obtain ⟨x0,x1,x2⟩:=x
 have r0:kL.rd w _ x0:=⟨a_0,hbd.1⟩
 have N1:=yD a_2
 have N2:=yD a_3
 clear ha hbd a_0 a_1 a_2 a_3
 go_enter Tryz.func108,Tryz.ntmps108
 go_wp2_with fail
 refine (kEe (((r0.alloc _).alloc _).alloc _)).mono ?_
 rintro e w1 ⟨cs1,rfl,O1,hb1⟩
 obtain ⟨t1v0,rfl,t1_0⟩:=kM O1.raw
 obtain ⟨t1a0,t1p0,rfl,t1l0⟩:=Rep.sl t1_0
 clear t1_0
 have L1:w.heap.size + 3≤w1.heap.size:=mK
 have HO1:=yD (Rep.own.wide (T:=Btw (w.heap.size + 3) w1.heap.size) O1 fO);clear O1
 have E1:Below w.heap.size w w1:=(((bR.alloc nL _).alloc rQ _).alloc rG _).trans (hb1.mono rG)
 have HE1:=yD E1;clear E1
 have g1_0:w.heap.size < w1.heap.size:=rP
 have g1_1:w.heap.size + 1 < w1.heap.size:=rP
 have g1_2:w.heap.size + 1 + 1 < w1.heap.size:=rP
 obtain ⟨hc1,hf1⟩:=jO hb1
 clear hb1
 go_wp2
 refine bodyPost_ret (v:=.agg #[.slice t1a0 x0.length t1p0,.int .i64 x1,.int .i64 x2]) (by simp [results,Tryz.results108,go_sem,hc1,g1_0,g1_1,g1_2]) rfl ⟨[_,_,_],rfl,?_,?_⟩
 · refine Rep.own.wide (S:=Btw (w.heap.size + 3) (w1.heap.size)) ?_ dN
   exact Rep.jy (r:=kL) (q:=(Rep.pair Rep.int Rep.int)) (cs:=[.slice t1a0 x0.length t1p0]) (ds:=[.int .i64 x1,.int .i64 x2]) (x:=x0) (y:=(x1,x2)) (Rep.own.out HO1.out dM) (Rep.kAw (r:=Rep.int) (q:=Rep.int) (cs:=[.int .i64 x1]) (ds:=[.int .i64 x2]) (x:=x1) (y:=x2) (Rep.jG N1.out) (Rep.jG N2.out))
 repeat (first|(with_reducible exact HE1.out) | refine Below.setCell ?_ qO _)
theorem kPs:(Tryz.prog.info? 184).map (fun i=>(i.zero,i.size,i.bytes))=some (some (.agg #[.slice none 0 0,.int .i64 0,.int .i64 0]),3,40):=by kernel_rfl
theorem kMy {w:World} {va:Value} {x:List kZ} (ha:(Rep.slice 184 kF).rd w [va] x):Calls Tryz.prog 42 #[va] w (zH (Rep.slice 184 kF) x w):=by
 obtain ⟨aa,capa,rfl,la⟩:=Rep.sl ha.1
 have lb:x.length≤16777216:=ha.2.1
 obtain ⟨i0,hi,hz0,hz1,hz2⟩:=info_parts kPs
 have hmk:∀ W:World,(Instr.makeSlice 54 (.int .i64 (x.length:Int)) (.int .i64 (x.length:Int))).run Tryz.prog W=.ok (.slice (some ⟨W.heap.size,0,none⟩) x.length x.length) (W.alloc (.cells (madeCells #[.slice none 0 0,.int .i64 0,.int .i64 0] (x.length * 3)) 184)):=by
  intro W
  have h:=run_make (P:=Tryz.prog) W 54 184 i0 _ rF hi hz0 .i64 .i64 (x.length:Int) (x.length:Int) rP rP qP rP
  rw [hz1] at h
  simpa [Value.cells] using h
 clear hz0 hz1 hz2 hi
 go_enter Tryz.func42,Tryz.ntmps42
 go_wp2;clear hmk
 have h0:=Rep.kAv (e:=184) (w:=w) (r:=kF) (zs:=#[.slice none 0 0,.int .i64 0,.int .i64 0]) (n:=x.length) (S:=Btw w.heap.size (w.heap.size + 1)) rfl rfl rM pW ⟨Nat.le_refl _,by omega⟩
 have h1:(Rep.slice 184 kF).own (w.alloc (.cells (madeCells #[.slice none 0 0,.int .i64 0,.int .i64 0] (x.length * 3)) 184)) _ _ _:=h0.own qB
 clear h0
 go_loopw [4] (fun i wr=>∃ k:Nat,k≤x.length∧i=.int .i64 k∧(Rep.slice 184 kF).own wr [.slice (some ⟨w.heap.size,0,none⟩) x.length x.length] (x.take k++List.replicate (x.length - k) kF.zero) (Btw w.heap.size wr.heap.size)∧Below w.heap.size w wr∧w.heap.size < wr.heap.size) (fun i _=>x.length - (intOf i).toNat)
 case atStart=>exact ⟨0,Nat.zero_le _,rfl,by simpa using h1,bR.alloc nL _,by simp⟩
 obtain ⟨k,hk,rfl,hout,hbel,hgt⟩:=hrel
 by_cases hlt:k < x.length
 · obtain ⟨ba,offa,rfl,c0,c1,c2,hr,A0,A1,A2⟩:=Rep.kBg (ha.1.below hbel) hlt rfl
   have hlen:(x.take k++List.replicate (x.length - k) kF.zero).length=x.length:=Rep.zg hk
   have hrd:kF.rd wr [c0,c1,c2] x[k]:=⟨hr,Rep.yF ha hlt⟩
   clear hr
   go_wp2_with fail
   refine (kPh hrd).mono ?_
   rintro e w2 ⟨cs,rfl,hown,hb2⟩
   obtain ⟨tv0,rfl,t_0,t_1,t_2,t_3⟩:=jX hown.raw
   obtain ⟨ta0,tp0,rfl,tl0⟩:=Rep.sl t_1
   clear t_0 t_1 t_2 t_3
   have hout2:=hout.below hb2
   obtain ⟨o0,o1,o2,hro,O0,O1,O2⟩:=Rep.at3 hout2.raw (i:=k) rP rfl
   have hfz:=Rep.kAg hout2 rP
   have Z0:=hfz (k * 3)
   have Z1:=hfz (k * 3 + 1)
   have Z2:=hfz (k * 3 + 2)
   obtain ⟨hs,ht⟩:=Rep.kCo hout2 (i:=k) (p:=k * 3) rP hown fI (show k * 3=0 + k * 3 by omega)
   rw [Rep.kBm hlt] at hs
   have hsz:=hb2.size
   have hbel2:=(tQ hbel hb2)
   have HS:=yD hs;have HT:=yD ht;clear hs ht hout hout2 hro hlen hrd hfz hown hb2
   go_wp2
   go_roundw
   case rel=>exact ⟨k + 1,by omega,by go_num,HS.out.wide bG,(((hbel2.setCell nL _).setCell nL _).setCell nL _),by simp [World.setCell];omega⟩
   simp [intOf];omega
 rw [Rep.kBn hk hlt] at hout
 have HO:=yD hout;clear hout
 go_wp2
 go_ret
 exact ⟨_,rfl,HO.out,hbel⟩
theorem toRoute_c {w:World} {ca:List Value} {x:yA} (ha:kX.rd w ca x):Calls Tryz.prog 107 #[.agg ca.toArray] w (yM kX x w):=by
 obtain ⟨ha,hbd⟩:=ha
 obtain ⟨av0,rfl,a_0,a_1,a_2,a_3⟩:=yg ha
 obtain ⟨x0,x1,x2⟩:=x
 have r0:kL.rd w _ x0:=⟨a_0,hbd.1⟩
 have N1:=yD a_2
 have N2:=yD a_3
 clear ha hbd a_0 a_1 a_2 a_3
 go_enter Tryz.func107,Tryz.ntmps107
 go_wp2_with fail
 refine (kEe (((r0.alloc _).alloc _).alloc _)).mono ?_
 rintro e w1 ⟨cs1,rfl,O1,hb1⟩
 obtain ⟨t1v0,rfl,t1_0⟩:=kM O1.raw
 obtain ⟨t1a0,t1p0,rfl,t1l0⟩:=Rep.sl t1_0
 clear t1_0
 have L1:w.heap.size + 3≤w1.heap.size:=mK
 have HO1:=yD (Rep.own.wide (T:=Btw (w.heap.size + 3) w1.heap.size) O1 fO);clear O1
 have E1:Below w.heap.size w w1:=(((bR.alloc nL _).alloc rQ _).alloc rG _).trans (hb1.mono rG)
 have HE1:=yD E1;clear E1
 have g1_0:w.heap.size < w1.heap.size:=rP
 have g1_1:w.heap.size + 1 < w1.heap.size:=rP
 have g1_2:w.heap.size + 1 + 1 < w1.heap.size:=rP
 obtain ⟨hc1,hf1⟩:=jO hb1
 clear hb1
 go_wp2
 refine bodyPost_ret (v:=.agg #[.slice t1a0 x0.length t1p0,.int .i64 x1,.int .i64 x2]) (by simp [results,Tryz.results107,go_sem,hc1,g1_0,g1_1,g1_2]) rfl ⟨[_,_,_],rfl,?_,?_⟩
 · refine Rep.own.wide (S:=Btw (w.heap.size + 3) (w1.heap.size)) ?_ dN
   exact Rep.jy (r:=kL) (q:=(Rep.pair Rep.int Rep.int)) (cs:=[.slice t1a0 x0.length t1p0]) (ds:=[.int .i64 x1,.int .i64 x2]) (x:=x0) (y:=(x1,x2)) (Rep.own.out HO1.out dM) (Rep.kAw (r:=Rep.int) (q:=Rep.int) (cs:=[.int .i64 x1]) (ds:=[.int .i64 x2]) (x:=x1) (y:=x2) (Rep.jG N1.out) (Rep.jG N2.out))
 repeat (first|(with_reducible exact HE1.out) | refine Below.setCell ?_ qO _)
theorem infoRoute:(Tryz.prog.info? 181).map (fun i=>(i.zero,i.size,i.bytes))=some (some (.agg #[.slice none 0 0,.int .i64 0,.int .i64 0]),3,40):=by kernel_rfl
theorem toRouteS_c {w:World} {va:Value} {x:List yA} (ha:(Rep.slice 181 kX).rd w [va] x):Calls Tryz.prog 41 #[va] w (zH (Rep.slice 181 kX) x w):=by
 obtain ⟨aa,capa,rfl,la⟩:=Rep.sl ha.1
 have lb:x.length≤16777216:=ha.2.1
 obtain ⟨i0,hi,hz0,hz1,hz2⟩:=info_parts infoRoute
 have hmk:∀ W:World,(Instr.makeSlice 53 (.int .i64 (x.length:Int)) (.int .i64 (x.length:Int))).run Tryz.prog W=.ok (.slice (some ⟨W.heap.size,0,none⟩) x.length x.length) (W.alloc (.cells (madeCells #[.slice none 0 0,.int .i64 0,.int .i64 0] (x.length * 3)) 181)):=by
  intro W
  have h:=run_make (P:=Tryz.prog) W 53 181 i0 _ rF hi hz0 .i64 .i64 (x.length:Int) (x.length:Int) rP rP qP rP
  rw [hz1] at h
  simpa [Value.cells] using h
 clear hz0 hz1 hz2 hi
 go_enter Tryz.func41,Tryz.ntmps41
 go_wp2;clear hmk
 have h0:=Rep.kAv (e:=181) (w:=w) (r:=kX) (zs:=#[.slice none 0 0,.int .i64 0,.int .i64 0]) (n:=x.length) (S:=Btw w.heap.size (w.heap.size + 1)) rfl rfl rM pW ⟨Nat.le_refl _,by omega⟩
 have h1:(Rep.slice 181 kX).own (w.alloc (.cells (madeCells #[.slice none 0 0,.int .i64 0,.int .i64 0] (x.length * 3)) 181)) _ _ _:=h0.own qB
 clear h0
 go_loopw [4] (fun i wr=>∃ k:Nat,k≤x.length∧i=.int .i64 k∧(Rep.slice 181 kX).own wr [.slice (some ⟨w.heap.size,0,none⟩) x.length x.length] (x.take k++List.replicate (x.length - k) kX.zero) (Btw w.heap.size wr.heap.size)∧Below w.heap.size w wr∧w.heap.size < wr.heap.size) (fun i _=>x.length - (intOf i).toNat)
 case atStart=>exact ⟨0,Nat.zero_le _,rfl,by simpa using h1,bR.alloc nL _,by simp⟩
 obtain ⟨k,hk,rfl,hout,hbel,hgt⟩:=hrel
 by_cases hlt:k < x.length
 · obtain ⟨ba,offa,rfl,c0,c1,c2,hr,A0,A1,A2⟩:=Rep.kBg (ha.1.below hbel) hlt rfl
   have hlen:(x.take k++List.replicate (x.length - k) kX.zero).length=x.length:=Rep.zg hk
   have hrd:kX.rd wr [c0,c1,c2] x[k]:=⟨hr,Rep.yF ha hlt⟩
   clear hr
   go_wp2_with fail
   refine (toRoute_c hrd).mono ?_
   rintro e w2 ⟨cs,rfl,hown,hb2⟩
   obtain ⟨tv0,rfl,t_0,t_1,t_2,t_3⟩:=yg hown.raw
   obtain ⟨ta0,tp0,rfl,tl0⟩:=Rep.sl t_1
   clear t_0 t_1 t_2 t_3
   have hout2:=hout.below hb2
   obtain ⟨o0,o1,o2,hro,O0,O1,O2⟩:=Rep.at3 hout2.raw (i:=k) rP rfl
   have hfz:=Rep.kAg hout2 rP
   have Z0:=hfz (k * 3)
   have Z1:=hfz (k * 3 + 1)
   have Z2:=hfz (k * 3 + 2)
   obtain ⟨hs,ht⟩:=Rep.kCo hout2 (i:=k) (p:=k * 3) rP hown fI (show k * 3=0 + k * 3 by omega)
   rw [Rep.kBm hlt] at hs
   have hsz:=hb2.size
   have hbel2:=(tQ hbel hb2)
   have HS:=yD hs;have HT:=yD ht;clear hs ht hout hout2 hro hlen hrd hfz hown hb2
   go_wp2
   go_roundw
   case rel=>exact ⟨k + 1,by omega,by go_num,HS.out.wide bG,(((hbel2.setCell nL _).setCell nL _).setCell nL _),by simp [World.setCell];omega⟩
   simp [intOf];omega
 rw [Rep.kBn hk hlt] at hout
 have HO:=yD hout;clear hout
 go_wp2
 go_ret
 exact ⟨_,rfl,HO.out,hbel⟩
theorem kTd {w:World} {ca:List Value} {x:jP} (ha:kQ.rd w ca x):Calls Tryz.prog 207 #[.agg ca.toArray] w (yM kQ x w):=by
 obtain ⟨ha,hbd⟩:=ha
 obtain ⟨rfl,a_0,a_1,a_2⟩:=kAa ha
 obtain ⟨x0,x1,x2⟩:=x
 have N0:=yD a_0
 have N1:=yD a_1
 have N2:=yD a_2
 clear ha hbd a_0 a_1 a_2
 go_enter Tryz.func207,Tryz.ntmps207
 go_wp2
 refine bodyPost_ret (v:=.agg #[.int .i64 x0,.int .i64 x1,.int .i64 x2]) (by simp [results,Tryz.results207,go_sem]) rfl ⟨[_,_,_],rfl,?_,?_⟩
 · exact Rep.flat.own (Rep.kAw (Rep.jG N0.out) (Rep.kAw (Rep.jG N1.out) (Rep.jG N2.out)))
 exact ((bR.alloc nL _).alloc rQ _).alloc rG _
theorem kTp:(Tryz.prog.info? 123).map (fun i=>(i.zero,i.size,i.bytes))=some (some (.agg #[.int .i64 0,.int .i64 0,.int .i64 0]),3,24):=by kernel_rfl
theorem kQu {w:World} {va:Value} {x:List jP} (ha:(Rep.slice 123 kQ).rd w [va] x):Calls Tryz.prog 175 #[va] w (zH (Rep.slice 123 kQ) x w):=by
 obtain ⟨aa,capa,rfl,la⟩:=Rep.sl ha.1
 have lb:x.length≤16777216:=ha.2.1
 obtain ⟨i0,hi,hz0,hz1,hz2⟩:=info_parts kTp
 have hmk:∀ W:World,(Instr.makeSlice 119 (.int .i64 (x.length:Int)) (.int .i64 (x.length:Int))).run Tryz.prog W=.ok (.slice (some ⟨W.heap.size,0,none⟩) x.length x.length) (W.alloc (.cells (madeCells #[.int .i64 0,.int .i64 0,.int .i64 0] (x.length * 3)) 123)):=by
  intro W
  have h:=run_make (P:=Tryz.prog) W 119 123 i0 _ rF hi hz0 .i64 .i64 (x.length:Int) (x.length:Int) rP rP qP rP
  rw [hz1] at h
  simpa [Value.cells] using h
 clear hz0 hz1 hz2 hi
 go_enter Tryz.func175,Tryz.ntmps175
 go_wp2;clear hmk
 have h0:=Rep.kAv (e:=123) (w:=w) (r:=kQ) (zs:=#[.int .i64 0,.int .i64 0,.int .i64 0]) (n:=x.length) (S:=Btw w.heap.size (w.heap.size + 1)) rfl rfl rM pW ⟨Nat.le_refl _,by omega⟩
 have h1:(Rep.slice 123 kQ).own (w.alloc (.cells (madeCells #[.int .i64 0,.int .i64 0,.int .i64 0] (x.length * 3)) 123)) _ _ _:=h0.own qB
 clear h0
 go_loopw [4] (fun i wr=>∃ k:Nat,k≤x.length∧i=.int .i64 k∧(Rep.slice 123 kQ).own wr [.slice (some ⟨w.heap.size,0,none⟩) x.length x.length] (x.take k++List.replicate (x.length - k) kQ.zero) (Btw w.heap.size wr.heap.size)∧Below w.heap.size w wr∧w.heap.size < wr.heap.size) (fun i _=>x.length - (intOf i).toNat)
 case atStart=>exact ⟨0,Nat.zero_le _,rfl,by simpa using h1,bR.alloc nL _,by simp⟩
 obtain ⟨k,hk,rfl,hout,hbel,hgt⟩:=hrel
 by_cases hlt:k < x.length
 · obtain ⟨ba,offa,rfl,c0,c1,c2,hr,A0,A1,A2⟩:=Rep.kBg (ha.1.below hbel) hlt rfl
   have hlen:(x.take k++List.replicate (x.length - k) kQ.zero).length=x.length:=Rep.zg hk
   have hrd:kQ.rd wr [c0,c1,c2] x[k]:=⟨hr,Rep.yF ha hlt⟩
   clear hr
   go_wp2_with fail
   refine (kTd hrd).mono ?_
   rintro e w2 ⟨cs,rfl,hown,hb2⟩
   obtain ⟨rfl,t_0,t_1,t_2⟩:=kAa hown.raw
   clear t_0 t_1 t_2
   have hout2:=hout.below hb2
   obtain ⟨o0,o1,o2,hro,O0,O1,O2⟩:=Rep.at3 hout2.raw (i:=k) rP rfl
   have hfz:=Rep.kAg hout2 rP
   have Z0:=hfz (k * 3)
   have Z1:=hfz (k * 3 + 1)
   have Z2:=hfz (k * 3 + 2)
   obtain ⟨hs,ht⟩:=Rep.kCo hout2 (i:=k) (p:=k * 3) rP hown fI (show k * 3=0 + k * 3 by omega)
   rw [Rep.kBm hlt] at hs
   have hsz:=hb2.size
   have hbel2:=(tQ hbel hb2)
   have HS:=yD hs;have HT:=yD ht;clear hs ht hout hout2 hro hlen hrd hfz hown hb2
   go_wp2
   go_roundw
   case rel=>exact ⟨k + 1,by omega,by go_num,HS.out.wide bG,(((hbel2.setCell nL _).setCell nL _).setCell nL _),by simp [World.setCell];omega⟩
   simp [intOf];omega
 rw [Rep.kBn hk hlt] at hout
 have HO:=yD hout;clear hout
 go_wp2
 go_ret
 exact ⟨_,rfl,HO.out,hbel⟩
theorem kJi {w:World} {ca:List Value} {x:kS} (ha:kE.rd w ca x):Calls Tryz.prog 105 #[.agg ca.toArray] w (yM kE x w):=by
 obtain ⟨ha,hbd⟩:=ha
 obtain ⟨av0,av1,rfl,a_0,a_1,a_2,a_3⟩:=jN ha
 obtain ⟨x0,x1,x2⟩:=x
 have r0:kL.rd w _ x0:=⟨a_0,hbd.1⟩
 have r1:(Rep.slice 123 kQ).rd w _ x1:=⟨a_2,hbd.2.1⟩
 have N2:=yD a_3
 clear ha hbd a_0 a_1 a_2 a_3
 go_enter Tryz.func105,Tryz.ntmps105
 go_wp2_with fail
 refine (kEe (((r0.alloc _).alloc _).alloc _)).mono ?_
 rintro e w1 ⟨cs1,rfl,O1,hb1⟩
 obtain ⟨t1v0,rfl,t1_0⟩:=kM O1.raw
 obtain ⟨t1a0,t1p0,rfl,t1l0⟩:=Rep.sl t1_0
 clear t1_0
 have L1:w.heap.size + 3≤w1.heap.size:=mK
 have HO1:=yD (Rep.own.wide (T:=Btw (w.heap.size + 3) w1.heap.size) O1 fO);clear O1
 have E1:Below w.heap.size w w1:=(((bR.alloc nL _).alloc rQ _).alloc rG _).trans (hb1.mono rG)
 have HE1:=yD E1;clear E1
 have g1_0:w.heap.size < w1.heap.size:=rP
 have g1_1:w.heap.size + 1 < w1.heap.size:=rP
 have g1_2:w.heap.size + 1 + 1 < w1.heap.size:=rP
 obtain ⟨hc1,hf1⟩:=jO hb1
 clear hb1
 go_wp2_with fail
 refine (kQu (r1.below dA)).mono ?_
 rintro e w2 ⟨v2,rfl,O2,hb2⟩
 obtain ⟨ta2,tp2,rfl,_⟩:=Rep.sl O2.raw
 have L2:w1.heap.size≤w2.heap.size:=mO
 have HO2:=yD (Rep.own.wide (T:=Btw (w1.heap.size) w2.heap.size) O2 fO);clear O2
 have E2:Below w.heap.size w w2:=Below.trans dA (hb2.mono rG)
 have HE2:=yD E2;clear E2
 have HP1_2:=yD ((HO1.out).out (w':=w2) bY);clear HO1
 have g2_0:w.heap.size < w2.heap.size:=rP
 have g2_1:w.heap.size + 1 < w2.heap.size:=rP
 have g2_2:w.heap.size + 1 + 1 < w2.heap.size:=rP
 obtain ⟨hc2,hf2⟩:=jO hb2
 clear hb2
 go_wp2
 refine bodyPost_ret (v:=.agg #[.slice t1a0 x0.length t1p0,.slice ta2 x1.length tp2,.int .i64 x2]) (by simp [results,Tryz.results105,go_sem,hc1,g1_0,g1_1,g1_2,hc2,g2_0,g2_1,g2_2]) rfl ⟨[_,_,_],rfl,?_,?_⟩
 · refine Rep.own.wide (S:=Btw (w.heap.size + 3) (w2.heap.size)) ?_ dN
   exact Rep.jW (r:=kL) (q:=(Rep.pair (Rep.slice 123 kQ) Rep.int)) (cs:=[.slice t1a0 x0.length t1p0]) (ds:=[.slice ta2 x1.length tp2,.int .i64 x2]) (x:=x0) (y:=(x1,x2)) (S:=Btw (w.heap.size + 3) (w2.heap.size)) (Rep.own.out HP1_2.out dM) (Rep.jy (r:=(Rep.slice 123 kQ)) (q:=Rep.int) (cs:=[.slice ta2 x1.length tp2]) (ds:=[.int .i64 x2]) (x:=x1) (y:=x2) (Rep.own.out HO2.out dM) (Rep.jG N2.out)) mH mI fP
 repeat (first|(with_reducible exact HE2.out) | refine Below.setCell ?_ qO _)
theorem kJm:(Tryz.prog.info? 175).map (fun i=>(i.zero,i.size,i.bytes))=some (some (.agg #[.slice none 0 0,.slice none 0 0,.int .i64 0]),3,56):=by kernel_rfl
theorem kId {w:World} {va:Value} {x:List kS} (ha:(Rep.slice 175 kE).rd w [va] x):Calls Tryz.prog 39 #[va] w (zH (Rep.slice 175 kE) x w):=by
 obtain ⟨aa,capa,rfl,la⟩:=Rep.sl ha.1
 have lb:x.length≤16777216:=ha.2.1
 obtain ⟨i0,hi,hz0,hz1,hz2⟩:=info_parts kJm
 have hmk:∀ W:World,(Instr.makeSlice 51 (.int .i64 (x.length:Int)) (.int .i64 (x.length:Int))).run Tryz.prog W=.ok (.slice (some ⟨W.heap.size,0,none⟩) x.length x.length) (W.alloc (.cells (madeCells #[.slice none 0 0,.slice none 0 0,.int .i64 0] (x.length * 3)) 175)):=by
  intro W
  have h:=run_make (P:=Tryz.prog) W 51 175 i0 _ rF hi hz0 .i64 .i64 (x.length:Int) (x.length:Int) rP rP qP rP
  rw [hz1] at h
  simpa [Value.cells] using h
 clear hz0 hz1 hz2 hi
 go_enter Tryz.func39,Tryz.ntmps39
 go_wp2;clear hmk
 have h0:=Rep.kAv (e:=175) (w:=w) (r:=kE) (zs:=#[.slice none 0 0,.slice none 0 0,.int .i64 0]) (n:=x.length) (S:=Btw w.heap.size (w.heap.size + 1)) rfl rfl rM pW ⟨Nat.le_refl _,by omega⟩
 have h1:(Rep.slice 175 kE).own (w.alloc (.cells (madeCells #[.slice none 0 0,.slice none 0 0,.int .i64 0] (x.length * 3)) 175)) _ _ _:=h0.own qB
 clear h0
 go_loopw [4] (fun i wr=>∃ k:Nat,k≤x.length∧i=.int .i64 k∧(Rep.slice 175 kE).own wr [.slice (some ⟨w.heap.size,0,none⟩) x.length x.length] (x.take k++List.replicate (x.length - k) kE.zero) (Btw w.heap.size wr.heap.size)∧Below w.heap.size w wr∧w.heap.size < wr.heap.size) (fun i _=>x.length - (intOf i).toNat)
 case atStart=>exact ⟨0,Nat.zero_le _,rfl,by simpa using h1,bR.alloc nL _,by simp⟩
 obtain ⟨k,hk,rfl,hout,hbel,hgt⟩:=hrel
 by_cases hlt:k < x.length
 · obtain ⟨ba,offa,rfl,c0,c1,c2,hr,A0,A1,A2⟩:=Rep.kBg (ha.1.below hbel) hlt rfl
   have hlen:(x.take k++List.replicate (x.length - k) kE.zero).length=x.length:=Rep.zg hk
   have hrd:kE.rd wr [c0,c1,c2] x[k]:=⟨hr,Rep.yF ha hlt⟩
   clear hr
   go_wp2_with fail
   refine (kJi hrd).mono ?_
   rintro e w2 ⟨cs,rfl,hown,hb2⟩
   obtain ⟨tv0,tv1,rfl,t_0,t_1,t_2,t_3⟩:=jN hown.raw
   obtain ⟨ta0,tp0,rfl,tl0⟩:=Rep.sl t_1
   obtain ⟨ta1,tp1,rfl,tl1⟩:=Rep.sl t_2
   clear t_0 t_1 t_2 t_3
   have hout2:=hout.below hb2
   obtain ⟨o0,o1,o2,hro,O0,O1,O2⟩:=Rep.at3 hout2.raw (i:=k) rP rfl
   have hfz:=Rep.kAg hout2 rP
   have Z0:=hfz (k * 3)
   have Z1:=hfz (k * 3 + 1)
   have Z2:=hfz (k * 3 + 2)
   obtain ⟨hs,ht⟩:=Rep.kCo hout2 (i:=k) (p:=k * 3) rP hown fI (show k * 3=0 + k * 3 by omega)
   rw [Rep.kBm hlt] at hs
   have hsz:=hb2.size
   have hbel2:=(tQ hbel hb2)
   have HS:=yD hs;have HT:=yD ht;clear hs ht hout hout2 hro hlen hrd hfz hown hb2
   go_wp2
   go_roundw
   case rel=>exact ⟨k + 1,by omega,by go_num,HS.out.wide bG,(((hbel2.setCell nL _).setCell nL _).setCell nL _),by simp [World.setCell];omega⟩
   simp [intOf];omega
 rw [Rep.kBn hk hlt] at hout
 have HO:=yD hout;clear hout
 go_wp2
 go_ret
 exact ⟨_,rfl,HO.out,hbel⟩
theorem kTc {w:World} {ca:List Value} {x:jK} (ha:kJ.rd w ca x):Calls Tryz.prog 106 #[.agg ca.toArray] w (yM kJ x w):=by
 obtain ⟨ha,hbd⟩:=ha
 obtain ⟨av0,rfl,a_0,a_1,a_2⟩:=yt ha
 obtain ⟨x0,x1⟩:=x
 have r0:kL.rd w _ x0:=⟨a_0,hbd.1⟩
 have N1:=yD a_2
 clear ha hbd a_0 a_1 a_2
 go_enter Tryz.func106,Tryz.ntmps106
 go_wp2_with fail
 refine (kEe (((r0.alloc _).alloc _).alloc _)).mono ?_
 rintro e w1 ⟨cs1,rfl,O1,hb1⟩
 obtain ⟨t1v0,rfl,t1_0⟩:=kM O1.raw
 obtain ⟨t1a0,t1p0,rfl,t1l0⟩:=Rep.sl t1_0
 clear t1_0
 have L1:w.heap.size + 3≤w1.heap.size:=mK
 have HO1:=yD (Rep.own.wide (T:=Btw (w.heap.size + 3) w1.heap.size) O1 fO);clear O1
 have E1:Below w.heap.size w w1:=(((bR.alloc nL _).alloc rQ _).alloc rG _).trans (hb1.mono rG)
 have HE1:=yD E1;clear E1
 have g1_0:w.heap.size < w1.heap.size:=rP
 have g1_1:w.heap.size + 1 < w1.heap.size:=rP
 have g1_2:w.heap.size + 1 + 1 < w1.heap.size:=rP
 obtain ⟨hc1,hf1⟩:=jO hb1
 clear hb1
 go_wp2
 refine bodyPost_ret (v:=.agg #[.slice t1a0 x0.length t1p0,.int .i64 x1]) (by simp [results,Tryz.results106,go_sem,hc1,g1_0,g1_1,g1_2]) rfl ⟨[_,_],rfl,?_,?_⟩
 · refine Rep.own.wide (S:=Btw (w.heap.size + 3) (w1.heap.size)) ?_ dN
   exact Rep.jy (r:=kL) (q:=Rep.int) (cs:=[.slice t1a0 x0.length t1p0]) (ds:=[.int .i64 x1]) (x:=x0) (y:=x1) (Rep.own.out HO1.out dM) (Rep.jG N1.out)
 repeat (first|(with_reducible exact HE1.out) | refine Below.setCell ?_ qO _)
theorem kTo:(Tryz.prog.info? 178).map (fun i=>(i.zero,i.size,i.bytes))=some (some (.agg #[.slice none 0 0,.int .i64 0]),2,32):=by kernel_rfl
theorem kQt {w:World} {va:Value} {x:List jK} (ha:(Rep.slice 178 kJ).rd w [va] x):Calls Tryz.prog 40 #[va] w (zH (Rep.slice 178 kJ) x w):=by
 obtain ⟨aa,capa,rfl,la⟩:=Rep.sl ha.1
 have lb:x.length≤16777216:=ha.2.1
 obtain ⟨i0,hi,hz0,hz1,hz2⟩:=info_parts kTo
 have hmk:∀ W:World,(Instr.makeSlice 52 (.int .i64 (x.length:Int)) (.int .i64 (x.length:Int))).run Tryz.prog W=.ok (.slice (some ⟨W.heap.size,0,none⟩) x.length x.length) (W.alloc (.cells (madeCells #[.slice none 0 0,.int .i64 0] (x.length * 2)) 178)):=by
  intro W
  have h:=run_make (P:=Tryz.prog) W 52 178 i0 _ rF hi hz0 .i64 .i64 (x.length:Int) (x.length:Int) rP rP qP rP
  rw [hz1] at h
  simpa [Value.cells] using h
 clear hz0 hz1 hz2 hi
 go_enter Tryz.func40,Tryz.ntmps40
 go_wp2;clear hmk
 have h0:=Rep.kAv (e:=178) (w:=w) (r:=kJ) (zs:=#[.slice none 0 0,.int .i64 0]) (n:=x.length) (S:=Btw w.heap.size (w.heap.size + 1)) rfl rfl rM pW ⟨Nat.le_refl _,by omega⟩
 have h1:(Rep.slice 178 kJ).own (w.alloc (.cells (madeCells #[.slice none 0 0,.int .i64 0] (x.length * 2)) 178)) _ _ _:=h0.own qB
 clear h0
 go_loopw [4] (fun i wr=>∃ k:Nat,k≤x.length∧i=.int .i64 k∧(Rep.slice 178 kJ).own wr [.slice (some ⟨w.heap.size,0,none⟩) x.length x.length] (x.take k++List.replicate (x.length - k) kJ.zero) (Btw w.heap.size wr.heap.size)∧Below w.heap.size w wr∧w.heap.size < wr.heap.size) (fun i _=>x.length - (intOf i).toNat)
 case atStart=>exact ⟨0,Nat.zero_le _,rfl,by simpa using h1,bR.alloc nL _,by simp⟩
 obtain ⟨k,hk,rfl,hout,hbel,hgt⟩:=hrel
 by_cases hlt:k < x.length
 · obtain ⟨ba,offa,rfl,c0,c1,hr,A0,A1⟩:=Rep.kEk (ha.1.below hbel) hlt rfl
   have hlen:(x.take k++List.replicate (x.length - k) kJ.zero).length=x.length:=Rep.zg hk
   have hrd:kJ.rd wr [c0,c1] x[k]:=⟨hr,Rep.yF ha hlt⟩
   clear hr
   go_wp2_with fail
   refine (kTc hrd).mono ?_
   rintro e w2 ⟨cs,rfl,hown,hb2⟩
   obtain ⟨tv0,rfl,t_0,t_1,t_2⟩:=yt hown.raw
   obtain ⟨ta0,tp0,rfl,tl0⟩:=Rep.sl t_1
   clear t_0 t_1 t_2
   have hout2:=hout.below hb2
   obtain ⟨o0,o1,hro,O0,O1⟩:=Rep.at2 hout2.raw (i:=k) rP rfl
   have hfz:=Rep.kAg hout2 rP
   have Z0:=hfz (k * 2)
   have Z1:=hfz (k * 2 + 1)
   obtain ⟨hs,ht⟩:=Rep.kCo hout2 (i:=k) (p:=k * 2) rP hown fI (show k * 2=0 + k * 2 by omega)
   rw [Rep.kBm hlt] at hs
   have hsz:=hb2.size
   have hbel2:=(tQ hbel hb2)
   have HS:=yD hs;have HT:=yD ht;clear hs ht hout hout2 hro hlen hrd hfz hown hb2
   go_wp2
   go_roundw
   case rel=>exact ⟨k + 1,by omega,by go_num,HS.out.wide bG,((hbel2.setCell nL _).setCell nL _),by simp [World.setCell];omega⟩
   simp [intOf];omega
 rw [Rep.kBn hk hlt] at hout
 have HO:=yD hout;clear hout
 go_wp2
 go_ret
 exact ⟨_,rfl,HO.out,hbel⟩
theorem kBh {w:World} {ca:List Value} {x:jJ} (ha:kP.rd w ca x):Calls Tryz.prog 11 #[.agg ca.toArray] w (yM kP x w):=by
 obtain ⟨ha,hbd⟩:=ha
 obtain ⟨av0,av1,av2,rfl,a_0,a_1,a_2,a_3,a_4,a_5,a_6⟩:=kY ha
 obtain ⟨x0,x1,x2,x3,x4⟩:=x
 have r0:kL.rd w _ x0:=⟨a_0,hbd.1⟩
 have r1:(Rep.slice 5 Rep.byte).rd w _ x1:=⟨a_2,hbd.2.1⟩
 have r2:kL.rd w _ x2:=⟨a_3,hbd.2.2.1⟩
 have N3:=yD a_5
 have N4:=yD a_6
 clear ha hbd a_0 a_1 a_2 a_3 a_4 a_5 a_6
 go_enter Tryz.func11,Tryz.ntmps11
 go_wp2_with fail
 refine (kEe (((r0.alloc _).alloc _).alloc _)).mono ?_
 rintro e w1 ⟨cs1,rfl,O1,hb1⟩
 obtain ⟨t1v0,rfl,t1_0⟩:=kM O1.raw
 obtain ⟨t1a0,t1p0,rfl,t1l0⟩:=Rep.sl t1_0
 clear t1_0
 have L1:w.heap.size + 3≤w1.heap.size:=mK
 have HO1:=yD (Rep.own.wide (T:=Btw (w.heap.size + 3) w1.heap.size) O1 fO);clear O1
 have E1:Below w.heap.size w w1:=(((bR.alloc nL _).alloc rQ _).alloc rG _).trans (hb1.mono rG)
 have HE1:=yD E1;clear E1
 have g1_0:w.heap.size < w1.heap.size:=rP
 have g1_1:w.heap.size + 1 < w1.heap.size:=rP
 have g1_2:w.heap.size + 1 + 1 < w1.heap.size:=rP
 obtain ⟨hc1,hf1⟩:=jO hb1
 clear hb1
 go_wp2_with fail
 refine (toByteS_c (r1.below dA)).mono ?_
 rintro e w2 ⟨v2,rfl,O2,hb2⟩
 obtain ⟨ta2,tp2,rfl,_⟩:=Rep.sl O2.raw
 have L2:w1.heap.size≤w2.heap.size:=mO
 have HO2:=yD (Rep.own.wide (T:=Btw (w1.heap.size) w2.heap.size) O2 fO);clear O2
 have E2:Below w.heap.size w w2:=Below.trans dA (hb2.mono rG)
 have HE2:=yD E2;clear E2
 have HP1_2:=yD ((HO1.out).out (w':=w2) bY);clear HO1
 have g2_0:w.heap.size < w2.heap.size:=rP
 have g2_1:w.heap.size + 1 < w2.heap.size:=rP
 have g2_2:w.heap.size + 1 + 1 < w2.heap.size:=rP
 obtain ⟨hc2,hf2⟩:=jO hb2
 clear hb2
 go_wp2_with fail
 refine (kEe (r2.below dB)).mono ?_
 rintro e w3 ⟨cs3,rfl,O3,hb3⟩
 obtain ⟨t3v0,rfl,t3_0⟩:=kM O3.raw
 obtain ⟨t3a0,t3p0,rfl,t3l0⟩:=Rep.sl t3_0
 clear t3_0
 have L3:w2.heap.size≤w3.heap.size:=mP
 have HO3:=yD (Rep.own.wide (T:=Btw (w2.heap.size) w3.heap.size) O3 fO);clear O3
 have E3:Below w.heap.size w w3:=Below.trans dB (hb3.mono rG)
 have HE3:=yD E3;clear E3
 have HP1_3:=yD ((HP1_2.out).out (w':=w3) bW);clear HP1_2
 have HP2_3:=yD ((HO2.out).out (w':=w3) bW);clear HO2
 have g3_0:w.heap.size < w3.heap.size:=rP
 have g3_1:w.heap.size + 1 < w3.heap.size:=rP
 have g3_2:w.heap.size + 1 + 1 < w3.heap.size:=rP
 obtain ⟨hc3,hf3⟩:=jO hb3
 clear hb3
 go_wp2
 refine bodyPost_ret (v:=.agg #[.slice t1a0 x0.length t1p0,.slice ta2 x1.length tp2,.slice t3a0 x2.length t3p0,.int .i64 x3,.int .i64 x4]) (by simp [results,Tryz.results11,go_sem,hc1,g1_0,g1_1,g1_2,hc2,g2_0,g2_1,g2_2,hc3,g3_0,g3_1,g3_2]) rfl ⟨[_,_,_,_,_],rfl,?_,?_⟩
 · refine Rep.own.wide (S:=Btw (w.heap.size + 3) (w3.heap.size)) ?_ dN
   exact Rep.jW (r:=kL) (q:=(Rep.pair (Rep.slice 5 Rep.byte) (Rep.pair kL (Rep.pair Rep.int Rep.int)))) (cs:=[.slice t1a0 x0.length t1p0]) (ds:=[.slice ta2 x1.length tp2,.slice t3a0 x2.length t3p0,.int .i64 x3,.int .i64 x4]) (x:=x0) (y:=(x1,x2,x3,x4)) (S:=Btw (w.heap.size + 3) (w3.heap.size)) (Rep.own.out HP1_3.out dM) (Rep.jW (r:=(Rep.slice 5 Rep.byte)) (q:=(Rep.pair kL (Rep.pair Rep.int Rep.int))) (cs:=[.slice ta2 x1.length tp2]) (ds:=[.slice t3a0 x2.length t3p0,.int .i64 x3,.int .i64 x4]) (x:=x1) (y:=(x2,x3,x4)) (S:=Btw (w1.heap.size) (w3.heap.size)) (Rep.own.out HP2_3.out dM) (Rep.jy (r:=kL) (q:=(Rep.pair Rep.int Rep.int)) (cs:=[.slice t3a0 x2.length t3p0]) (ds:=[.int .i64 x3,.int .i64 x4]) (x:=x2) (y:=(x3,x4)) (Rep.own.out HO3.out dM) (Rep.kAw (r:=Rep.int) (q:=Rep.int) (cs:=[.int .i64 x3]) (ds:=[.int .i64 x4]) (x:=x3) (y:=x4) (Rep.jG N3.out) (Rep.jG N4.out))) mH mI fP) mH mI fP
 repeat (first|(with_reducible exact HE3.out) | refine Below.setCell ?_ qO _)
theorem infoData:(Tryz.prog.info? 66).map (fun i=>(i.zero,i.size,i.bytes))=some (some (.agg #[.slice none 0 0,.slice none 0 0,.slice none 0 0,.int .i64 0,.int .i64 0]),5,88):=by kernel_rfl
theorem kUi {w:World} {va:Value} {x:List jJ} (ha:(Rep.slice 66 kP).rd w [va] x):Calls Tryz.prog 37 #[va] w (zH (Rep.slice 66 kP) x w):=by
 obtain ⟨aa,capa,rfl,la⟩:=Rep.sl ha.1
 have lb:x.length≤16777216:=ha.2.1
 obtain ⟨i0,hi,hz0,hz1,hz2⟩:=info_parts infoData
 have hmk:∀ W:World,(Instr.makeSlice 47 (.int .i64 (x.length:Int)) (.int .i64 (x.length:Int))).run Tryz.prog W=.ok (.slice (some ⟨W.heap.size,0,none⟩) x.length x.length) (W.alloc (.cells (madeCells #[.slice none 0 0,.slice none 0 0,.slice none 0 0,.int .i64 0,.int .i64 0] (x.length * 5)) 66)):=by
  intro W
  have h:=run_make (P:=Tryz.prog) W 47 66 i0 _ rF hi hz0 .i64 .i64 (x.length:Int) (x.length:Int) rP rP qP rP
  rw [hz1] at h
  simpa [Value.cells] using h
 clear hz0 hz1 hz2 hi
 go_enter Tryz.func37,Tryz.ntmps37
 go_wp2;clear hmk
 have h0:=Rep.kAv (e:=66) (w:=w) (r:=kP) (zs:=#[.slice none 0 0,.slice none 0 0,.slice none 0 0,.int .i64 0,.int .i64 0]) (n:=x.length) (S:=Btw w.heap.size (w.heap.size + 1)) rfl rfl rM pW ⟨Nat.le_refl _,by omega⟩
 have h1:(Rep.slice 66 kP).own (w.alloc (.cells (madeCells #[.slice none 0 0,.slice none 0 0,.slice none 0 0,.int .i64 0,.int .i64 0] (x.length * 5)) 66)) _ _ _:=h0.own qB
 clear h0
 go_loopw [4] (fun i wr=>∃ k:Nat,k≤x.length∧i=.int .i64 k∧(Rep.slice 66 kP).own wr [.slice (some ⟨w.heap.size,0,none⟩) x.length x.length] (x.take k++List.replicate (x.length - k) kP.zero) (Btw w.heap.size wr.heap.size)∧Below w.heap.size w wr∧w.heap.size < wr.heap.size) (fun i _=>x.length - (intOf i).toNat)
 case atStart=>exact ⟨0,Nat.zero_le _,rfl,by simpa using h1,bR.alloc nL _,by simp⟩
 obtain ⟨k,hk,rfl,hout,hbel,hgt⟩:=hrel
 by_cases hlt:k < x.length
 · obtain ⟨ba,offa,rfl,c0,c1,c2,c3,c4,hr,A0,A1,A2,A3,A4⟩:=Rep.get5 (ha.1.below hbel) hlt rfl
   have hlen:(x.take k++List.replicate (x.length - k) kP.zero).length=x.length:=Rep.zg hk
   have hrd:kP.rd wr [c0,c1,c2,c3,c4] x[k]:=⟨hr,Rep.yF ha hlt⟩
   clear hr
   go_wp2_with fail
   refine (kBh hrd).mono ?_
   rintro e w2 ⟨cs,rfl,hown,hb2⟩
   obtain ⟨tv0,tv1,tv2,rfl,t_0,t_1,t_2,t_3,t_4,t_5,t_6⟩:=kY hown.raw
   obtain ⟨ta0,tp0,rfl,tl0⟩:=Rep.sl t_1
   obtain ⟨ta1,tp1,rfl,tl1⟩:=Rep.sl t_2
   obtain ⟨ta2,tp2,rfl,tl2⟩:=Rep.sl t_4
   clear t_0 t_1 t_2 t_3 t_4 t_5 t_6
   have hout2:=hout.below hb2
   obtain ⟨o0,o1,o2,o3,o4,hro,O0,O1,O2,O3,O4⟩:=Rep.at5 hout2.raw (i:=k) rP rfl
   have hfz:=Rep.kAg hout2 rP
   have Z0:=hfz (k * 5)
   have Z1:=hfz (k * 5 + 1)
   have Z2:=hfz (k * 5 + 2)
   have Z3:=hfz (k * 5 + 3)
   have Z4:=hfz (k * 5 + 4)
   obtain ⟨hs,ht⟩:=Rep.kCo hout2 (i:=k) (p:=k * 5) rP hown fI (show k * 5=0 + k * 5 by omega)
   rw [Rep.kBm hlt] at hs
   have hsz:=hb2.size
   have hbel2:=(tQ hbel hb2)
   have HS:=yD hs;have HT:=yD ht;clear hs ht hout hout2 hro hlen hrd hfz hown hb2
   go_wp2
   go_roundw
   case rel=>exact ⟨k + 1,by omega,by go_num,HS.out.wide bG,(((((hbel2.setCell nL _).setCell nL _).setCell nL _).setCell nL _).setCell nL _),by simp [World.setCell];omega⟩
   simp [intOf];omega
 rw [Rep.kBn hk hlt] at hout
 have HO:=yD hout;clear hout
 go_wp2
 go_ret
 exact ⟨_,rfl,HO.out,hbel⟩
theorem kQw {w:World} {ca:List Value} {x:ko} (ha:kH.rd w ca x):Calls Tryz.prog 174 #[.agg ca.toArray] w (yM kH x w):=by
 obtain ⟨ha,hbd⟩:=ha
 obtain ⟨av0,av1,av2,rfl,a_0,a_1,a_2,a_3,a_4,a_5,a_6,a_7,a_8⟩:=jQ ha
 obtain ⟨x0,x1⟩:=x
 have r0:kP.rd w _ x0:=⟨a_0,hbd.1⟩
 have N1:=yD a_8
 clear ha hbd a_0 a_1 a_2 a_3 a_4 a_5 a_6 a_7 a_8
 go_enter Tryz.func174,Tryz.ntmps174
 go_wp2_with fail
 refine (kBh (((r0.alloc _).alloc _).alloc _)).mono ?_
 rintro e w1 ⟨cs1,rfl,O1,hb1⟩
 obtain ⟨t1v0,t1v1,t1v2,rfl,t1_0,t1_1,t1_2,t1_3,t1_4,t1_5,t1_6⟩:=kY O1.raw
 obtain ⟨t1a0,t1p0,rfl,t1l0⟩:=Rep.sl t1_1
 obtain ⟨t1a1,t1p1,rfl,t1l1⟩:=Rep.sl t1_2
 obtain ⟨t1a2,t1p2,rfl,t1l2⟩:=Rep.sl t1_4
 clear t1_0 t1_1 t1_2 t1_3 t1_4 t1_5 t1_6
 have L1:w.heap.size + 3≤w1.heap.size:=mK
 have HO1:=yD (Rep.own.wide (T:=Btw (w.heap.size + 3) w1.heap.size) O1 fO);clear O1
 have E1:Below w.heap.size w w1:=(((bR.alloc nL _).alloc rQ _).alloc rG _).trans (hb1.mono rG)
 have HE1:=yD E1;clear E1
 have g1_0:w.heap.size < w1.heap.size:=rP
 have g1_1:w.heap.size + 1 < w1.heap.size:=rP
 have g1_2:w.heap.size + 1 + 1 < w1.heap.size:=rP
 obtain ⟨hc1,hf1⟩:=jO hb1
 clear hb1
 go_wp2
 refine bodyPost_ret (v:=.agg #[.slice t1a0 x0.1.length t1p0,.slice t1a1 x0.2.1.length t1p1,.slice t1a2 x0.2.2.1.length t1p2,.int .i64 x0.2.2.2.1,.int .i64 x0.2.2.2.2,.int .i64 x1]) (by simp [results,Tryz.results174,go_sem,hc1,g1_0,g1_1,g1_2]) rfl ⟨[_,_,_,_,_,_],rfl,?_,?_⟩
 · refine Rep.own.wide (S:=Btw (w.heap.size + 3) (w1.heap.size)) ?_ dN
   exact Rep.jy (r:=kP) (q:=Rep.int) (cs:=[.slice t1a0 x0.1.length t1p0,.slice t1a1 x0.2.1.length t1p1,.slice t1a2 x0.2.2.1.length t1p2,.int .i64 x0.2.2.2.1,.int .i64 x0.2.2.2.2]) (ds:=[.int .i64 x1]) (x:=x0) (y:=x1) (Rep.own.out HO1.out dM) (Rep.jG N1.out)
 repeat (first|(with_reducible exact HE1.out) | refine Below.setCell ?_ qO _)
theorem kSb:(Tryz.prog.info? 212).map (fun i=>(i.zero,i.size,i.bytes))=some (some (.agg #[.slice none 0 0,.slice none 0 0,.slice none 0 0,.int .i64 0,.int .i64 0,.int .i64 0]),6,96):=by kernel_rfl
theorem kPi {w:World} {va:Value} {x:List ko} (ha:(Rep.slice 212 kH).rd w [va] x):Calls Tryz.prog 104 #[va] w (zH (Rep.slice 212 kH) x w):=by
 obtain ⟨aa,capa,rfl,la⟩:=Rep.sl ha.1
 have lb:x.length≤16777216:=ha.2.1
 obtain ⟨i0,hi,hz0,hz1,hz2⟩:=info_parts kSb
 have hmk:∀ W:World,(Instr.makeSlice 48 (.int .i64 (x.length:Int)) (.int .i64 (x.length:Int))).run Tryz.prog W=.ok (.slice (some ⟨W.heap.size,0,none⟩) x.length x.length) (W.alloc (.cells (madeCells #[.slice none 0 0,.slice none 0 0,.slice none 0 0,.int .i64 0,.int .i64 0,.int .i64 0] (x.length * 6)) 212)):=by
  intro W
  have h:=run_make (P:=Tryz.prog) W 48 212 i0 _ rF hi hz0 .i64 .i64 (x.length:Int) (x.length:Int) rP rP qP rP
  rw [hz1] at h
  simpa [Value.cells] using h
 clear hz0 hz1 hz2 hi
 go_enter Tryz.func104,Tryz.ntmps104
 go_wp2;clear hmk
 have h0:=Rep.kAv (e:=212) (w:=w) (r:=kH) (zs:=#[.slice none 0 0,.slice none 0 0,.slice none 0 0,.int .i64 0,.int .i64 0,.int .i64 0]) (n:=x.length) (S:=Btw w.heap.size (w.heap.size + 1)) rfl rfl rM pW ⟨Nat.le_refl _,by omega⟩
 have h1:(Rep.slice 212 kH).own (w.alloc (.cells (madeCells #[.slice none 0 0,.slice none 0 0,.slice none 0 0,.int .i64 0,.int .i64 0,.int .i64 0] (x.length * 6)) 212)) _ _ _:=h0.own qB
 clear h0
 go_loopw [4] (fun i wr=>∃ k:Nat,k≤x.length∧i=.int .i64 k∧(Rep.slice 212 kH).own wr [.slice (some ⟨w.heap.size,0,none⟩) x.length x.length] (x.take k++List.replicate (x.length - k) kH.zero) (Btw w.heap.size wr.heap.size)∧Below w.heap.size w wr∧w.heap.size < wr.heap.size) (fun i _=>x.length - (intOf i).toNat)
 case atStart=>exact ⟨0,Nat.zero_le _,rfl,by simpa using h1,bR.alloc nL _,by simp⟩
 obtain ⟨k,hk,rfl,hout,hbel,hgt⟩:=hrel
 by_cases hlt:k < x.length
 · obtain ⟨ba,offa,rfl,c0,c1,c2,c3,c4,c5,hr,A0,A1,A2,A3,A4,A5⟩:=Rep.get6 (ha.1.below hbel) hlt rfl
   have hlen:(x.take k++List.replicate (x.length - k) kH.zero).length=x.length:=Rep.zg hk
   have hrd:kH.rd wr [c0,c1,c2,c3,c4,c5] x[k]:=⟨hr,Rep.yF ha hlt⟩
   clear hr
   go_wp2_with fail
   refine (kQw hrd).mono ?_
   rintro e w2 ⟨cs,rfl,hown,hb2⟩
   obtain ⟨tv0,tv1,tv2,rfl,t_0,t_1,t_2,t_3,t_4,t_5,t_6,t_7,t_8⟩:=jQ hown.raw
   obtain ⟨ta0,tp0,rfl,tl0⟩:=Rep.sl t_2
   obtain ⟨ta1,tp1,rfl,tl1⟩:=Rep.sl t_3
   obtain ⟨ta2,tp2,rfl,tl2⟩:=Rep.sl t_5
   clear t_0 t_1 t_2 t_3 t_4 t_5 t_6 t_7 t_8
   have hout2:=hout.below hb2
   obtain ⟨o0,o1,o2,o3,o4,o5,hro,O0,O1,O2,O3,O4,O5⟩:=Rep.at6 hout2.raw (i:=k) rP rfl
   have hfz:=Rep.kAg hout2 rP
   have Z0:=hfz (k * 6)
   have Z1:=hfz (k * 6 + 1)
   have Z2:=hfz (k * 6 + 2)
   have Z3:=hfz (k * 6 + 3)
   have Z4:=hfz (k * 6 + 4)
   have Z5:=hfz (k * 6 + 5)
   obtain ⟨hs,ht⟩:=Rep.kCo hout2 (i:=k) (p:=k * 6) rP hown fI (show k * 6=0 + k * 6 by omega)
   rw [Rep.kBm hlt] at hs
   have hsz:=hb2.size
   have hbel2:=(tQ hbel hb2)
   have HS:=yD hs;have HT:=yD ht;clear hs ht hout hout2 hro hlen hrd hfz hown hb2
   go_wp2
   go_roundw
   case rel=>exact ⟨k + 1,by omega,by go_num,HS.out.wide bG,((((((hbel2.setCell nL _).setCell nL _).setCell nL _).setCell nL _).setCell nL _).setCell nL _),by simp [World.setCell];omega⟩
   simp [intOf];omega
 rw [Rep.kBn hk hlt] at hout
 have HO:=yD hout;clear hout
 go_wp2
 go_ret
 exact ⟨_,rfl,HO.out,hbel⟩
theorem kMz {w:World} {ca:List Value} {x:kr} (ha:kI.rd w ca x):Calls Tryz.prog 38 #[.agg ca.toArray] w (yM kI x w):=by
 obtain ⟨ha,hbd⟩:=ha
 obtain ⟨av1,rfl,a_0,a_1⟩:=jI ha
 obtain ⟨x0,x1⟩:=x
 have N0:=yD a_0
 have r1:(Rep.slice 212 kH).rd w _ x1:=⟨a_1,hbd.2⟩
 clear ha hbd a_0 a_1
 go_enter Tryz.func38,Tryz.ntmps38
 go_wp2_with fail
 refine (kPi (((r1.alloc _).alloc _).alloc _)).mono ?_
 rintro e w1 ⟨v1,rfl,O1,hb1⟩
 obtain ⟨ta1,tp1,rfl,_⟩:=Rep.sl O1.raw
 have L1:w.heap.size + 3≤w1.heap.size:=mK
 have HO1:=yD (Rep.own.wide (T:=Btw (w.heap.size + 3) w1.heap.size) O1 fO);clear O1
 have E1:Below w.heap.size w w1:=(((bR.alloc nL _).alloc rQ _).alloc rG _).trans (hb1.mono rG)
 have HE1:=yD E1;clear E1
 have g1_0:w.heap.size < w1.heap.size:=rP
 have g1_1:w.heap.size + 1 < w1.heap.size:=rP
 have g1_2:w.heap.size + 1 + 1 < w1.heap.size:=rP
 obtain ⟨hc1,hf1⟩:=jO hb1
 clear hb1
 go_wp2
 refine bodyPost_ret (v:=.agg #[.int .i64 x0,.slice ta1 x1.length tp1]) (by simp [results,Tryz.results38,go_sem,hc1,g1_0,g1_1,g1_2]) rfl ⟨[_,_],rfl,?_,?_⟩
 · refine Rep.own.wide (S:=Btw (w.heap.size + 3) (w1.heap.size)) ?_ dN
   exact Rep.kCc (r:=Rep.int) (q:=(Rep.slice 212 kH)) (cs:=[.int .i64 x0]) (ds:=[.slice ta1 x1.length tp1]) (x:=x0) (y:=x1) (Rep.jG N0.out) (Rep.own.out HO1.out dM)
 repeat (first|(with_reducible exact HE1.out) | refine Below.setCell ?_ qO _)
theorem kGh {w:World} {ca:List Value} {x:kAf} (ha:jC.rd w ca x):Calls Tryz.prog 9 #[.agg ca.toArray] w (yM jC x w):=by
 obtain ⟨ha,hbd⟩:=ha
 obtain ⟨av0,av2,av3,av4,av5,av6,rfl,a_0,a_1,a_2,a_3,a_4,a_5,a_6,a_7,a_8⟩:=jo ha
 obtain ⟨x0,x1,x2,x3,x4,x5,x6⟩:=x
 have r0:(Rep.slice 66 kP).rd w _ x0:=⟨a_0,hbd.1⟩
 have r1:kI.rd w _ x1:=⟨a_1,hbd.2.1⟩
 have r2:(Rep.slice 175 kE).rd w _ x2:=⟨a_4,hbd.2.2.1⟩
 have r3:(Rep.slice 178 kJ).rd w _ x3:=⟨a_5,hbd.2.2.2.1⟩
 have r4:(Rep.slice 181 kX).rd w _ x4:=⟨a_6,hbd.2.2.2.2.1⟩
 have r5:(Rep.slice 184 kF).rd w _ x5:=⟨a_7,hbd.2.2.2.2.2.1⟩
 have N6:=yD a_8
 clear ha hbd a_0 a_1 a_2 a_3 a_4 a_5 a_6 a_7 a_8
 go_enter Tryz.func9,Tryz.ntmps9
 go_wp2_with fail
 refine (kUi (((r0.alloc _).alloc _).alloc _)).mono ?_
 rintro e w1 ⟨v1,rfl,O1,hb1⟩
 obtain ⟨ta1,tp1,rfl,_⟩:=Rep.sl O1.raw
 have L1:w.heap.size + 3≤w1.heap.size:=mK
 have HO1:=yD (Rep.own.wide (T:=Btw (w.heap.size + 3) w1.heap.size) O1 fO);clear O1
 have E1:Below w.heap.size w w1:=(((bR.alloc nL _).alloc rQ _).alloc rG _).trans (hb1.mono rG)
 have HE1:=yD E1;clear E1
 have g1_0:w.heap.size < w1.heap.size:=rP
 have g1_1:w.heap.size + 1 < w1.heap.size:=rP
 have g1_2:w.heap.size + 1 + 1 < w1.heap.size:=rP
 obtain ⟨hc1,hf1⟩:=jO hb1
 clear hb1
 go_wp2_with fail
 refine (kMz (r1.below dA)).mono ?_
 rintro e w2 ⟨cs2,rfl,O2,hb2⟩
 obtain ⟨t2v1,rfl,t2_0,t2_1⟩:=jI O2.raw
 obtain ⟨t2a1,t2p1,rfl,t2l1⟩:=Rep.sl t2_1
 clear t2_0 t2_1
 have L2:w1.heap.size≤w2.heap.size:=mO
 have HO2:=yD (Rep.own.wide (T:=Btw (w1.heap.size) w2.heap.size) O2 fO);clear O2
 have E2:Below w.heap.size w w2:=Below.trans dA (hb2.mono rG)
 have HE2:=yD E2;clear E2
 have HP1_2:=yD ((HO1.out).out (w':=w2) bY);clear HO1
 have g2_0:w.heap.size < w2.heap.size:=rP
 have g2_1:w.heap.size + 1 < w2.heap.size:=rP
 have g2_2:w.heap.size + 1 + 1 < w2.heap.size:=rP
 obtain ⟨hc2,hf2⟩:=jO hb2
 clear hb2
 go_wp2_with fail
 refine (kId (r2.below dB)).mono ?_
 rintro e w3 ⟨v3,rfl,O3,hb3⟩
 obtain ⟨ta3,tp3,rfl,_⟩:=Rep.sl O3.raw
 have L3:w2.heap.size≤w3.heap.size:=mP
 have HO3:=yD (Rep.own.wide (T:=Btw (w2.heap.size) w3.heap.size) O3 fO);clear O3
 have E3:Below w.heap.size w w3:=Below.trans dB (hb3.mono rG)
 have HE3:=yD E3;clear E3
 have HP1_3:=yD ((HP1_2.out).out (w':=w3) bW);clear HP1_2
 have HP2_3:=yD ((HO2.out).out (w':=w3) bW);clear HO2
 have g3_0:w.heap.size < w3.heap.size:=rP
 have g3_1:w.heap.size + 1 < w3.heap.size:=rP
 have g3_2:w.heap.size + 1 + 1 < w3.heap.size:=rP
 obtain ⟨hc3,hf3⟩:=jO hb3
 clear hb3
 go_wp2_with fail
 refine (kQt (r3.below dC)).mono ?_
 rintro e w4 ⟨v4,rfl,O4,hb4⟩
 obtain ⟨ta4,tp4,rfl,_⟩:=Rep.sl O4.raw
 have L4:w3.heap.size≤w4.heap.size:=by have h:=hb4.size;simp at h;omega
 have HO4:=yD (Rep.own.wide (T:=Btw (w3.heap.size) w4.heap.size) O4 fO);clear O4
 have E4:Below w.heap.size w w4:=Below.trans dC (hb4.mono rG)
 have HE4:=yD E4;clear E4
 have HP1_4:=yD ((HP1_3.out).out (w':=w4) bX);clear HP1_3
 have HP2_4:=yD ((HP2_3.out).out (w':=w4) bX);clear HP2_3
 have HP3_4:=yD ((HO3.out).out (w':=w4) bX);clear HO3
 have g4_0:w.heap.size < w4.heap.size:=rP
 have g4_1:w.heap.size + 1 < w4.heap.size:=rP
 have g4_2:w.heap.size + 1 + 1 < w4.heap.size:=rP
 obtain ⟨hc4,hf4⟩:=jO hb4
 clear hb4
 go_wp2_with fail
 refine (toRouteS_c (r4.below (by repeat (first|(with_reducible exact HE4.out) | refine Below.setCell ?_ qO _)))).mono ?_
 rintro e w5 ⟨v5,rfl,O5,hb5⟩
 obtain ⟨ta5,tp5,rfl,_⟩:=Rep.sl O5.raw
 have L5:w4.heap.size≤w5.heap.size:=by have h:=hb5.size;simp at h;omega
 have HO5:=yD (Rep.own.wide (T:=Btw (w4.heap.size) w5.heap.size) O5 fO);clear O5
 have E5:Below w.heap.size w w5:=Below.trans (by repeat (first|(with_reducible exact HE4.out) | refine Below.setCell ?_ qO _)) (hb5.mono rG)
 have HE5:=yD E5;clear E5
 have HP1_5:=yD ((HP1_4.out).out (w':=w5) cB);clear HP1_4
 have HP2_5:=yD ((HP2_4.out).out (w':=w5) cB);clear HP2_4
 have HP3_5:=yD ((HP3_4.out).out (w':=w5) cB);clear HP3_4
 have HP4_5:=yD ((HO4.out).out (w':=w5) cB);clear HO4
 have g5_0:w.heap.size < w5.heap.size:=rP
 have g5_1:w.heap.size + 1 < w5.heap.size:=rP
 have g5_2:w.heap.size + 1 + 1 < w5.heap.size:=rP
 obtain ⟨hc5,hf5⟩:=jO hb5
 clear hb5
 go_wp2_with fail
 refine (kMy (r5.below (by repeat (first|(with_reducible exact HE5.out) | refine Below.setCell ?_ qO _)))).mono ?_
 rintro e w6 ⟨v6,rfl,O6,hb6⟩
 obtain ⟨ta6,tp6,rfl,_⟩:=Rep.sl O6.raw
 have L6:w5.heap.size≤w6.heap.size:=by have h:=hb6.size;simp at h;omega
 have HO6:=yD (Rep.own.wide (T:=Btw (w5.heap.size) w6.heap.size) O6 fO);clear O6
 have E6:Below w.heap.size w w6:=Below.trans (by repeat (first|(with_reducible exact HE5.out) | refine Below.setCell ?_ qO _)) (hb6.mono rG)
 have HE6:=yD E6;clear E6
 have HP1_6:=yD ((HP1_5.out).out (w':=w6) bZ);clear HP1_5
 have HP2_6:=yD ((HP2_5.out).out (w':=w6) bZ);clear HP2_5
 have HP3_6:=yD ((HP3_5.out).out (w':=w6) bZ);clear HP3_5
 have HP4_6:=yD ((HP4_5.out).out (w':=w6) bZ);clear HP4_5
 have HP5_6:=yD ((HO5.out).out (w':=w6) bZ);clear HO5
 have g6_0:w.heap.size < w6.heap.size:=rP
 have g6_1:w.heap.size + 1 < w6.heap.size:=rP
 have g6_2:w.heap.size + 1 + 1 < w6.heap.size:=rP
 obtain ⟨hc6,hf6⟩:=jO hb6
 clear hb6
 go_wp2
 refine bodyPost_ret (v:=.agg #[.slice ta1 x0.length tp1,.int .i64 x1.1,.slice t2a1 x1.2.length t2p1,.slice ta3 x2.length tp3,.slice ta4 x3.length tp4,.slice ta5 x4.length tp5,.slice ta6 x5.length tp6,.int .i64 x6]) (by simp [results,Tryz.results9,go_sem,hc1,g1_0,g1_1,g1_2,hc2,g2_0,g2_1,g2_2,hc3,g3_0,g3_1,g3_2,hc4,g4_0,g4_1,g4_2,hc5,g5_0,g5_1,g5_2,hc6,g6_0,g6_1,g6_2]) rfl ⟨[_,_,_,_,_,_,_,_],rfl,?_,?_⟩
 · refine Rep.own.wide (S:=Btw (w.heap.size + 3) (w6.heap.size)) ?_ dN
   exact Rep.jW (r:=(Rep.slice 66 kP)) (q:=(Rep.pair kI (Rep.pair (Rep.slice 175 kE) (Rep.pair (Rep.slice 178 kJ) (Rep.pair (Rep.slice 181 kX) (Rep.pair (Rep.slice 184 kF) Rep.int)))))) (cs:=[.slice ta1 x0.length tp1]) (ds:=[.int .i64 x1.1,.slice t2a1 x1.2.length t2p1,.slice ta3 x2.length tp3,.slice ta4 x3.length tp4,.slice ta5 x4.length tp5,.slice ta6 x5.length tp6,.int .i64 x6]) (x:=x0) (y:=(x1,x2,x3,x4,x5,x6)) (S:=Btw (w.heap.size + 3) (w6.heap.size)) (Rep.own.out HP1_6.out dM) (Rep.jW (r:=kI) (q:=(Rep.pair (Rep.slice 175 kE) (Rep.pair (Rep.slice 178 kJ) (Rep.pair (Rep.slice 181 kX) (Rep.pair (Rep.slice 184 kF) Rep.int))))) (cs:=[.int .i64 x1.1,.slice t2a1 x1.2.length t2p1]) (ds:=[.slice ta3 x2.length tp3,.slice ta4 x3.length tp4,.slice ta5 x4.length tp5,.slice ta6 x5.length tp6,.int .i64 x6]) (x:=x1) (y:=(x2,x3,x4,x5,x6)) (S:=Btw (w1.heap.size) (w6.heap.size)) (Rep.own.out HP2_6.out dM) (Rep.jW (r:=(Rep.slice 175 kE)) (q:=(Rep.pair (Rep.slice 178 kJ) (Rep.pair (Rep.slice 181 kX) (Rep.pair (Rep.slice 184 kF) Rep.int)))) (cs:=[.slice ta3 x2.length tp3]) (ds:=[.slice ta4 x3.length tp4,.slice ta5 x4.length tp5,.slice ta6 x5.length tp6,.int .i64 x6]) (x:=x2) (y:=(x3,x4,x5,x6)) (S:=Btw (w2.heap.size) (w6.heap.size)) (Rep.own.out HP3_6.out dM) (Rep.jW (r:=(Rep.slice 178 kJ)) (q:=(Rep.pair (Rep.slice 181 kX) (Rep.pair (Rep.slice 184 kF) Rep.int))) (cs:=[.slice ta4 x3.length tp4]) (ds:=[.slice ta5 x4.length tp5,.slice ta6 x5.length tp6,.int .i64 x6]) (x:=x3) (y:=(x4,x5,x6)) (S:=Btw (w3.heap.size) (w6.heap.size)) (Rep.own.out HP4_6.out dM) (Rep.jW (r:=(Rep.slice 181 kX)) (q:=(Rep.pair (Rep.slice 184 kF) Rep.int)) (cs:=[.slice ta5 x4.length tp5]) (ds:=[.slice ta6 x5.length tp6,.int .i64 x6]) (x:=x4) (y:=(x5,x6)) (S:=Btw (w4.heap.size) (w6.heap.size)) (Rep.own.out HP5_6.out dM) (Rep.jy (r:=(Rep.slice 184 kF)) (q:=Rep.int) (cs:=[.slice ta6 x5.length tp6]) (ds:=[.int .i64 x6]) (x:=x5) (y:=x6) (Rep.own.out HO6.out dM) (Rep.jG N6.out)) mH mI fP) mH mI fP) mH mI fP) mH mI fP) mH mI fP
 repeat (first|(with_reducible exact HE6.out) | refine Below.setCell ?_ qO _)
theorem toKey_c {w:World} {ca:List Value} {x:kDu} (ha:jg.rd w ca x):Calls Tryz.prog 109 #[.agg ca.toArray] w (yM jg x w):=by
 obtain ⟨ha,hbd⟩:=ha
 obtain ⟨av0,rfl,a_0,a_1,a_2⟩:=kCe ha
 obtain ⟨x0,x1⟩:=x
 have r0:kL.rd w _ x0:=⟨a_0,hbd.1⟩
 have N1:=yD a_2
 clear ha hbd a_0 a_1 a_2
 go_enter Tryz.func109,Tryz.ntmps109
 go_wp2_with fail
 refine (kEe (((r0.alloc _).alloc _).alloc _)).mono ?_
 rintro e w1 ⟨cs1,rfl,O1,hb1⟩
 obtain ⟨t1v0,rfl,t1_0⟩:=kM O1.raw
 obtain ⟨t1a0,t1p0,rfl,t1l0⟩:=Rep.sl t1_0
 clear t1_0
 have L1:w.heap.size + 3≤w1.heap.size:=mK
 have HO1:=yD (Rep.own.wide (T:=Btw (w.heap.size + 3) w1.heap.size) O1 fO);clear O1
 have E1:Below w.heap.size w w1:=(((bR.alloc nL _).alloc rQ _).alloc rG _).trans (hb1.mono rG)
 have HE1:=yD E1;clear E1
 have g1_0:w.heap.size < w1.heap.size:=rP
 have g1_1:w.heap.size + 1 < w1.heap.size:=rP
 have g1_2:w.heap.size + 1 + 1 < w1.heap.size:=rP
 obtain ⟨hc1,hf1⟩:=jO hb1
 clear hb1
 go_wp2
 refine bodyPost_ret (v:=.agg #[.slice t1a0 x0.length t1p0,.int .i64 x1]) (by simp [results,Tryz.results109,go_sem,hc1,g1_0,g1_1,g1_2]) rfl ⟨[_,_],rfl,?_,?_⟩
 · refine Rep.own.wide (S:=Btw (w.heap.size + 3) (w1.heap.size)) ?_ dN
   exact Rep.jy (r:=kL) (q:=Rep.int) (cs:=[.slice t1a0 x0.length t1p0]) (ds:=[.int .i64 x1]) (x:=x0) (y:=x1) (Rep.own.out HO1.out dM) (Rep.jG N1.out)
 repeat (first|(with_reducible exact HE1.out) | refine Below.setCell ?_ qO _)
theorem infoKey:(Tryz.prog.info? 187).map (fun i=>(i.zero,i.size,i.bytes))=some (some (.agg #[.slice none 0 0,.int .i64 0]),2,32):=by kernel_rfl
theorem toKeyS_c {w:World} {va:Value} {x:List kDu} (ha:(Rep.slice 187 jg).rd w [va] x):Calls Tryz.prog 43 #[va] w (zH (Rep.slice 187 jg) x w):=by
 obtain ⟨aa,capa,rfl,la⟩:=Rep.sl ha.1
 have lb:x.length≤16777216:=ha.2.1
 obtain ⟨i0,hi,hz0,hz1,hz2⟩:=info_parts infoKey
 have hmk:∀ W:World,(Instr.makeSlice 58 (.int .i64 (x.length:Int)) (.int .i64 (x.length:Int))).run Tryz.prog W=.ok (.slice (some ⟨W.heap.size,0,none⟩) x.length x.length) (W.alloc (.cells (madeCells #[.slice none 0 0,.int .i64 0] (x.length * 2)) 187)):=by
  intro W
  have h:=run_make (P:=Tryz.prog) W 58 187 i0 _ rF hi hz0 .i64 .i64 (x.length:Int) (x.length:Int) rP rP qP rP
  rw [hz1] at h
  simpa [Value.cells] using h
 clear hz0 hz1 hz2 hi
 go_enter Tryz.func43,Tryz.ntmps43
 go_wp2;clear hmk
 have h0:=Rep.kAv (e:=187) (w:=w) (r:=jg) (zs:=#[.slice none 0 0,.int .i64 0]) (n:=x.length) (S:=Btw w.heap.size (w.heap.size + 1)) rfl rfl rM pW ⟨Nat.le_refl _,by omega⟩
 have h1:(Rep.slice 187 jg).own (w.alloc (.cells (madeCells #[.slice none 0 0,.int .i64 0] (x.length * 2)) 187)) _ _ _:=h0.own qB
 clear h0
 go_loopw [4] (fun i wr=>∃ k:Nat,k≤x.length∧i=.int .i64 k∧(Rep.slice 187 jg).own wr [.slice (some ⟨w.heap.size,0,none⟩) x.length x.length] (x.take k++List.replicate (x.length - k) jg.zero) (Btw w.heap.size wr.heap.size)∧Below w.heap.size w wr∧w.heap.size < wr.heap.size) (fun i _=>x.length - (intOf i).toNat)
 case atStart=>exact ⟨0,Nat.zero_le _,rfl,by simpa using h1,bR.alloc nL _,by simp⟩
 obtain ⟨k,hk,rfl,hout,hbel,hgt⟩:=hrel
 by_cases hlt:k < x.length
 · obtain ⟨ba,offa,rfl,c0,c1,hr,A0,A1⟩:=Rep.kEk (ha.1.below hbel) hlt rfl
   have hlen:(x.take k++List.replicate (x.length - k) jg.zero).length=x.length:=Rep.zg hk
   have hrd:jg.rd wr [c0,c1] x[k]:=⟨hr,Rep.yF ha hlt⟩
   clear hr
   go_wp2_with fail
   refine (toKey_c hrd).mono ?_
   rintro e w2 ⟨cs,rfl,hown,hb2⟩
   obtain ⟨tv0,rfl,t_0,t_1,t_2⟩:=kCe hown.raw
   obtain ⟨ta0,tp0,rfl,tl0⟩:=Rep.sl t_1
   clear t_0 t_1 t_2
   have hout2:=hout.below hb2
   obtain ⟨o0,o1,hro,O0,O1⟩:=Rep.at2 hout2.raw (i:=k) rP rfl
   have hfz:=Rep.kAg hout2 rP
   have Z0:=hfz (k * 2)
   have Z1:=hfz (k * 2 + 1)
   obtain ⟨hs,ht⟩:=Rep.kCo hout2 (i:=k) (p:=k * 2) rP hown fI (show k * 2=0 + k * 2 by omega)
   rw [Rep.kBm hlt] at hs
   have hsz:=hb2.size
   have hbel2:=(tQ hbel hb2)
   have HS:=yD hs;have HT:=yD ht;clear hs ht hout hout2 hro hlen hrd hfz hown hb2
   go_wp2
   go_roundw
   case rel=>exact ⟨k + 1,by omega,by go_num,HS.out.wide bG,((hbel2.setCell nL _).setCell nL _),by simp [World.setCell];omega⟩
   simp [intOf];omega
 rw [Rep.kBn hk hlt] at hout
 have HO:=yD hout;clear hout
 go_wp2
 go_ret
 exact ⟨_,rfl,HO.out,hbel⟩
theorem kOp {w:World} {ca:List Value} {x:yV} (ha:yU.rd w ca x):Calls Tryz.prog 176 #[.agg ca.toArray] w (yM yU x w):=by
 obtain ⟨ha,hbd⟩:=ha
 obtain ⟨av0,rfl,a_0⟩:=yc ha
 obtain ⟨x0,rfl⟩:∃ x0,x0=x:=⟨_,rfl⟩
 have r0:(Rep.slice 9 Rep.str).rd w _ x0:=⟨a_0,hbd⟩
 clear ha hbd a_0
 go_enter Tryz.func176,Tryz.ntmps176
 go_wp2_with fail
 refine (kOo (((r0.alloc _).alloc _).alloc _)).mono ?_
 rintro e w1 ⟨v1,rfl,O1,hb1⟩
 obtain ⟨ta1,tp1,rfl,_⟩:=Rep.sl O1.raw
 have L1:w.heap.size + 3≤w1.heap.size:=mK
 have HO1:=yD (Rep.own.wide (T:=Btw (w.heap.size + 3) w1.heap.size) O1 fO);clear O1
 have E1:Below w.heap.size w w1:=(((bR.alloc nL _).alloc rQ _).alloc rG _).trans (hb1.mono rG)
 have HE1:=yD E1;clear E1
 have g1_0:w.heap.size < w1.heap.size:=rP
 have g1_1:w.heap.size + 1 < w1.heap.size:=rP
 have g1_2:w.heap.size + 1 + 1 < w1.heap.size:=rP
 obtain ⟨hc1,hf1⟩:=jO hb1
 clear hb1
 go_wp2
 refine bodyPost_ret (v:=.agg #[.slice ta1 x0.length tp1]) (by simp [results,Tryz.results176,go_sem,hc1,g1_0,g1_1,g1_2]) rfl ⟨[_],rfl,?_,?_⟩
 · refine Rep.own.wide (S:=Btw (w.heap.size + 3) (w1.heap.size)) ?_ dN
   exact Rep.own.out HO1.out dM
 repeat (first|(with_reducible exact HE1.out) | refine Below.setCell ?_ qO _)
theorem toRule_c {w:World} {ca:List Value} {x:kBb} (ha:jM.rd w ca x):Calls Tryz.prog 110 #[.agg ca.toArray] w (yM jM x w):=by
 obtain ⟨ha,hbd⟩:=ha
 obtain ⟨av0,av1,rfl,a_0,a_1,a_2,a_3⟩:=kAe ha
 obtain ⟨x0,x1⟩:=x
 have r0:yU.rd w _ x0:=⟨a_0,hbd.1⟩
 have r1:yU.rd w _ x1:=⟨a_2,hbd.2⟩
 clear ha hbd a_0 a_1 a_2 a_3
 go_enter Tryz.func110,Tryz.ntmps110
 go_wp2_with fail
 refine (kOp (((r0.alloc _).alloc _).alloc _)).mono ?_
 rintro e w1 ⟨cs1,rfl,O1,hb1⟩
 obtain ⟨t1v0,rfl,t1_0⟩:=yc O1.raw
 obtain ⟨t1a0,t1p0,rfl,t1l0⟩:=Rep.sl t1_0
 clear t1_0
 have L1:w.heap.size + 3≤w1.heap.size:=mK
 have HO1:=yD (Rep.own.wide (T:=Btw (w.heap.size + 3) w1.heap.size) O1 fO);clear O1
 have E1:Below w.heap.size w w1:=(((bR.alloc nL _).alloc rQ _).alloc rG _).trans (hb1.mono rG)
 have HE1:=yD E1;clear E1
 have g1_0:w.heap.size < w1.heap.size:=rP
 have g1_1:w.heap.size + 1 < w1.heap.size:=rP
 have g1_2:w.heap.size + 1 + 1 < w1.heap.size:=rP
 obtain ⟨hc1,hf1⟩:=jO hb1
 clear hb1
 go_wp2_with fail
 refine (kOp (r1.below dA)).mono ?_
 rintro e w2 ⟨cs2,rfl,O2,hb2⟩
 obtain ⟨t2v0,rfl,t2_0⟩:=yc O2.raw
 obtain ⟨t2a0,t2p0,rfl,t2l0⟩:=Rep.sl t2_0
 clear t2_0
 have L2:w1.heap.size≤w2.heap.size:=mO
 have HO2:=yD (Rep.own.wide (T:=Btw (w1.heap.size) w2.heap.size) O2 fO);clear O2
 have E2:Below w.heap.size w w2:=Below.trans dA (hb2.mono rG)
 have HE2:=yD E2;clear E2
 have HP1_2:=yD ((HO1.out).out (w':=w2) bY);clear HO1
 have g2_0:w.heap.size < w2.heap.size:=rP
 have g2_1:w.heap.size + 1 < w2.heap.size:=rP
 have g2_2:w.heap.size + 1 + 1 < w2.heap.size:=rP
 obtain ⟨hc2,hf2⟩:=jO hb2
 clear hb2
 go_wp2
 refine bodyPost_ret (v:=.agg #[.slice t1a0 x0.length t1p0,.slice t2a0 x1.length t2p0]) (by simp [results,Tryz.results110,go_sem,hc1,g1_0,g1_1,g1_2,hc2,g2_0,g2_1,g2_2]) rfl ⟨[_,_],rfl,?_,?_⟩
 · refine Rep.own.wide (S:=Btw (w.heap.size + 3) (w2.heap.size)) ?_ dN
   exact Rep.jW (r:=yU) (q:=yU) (cs:=[.slice t1a0 x0.length t1p0]) (ds:=[.slice t2a0 x1.length t2p0]) (x:=x0) (y:=x1) (S:=Btw (w.heap.size + 3) (w2.heap.size)) (Rep.own.out HP1_2.out dM) (Rep.own.out HO2.out dM) mH mI fP
 repeat (first|(with_reducible exact HE2.out) | refine Below.setCell ?_ qO _)
theorem infoRule:(Tryz.prog.info? 191).map (fun i=>(i.zero,i.size,i.bytes))=some (some (.agg #[.slice none 0 0,.slice none 0 0]),2,48):=by kernel_rfl
theorem toRuleS_c {w:World} {va:Value} {x:List kBb} (ha:(Rep.slice 191 jM).rd w [va] x):Calls Tryz.prog 44 #[va] w (zH (Rep.slice 191 jM) x w):=by
 obtain ⟨aa,capa,rfl,la⟩:=Rep.sl ha.1
 have lb:x.length≤16777216:=ha.2.1
 obtain ⟨i0,hi,hz0,hz1,hz2⟩:=info_parts infoRule
 have hmk:∀ W:World,(Instr.makeSlice 59 (.int .i64 (x.length:Int)) (.int .i64 (x.length:Int))).run Tryz.prog W=.ok (.slice (some ⟨W.heap.size,0,none⟩) x.length x.length) (W.alloc (.cells (madeCells #[.slice none 0 0,.slice none 0 0] (x.length * 2)) 191)):=by
  intro W
  have h:=run_make (P:=Tryz.prog) W 59 191 i0 _ rF hi hz0 .i64 .i64 (x.length:Int) (x.length:Int) rP rP qP rP
  rw [hz1] at h
  simpa [Value.cells] using h
 clear hz0 hz1 hz2 hi
 go_enter Tryz.func44,Tryz.ntmps44
 go_wp2;clear hmk
 have h0:=Rep.kAv (e:=191) (w:=w) (r:=jM) (zs:=#[.slice none 0 0,.slice none 0 0]) (n:=x.length) (S:=Btw w.heap.size (w.heap.size + 1)) rfl rfl rM pW ⟨Nat.le_refl _,by omega⟩
 have h1:(Rep.slice 191 jM).own (w.alloc (.cells (madeCells #[.slice none 0 0,.slice none 0 0] (x.length * 2)) 191)) _ _ _:=h0.own qB
 clear h0
 go_loopw [4] (fun i wr=>∃ k:Nat,k≤x.length∧i=.int .i64 k∧(Rep.slice 191 jM).own wr [.slice (some ⟨w.heap.size,0,none⟩) x.length x.length] (x.take k++List.replicate (x.length - k) jM.zero) (Btw w.heap.size wr.heap.size)∧Below w.heap.size w wr∧w.heap.size < wr.heap.size) (fun i _=>x.length - (intOf i).toNat)
 case atStart=>exact ⟨0,Nat.zero_le _,rfl,by simpa using h1,bR.alloc nL _,by simp⟩
 obtain ⟨k,hk,rfl,hout,hbel,hgt⟩:=hrel
 by_cases hlt:k < x.length
 · obtain ⟨ba,offa,rfl,c0,c1,hr,A0,A1⟩:=Rep.kEk (ha.1.below hbel) hlt rfl
   have hlen:(x.take k++List.replicate (x.length - k) jM.zero).length=x.length:=Rep.zg hk
   have hrd:jM.rd wr [c0,c1] x[k]:=⟨hr,Rep.yF ha hlt⟩
   clear hr
   go_wp2_with fail
   refine (toRule_c hrd).mono ?_
   rintro e w2 ⟨cs,rfl,hown,hb2⟩
   obtain ⟨tv0,tv1,rfl,t_0,t_1,t_2,t_3⟩:=kAe hown.raw
   obtain ⟨ta0,tp0,rfl,tl0⟩:=Rep.sl t_1
   obtain ⟨ta1,tp1,rfl,tl1⟩:=Rep.sl t_3
   clear t_0 t_1 t_2 t_3
   have hout2:=hout.below hb2
   obtain ⟨o0,o1,hro,O0,O1⟩:=Rep.at2 hout2.raw (i:=k) rP rfl
   have hfz:=Rep.kAg hout2 rP
   have Z0:=hfz (k * 2)
   have Z1:=hfz (k * 2 + 1)
   obtain ⟨hs,ht⟩:=Rep.kCo hout2 (i:=k) (p:=k * 2) rP hown fI (show k * 2=0 + k * 2 by omega)
   rw [Rep.kBm hlt] at hs
   have hsz:=hb2.size
   have hbel2:=(tQ hbel hb2)
   have HS:=yD hs;have HT:=yD ht;clear hs ht hout hout2 hro hlen hrd hfz hown hb2
   go_wp2
   go_roundw
   case rel=>exact ⟨k + 1,by omega,by go_num,HS.out.wide bG,((hbel2.setCell nL _).setCell nL _),by simp [World.setCell];omega⟩
   simp [intOf];omega
 rw [Rep.kBn hk hlt] at hout
 have HO:=yD hout;clear hout
 go_wp2
 go_ret
 exact ⟨_,rfl,HO.out,hbel⟩
theorem za {w:World} {ca:List Value} {x:kz} (ha:kT.rd w ca x):Calls Tryz.prog 10 #[.agg ca.toArray] w (yM kT x w):=by
 obtain ⟨ha,hbd⟩:=ha
 obtain ⟨av0,av1,av2,av3,rfl,a_0,a_1,a_2,a_3⟩:=kw ha
 obtain ⟨x0,x1,x2,x3⟩:=x
 have r0:(Rep.slice 187 jg).rd w _ x0:=⟨a_0,hbd.1⟩
 have r1:(Rep.slice 191 jM).rd w _ x1:=⟨a_1,hbd.2.1⟩
 have r2:(Rep.slice 64 kL).rd w _ x2:=⟨a_2,hbd.2.2.1⟩
 have r3:(Rep.slice 66 kP).rd w _ x3:=⟨a_3,hbd.2.2.2⟩
 clear ha hbd a_0 a_1 a_2 a_3
 go_enter Tryz.func10,Tryz.ntmps10
 go_wp2_with fail
 refine (toKeyS_c (((r0.alloc _).alloc _).alloc _)).mono ?_
 rintro e w1 ⟨v1,rfl,O1,hb1⟩
 obtain ⟨ta1,tp1,rfl,_⟩:=Rep.sl O1.raw
 have L1:w.heap.size + 3≤w1.heap.size:=mK
 have HO1:=yD (Rep.own.wide (T:=Btw (w.heap.size + 3) w1.heap.size) O1 fO);clear O1
 have E1:Below w.heap.size w w1:=(((bR.alloc nL _).alloc rQ _).alloc rG _).trans (hb1.mono rG)
 have HE1:=yD E1;clear E1
 have g1_0:w.heap.size < w1.heap.size:=rP
 have g1_1:w.heap.size + 1 < w1.heap.size:=rP
 have g1_2:w.heap.size + 1 + 1 < w1.heap.size:=rP
 obtain ⟨hc1,hf1⟩:=jO hb1
 clear hb1
 go_wp2_with fail
 refine (toRuleS_c (r1.below dA)).mono ?_
 rintro e w2 ⟨v2,rfl,O2,hb2⟩
 obtain ⟨ta2,tp2,rfl,_⟩:=Rep.sl O2.raw
 have L2:w1.heap.size≤w2.heap.size:=mO
 have HO2:=yD (Rep.own.wide (T:=Btw (w1.heap.size) w2.heap.size) O2 fO);clear O2
 have E2:Below w.heap.size w w2:=Below.trans dA (hb2.mono rG)
 have HE2:=yD E2;clear E2
 have HP1_2:=yD ((HO1.out).out (w':=w2) bY);clear HO1
 have g2_0:w.heap.size < w2.heap.size:=rP
 have g2_1:w.heap.size + 1 < w2.heap.size:=rP
 have g2_2:w.heap.size + 1 + 1 < w2.heap.size:=rP
 obtain ⟨hc2,hf2⟩:=jO hb2
 clear hb2
 go_wp2_with fail
 refine (toNameS_c (r2.below dB)).mono ?_
 rintro e w3 ⟨v3,rfl,O3,hb3⟩
 obtain ⟨ta3,tp3,rfl,_⟩:=Rep.sl O3.raw
 have L3:w2.heap.size≤w3.heap.size:=mP
 have HO3:=yD (Rep.own.wide (T:=Btw (w2.heap.size) w3.heap.size) O3 fO);clear O3
 have E3:Below w.heap.size w w3:=Below.trans dB (hb3.mono rG)
 have HE3:=yD E3;clear E3
 have HP1_3:=yD ((HP1_2.out).out (w':=w3) bW);clear HP1_2
 have HP2_3:=yD ((HO2.out).out (w':=w3) bW);clear HO2
 have g3_0:w.heap.size < w3.heap.size:=rP
 have g3_1:w.heap.size + 1 < w3.heap.size:=rP
 have g3_2:w.heap.size + 1 + 1 < w3.heap.size:=rP
 obtain ⟨hc3,hf3⟩:=jO hb3
 clear hb3
 go_wp2_with fail
 refine (kUi (r3.below dC)).mono ?_
 rintro e w4 ⟨v4,rfl,O4,hb4⟩
 obtain ⟨ta4,tp4,rfl,_⟩:=Rep.sl O4.raw
 have L4:w3.heap.size≤w4.heap.size:=by have h:=hb4.size;simp at h;omega
 have HO4:=yD (Rep.own.wide (T:=Btw (w3.heap.size) w4.heap.size) O4 fO);clear O4
 have E4:Below w.heap.size w w4:=Below.trans dC (hb4.mono rG)
 have HE4:=yD E4;clear E4
 have HP1_4:=yD ((HP1_3.out).out (w':=w4) bX);clear HP1_3
 have HP2_4:=yD ((HP2_3.out).out (w':=w4) bX);clear HP2_3
 have HP3_4:=yD ((HO3.out).out (w':=w4) bX);clear HO3
 have g4_0:w.heap.size < w4.heap.size:=rP
 have g4_1:w.heap.size + 1 < w4.heap.size:=rP
 have g4_2:w.heap.size + 1 + 1 < w4.heap.size:=rP
 obtain ⟨hc4,hf4⟩:=jO hb4
 clear hb4
 go_wp2
 refine bodyPost_ret (v:=.agg #[.slice ta1 x0.length tp1,.slice ta2 x1.length tp2,.slice ta3 x2.length tp3,.slice ta4 x3.length tp4]) (by simp [results,Tryz.results10,go_sem,hc1,g1_0,g1_1,g1_2,hc2,g2_0,g2_1,g2_2,hc3,g3_0,g3_1,g3_2,hc4,g4_0,g4_1,g4_2]) rfl ⟨[_,_,_,_],rfl,?_,?_⟩
 · refine Rep.own.wide (S:=Btw (w.heap.size + 3) (w4.heap.size)) ?_ dN
   exact Rep.jW (r:=(Rep.slice 187 jg)) (q:=(Rep.pair (Rep.slice 191 jM) (Rep.pair (Rep.slice 64 kL) (Rep.slice 66 kP)))) (cs:=[.slice ta1 x0.length tp1]) (ds:=[.slice ta2 x1.length tp2,.slice ta3 x2.length tp3,.slice ta4 x3.length tp4]) (x:=x0) (y:=(x1,x2,x3)) (S:=Btw (w.heap.size + 3) (w4.heap.size)) (Rep.own.out HP1_4.out dM) (Rep.jW (r:=(Rep.slice 191 jM)) (q:=(Rep.pair (Rep.slice 64 kL) (Rep.slice 66 kP))) (cs:=[.slice ta2 x1.length tp2]) (ds:=[.slice ta3 x2.length tp3,.slice ta4 x3.length tp4]) (x:=x1) (y:=(x2,x3)) (S:=Btw (w1.heap.size) (w4.heap.size)) (Rep.own.out HP2_4.out dM) (Rep.jW (r:=(Rep.slice 64 kL)) (q:=(Rep.slice 66 kP)) (cs:=[.slice ta3 x2.length tp3]) (ds:=[.slice ta4 x3.length tp4]) (x:=x2) (y:=x3) (S:=Btw (w2.heap.size) (w4.heap.size)) (Rep.own.out HP3_4.out dM) (Rep.own.out HO4.out dM) mH mI fP) mH mI fP) mH mI fP
 repeat (first|(with_reducible exact HE4.out) | refine Below.setCell ?_ qO _)
end Go.Proofs.YtlfblpgkegeaeaaGreat

/-
  The laws' copies: each makes new memory that stands for the same data. Printed by gento.py.
-/
import Derived.Test.YtomdenfcfbkfbaaGreatProg
import Derived.Test.YtomdenfcfbkfbaaGreatTypes
import Derived.WalkLawsBesides
import Derived.BigQuiet
import Derived.Deep.QuietTactic
import Derived.StillTailTactics
set_option linter.unusedVariables false
set_option linter.unusedSimpArgs false
set_option linter.unnecessarySimpa false
set_option maxRecDepth 100000
set_option maxHeartbeats 4000000
namespace Go.Proofs.YtomdenfcfbkfbaaGreat
open Go.RowKit
theorem infoString:(Tryz.prog.info? 9).map (fun i=>(i.zero,i.size,i.bytes))=some (some (.string ByteArray.empty),1,16):=by kernel_rfl
theorem toStringS_c {w:World} {va:Value} {x:List ByteArray} (ha:(Rep.slice 9 Rep.str).rd w [va] x):Calls Tryz.prog 165 #[va] w (yf (Rep.slice 9 Rep.str) x w):=by
 obtain ⟨aa,capa,rfl,la⟩:=Rep.sl ha.1
 have lb:x.length≤16777216:=ha.2.1
 obtain ⟨i0,hi,hz0,hz1,hz2⟩:=info_parts infoString
 have hmk:∀ W:World,(Instr.makeSlice 48 (.int .i64 (x.length:Int)) (.int .i64 (x.length:Int))).run Tryz.prog W=.ok (.slice (some ⟨W.heap.size,0,none⟩) x.length x.length) (W.alloc (.cells (madeCells #[.string ByteArray.empty] (x.length * 1)) 9)):=by
  intro W
  have h:=run_make (P:=Tryz.prog) W 48 9 i0 _ rA hi hz0 .i64 .i64 (x.length:Int) (x.length:Int) rJ rJ qM rJ
  rw [hz1] at h
  simpa [Value.cells] using h
 clear hz0 hz1 hz2 hi
 go_enter Tryz.func165,Tryz.ntmps165
 go_wp2;clear hmk
 have h0:=Rep.kBq (e:=9) (w:=w) (r:=Rep.str) (zs:=#[.string ByteArray.empty]) (n:=x.length) (S:=Btw w.heap.size (w.heap.size + 1)) rfl rfl rG pJ ⟨Nat.le_refl _,by omega⟩
 have h1:(Rep.slice 9 Rep.str).own (w.alloc (.cells (madeCells #[.string ByteArray.empty] (x.length * 1)) 9)) _ _ _:=h0.own qA
 rw [Nat.mul_one] at h1
 clear h0
 go_loopw [4] (fun i wr=>∃ k:Nat,k≤x.length∧i=.int .i64 k∧(Rep.slice 9 Rep.str).own wr [.slice (some ⟨w.heap.size,0,none⟩) x.length x.length] (x.take k++List.replicate (x.length - k) Rep.str.zero) (Btw w.heap.size wr.heap.size)∧Below w.heap.size w wr∧w.heap.size < wr.heap.size) (fun i _=>x.length - (intOf i).toNat)
 case atStart=>exact ⟨0,Nat.zero_le _,rfl,by simpa using h1,bR.alloc nL _,by simp⟩
 obtain ⟨k,hk,rfl,hout,hbel,hgt⟩:=hrel
 by_cases hlt:k < x.length
 · obtain ⟨ba,offa,rfl,c0,hr,A0⟩:=Rep.kEo (ha.1.below hbel) hlt rfl
   have hlen:(x.take k++List.replicate (x.length - k) Rep.str.zero).length=x.length:=Rep.kAd hk
   have hbd:=Rep.jq ha hlt
   obtain ⟨he,hrg⟩:=Rep.kBe hr
   obtain rfl:c0=_:=by simpa using he
   have hfl:=Rep.flat_str hbd
   obtain ⟨o0,hro,O0⟩:=Rep.at1 hout.raw (i:=k) rJ rfl
   have hfz:=Rep.zw hout rJ k
   clear he hr
   obtain ⟨hs,ht⟩:=Rep.kDy hout (i:=k) (p:=k) rJ (hfl wr) (fun _ _ h=>h) (show k=0 + k * 1 by omega)
   rw [Rep.kCv hlt] at hs
   have HS:=yD hs;have HT:=yD ht;clear hs ht hout hro hlen hfl hbd hrg
   go_wp2
   go_roundw
   case rel=>exact ⟨k + 1,by omega,by go_num,HS.out.wide (fun j hj=>hj.elim (fun q=>⟨q.1,by simpa [World.setCell] using q.2⟩) (fun q=>q.elim)),hbel.setCell nL _,by simpa [World.setCell] using hgt⟩
   simp [intOf];omega
 rw [Rep.kCw hk hlt] at hout
 have HO:=yD hout;clear hout
 go_wp2
 go_ret
 exact ⟨_,rfl,HO.out,hbel⟩
theorem infoByte:(Tryz.prog.info? 5).map (fun i=>(i.zero,i.size,i.bytes))=some (some (.int .u8 0),1,1):=by kernel_rfl
theorem toByteS_c {w:World} {va:Value} {x:List UInt8} (ha:(Rep.slice 5 Rep.byte).rd w [va] x):Calls Tryz.prog 188 #[va] w (yf (Rep.slice 5 Rep.byte) x w):=by
 obtain ⟨aa,capa,rfl,la⟩:=Rep.sl ha.1
 have lb:x.length≤16777216:=ha.2.1
 obtain ⟨i0,hi,hz0,hz1,hz2⟩:=info_parts infoByte
 have hmk:∀ W:World,(Instr.makeSlice 111 (.int .i64 (x.length:Int)) (.int .i64 (x.length:Int))).run Tryz.prog W=.ok (.slice (some ⟨W.heap.size,0,none⟩) x.length x.length) (W.alloc (.cells (madeCells #[.int .u8 0] (x.length * 1)) 5)):=by
  intro W
  have h:=run_make (P:=Tryz.prog) W 111 5 i0 _ rA hi hz0 .i64 .i64 (x.length:Int) (x.length:Int) rJ rJ qM rJ
  rw [hz1] at h
  simpa [Value.cells] using h
 clear hz0 hz1 hz2 hi
 go_enter Tryz.func188,Tryz.ntmps188
 go_wp2;clear hmk
 have h0:=Rep.kBq (e:=5) (w:=w) (r:=Rep.byte) (zs:=#[.int .u8 0]) (n:=x.length) (S:=Btw w.heap.size (w.heap.size + 1)) rfl rfl rG pJ ⟨Nat.le_refl _,by omega⟩
 have h1:(Rep.slice 5 Rep.byte).own (w.alloc (.cells (madeCells #[.int .u8 0] (x.length * 1)) 5)) _ _ _:=h0.own qA
 rw [Nat.mul_one] at h1
 clear h0
 go_loopw [4] (fun i wr=>∃ k:Nat,k≤x.length∧i=.int .i64 k∧(Rep.slice 5 Rep.byte).own wr [.slice (some ⟨w.heap.size,0,none⟩) x.length x.length] (x.take k++List.replicate (x.length - k) Rep.byte.zero) (Btw w.heap.size wr.heap.size)∧Below w.heap.size w wr∧w.heap.size < wr.heap.size) (fun i _=>x.length - (intOf i).toNat)
 case atStart=>exact ⟨0,Nat.zero_le _,rfl,by simpa using h1,bR.alloc nL _,by simp⟩
 obtain ⟨k,hk,rfl,hout,hbel,hgt⟩:=hrel
 by_cases hlt:k < x.length
 · obtain ⟨ba,offa,rfl,c0,hr,A0⟩:=Rep.kEo (ha.1.below hbel) hlt rfl
   have hlen:(x.take k++List.replicate (x.length - k) Rep.byte.zero).length=x.length:=Rep.kAd hk
   have hbd:=Rep.jq ha hlt
   obtain he:=Rep.kIm hr
   obtain rfl:c0=_:=by simpa using he
   have hfl:=Rep.flat_byte x[k]
   obtain ⟨o0,hro,O0⟩:=Rep.at1 hout.raw (i:=k) rJ rfl
   have hfz:=Rep.zw hout rJ k
   clear he hr
   obtain ⟨hs,ht⟩:=Rep.kDy hout (i:=k) (p:=k) rJ (hfl wr) (fun _ _ h=>h) (show k=0 + k * 1 by omega)
   rw [Rep.kCv hlt] at hs
   have HS:=yD hs;have HT:=yD ht;clear hs ht hout hro hlen hfl hbd
   go_wp2
   go_roundw
   case rel=>exact ⟨k + 1,by omega,by go_num,HS.out.wide (fun j hj=>hj.elim (fun q=>⟨q.1,by simpa [World.setCell] using q.2⟩) (fun q=>q.elim)),hbel.setCell nL _,by simpa [World.setCell] using hgt⟩
   simp [intOf];omega
 rw [Rep.kCw hk hlt] at hout
 have HO:=yD hout;clear hout
 go_wp2
 go_ret
 exact ⟨_,rfl,HO.out,hbel⟩
theorem kEi {w:World} {ca:List Value} {x:ky} (ha:kZ.rd w ca x):Calls Tryz.prog 80 #[.agg ca.toArray] w (yK kZ x w):=by
 obtain ⟨ha,hbd⟩:=ha
 obtain ⟨av0,rfl,a_0⟩:=kR ha
 obtain ⟨x0,rfl⟩:∃ x0,x0=x:=⟨_,rfl⟩
 have r0:(Rep.slice 9 Rep.str).rd w _ x0:=⟨a_0,hbd⟩
 clear ha hbd a_0
 go_enter Tryz.func80,Tryz.ntmps80
 go_wp2_with fail
 refine (toStringS_c (((r0.alloc _).alloc _).alloc _)).mono ?_
 rintro e w1 ⟨v1,rfl,O1,hb1⟩
 obtain ⟨ta1,tp1,rfl,_⟩:=Rep.sl O1.raw
 have L1:w.heap.size + 3≤w1.heap.size:=gU
 have HO1:=yD (Rep.own.wide (T:=Btw (w.heap.size + 3) w1.heap.size) O1 dW);clear O1
 have E1:Below w.heap.size w w1:=(((bR.alloc nL _).alloc rM _).alloc rC _).trans (hb1.mono rC)
 have HE1:=yD E1;clear E1
 have g1_0:w.heap.size < w1.heap.size:=rJ
 have g1_1:w.heap.size + 1 < w1.heap.size:=rJ
 have g1_2:w.heap.size + 1 + 1 < w1.heap.size:=rJ
 obtain ⟨hc1,hf1⟩:=jh hb1
 clear hb1
 go_wp2
 refine bodyPost_ret (v:=.agg #[.slice ta1 x0.length tp1]) (by simp [results,Tryz.results80,go_sem,hc1,g1_0,g1_1,g1_2]) rfl ⟨[_],rfl,?_,?_⟩
 · refine Rep.own.wide (S:=Btw (w.heap.size + 3) (w1.heap.size)) ?_ cK
   exact Rep.own.out HO1.out cB
 repeat (first|(with_reducible exact HE1.out) | refine Below.setCell ?_ qI _)
theorem kPa {w:World} {ca:List Value} {x:kv} (ha:kG.rd w ca x):Calls Tryz.prog 124 #[.agg ca.toArray] w (yK kG x w):=by
 obtain ⟨ha,hbd⟩:=ha
 obtain ⟨av0,rfl,a_0,a_1,a_2,a_3⟩:=jf ha
 obtain ⟨x0,x1,x2⟩:=x
 have r0:kZ.rd w _ x0:=⟨a_0,hbd.1⟩
 have N1:=yD a_2
 have N2:=yD a_3
 clear ha hbd a_0 a_1 a_2 a_3
 go_enter Tryz.func124,Tryz.ntmps124
 go_wp2_with fail
 refine (kEi (((r0.alloc _).alloc _).alloc _)).mono ?_
 rintro e w1 ⟨cs1,rfl,O1,hb1⟩
 obtain ⟨t1v0,rfl,t1_0⟩:=kR O1.raw
 obtain ⟨t1a0,t1p0,rfl,t1l0⟩:=Rep.sl t1_0
 clear t1_0
 have L1:w.heap.size + 3≤w1.heap.size:=gU
 have HO1:=yD (Rep.own.wide (T:=Btw (w.heap.size + 3) w1.heap.size) O1 dW);clear O1
 have E1:Below w.heap.size w w1:=(((bR.alloc nL _).alloc rM _).alloc rC _).trans (hb1.mono rC)
 have HE1:=yD E1;clear E1
 have g1_0:w.heap.size < w1.heap.size:=rJ
 have g1_1:w.heap.size + 1 < w1.heap.size:=rJ
 have g1_2:w.heap.size + 1 + 1 < w1.heap.size:=rJ
 obtain ⟨hc1,hf1⟩:=jh hb1
 clear hb1
 go_wp2
 refine bodyPost_ret (v:=.agg #[.slice t1a0 x0.length t1p0,.int .i64 x1,.int .i64 x2]) (by simp [results,Tryz.results124,go_sem,hc1,g1_0,g1_1,g1_2]) rfl ⟨[_,_,_],rfl,?_,?_⟩
 · refine Rep.own.wide (S:=Btw (w.heap.size + 3) (w1.heap.size)) ?_ cK
   exact Rep.jv (r:=kZ) (q:=(Rep.pair Rep.int Rep.int)) (cs:=[.slice t1a0 x0.length t1p0]) (ds:=[.int .i64 x1,.int .i64 x2]) (x:=x0) (y:=(x1,x2)) (Rep.own.out HO1.out cB) (Rep.jY (r:=Rep.int) (q:=Rep.int) (cs:=[.int .i64 x1]) (ds:=[.int .i64 x2]) (x:=x1) (y:=x2) (Rep.kr N1.out) (Rep.kr N2.out))
 repeat (first|(with_reducible exact HE1.out) | refine Below.setCell ?_ qI _)
theorem kPl:(Tryz.prog.info? 166).map (fun i=>(i.zero,i.size,i.bytes))=some (some (.agg #[.slice none 0 0,.int .i64 0,.int .i64 0]),3,40):=by kernel_rfl
theorem kNc {w:World} {va:Value} {x:List kv} (ha:(Rep.slice 166 kG).rd w [va] x):Calls Tryz.prog 40 #[va] w (yf (Rep.slice 166 kG) x w):=by
 obtain ⟨aa,capa,rfl,la⟩:=Rep.sl ha.1
 have lb:x.length≤16777216:=ha.2.1
 obtain ⟨i0,hi,hz0,hz1,hz2⟩:=info_parts kPl
 have hmk:∀ W:World,(Instr.makeSlice 40 (.int .i64 (x.length:Int)) (.int .i64 (x.length:Int))).run Tryz.prog W=.ok (.slice (some ⟨W.heap.size,0,none⟩) x.length x.length) (W.alloc (.cells (madeCells #[.slice none 0 0,.int .i64 0,.int .i64 0] (x.length * 3)) 166)):=by
  intro W
  have h:=run_make (P:=Tryz.prog) W 40 166 i0 _ rA hi hz0 .i64 .i64 (x.length:Int) (x.length:Int) rJ rJ qM rJ
  rw [hz1] at h
  simpa [Value.cells] using h
 clear hz0 hz1 hz2 hi
 go_enter Tryz.func40,Tryz.ntmps40
 go_wp2;clear hmk
 have h0:=Rep.kBq (e:=166) (w:=w) (r:=kG) (zs:=#[.slice none 0 0,.int .i64 0,.int .i64 0]) (n:=x.length) (S:=Btw w.heap.size (w.heap.size + 1)) rfl rfl rG pJ ⟨Nat.le_refl _,by omega⟩
 have h1:(Rep.slice 166 kG).own (w.alloc (.cells (madeCells #[.slice none 0 0,.int .i64 0,.int .i64 0] (x.length * 3)) 166)) _ _ _:=h0.own qA
 clear h0
 go_loopw [4] (fun i wr=>∃ k:Nat,k≤x.length∧i=.int .i64 k∧(Rep.slice 166 kG).own wr [.slice (some ⟨w.heap.size,0,none⟩) x.length x.length] (x.take k++List.replicate (x.length - k) kG.zero) (Btw w.heap.size wr.heap.size)∧Below w.heap.size w wr∧w.heap.size < wr.heap.size) (fun i _=>x.length - (intOf i).toNat)
 case atStart=>exact ⟨0,Nat.zero_le _,rfl,by simpa using h1,bR.alloc nL _,by simp⟩
 obtain ⟨k,hk,rfl,hout,hbel,hgt⟩:=hrel
 by_cases hlt:k < x.length
 · obtain ⟨ba,offa,rfl,c0,c1,c2,hr,A0,A1,A2⟩:=Rep.zT (ha.1.below hbel) hlt rfl
   have hlen:(x.take k++List.replicate (x.length - k) kG.zero).length=x.length:=Rep.kAd hk
   have hrd:kG.rd wr [c0,c1,c2] x[k]:=⟨hr,Rep.jq ha hlt⟩
   clear hr
   go_wp2_with fail
   refine (kPa hrd).mono ?_
   rintro e w2 ⟨cs,rfl,hown,hb2⟩
   obtain ⟨tv0,rfl,t_0,t_1,t_2,t_3⟩:=jf hown.raw
   obtain ⟨ta0,tp0,rfl,tl0⟩:=Rep.sl t_1
   clear t_0 t_1 t_2 t_3
   have hout2:=hout.below hb2
   obtain ⟨o0,o1,o2,hro,O0,O1,O2⟩:=Rep.at3 hout2.raw (i:=k) rJ rfl
   have hfz:=Rep.zw hout2 rJ
   have Z0:=hfz (k * 3)
   have Z1:=hfz (k * 3 + 1)
   have Z2:=hfz (k * 3 + 2)
   obtain ⟨hs,ht⟩:=Rep.kDy hout2 (i:=k) (p:=k * 3) rJ hown dR (show k * 3=0 + k * 3 by omega)
   rw [Rep.kCv hlt] at hs
   have hsz:=hb2.size
   have hbel2:=(tQ hbel hb2)
   have HS:=yD hs;have HT:=yD ht;clear hs ht hout hout2 hro hlen hrd hfz hown hb2
   go_wp2
   go_roundw
   case rel=>exact ⟨k + 1,by omega,by go_num,HS.out.wide bC,(((hbel2.setCell nL _).setCell nL _).setCell nL _),by simp [World.setCell];omega⟩
   simp [intOf];omega
 rw [Rep.kCw hk hlt] at hout
 have HO:=yD hout;clear hout
 go_wp2
 go_ret
 exact ⟨_,rfl,HO.out,hbel⟩
theorem toRoute_c {w:World} {ca:List Value} {x:jD} (ha:kM.rd w ca x):Calls Tryz.prog 123 #[.agg ca.toArray] w (yK kM x w):=by
 obtain ⟨ha,hbd⟩:=ha
 obtain ⟨av0,rfl,a_0,a_1,a_2,a_3⟩:=jK ha
 obtain ⟨x0,x1,x2⟩:=x
 have r0:kZ.rd w _ x0:=⟨a_0,hbd.1⟩
 have N1:=yD a_2
 have N2:=yD a_3
 clear ha hbd a_0 a_1 a_2 a_3
 go_enter Tryz.func123,Tryz.ntmps123
 go_wp2_with fail
 refine (kEi (((r0.alloc _).alloc _).alloc _)).mono ?_
 rintro e w1 ⟨cs1,rfl,O1,hb1⟩
 obtain ⟨t1v0,rfl,t1_0⟩:=kR O1.raw
 obtain ⟨t1a0,t1p0,rfl,t1l0⟩:=Rep.sl t1_0
 clear t1_0
 have L1:w.heap.size + 3≤w1.heap.size:=gU
 have HO1:=yD (Rep.own.wide (T:=Btw (w.heap.size + 3) w1.heap.size) O1 dW);clear O1
 have E1:Below w.heap.size w w1:=(((bR.alloc nL _).alloc rM _).alloc rC _).trans (hb1.mono rC)
 have HE1:=yD E1;clear E1
 have g1_0:w.heap.size < w1.heap.size:=rJ
 have g1_1:w.heap.size + 1 < w1.heap.size:=rJ
 have g1_2:w.heap.size + 1 + 1 < w1.heap.size:=rJ
 obtain ⟨hc1,hf1⟩:=jh hb1
 clear hb1
 go_wp2
 refine bodyPost_ret (v:=.agg #[.slice t1a0 x0.length t1p0,.int .i64 x1,.int .i64 x2]) (by simp [results,Tryz.results123,go_sem,hc1,g1_0,g1_1,g1_2]) rfl ⟨[_,_,_],rfl,?_,?_⟩
 · refine Rep.own.wide (S:=Btw (w.heap.size + 3) (w1.heap.size)) ?_ cK
   exact Rep.jv (r:=kZ) (q:=(Rep.pair Rep.int Rep.int)) (cs:=[.slice t1a0 x0.length t1p0]) (ds:=[.int .i64 x1,.int .i64 x2]) (x:=x0) (y:=(x1,x2)) (Rep.own.out HO1.out cB) (Rep.jY (r:=Rep.int) (q:=Rep.int) (cs:=[.int .i64 x1]) (ds:=[.int .i64 x2]) (x:=x1) (y:=x2) (Rep.kr N1.out) (Rep.kr N2.out))
 repeat (first|(with_reducible exact HE1.out) | refine Below.setCell ?_ qI _)
theorem infoRoute:(Tryz.prog.info? 159).map (fun i=>(i.zero,i.size,i.bytes))=some (some (.agg #[.slice none 0 0,.int .i64 0,.int .i64 0]),3,40):=by kernel_rfl
theorem toRouteS_c {w:World} {va:Value} {x:List jD} (ha:(Rep.slice 159 kM).rd w [va] x):Calls Tryz.prog 39 #[va] w (yf (Rep.slice 159 kM) x w):=by
 obtain ⟨aa,capa,rfl,la⟩:=Rep.sl ha.1
 have lb:x.length≤16777216:=ha.2.1
 obtain ⟨i0,hi,hz0,hz1,hz2⟩:=info_parts infoRoute
 have hmk:∀ W:World,(Instr.makeSlice 39 (.int .i64 (x.length:Int)) (.int .i64 (x.length:Int))).run Tryz.prog W=.ok (.slice (some ⟨W.heap.size,0,none⟩) x.length x.length) (W.alloc (.cells (madeCells #[.slice none 0 0,.int .i64 0,.int .i64 0] (x.length * 3)) 159)):=by
  intro W
  have h:=run_make (P:=Tryz.prog) W 39 159 i0 _ rA hi hz0 .i64 .i64 (x.length:Int) (x.length:Int) rJ rJ qM rJ
  rw [hz1] at h
  simpa [Value.cells] using h
 clear hz0 hz1 hz2 hi
 go_enter Tryz.func39,Tryz.ntmps39
 go_wp2;clear hmk
 have h0:=Rep.kBq (e:=159) (w:=w) (r:=kM) (zs:=#[.slice none 0 0,.int .i64 0,.int .i64 0]) (n:=x.length) (S:=Btw w.heap.size (w.heap.size + 1)) rfl rfl rG pJ ⟨Nat.le_refl _,by omega⟩
 have h1:(Rep.slice 159 kM).own (w.alloc (.cells (madeCells #[.slice none 0 0,.int .i64 0,.int .i64 0] (x.length * 3)) 159)) _ _ _:=h0.own qA
 clear h0
 go_loopw [4] (fun i wr=>∃ k:Nat,k≤x.length∧i=.int .i64 k∧(Rep.slice 159 kM).own wr [.slice (some ⟨w.heap.size,0,none⟩) x.length x.length] (x.take k++List.replicate (x.length - k) kM.zero) (Btw w.heap.size wr.heap.size)∧Below w.heap.size w wr∧w.heap.size < wr.heap.size) (fun i _=>x.length - (intOf i).toNat)
 case atStart=>exact ⟨0,Nat.zero_le _,rfl,by simpa using h1,bR.alloc nL _,by simp⟩
 obtain ⟨k,hk,rfl,hout,hbel,hgt⟩:=hrel
 by_cases hlt:k < x.length
 · obtain ⟨ba,offa,rfl,c0,c1,c2,hr,A0,A1,A2⟩:=Rep.zT (ha.1.below hbel) hlt rfl
   have hlen:(x.take k++List.replicate (x.length - k) kM.zero).length=x.length:=Rep.kAd hk
   have hrd:kM.rd wr [c0,c1,c2] x[k]:=⟨hr,Rep.jq ha hlt⟩
   clear hr
   go_wp2_with fail
   refine (toRoute_c hrd).mono ?_
   rintro e w2 ⟨cs,rfl,hown,hb2⟩
   obtain ⟨tv0,rfl,t_0,t_1,t_2,t_3⟩:=jK hown.raw
   obtain ⟨ta0,tp0,rfl,tl0⟩:=Rep.sl t_1
   clear t_0 t_1 t_2 t_3
   have hout2:=hout.below hb2
   obtain ⟨o0,o1,o2,hro,O0,O1,O2⟩:=Rep.at3 hout2.raw (i:=k) rJ rfl
   have hfz:=Rep.zw hout2 rJ
   have Z0:=hfz (k * 3)
   have Z1:=hfz (k * 3 + 1)
   have Z2:=hfz (k * 3 + 2)
   obtain ⟨hs,ht⟩:=Rep.kDy hout2 (i:=k) (p:=k * 3) rJ hown dR (show k * 3=0 + k * 3 by omega)
   rw [Rep.kCv hlt] at hs
   have hsz:=hb2.size
   have hbel2:=(tQ hbel hb2)
   have HS:=yD hs;have HT:=yD ht;clear hs ht hout hout2 hro hlen hrd hfz hown hb2
   go_wp2
   go_roundw
   case rel=>exact ⟨k + 1,by omega,by go_num,HS.out.wide bC,(((hbel2.setCell nL _).setCell nL _).setCell nL _),by simp [World.setCell];omega⟩
   simp [intOf];omega
 rw [Rep.kCw hk hlt] at hout
 have HO:=yD hout;clear hout
 go_wp2
 go_ret
 exact ⟨_,rfl,HO.out,hbel⟩
theorem kTf {w:World} {ca:List Value} {x:kS} (ha:kF.rd w ca x):Calls Tryz.prog 225 #[.agg ca.toArray] w (yK kF x w):=by
 obtain ⟨ha,hbd⟩:=ha
 obtain ⟨rfl,a_0,a_1,a_2⟩:=yA ha
 obtain ⟨x0,x1,x2⟩:=x
 have N0:=yD a_0
 have N1:=yD a_1
 have N2:=yD a_2
 clear ha hbd a_0 a_1 a_2
 go_enter Tryz.func225,Tryz.ntmps225
 go_wp2
 refine bodyPost_ret (v:=.agg #[.int .i64 x0,.int .i64 x1,.int .i64 x2]) (by simp [results,Tryz.results225,go_sem]) rfl ⟨[_,_,_],rfl,?_,?_⟩
 · exact Rep.flat.own (Rep.jY (Rep.kr N0.out) (Rep.jY (Rep.kr N1.out) (Rep.kr N2.out)))
 exact ((bR.alloc nL _).alloc rM _).alloc rC _
theorem kTt:(Tryz.prog.info? 81).map (fun i=>(i.zero,i.size,i.bytes))=some (some (.agg #[.int .i64 0,.int .i64 0,.int .i64 0]),3,24):=by kernel_rfl
theorem kQs {w:World} {va:Value} {x:List kS} (ha:(Rep.slice 81 kF).rd w [va] x):Calls Tryz.prog 190 #[va] w (yf (Rep.slice 81 kF) x w):=by
 obtain ⟨aa,capa,rfl,la⟩:=Rep.sl ha.1
 have lb:x.length≤16777216:=ha.2.1
 obtain ⟨i0,hi,hz0,hz1,hz2⟩:=info_parts kTt
 have hmk:∀ W:World,(Instr.makeSlice 75 (.int .i64 (x.length:Int)) (.int .i64 (x.length:Int))).run Tryz.prog W=.ok (.slice (some ⟨W.heap.size,0,none⟩) x.length x.length) (W.alloc (.cells (madeCells #[.int .i64 0,.int .i64 0,.int .i64 0] (x.length * 3)) 81)):=by
  intro W
  have h:=run_make (P:=Tryz.prog) W 75 81 i0 _ rA hi hz0 .i64 .i64 (x.length:Int) (x.length:Int) rJ rJ qM rJ
  rw [hz1] at h
  simpa [Value.cells] using h
 clear hz0 hz1 hz2 hi
 go_enter Tryz.func190,Tryz.ntmps190
 go_wp2;clear hmk
 have h0:=Rep.kBq (e:=81) (w:=w) (r:=kF) (zs:=#[.int .i64 0,.int .i64 0,.int .i64 0]) (n:=x.length) (S:=Btw w.heap.size (w.heap.size + 1)) rfl rfl rG pJ ⟨Nat.le_refl _,by omega⟩
 have h1:(Rep.slice 81 kF).own (w.alloc (.cells (madeCells #[.int .i64 0,.int .i64 0,.int .i64 0] (x.length * 3)) 81)) _ _ _:=h0.own qA
 clear h0
 go_loopw [4] (fun i wr=>∃ k:Nat,k≤x.length∧i=.int .i64 k∧(Rep.slice 81 kF).own wr [.slice (some ⟨w.heap.size,0,none⟩) x.length x.length] (x.take k++List.replicate (x.length - k) kF.zero) (Btw w.heap.size wr.heap.size)∧Below w.heap.size w wr∧w.heap.size < wr.heap.size) (fun i _=>x.length - (intOf i).toNat)
 case atStart=>exact ⟨0,Nat.zero_le _,rfl,by simpa using h1,bR.alloc nL _,by simp⟩
 obtain ⟨k,hk,rfl,hout,hbel,hgt⟩:=hrel
 by_cases hlt:k < x.length
 · obtain ⟨ba,offa,rfl,c0,c1,c2,hr,A0,A1,A2⟩:=Rep.zT (ha.1.below hbel) hlt rfl
   have hlen:(x.take k++List.replicate (x.length - k) kF.zero).length=x.length:=Rep.kAd hk
   have hrd:kF.rd wr [c0,c1,c2] x[k]:=⟨hr,Rep.jq ha hlt⟩
   clear hr
   go_wp2_with fail
   refine (kTf hrd).mono ?_
   rintro e w2 ⟨cs,rfl,hown,hb2⟩
   obtain ⟨rfl,t_0,t_1,t_2⟩:=yA hown.raw
   clear t_0 t_1 t_2
   have hout2:=hout.below hb2
   obtain ⟨o0,o1,o2,hro,O0,O1,O2⟩:=Rep.at3 hout2.raw (i:=k) rJ rfl
   have hfz:=Rep.zw hout2 rJ
   have Z0:=hfz (k * 3)
   have Z1:=hfz (k * 3 + 1)
   have Z2:=hfz (k * 3 + 2)
   obtain ⟨hs,ht⟩:=Rep.kDy hout2 (i:=k) (p:=k * 3) rJ hown dR (show k * 3=0 + k * 3 by omega)
   rw [Rep.kCv hlt] at hs
   have hsz:=hb2.size
   have hbel2:=(tQ hbel hb2)
   have HS:=yD hs;have HT:=yD ht;clear hs ht hout hout2 hro hlen hrd hfz hown hb2
   go_wp2
   go_roundw
   case rel=>exact ⟨k + 1,by omega,by go_num,HS.out.wide bC,(((hbel2.setCell nL _).setCell nL _).setCell nL _),by simp [World.setCell];omega⟩
   simp [intOf];omega
 rw [Rep.kCw hk hlt] at hout
 have HO:=yD hout;clear hout
 go_wp2
 go_ret
 exact ⟨_,rfl,HO.out,hbel⟩
theorem kIz {w:World} {ca:List Value} {x:kJ} (ha:kD.rd w ca x):Calls Tryz.prog 121 #[.agg ca.toArray] w (yK kD x w):=by
 obtain ⟨ha,hbd⟩:=ha
 obtain ⟨av0,av1,rfl,a_0,a_1,a_2,a_3⟩:=kz ha
 obtain ⟨x0,x1,x2⟩:=x
 have r0:kZ.rd w _ x0:=⟨a_0,hbd.1⟩
 have r1:(Rep.slice 81 kF).rd w _ x1:=⟨a_2,hbd.2.1⟩
 have N2:=yD a_3
 clear ha hbd a_0 a_1 a_2 a_3
 go_enter Tryz.func121,Tryz.ntmps121
 go_wp2_with fail
 refine (kEi (((r0.alloc _).alloc _).alloc _)).mono ?_
 rintro e w1 ⟨cs1,rfl,O1,hb1⟩
 obtain ⟨t1v0,rfl,t1_0⟩:=kR O1.raw
 obtain ⟨t1a0,t1p0,rfl,t1l0⟩:=Rep.sl t1_0
 clear t1_0
 have L1:w.heap.size + 3≤w1.heap.size:=gU
 have HO1:=yD (Rep.own.wide (T:=Btw (w.heap.size + 3) w1.heap.size) O1 dW);clear O1
 have E1:Below w.heap.size w w1:=(((bR.alloc nL _).alloc rM _).alloc rC _).trans (hb1.mono rC)
 have HE1:=yD E1;clear E1
 have g1_0:w.heap.size < w1.heap.size:=rJ
 have g1_1:w.heap.size + 1 < w1.heap.size:=rJ
 have g1_2:w.heap.size + 1 + 1 < w1.heap.size:=rJ
 obtain ⟨hc1,hf1⟩:=jh hb1
 clear hb1
 go_wp2_with fail
 refine (kQs (r1.below bT)).mono ?_
 rintro e w2 ⟨v2,rfl,O2,hb2⟩
 obtain ⟨ta2,tp2,rfl,_⟩:=Rep.sl O2.raw
 have L2:w1.heap.size≤w2.heap.size:=gW
 have HO2:=yD (Rep.own.wide (T:=Btw (w1.heap.size) w2.heap.size) O2 dW);clear O2
 have E2:Below w.heap.size w w2:=Below.trans bT (hb2.mono rC)
 have HE2:=yD E2;clear E2
 have HP1_2:=yD ((HO1.out).out (w':=w2) bL);clear HO1
 have g2_0:w.heap.size < w2.heap.size:=rJ
 have g2_1:w.heap.size + 1 < w2.heap.size:=rJ
 have g2_2:w.heap.size + 1 + 1 < w2.heap.size:=rJ
 obtain ⟨hc2,hf2⟩:=jh hb2
 clear hb2
 go_wp2
 refine bodyPost_ret (v:=.agg #[.slice t1a0 x0.length t1p0,.slice ta2 x1.length tp2,.int .i64 x2]) (by simp [results,Tryz.results121,go_sem,hc1,g1_0,g1_1,g1_2,hc2,g2_0,g2_1,g2_2]) rfl ⟨[_,_,_],rfl,?_,?_⟩
 · refine Rep.own.wide (S:=Btw (w.heap.size + 3) (w2.heap.size)) ?_ cK
   exact Rep.jZ (r:=kZ) (q:=(Rep.pair (Rep.slice 81 kF) Rep.int)) (cs:=[.slice t1a0 x0.length t1p0]) (ds:=[.slice ta2 x1.length tp2,.int .i64 x2]) (x:=x0) (y:=(x1,x2)) (S:=Btw (w.heap.size + 3) (w2.heap.size)) (Rep.own.out HP1_2.out cB) (Rep.jv (r:=(Rep.slice 81 kF)) (q:=Rep.int) (cs:=[.slice ta2 x1.length tp2]) (ds:=[.int .i64 x2]) (x:=x1) (y:=x2) (Rep.own.out HO2.out cB) (Rep.kr N2.out)) gP gQ dX
 repeat (first|(with_reducible exact HE2.out) | refine Below.setCell ?_ qI _)
theorem kJd:(Tryz.prog.info? 77).map (fun i=>(i.zero,i.size,i.bytes))=some (some (.agg #[.slice none 0 0,.slice none 0 0,.int .i64 0]),3,56):=by kernel_rfl
theorem kHl {w:World} {va:Value} {x:List kJ} (ha:(Rep.slice 77 kD).rd w [va] x):Calls Tryz.prog 37 #[va] w (yf (Rep.slice 77 kD) x w):=by
 obtain ⟨aa,capa,rfl,la⟩:=Rep.sl ha.1
 have lb:x.length≤16777216:=ha.2.1
 obtain ⟨i0,hi,hz0,hz1,hz2⟩:=info_parts kJd
 have hmk:∀ W:World,(Instr.makeSlice 37 (.int .i64 (x.length:Int)) (.int .i64 (x.length:Int))).run Tryz.prog W=.ok (.slice (some ⟨W.heap.size,0,none⟩) x.length x.length) (W.alloc (.cells (madeCells #[.slice none 0 0,.slice none 0 0,.int .i64 0] (x.length * 3)) 77)):=by
  intro W
  have h:=run_make (P:=Tryz.prog) W 37 77 i0 _ rA hi hz0 .i64 .i64 (x.length:Int) (x.length:Int) rJ rJ qM rJ
  rw [hz1] at h
  simpa [Value.cells] using h
 clear hz0 hz1 hz2 hi
 go_enter Tryz.func37,Tryz.ntmps37
 go_wp2;clear hmk
 have h0:=Rep.kBq (e:=77) (w:=w) (r:=kD) (zs:=#[.slice none 0 0,.slice none 0 0,.int .i64 0]) (n:=x.length) (S:=Btw w.heap.size (w.heap.size + 1)) rfl rfl rG pJ ⟨Nat.le_refl _,by omega⟩
 have h1:(Rep.slice 77 kD).own (w.alloc (.cells (madeCells #[.slice none 0 0,.slice none 0 0,.int .i64 0] (x.length * 3)) 77)) _ _ _:=h0.own qA
 clear h0
 go_loopw [4] (fun i wr=>∃ k:Nat,k≤x.length∧i=.int .i64 k∧(Rep.slice 77 kD).own wr [.slice (some ⟨w.heap.size,0,none⟩) x.length x.length] (x.take k++List.replicate (x.length - k) kD.zero) (Btw w.heap.size wr.heap.size)∧Below w.heap.size w wr∧w.heap.size < wr.heap.size) (fun i _=>x.length - (intOf i).toNat)
 case atStart=>exact ⟨0,Nat.zero_le _,rfl,by simpa using h1,bR.alloc nL _,by simp⟩
 obtain ⟨k,hk,rfl,hout,hbel,hgt⟩:=hrel
 by_cases hlt:k < x.length
 · obtain ⟨ba,offa,rfl,c0,c1,c2,hr,A0,A1,A2⟩:=Rep.zT (ha.1.below hbel) hlt rfl
   have hlen:(x.take k++List.replicate (x.length - k) kD.zero).length=x.length:=Rep.kAd hk
   have hrd:kD.rd wr [c0,c1,c2] x[k]:=⟨hr,Rep.jq ha hlt⟩
   clear hr
   go_wp2_with fail
   refine (kIz hrd).mono ?_
   rintro e w2 ⟨cs,rfl,hown,hb2⟩
   obtain ⟨tv0,tv1,rfl,t_0,t_1,t_2,t_3⟩:=kz hown.raw
   obtain ⟨ta0,tp0,rfl,tl0⟩:=Rep.sl t_1
   obtain ⟨ta1,tp1,rfl,tl1⟩:=Rep.sl t_2
   clear t_0 t_1 t_2 t_3
   have hout2:=hout.below hb2
   obtain ⟨o0,o1,o2,hro,O0,O1,O2⟩:=Rep.at3 hout2.raw (i:=k) rJ rfl
   have hfz:=Rep.zw hout2 rJ
   have Z0:=hfz (k * 3)
   have Z1:=hfz (k * 3 + 1)
   have Z2:=hfz (k * 3 + 2)
   obtain ⟨hs,ht⟩:=Rep.kDy hout2 (i:=k) (p:=k * 3) rJ hown dR (show k * 3=0 + k * 3 by omega)
   rw [Rep.kCv hlt] at hs
   have hsz:=hb2.size
   have hbel2:=(tQ hbel hb2)
   have HS:=yD hs;have HT:=yD ht;clear hs ht hout hout2 hro hlen hrd hfz hown hb2
   go_wp2
   go_roundw
   case rel=>exact ⟨k + 1,by omega,by go_num,HS.out.wide bC,(((hbel2.setCell nL _).setCell nL _).setCell nL _),by simp [World.setCell];omega⟩
   simp [intOf];omega
 rw [Rep.kCw hk hlt] at hout
 have HO:=yD hout;clear hout
 go_wp2
 go_ret
 exact ⟨_,rfl,HO.out,hbel⟩
theorem kTe {w:World} {ca:List Value} {x:jL} (ha:kI.rd w ca x):Calls Tryz.prog 122 #[.agg ca.toArray] w (yK kI x w):=by
 obtain ⟨ha,hbd⟩:=ha
 obtain ⟨av0,rfl,a_0,a_1,a_2⟩:=yJ ha
 obtain ⟨x0,x1⟩:=x
 have r0:kZ.rd w _ x0:=⟨a_0,hbd.1⟩
 have N1:=yD a_2
 clear ha hbd a_0 a_1 a_2
 go_enter Tryz.func122,Tryz.ntmps122
 go_wp2_with fail
 refine (kEi (((r0.alloc _).alloc _).alloc _)).mono ?_
 rintro e w1 ⟨cs1,rfl,O1,hb1⟩
 obtain ⟨t1v0,rfl,t1_0⟩:=kR O1.raw
 obtain ⟨t1a0,t1p0,rfl,t1l0⟩:=Rep.sl t1_0
 clear t1_0
 have L1:w.heap.size + 3≤w1.heap.size:=gU
 have HO1:=yD (Rep.own.wide (T:=Btw (w.heap.size + 3) w1.heap.size) O1 dW);clear O1
 have E1:Below w.heap.size w w1:=(((bR.alloc nL _).alloc rM _).alloc rC _).trans (hb1.mono rC)
 have HE1:=yD E1;clear E1
 have g1_0:w.heap.size < w1.heap.size:=rJ
 have g1_1:w.heap.size + 1 < w1.heap.size:=rJ
 have g1_2:w.heap.size + 1 + 1 < w1.heap.size:=rJ
 obtain ⟨hc1,hf1⟩:=jh hb1
 clear hb1
 go_wp2
 refine bodyPost_ret (v:=.agg #[.slice t1a0 x0.length t1p0,.int .i64 x1]) (by simp [results,Tryz.results122,go_sem,hc1,g1_0,g1_1,g1_2]) rfl ⟨[_,_],rfl,?_,?_⟩
 · refine Rep.own.wide (S:=Btw (w.heap.size + 3) (w1.heap.size)) ?_ cK
   exact Rep.jv (r:=kZ) (q:=Rep.int) (cs:=[.slice t1a0 x0.length t1p0]) (ds:=[.int .i64 x1]) (x:=x0) (y:=x1) (Rep.own.out HO1.out cB) (Rep.kr N1.out)
 repeat (first|(with_reducible exact HE1.out) | refine Below.setCell ?_ qI _)
theorem kTs:(Tryz.prog.info? 157).map (fun i=>(i.zero,i.size,i.bytes))=some (some (.agg #[.slice none 0 0,.int .i64 0]),2,32):=by kernel_rfl
theorem kQr {w:World} {va:Value} {x:List jL} (ha:(Rep.slice 157 kI).rd w [va] x):Calls Tryz.prog 38 #[va] w (yf (Rep.slice 157 kI) x w):=by
 obtain ⟨aa,capa,rfl,la⟩:=Rep.sl ha.1
 have lb:x.length≤16777216:=ha.2.1
 obtain ⟨i0,hi,hz0,hz1,hz2⟩:=info_parts kTs
 have hmk:∀ W:World,(Instr.makeSlice 38 (.int .i64 (x.length:Int)) (.int .i64 (x.length:Int))).run Tryz.prog W=.ok (.slice (some ⟨W.heap.size,0,none⟩) x.length x.length) (W.alloc (.cells (madeCells #[.slice none 0 0,.int .i64 0] (x.length * 2)) 157)):=by
  intro W
  have h:=run_make (P:=Tryz.prog) W 38 157 i0 _ rA hi hz0 .i64 .i64 (x.length:Int) (x.length:Int) rJ rJ qM rJ
  rw [hz1] at h
  simpa [Value.cells] using h
 clear hz0 hz1 hz2 hi
 go_enter Tryz.func38,Tryz.ntmps38
 go_wp2;clear hmk
 have h0:=Rep.kBq (e:=157) (w:=w) (r:=kI) (zs:=#[.slice none 0 0,.int .i64 0]) (n:=x.length) (S:=Btw w.heap.size (w.heap.size + 1)) rfl rfl rG pJ ⟨Nat.le_refl _,by omega⟩
 have h1:(Rep.slice 157 kI).own (w.alloc (.cells (madeCells #[.slice none 0 0,.int .i64 0] (x.length * 2)) 157)) _ _ _:=h0.own qA
 clear h0
 go_loopw [4] (fun i wr=>∃ k:Nat,k≤x.length∧i=.int .i64 k∧(Rep.slice 157 kI).own wr [.slice (some ⟨w.heap.size,0,none⟩) x.length x.length] (x.take k++List.replicate (x.length - k) kI.zero) (Btw w.heap.size wr.heap.size)∧Below w.heap.size w wr∧w.heap.size < wr.heap.size) (fun i _=>x.length - (intOf i).toNat)
 case atStart=>exact ⟨0,Nat.zero_le _,rfl,by simpa using h1,bR.alloc nL _,by simp⟩
 obtain ⟨k,hk,rfl,hout,hbel,hgt⟩:=hrel
 by_cases hlt:k < x.length
 · obtain ⟨ba,offa,rfl,c0,c1,hr,A0,A1⟩:=Rep.get2 (ha.1.below hbel) hlt rfl
   have hlen:(x.take k++List.replicate (x.length - k) kI.zero).length=x.length:=Rep.kAd hk
   have hrd:kI.rd wr [c0,c1] x[k]:=⟨hr,Rep.jq ha hlt⟩
   clear hr
   go_wp2_with fail
   refine (kTe hrd).mono ?_
   rintro e w2 ⟨cs,rfl,hown,hb2⟩
   obtain ⟨tv0,rfl,t_0,t_1,t_2⟩:=yJ hown.raw
   obtain ⟨ta0,tp0,rfl,tl0⟩:=Rep.sl t_1
   clear t_0 t_1 t_2
   have hout2:=hout.below hb2
   obtain ⟨o0,o1,hro,O0,O1⟩:=Rep.at2 hout2.raw (i:=k) rJ rfl
   have hfz:=Rep.zw hout2 rJ
   have Z0:=hfz (k * 2)
   have Z1:=hfz (k * 2 + 1)
   obtain ⟨hs,ht⟩:=Rep.kDy hout2 (i:=k) (p:=k * 2) rJ hown dR (show k * 2=0 + k * 2 by omega)
   rw [Rep.kCv hlt] at hs
   have hsz:=hb2.size
   have hbel2:=(tQ hbel hb2)
   have HS:=yD hs;have HT:=yD ht;clear hs ht hout hout2 hro hlen hrd hfz hown hb2
   go_wp2
   go_roundw
   case rel=>exact ⟨k + 1,by omega,by go_num,HS.out.wide bC,((hbel2.setCell nL _).setCell nL _),by simp [World.setCell];omega⟩
   simp [intOf];omega
 rw [Rep.kCw hk hlt] at hout
 have HO:=yD hout;clear hout
 go_wp2
 go_ret
 exact ⟨_,rfl,HO.out,hbel⟩
theorem kAc {w:World} {ca:List Value} {x:jF} (ha:kw.rd w ca x):Calls Tryz.prog 14 #[.agg ca.toArray] w (yK kw x w):=by
 obtain ⟨ha,hbd⟩:=ha
 obtain ⟨av0,rfl,a_0,a_1,a_2,a_3,a_4⟩:=jA ha
 obtain ⟨x0,x1,x2,x3⟩:=x
 have r0:kZ.rd w _ x0:=⟨a_0,hbd.1⟩
 have N1:=yD a_2
 have N2:=yD a_3
 have N3:=yD a_4
 clear ha hbd a_0 a_1 a_2 a_3 a_4
 go_enter Tryz.func14,Tryz.ntmps14
 go_wp2_with fail
 refine (kEi (((r0.alloc _).alloc _).alloc _)).mono ?_
 rintro e w1 ⟨cs1,rfl,O1,hb1⟩
 obtain ⟨t1v0,rfl,t1_0⟩:=kR O1.raw
 obtain ⟨t1a0,t1p0,rfl,t1l0⟩:=Rep.sl t1_0
 clear t1_0
 have L1:w.heap.size + 3≤w1.heap.size:=gU
 have HO1:=yD (Rep.own.wide (T:=Btw (w.heap.size + 3) w1.heap.size) O1 dW);clear O1
 have E1:Below w.heap.size w w1:=(((bR.alloc nL _).alloc rM _).alloc rC _).trans (hb1.mono rC)
 have HE1:=yD E1;clear E1
 have g1_0:w.heap.size < w1.heap.size:=rJ
 have g1_1:w.heap.size + 1 < w1.heap.size:=rJ
 have g1_2:w.heap.size + 1 + 1 < w1.heap.size:=rJ
 obtain ⟨hc1,hf1⟩:=jh hb1
 clear hb1
 go_wp2
 refine bodyPost_ret (v:=.agg #[.slice t1a0 x0.length t1p0,.int .i64 x1,.int .i64 x2,.int .i64 x3]) (by simp [results,Tryz.results14,go_sem,hc1,g1_0,g1_1,g1_2]) rfl ⟨[_,_,_,_],rfl,?_,?_⟩
 · refine Rep.own.wide (S:=Btw (w.heap.size + 3) (w1.heap.size)) ?_ cK
   exact Rep.jv (r:=kZ) (q:=(Rep.pair Rep.int (Rep.pair Rep.int Rep.int))) (cs:=[.slice t1a0 x0.length t1p0]) (ds:=[.int .i64 x1,.int .i64 x2,.int .i64 x3]) (x:=x0) (y:=(x1,x2,x3)) (Rep.own.out HO1.out cB) (Rep.jY (r:=Rep.int) (q:=(Rep.pair Rep.int Rep.int)) (cs:=[.int .i64 x1]) (ds:=[.int .i64 x2,.int .i64 x3]) (x:=x1) (y:=(x2,x3)) (Rep.kr N1.out) (Rep.jY (r:=Rep.int) (q:=Rep.int) (cs:=[.int .i64 x2]) (ds:=[.int .i64 x3]) (x:=x2) (y:=x3) (Rep.kr N2.out) (Rep.kr N3.out)))
 repeat (first|(with_reducible exact HE1.out) | refine Below.setCell ?_ qI _)
theorem toData_c {w:World} {ca:List Value} {x:yX} (ha:kg.rd w ca x):Calls Tryz.prog 119 #[.agg ca.toArray] w (yK kg x w):=by
 obtain ⟨ha,hbd⟩:=ha
 obtain ⟨av0,av1,av2,rfl,a_0,a_1,a_2,a_3,a_4,a_5,a_6⟩:=jS ha
 obtain ⟨x0,x1,x2,x3,x4⟩:=x
 have r0:kZ.rd w _ x0:=⟨a_0,hbd.1⟩
 have r1:(Rep.slice 5 Rep.byte).rd w _ x1:=⟨a_2,hbd.2.1⟩
 have r2:kZ.rd w _ x2:=⟨a_3,hbd.2.2.1⟩
 have N3:=yD a_5
 have N4:=yD a_6
 clear ha hbd a_0 a_1 a_2 a_3 a_4 a_5 a_6
 go_enter Tryz.func119,Tryz.ntmps119
 go_wp2_with fail
 refine (kEi (((r0.alloc _).alloc _).alloc _)).mono ?_
 rintro e w1 ⟨cs1,rfl,O1,hb1⟩
 obtain ⟨t1v0,rfl,t1_0⟩:=kR O1.raw
 obtain ⟨t1a0,t1p0,rfl,t1l0⟩:=Rep.sl t1_0
 clear t1_0
 have L1:w.heap.size + 3≤w1.heap.size:=gU
 have HO1:=yD (Rep.own.wide (T:=Btw (w.heap.size + 3) w1.heap.size) O1 dW);clear O1
 have E1:Below w.heap.size w w1:=(((bR.alloc nL _).alloc rM _).alloc rC _).trans (hb1.mono rC)
 have HE1:=yD E1;clear E1
 have g1_0:w.heap.size < w1.heap.size:=rJ
 have g1_1:w.heap.size + 1 < w1.heap.size:=rJ
 have g1_2:w.heap.size + 1 + 1 < w1.heap.size:=rJ
 obtain ⟨hc1,hf1⟩:=jh hb1
 clear hb1
 go_wp2_with fail
 refine (toByteS_c (r1.below bT)).mono ?_
 rintro e w2 ⟨v2,rfl,O2,hb2⟩
 obtain ⟨ta2,tp2,rfl,_⟩:=Rep.sl O2.raw
 have L2:w1.heap.size≤w2.heap.size:=gW
 have HO2:=yD (Rep.own.wide (T:=Btw (w1.heap.size) w2.heap.size) O2 dW);clear O2
 have E2:Below w.heap.size w w2:=Below.trans bT (hb2.mono rC)
 have HE2:=yD E2;clear E2
 have HP1_2:=yD ((HO1.out).out (w':=w2) bL);clear HO1
 have g2_0:w.heap.size < w2.heap.size:=rJ
 have g2_1:w.heap.size + 1 < w2.heap.size:=rJ
 have g2_2:w.heap.size + 1 + 1 < w2.heap.size:=rJ
 obtain ⟨hc2,hf2⟩:=jh hb2
 clear hb2
 go_wp2_with fail
 refine (kEi (r2.below bU)).mono ?_
 rintro e w3 ⟨cs3,rfl,O3,hb3⟩
 obtain ⟨t3v0,rfl,t3_0⟩:=kR O3.raw
 obtain ⟨t3a0,t3p0,rfl,t3l0⟩:=Rep.sl t3_0
 clear t3_0
 have L3:w2.heap.size≤w3.heap.size:=by have h:=hb3.size;simp at h;omega
 have HO3:=yD (Rep.own.wide (T:=Btw (w2.heap.size) w3.heap.size) O3 dW);clear O3
 have E3:Below w.heap.size w w3:=Below.trans bU (hb3.mono rC)
 have HE3:=yD E3;clear E3
 have HP1_3:=yD ((HP1_2.out).out (w':=w3) bJ);clear HP1_2
 have HP2_3:=yD ((HO2.out).out (w':=w3) bJ);clear HO2
 have g3_0:w.heap.size < w3.heap.size:=rJ
 have g3_1:w.heap.size + 1 < w3.heap.size:=rJ
 have g3_2:w.heap.size + 1 + 1 < w3.heap.size:=rJ
 obtain ⟨hc3,hf3⟩:=jh hb3
 clear hb3
 go_wp2
 refine bodyPost_ret (v:=.agg #[.slice t1a0 x0.length t1p0,.slice ta2 x1.length tp2,.slice t3a0 x2.length t3p0,.int .i64 x3,.int .i64 x4]) (by simp [results,Tryz.results119,go_sem,hc1,g1_0,g1_1,g1_2,hc2,g2_0,g2_1,g2_2,hc3,g3_0,g3_1,g3_2]) rfl ⟨[_,_,_,_,_],rfl,?_,?_⟩
 · refine Rep.own.wide (S:=Btw (w.heap.size + 3) (w3.heap.size)) ?_ cK
   exact Rep.jZ (r:=kZ) (q:=(Rep.pair (Rep.slice 5 Rep.byte) (Rep.pair kZ (Rep.pair Rep.int Rep.int)))) (cs:=[.slice t1a0 x0.length t1p0]) (ds:=[.slice ta2 x1.length tp2,.slice t3a0 x2.length t3p0,.int .i64 x3,.int .i64 x4]) (x:=x0) (y:=(x1,x2,x3,x4)) (S:=Btw (w.heap.size + 3) (w3.heap.size)) (Rep.own.out HP1_3.out cB) (Rep.jZ (r:=(Rep.slice 5 Rep.byte)) (q:=(Rep.pair kZ (Rep.pair Rep.int Rep.int))) (cs:=[.slice ta2 x1.length tp2]) (ds:=[.slice t3a0 x2.length t3p0,.int .i64 x3,.int .i64 x4]) (x:=x1) (y:=(x2,x3,x4)) (S:=Btw (w1.heap.size) (w3.heap.size)) (Rep.own.out HP2_3.out cB) (Rep.jv (r:=kZ) (q:=(Rep.pair Rep.int Rep.int)) (cs:=[.slice t3a0 x2.length t3p0]) (ds:=[.int .i64 x3,.int .i64 x4]) (x:=x2) (y:=(x3,x4)) (Rep.own.out HO3.out cB) (Rep.jY (r:=Rep.int) (q:=Rep.int) (cs:=[.int .i64 x3]) (ds:=[.int .i64 x4]) (x:=x3) (y:=x4) (Rep.kr N3.out) (Rep.kr N4.out))) gP gQ dX) gP gQ dX
 repeat (first|(with_reducible exact HE3.out) | refine Below.setCell ?_ qI _)
theorem infoData:(Tryz.prog.info? 113).map (fun i=>(i.zero,i.size,i.bytes))=some (some (.agg #[.slice none 0 0,.slice none 0 0,.slice none 0 0,.int .i64 0,.int .i64 0]),5,88):=by kernel_rfl
theorem toDataS_c {w:World} {va:Value} {x:List yX} (ha:(Rep.slice 113 kg).rd w [va] x):Calls Tryz.prog 35 #[va] w (yf (Rep.slice 113 kg) x w):=by
 obtain ⟨aa,capa,rfl,la⟩:=Rep.sl ha.1
 have lb:x.length≤16777216:=ha.2.1
 obtain ⟨i0,hi,hz0,hz1,hz2⟩:=info_parts infoData
 have hmk:∀ W:World,(Instr.makeSlice 33 (.int .i64 (x.length:Int)) (.int .i64 (x.length:Int))).run Tryz.prog W=.ok (.slice (some ⟨W.heap.size,0,none⟩) x.length x.length) (W.alloc (.cells (madeCells #[.slice none 0 0,.slice none 0 0,.slice none 0 0,.int .i64 0,.int .i64 0] (x.length * 5)) 113)):=by
  intro W
  have h:=run_make (P:=Tryz.prog) W 33 113 i0 _ rA hi hz0 .i64 .i64 (x.length:Int) (x.length:Int) rJ rJ qM rJ
  rw [hz1] at h
  simpa [Value.cells] using h
 clear hz0 hz1 hz2 hi
 go_enter Tryz.func35,Tryz.ntmps35
 go_wp2;clear hmk
 have h0:=Rep.kBq (e:=113) (w:=w) (r:=kg) (zs:=#[.slice none 0 0,.slice none 0 0,.slice none 0 0,.int .i64 0,.int .i64 0]) (n:=x.length) (S:=Btw w.heap.size (w.heap.size + 1)) rfl rfl rG pJ ⟨Nat.le_refl _,by omega⟩
 have h1:(Rep.slice 113 kg).own (w.alloc (.cells (madeCells #[.slice none 0 0,.slice none 0 0,.slice none 0 0,.int .i64 0,.int .i64 0] (x.length * 5)) 113)) _ _ _:=h0.own qA
 clear h0
 go_loopw [4] (fun i wr=>∃ k:Nat,k≤x.length∧i=.int .i64 k∧(Rep.slice 113 kg).own wr [.slice (some ⟨w.heap.size,0,none⟩) x.length x.length] (x.take k++List.replicate (x.length - k) kg.zero) (Btw w.heap.size wr.heap.size)∧Below w.heap.size w wr∧w.heap.size < wr.heap.size) (fun i _=>x.length - (intOf i).toNat)
 case atStart=>exact ⟨0,Nat.zero_le _,rfl,by simpa using h1,bR.alloc nL _,by simp⟩
 obtain ⟨k,hk,rfl,hout,hbel,hgt⟩:=hrel
 by_cases hlt:k < x.length
 · obtain ⟨ba,offa,rfl,c0,c1,c2,c3,c4,hr,A0,A1,A2,A3,A4⟩:=Rep.get5 (ha.1.below hbel) hlt rfl
   have hlen:(x.take k++List.replicate (x.length - k) kg.zero).length=x.length:=Rep.kAd hk
   have hrd:kg.rd wr [c0,c1,c2,c3,c4] x[k]:=⟨hr,Rep.jq ha hlt⟩
   clear hr
   go_wp2_with fail
   refine (toData_c hrd).mono ?_
   rintro e w2 ⟨cs,rfl,hown,hb2⟩
   obtain ⟨tv0,tv1,tv2,rfl,t_0,t_1,t_2,t_3,t_4,t_5,t_6⟩:=jS hown.raw
   obtain ⟨ta0,tp0,rfl,tl0⟩:=Rep.sl t_1
   obtain ⟨ta1,tp1,rfl,tl1⟩:=Rep.sl t_2
   obtain ⟨ta2,tp2,rfl,tl2⟩:=Rep.sl t_4
   clear t_0 t_1 t_2 t_3 t_4 t_5 t_6
   have hout2:=hout.below hb2
   obtain ⟨o0,o1,o2,o3,o4,hro,O0,O1,O2,O3,O4⟩:=Rep.at5 hout2.raw (i:=k) rJ rfl
   have hfz:=Rep.zw hout2 rJ
   have Z0:=hfz (k * 5)
   have Z1:=hfz (k * 5 + 1)
   have Z2:=hfz (k * 5 + 2)
   have Z3:=hfz (k * 5 + 3)
   have Z4:=hfz (k * 5 + 4)
   obtain ⟨hs,ht⟩:=Rep.kDy hout2 (i:=k) (p:=k * 5) rJ hown dR (show k * 5=0 + k * 5 by omega)
   rw [Rep.kCv hlt] at hs
   have hsz:=hb2.size
   have hbel2:=(tQ hbel hb2)
   have HS:=yD hs;have HT:=yD ht;clear hs ht hout hout2 hro hlen hrd hfz hown hb2
   go_wp2
   go_roundw
   case rel=>exact ⟨k + 1,by omega,by go_num,HS.out.wide bC,(((((hbel2.setCell nL _).setCell nL _).setCell nL _).setCell nL _).setCell nL _),by simp [World.setCell];omega⟩
   simp [intOf];omega
 rw [Rep.kCw hk hlt] at hout
 have HO:=yD hout;clear hout
 go_wp2
 go_ret
 exact ⟨_,rfl,HO.out,hbel⟩
theorem kQt {w:World} {ca:List Value} {x:jJ} (ha:kK.rd w ca x):Calls Tryz.prog 189 #[.agg ca.toArray] w (yK kK x w):=by
 obtain ⟨ha,hbd⟩:=ha
 obtain ⟨av0,av1,av2,rfl,a_0,a_1,a_2,a_3,a_4,a_5,a_6,a_7,a_8⟩:=jW ha
 obtain ⟨x0,x1⟩:=x
 have r0:kg.rd w _ x0:=⟨a_0,hbd.1⟩
 have N1:=yD a_8
 clear ha hbd a_0 a_1 a_2 a_3 a_4 a_5 a_6 a_7 a_8
 go_enter Tryz.func189,Tryz.ntmps189
 go_wp2_with fail
 refine (toData_c (((r0.alloc _).alloc _).alloc _)).mono ?_
 rintro e w1 ⟨cs1,rfl,O1,hb1⟩
 obtain ⟨t1v0,t1v1,t1v2,rfl,t1_0,t1_1,t1_2,t1_3,t1_4,t1_5,t1_6⟩:=jS O1.raw
 obtain ⟨t1a0,t1p0,rfl,t1l0⟩:=Rep.sl t1_1
 obtain ⟨t1a1,t1p1,rfl,t1l1⟩:=Rep.sl t1_2
 obtain ⟨t1a2,t1p2,rfl,t1l2⟩:=Rep.sl t1_4
 clear t1_0 t1_1 t1_2 t1_3 t1_4 t1_5 t1_6
 have L1:w.heap.size + 3≤w1.heap.size:=gU
 have HO1:=yD (Rep.own.wide (T:=Btw (w.heap.size + 3) w1.heap.size) O1 dW);clear O1
 have E1:Below w.heap.size w w1:=(((bR.alloc nL _).alloc rM _).alloc rC _).trans (hb1.mono rC)
 have HE1:=yD E1;clear E1
 have g1_0:w.heap.size < w1.heap.size:=rJ
 have g1_1:w.heap.size + 1 < w1.heap.size:=rJ
 have g1_2:w.heap.size + 1 + 1 < w1.heap.size:=rJ
 obtain ⟨hc1,hf1⟩:=jh hb1
 clear hb1
 go_wp2
 refine bodyPost_ret (v:=.agg #[.slice t1a0 x0.1.length t1p0,.slice t1a1 x0.2.1.length t1p1,.slice t1a2 x0.2.2.1.length t1p2,.int .i64 x0.2.2.2.1,.int .i64 x0.2.2.2.2,.int .i64 x1]) (by simp [results,Tryz.results189,go_sem,hc1,g1_0,g1_1,g1_2]) rfl ⟨[_,_,_,_,_,_],rfl,?_,?_⟩
 · refine Rep.own.wide (S:=Btw (w.heap.size + 3) (w1.heap.size)) ?_ cK
   exact Rep.jv (r:=kg) (q:=Rep.int) (cs:=[.slice t1a0 x0.1.length t1p0,.slice t1a1 x0.2.1.length t1p1,.slice t1a2 x0.2.2.1.length t1p2,.int .i64 x0.2.2.2.1,.int .i64 x0.2.2.2.2]) (ds:=[.int .i64 x1]) (x:=x0) (y:=x1) (Rep.own.out HO1.out cB) (Rep.kr N1.out)
 repeat (first|(with_reducible exact HE1.out) | refine Below.setCell ?_ qI _)
theorem kSc:(Tryz.prog.info? 169).map (fun i=>(i.zero,i.size,i.bytes))=some (some (.agg #[.slice none 0 0,.slice none 0 0,.slice none 0 0,.int .i64 0,.int .i64 0,.int .i64 0]),6,96):=by kernel_rfl
theorem kPb {w:World} {va:Value} {x:List jJ} (ha:(Rep.slice 169 kK).rd w [va] x):Calls Tryz.prog 120 #[va] w (yf (Rep.slice 169 kK) x w):=by
 obtain ⟨aa,capa,rfl,la⟩:=Rep.sl ha.1
 have lb:x.length≤16777216:=ha.2.1
 obtain ⟨i0,hi,hz0,hz1,hz2⟩:=info_parts kSc
 have hmk:∀ W:World,(Instr.makeSlice 34 (.int .i64 (x.length:Int)) (.int .i64 (x.length:Int))).run Tryz.prog W=.ok (.slice (some ⟨W.heap.size,0,none⟩) x.length x.length) (W.alloc (.cells (madeCells #[.slice none 0 0,.slice none 0 0,.slice none 0 0,.int .i64 0,.int .i64 0,.int .i64 0] (x.length * 6)) 169)):=by
  intro W
  have h:=run_make (P:=Tryz.prog) W 34 169 i0 _ rA hi hz0 .i64 .i64 (x.length:Int) (x.length:Int) rJ rJ qM rJ
  rw [hz1] at h
  simpa [Value.cells] using h
 clear hz0 hz1 hz2 hi
 go_enter Tryz.func120,Tryz.ntmps120
 go_wp2;clear hmk
 have h0:=Rep.kBq (e:=169) (w:=w) (r:=kK) (zs:=#[.slice none 0 0,.slice none 0 0,.slice none 0 0,.int .i64 0,.int .i64 0,.int .i64 0]) (n:=x.length) (S:=Btw w.heap.size (w.heap.size + 1)) rfl rfl rG pJ ⟨Nat.le_refl _,by omega⟩
 have h1:(Rep.slice 169 kK).own (w.alloc (.cells (madeCells #[.slice none 0 0,.slice none 0 0,.slice none 0 0,.int .i64 0,.int .i64 0,.int .i64 0] (x.length * 6)) 169)) _ _ _:=h0.own qA
 clear h0
 go_loopw [4] (fun i wr=>∃ k:Nat,k≤x.length∧i=.int .i64 k∧(Rep.slice 169 kK).own wr [.slice (some ⟨w.heap.size,0,none⟩) x.length x.length] (x.take k++List.replicate (x.length - k) kK.zero) (Btw w.heap.size wr.heap.size)∧Below w.heap.size w wr∧w.heap.size < wr.heap.size) (fun i _=>x.length - (intOf i).toNat)
 case atStart=>exact ⟨0,Nat.zero_le _,rfl,by simpa using h1,bR.alloc nL _,by simp⟩
 obtain ⟨k,hk,rfl,hout,hbel,hgt⟩:=hrel
 by_cases hlt:k < x.length
 · obtain ⟨ba,offa,rfl,c0,c1,c2,c3,c4,c5,hr,A0,A1,A2,A3,A4,A5⟩:=Rep.get6 (ha.1.below hbel) hlt rfl
   have hlen:(x.take k++List.replicate (x.length - k) kK.zero).length=x.length:=Rep.kAd hk
   have hrd:kK.rd wr [c0,c1,c2,c3,c4,c5] x[k]:=⟨hr,Rep.jq ha hlt⟩
   clear hr
   go_wp2_with fail
   refine (kQt hrd).mono ?_
   rintro e w2 ⟨cs,rfl,hown,hb2⟩
   obtain ⟨tv0,tv1,tv2,rfl,t_0,t_1,t_2,t_3,t_4,t_5,t_6,t_7,t_8⟩:=jW hown.raw
   obtain ⟨ta0,tp0,rfl,tl0⟩:=Rep.sl t_2
   obtain ⟨ta1,tp1,rfl,tl1⟩:=Rep.sl t_3
   obtain ⟨ta2,tp2,rfl,tl2⟩:=Rep.sl t_5
   clear t_0 t_1 t_2 t_3 t_4 t_5 t_6 t_7 t_8
   have hout2:=hout.below hb2
   obtain ⟨o0,o1,o2,o3,o4,o5,hro,O0,O1,O2,O3,O4,O5⟩:=Rep.at6 hout2.raw (i:=k) rJ rfl
   have hfz:=Rep.zw hout2 rJ
   have Z0:=hfz (k * 6)
   have Z1:=hfz (k * 6 + 1)
   have Z2:=hfz (k * 6 + 2)
   have Z3:=hfz (k * 6 + 3)
   have Z4:=hfz (k * 6 + 4)
   have Z5:=hfz (k * 6 + 5)
   obtain ⟨hs,ht⟩:=Rep.kDy hout2 (i:=k) (p:=k * 6) rJ hown dR (show k * 6=0 + k * 6 by omega)
   rw [Rep.kCv hlt] at hs
   have hsz:=hb2.size
   have hbel2:=(tQ hbel hb2)
   have HS:=yD hs;have HT:=yD ht;clear hs ht hout hout2 hro hlen hrd hfz hown hb2
   go_wp2
   go_roundw
   case rel=>exact ⟨k + 1,by omega,by go_num,HS.out.wide bC,((((((hbel2.setCell nL _).setCell nL _).setCell nL _).setCell nL _).setCell nL _).setCell nL _),by simp [World.setCell];omega⟩
   simp [intOf];omega
 rw [Rep.kCw hk hlt] at hout
 have HO:=yD hout;clear hout
 go_wp2
 go_ret
 exact ⟨_,rfl,HO.out,hbel⟩
theorem kNd {w:World} {ca:List Value} {x:jH} (ha:kH.rd w ca x):Calls Tryz.prog 36 #[.agg ca.toArray] w (yK kH x w):=by
 obtain ⟨ha,hbd⟩:=ha
 obtain ⟨av1,rfl,a_0,a_1⟩:=jG ha
 obtain ⟨x0,x1⟩:=x
 have N0:=yD a_0
 have r1:(Rep.slice 169 kK).rd w _ x1:=⟨a_1,hbd.2⟩
 clear ha hbd a_0 a_1
 go_enter Tryz.func36,Tryz.ntmps36
 go_wp2_with fail
 refine (kPb (((r1.alloc _).alloc _).alloc _)).mono ?_
 rintro e w1 ⟨v1,rfl,O1,hb1⟩
 obtain ⟨ta1,tp1,rfl,_⟩:=Rep.sl O1.raw
 have L1:w.heap.size + 3≤w1.heap.size:=gU
 have HO1:=yD (Rep.own.wide (T:=Btw (w.heap.size + 3) w1.heap.size) O1 dW);clear O1
 have E1:Below w.heap.size w w1:=(((bR.alloc nL _).alloc rM _).alloc rC _).trans (hb1.mono rC)
 have HE1:=yD E1;clear E1
 have g1_0:w.heap.size < w1.heap.size:=rJ
 have g1_1:w.heap.size + 1 < w1.heap.size:=rJ
 have g1_2:w.heap.size + 1 + 1 < w1.heap.size:=rJ
 obtain ⟨hc1,hf1⟩:=jh hb1
 clear hb1
 go_wp2
 refine bodyPost_ret (v:=.agg #[.int .i64 x0,.slice ta1 x1.length tp1]) (by simp [results,Tryz.results36,go_sem,hc1,g1_0,g1_1,g1_2]) rfl ⟨[_,_],rfl,?_,?_⟩
 · refine Rep.own.wide (S:=Btw (w.heap.size + 3) (w1.heap.size)) ?_ cK
   exact Rep.kCu (r:=Rep.int) (q:=(Rep.slice 169 kK)) (cs:=[.int .i64 x0]) (ds:=[.slice ta1 x1.length tp1]) (x:=x0) (y:=x1) (Rep.kr N0.out) (Rep.own.out HO1.out cB)
 repeat (first|(with_reducible exact HE1.out) | refine Below.setCell ?_ qI _)
theorem kFn {w:World} {ca:List Value} {x:yZ} (ha:jM.rd w ca x):Calls Tryz.prog 7 #[.agg ca.toArray] w (yK jM x w):=by
 obtain ⟨ha,hbd⟩:=ha
 obtain ⟨av0,av2,av3,av4,av5,av6,rfl,a_0,a_1,a_2,a_3,a_4,a_5,a_6,a_7,a_8⟩:=jm ha
 obtain ⟨x0,x1,x2,x3,x4,x5,x6⟩:=x
 have r0:(Rep.slice 113 kg).rd w _ x0:=⟨a_0,hbd.1⟩
 have r1:kH.rd w _ x1:=⟨a_1,hbd.2.1⟩
 have r2:(Rep.slice 77 kD).rd w _ x2:=⟨a_4,hbd.2.2.1⟩
 have r3:(Rep.slice 157 kI).rd w _ x3:=⟨a_5,hbd.2.2.2.1⟩
 have r4:(Rep.slice 159 kM).rd w _ x4:=⟨a_6,hbd.2.2.2.2.1⟩
 have r5:(Rep.slice 166 kG).rd w _ x5:=⟨a_7,hbd.2.2.2.2.2.1⟩
 have N6:=yD a_8
 clear ha hbd a_0 a_1 a_2 a_3 a_4 a_5 a_6 a_7 a_8
 go_enter Tryz.func7,Tryz.ntmps7
 go_wp2_with fail
 refine (toDataS_c (((r0.alloc _).alloc _).alloc _)).mono ?_
 rintro e w1 ⟨v1,rfl,O1,hb1⟩
 obtain ⟨ta1,tp1,rfl,_⟩:=Rep.sl O1.raw
 have L1:w.heap.size + 3≤w1.heap.size:=gU
 have HO1:=yD (Rep.own.wide (T:=Btw (w.heap.size + 3) w1.heap.size) O1 dW);clear O1
 have E1:Below w.heap.size w w1:=(((bR.alloc nL _).alloc rM _).alloc rC _).trans (hb1.mono rC)
 have HE1:=yD E1;clear E1
 have g1_0:w.heap.size < w1.heap.size:=rJ
 have g1_1:w.heap.size + 1 < w1.heap.size:=rJ
 have g1_2:w.heap.size + 1 + 1 < w1.heap.size:=rJ
 obtain ⟨hc1,hf1⟩:=jh hb1
 clear hb1
 go_wp2_with fail
 refine (kNd (r1.below bT)).mono ?_
 rintro e w2 ⟨cs2,rfl,O2,hb2⟩
 obtain ⟨t2v1,rfl,t2_0,t2_1⟩:=jG O2.raw
 obtain ⟨t2a1,t2p1,rfl,t2l1⟩:=Rep.sl t2_1
 clear t2_0 t2_1
 have L2:w1.heap.size≤w2.heap.size:=gW
 have HO2:=yD (Rep.own.wide (T:=Btw (w1.heap.size) w2.heap.size) O2 dW);clear O2
 have E2:Below w.heap.size w w2:=Below.trans bT (hb2.mono rC)
 have HE2:=yD E2;clear E2
 have HP1_2:=yD ((HO1.out).out (w':=w2) bL);clear HO1
 have g2_0:w.heap.size < w2.heap.size:=rJ
 have g2_1:w.heap.size + 1 < w2.heap.size:=rJ
 have g2_2:w.heap.size + 1 + 1 < w2.heap.size:=rJ
 obtain ⟨hc2,hf2⟩:=jh hb2
 clear hb2
 go_wp2_with fail
 refine (kHl (r2.below bU)).mono ?_
 rintro e w3 ⟨v3,rfl,O3,hb3⟩
 obtain ⟨ta3,tp3,rfl,_⟩:=Rep.sl O3.raw
 have L3:w2.heap.size≤w3.heap.size:=by have h:=hb3.size;simp at h;omega
 have HO3:=yD (Rep.own.wide (T:=Btw (w2.heap.size) w3.heap.size) O3 dW);clear O3
 have E3:Below w.heap.size w w3:=Below.trans bU (hb3.mono rC)
 have HE3:=yD E3;clear E3
 have HP1_3:=yD ((HP1_2.out).out (w':=w3) bJ);clear HP1_2
 have HP2_3:=yD ((HO2.out).out (w':=w3) bJ);clear HO2
 have g3_0:w.heap.size < w3.heap.size:=rJ
 have g3_1:w.heap.size + 1 < w3.heap.size:=rJ
 have g3_2:w.heap.size + 1 + 1 < w3.heap.size:=rJ
 obtain ⟨hc3,hf3⟩:=jh hb3
 clear hb3
 go_wp2_with fail
 refine (kQr (r3.below (by repeat (first|(with_reducible exact HE3.out) | refine Below.setCell ?_ qI _)))).mono ?_
 rintro e w4 ⟨v4,rfl,O4,hb4⟩
 obtain ⟨ta4,tp4,rfl,_⟩:=Rep.sl O4.raw
 have L4:w3.heap.size≤w4.heap.size:=by have h:=hb4.size;simp at h;omega
 have HO4:=yD (Rep.own.wide (T:=Btw (w3.heap.size) w4.heap.size) O4 dW);clear O4
 have E4:Below w.heap.size w w4:=Below.trans (by repeat (first|(with_reducible exact HE3.out) | refine Below.setCell ?_ qI _)) (hb4.mono rC)
 have HE4:=yD E4;clear E4
 have HP1_4:=yD ((HP1_3.out).out (w':=w4) bM);clear HP1_3
 have HP2_4:=yD ((HP2_3.out).out (w':=w4) bM);clear HP2_3
 have HP3_4:=yD ((HO3.out).out (w':=w4) bM);clear HO3
 have g4_0:w.heap.size < w4.heap.size:=rJ
 have g4_1:w.heap.size + 1 < w4.heap.size:=rJ
 have g4_2:w.heap.size + 1 + 1 < w4.heap.size:=rJ
 obtain ⟨hc4,hf4⟩:=jh hb4
 clear hb4
 go_wp2_with fail
 refine (toRouteS_c (r4.below (by repeat (first|(with_reducible exact HE4.out) | refine Below.setCell ?_ qI _)))).mono ?_
 rintro e w5 ⟨v5,rfl,O5,hb5⟩
 obtain ⟨ta5,tp5,rfl,_⟩:=Rep.sl O5.raw
 have L5:w4.heap.size≤w5.heap.size:=by have h:=hb5.size;simp at h;omega
 have HO5:=yD (Rep.own.wide (T:=Btw (w4.heap.size) w5.heap.size) O5 dW);clear O5
 have E5:Below w.heap.size w w5:=Below.trans (by repeat (first|(with_reducible exact HE4.out) | refine Below.setCell ?_ qI _)) (hb5.mono rC)
 have HE5:=yD E5;clear E5
 have HP1_5:=yD ((HP1_4.out).out (w':=w5) bK);clear HP1_4
 have HP2_5:=yD ((HP2_4.out).out (w':=w5) bK);clear HP2_4
 have HP3_5:=yD ((HP3_4.out).out (w':=w5) bK);clear HP3_4
 have HP4_5:=yD ((HO4.out).out (w':=w5) bK);clear HO4
 have g5_0:w.heap.size < w5.heap.size:=rJ
 have g5_1:w.heap.size + 1 < w5.heap.size:=rJ
 have g5_2:w.heap.size + 1 + 1 < w5.heap.size:=rJ
 obtain ⟨hc5,hf5⟩:=jh hb5
 clear hb5
 go_wp2_with fail
 refine (kNc (r5.below (by repeat (first|(with_reducible exact HE5.out) | refine Below.setCell ?_ qI _)))).mono ?_
 rintro e w6 ⟨v6,rfl,O6,hb6⟩
 obtain ⟨ta6,tp6,rfl,_⟩:=Rep.sl O6.raw
 have L6:w5.heap.size≤w6.heap.size:=by have h:=hb6.size;simp at h;omega
 have HO6:=yD (Rep.own.wide (T:=Btw (w5.heap.size) w6.heap.size) O6 dW);clear O6
 have E6:Below w.heap.size w w6:=Below.trans (by repeat (first|(with_reducible exact HE5.out) | refine Below.setCell ?_ qI _)) (hb6.mono rC)
 have HE6:=yD E6;clear E6
 have HP1_6:=yD ((HP1_5.out).out (w':=w6) bI);clear HP1_5
 have HP2_6:=yD ((HP2_5.out).out (w':=w6) bI);clear HP2_5
 have HP3_6:=yD ((HP3_5.out).out (w':=w6) bI);clear HP3_5
 have HP4_6:=yD ((HP4_5.out).out (w':=w6) bI);clear HP4_5
 have HP5_6:=yD ((HO5.out).out (w':=w6) bI);clear HO5
 have g6_0:w.heap.size < w6.heap.size:=rJ
 have g6_1:w.heap.size + 1 < w6.heap.size:=rJ
 have g6_2:w.heap.size + 1 + 1 < w6.heap.size:=rJ
 obtain ⟨hc6,hf6⟩:=jh hb6
 clear hb6
 go_wp2
 refine bodyPost_ret (v:=.agg #[.slice ta1 x0.length tp1,.int .i64 x1.1,.slice t2a1 x1.2.length t2p1,.slice ta3 x2.length tp3,.slice ta4 x3.length tp4,.slice ta5 x4.length tp5,.slice ta6 x5.length tp6,.int .i64 x6]) (by simp [results,Tryz.results7,go_sem,hc1,g1_0,g1_1,g1_2,hc2,g2_0,g2_1,g2_2,hc3,g3_0,g3_1,g3_2,hc4,g4_0,g4_1,g4_2,hc5,g5_0,g5_1,g5_2,hc6,g6_0,g6_1,g6_2]) rfl ⟨[_,_,_,_,_,_,_,_],rfl,?_,?_⟩
 · refine Rep.own.wide (S:=Btw (w.heap.size + 3) (w6.heap.size)) ?_ cK
   exact Rep.jZ (r:=(Rep.slice 113 kg)) (q:=(Rep.pair kH (Rep.pair (Rep.slice 77 kD) (Rep.pair (Rep.slice 157 kI) (Rep.pair (Rep.slice 159 kM) (Rep.pair (Rep.slice 166 kG) Rep.int)))))) (cs:=[.slice ta1 x0.length tp1]) (ds:=[.int .i64 x1.1,.slice t2a1 x1.2.length t2p1,.slice ta3 x2.length tp3,.slice ta4 x3.length tp4,.slice ta5 x4.length tp5,.slice ta6 x5.length tp6,.int .i64 x6]) (x:=x0) (y:=(x1,x2,x3,x4,x5,x6)) (S:=Btw (w.heap.size + 3) (w6.heap.size)) (Rep.own.out HP1_6.out cB) (Rep.jZ (r:=kH) (q:=(Rep.pair (Rep.slice 77 kD) (Rep.pair (Rep.slice 157 kI) (Rep.pair (Rep.slice 159 kM) (Rep.pair (Rep.slice 166 kG) Rep.int))))) (cs:=[.int .i64 x1.1,.slice t2a1 x1.2.length t2p1]) (ds:=[.slice ta3 x2.length tp3,.slice ta4 x3.length tp4,.slice ta5 x4.length tp5,.slice ta6 x5.length tp6,.int .i64 x6]) (x:=x1) (y:=(x2,x3,x4,x5,x6)) (S:=Btw (w1.heap.size) (w6.heap.size)) (Rep.own.out HP2_6.out cB) (Rep.jZ (r:=(Rep.slice 77 kD)) (q:=(Rep.pair (Rep.slice 157 kI) (Rep.pair (Rep.slice 159 kM) (Rep.pair (Rep.slice 166 kG) Rep.int)))) (cs:=[.slice ta3 x2.length tp3]) (ds:=[.slice ta4 x3.length tp4,.slice ta5 x4.length tp5,.slice ta6 x5.length tp6,.int .i64 x6]) (x:=x2) (y:=(x3,x4,x5,x6)) (S:=Btw (w2.heap.size) (w6.heap.size)) (Rep.own.out HP3_6.out cB) (Rep.jZ (r:=(Rep.slice 157 kI)) (q:=(Rep.pair (Rep.slice 159 kM) (Rep.pair (Rep.slice 166 kG) Rep.int))) (cs:=[.slice ta4 x3.length tp4]) (ds:=[.slice ta5 x4.length tp5,.slice ta6 x5.length tp6,.int .i64 x6]) (x:=x3) (y:=(x4,x5,x6)) (S:=Btw (w3.heap.size) (w6.heap.size)) (Rep.own.out HP4_6.out cB) (Rep.jZ (r:=(Rep.slice 159 kM)) (q:=(Rep.pair (Rep.slice 166 kG) Rep.int)) (cs:=[.slice ta5 x4.length tp5]) (ds:=[.slice ta6 x5.length tp6,.int .i64 x6]) (x:=x4) (y:=(x5,x6)) (S:=Btw (w4.heap.size) (w6.heap.size)) (Rep.own.out HP5_6.out cB) (Rep.jv (r:=(Rep.slice 166 kG)) (q:=Rep.int) (cs:=[.slice ta6 x5.length tp6]) (ds:=[.int .i64 x6]) (x:=x5) (y:=x6) (Rep.own.out HO6.out cB) (Rep.kr N6.out)) gP gQ dX) gP gQ dX) gP gQ dX) gP gQ dX) gP gQ dX
 repeat (first|(with_reducible exact HE6.out) | refine Below.setCell ?_ qI _)
end Go.Proofs.YtomdenfcfbkfbaaGreat

/-
  The cursor that the reference draws from.
-/
import Derived.Test.YthpgoddjglnoiaaGreatDoorSoft2
import Derived.Test.YthpgoddjglnoiaaGreatDoorNum
import Derived.Deep.Cut
set_option linter.unusedVariables false
set_option linter.unusedSimpArgs false
set_option linter.unnecessarySimpa false
set_option maxRecDepth 100000
set_option maxHeartbeats 4000000
namespace Go.Proofs.YthpgoddjglnoiaaGreatDoor
open Go.RowKit
theorem and255 (x:Int):0≤bits BinOp.and IntKind.i64 x 255∧bits BinOp.and IntKind.i64 x 255≤255:=by
 unfold bits
 simp only
 rw [IntKind.wrap_i64]
 have h:(BitVec.ofInt IntKind.i64.bits x &&& BitVec.ofInt IntKind.i64.bits 255).toNat≤255:=by
  rw [BitVec.toNat_and];exact Nat.le_trans Nat.and_le_right fU
 omega
def Cur (w0 w:World) (p:Nat):Prop:=Below w0.heap.size w0 w∧w0.heap.size≤p∧∃ (a:Option Addr) (c:Nat) (i h:Int) (code:List UInt8),w.heap[p]?=some (.cells #[.slice a code.length c,.int .i64 i,.int .i64 h] 77 (0,0))∧(Rep.slice 5 Rep.byte).raw w0 [.slice a code.length c] code∧0≤i∧i≤code.length
theorem Cur.below {w0 w w':World} {p:Nat} (h:Cur w0 w p) (b:Below w.heap.size w w'):Cur w0 w' p:=by
 obtain ⟨h1,h2,a,c,i,hh,code,h3,h4⟩:=h
 exact ⟨(tQ h1 b),h2,a,c,i,hh,code,(b.block _ (Array.getElem?_eq_some_iff.1 h3).1).trans h3,h4⟩
theorem Cur.touch {S:Nat→Prop} {w0 w w':World} {p:Nat} (h:Cur w0 w p) (t:Touch S w w') (hp:¬ S p) (h0:∀ k,S k→w0.heap.size≤k):Cur w0 w' p:=by
 obtain ⟨h1,h2,a,c,i,hh,code,h3,h4⟩:=h
 exact ⟨h1.trans (t.below h1.size h0),h2,a,c,i,hh,code,(t.block _ (Array.getElem?_eq_some_iff.1 h3).1 hp).trans h3,h4⟩
theorem Cur.lt {w0 w:World} {p:Nat} (h:Cur w0 w p):w0.heap.size≤p∧p < w.heap.size:=by
 obtain ⟨h1,h2,a,c,i,hh,code,h3,h4⟩:=h
 exact ⟨h2,(Array.getElem?_eq_some_iff.1 h3).1⟩
theorem Cur.size {w0 w:World} {p:Nat} (h:Cur w0 w p):Below w0.heap.size w0 w:=h.1
theorem kHs (w:World) (p j:Nat) (v:Value):Touch (fun k=>k=p) w (w.setCell ⟨p,j,none⟩ v):=Rep.jK [v] w p j
theorem kIu {w0 w:World} {p:Nat} (hc:Cur w0 w p) :
    Calls Tryz.prog 74 #[.pointer (some ⟨p,0,none⟩)] w fun e w'=>∃ x:Int,0≤x∧x≤255∧e=.returned (.int .i64 x)∧Cur w0 w' p∧Touch (fun k=>k=p) w w':=by
 obtain ⟨hb0,hp0,a,c,i,h,code,hh,hraw,hi0,hi1⟩:=hc
 obtain ⟨m,rfl⟩:=Int.eq_ofNat_of_zero_le hi0
 obtain ⟨_,_,_,hcl⟩:=Rep.yj hraw
 have hml:m≤code.length:=fV
 clear hi0 hi1
 have HC:=yD hraw
 have HW:=yD hb0
 have hpl:p < w.heap.size:=(Array.getElem?_eq_some_iff.1 hh).1
 have P0:w.cell? ⟨p,0,none⟩=some (.slice a code.length c):=kT hh rfl
 have P1:w.cell? ⟨p,1,none⟩=some (.int .i64 (m:Int)):=kT hh rfl
 have P2:w.cell? ⟨p,2,none⟩=some (.int .i64 h):=kT hh rfl
 have hfz:∀ j,w.frozen? ⟨p,j,none⟩=false:=fun j=>frozen_of_row w p j _ _ hh
 have Z2:=hfz 2
 have HH:=yD hh
 clear hraw hh hb0 hfz
 go_enter Tryz.func74,Tryz.ntmps74
 go_upto_region 2 with fail
 generalize hH:wrap64 (wrap64 (h * 6364136223846793005) + 1442695040888963407)=H
 generalize hwA:World.setCell w _ _=wA
 have hhA:wA.heap[p]?=some (.cells #[.slice a code.length c,.int .i64 (m:Int),.int .i64 H] 77 (0,0)):=by rw [← hwA];have q:=heap_setCell_same w p 2 _ _ (.int .i64 H) HH.out;simpa using q
 have TA:Touch (fun k=>k=p) w wA:=by rw [← hwA];exact kHs w p 2 _
 clear hwA P0 P1 P2 Z2 hH
 have P0:wA.cell? ⟨p,0,none⟩=some (.slice a code.length c):=kT hhA rfl
 have P1:wA.cell? ⟨p,1,none⟩=some (.int .i64 (m:Int)):=kT hhA rfl
 have P2:wA.cell? ⟨p,2,none⟩=some (.int .i64 H):=kT hhA rfl
 go_upto_region 2 with fail
 refine kI (fun W=>Below wA.heap.size wA W) [true,true,true,true,true,true,true,true,true,true,true,true,true] fP fP bW (bR.drew) ?_
 intro wS1 HS1
 iterate 3
  all_goals first|(refine kJ rfl HS1 ?_)|(refine kW (v:=?_) rfl (fun W hW=>?_) ?_;rotate_left;(· go_simp;try with_reducible rfl))
  all_goals refine wkP ?_
 all_goals first|(refine kJ rfl HS1 ?_)|(refine kW (v:=?_) rfl (fun W hW=>?_) ?_;rotate_left;(· have A_P2:=cL hW P2;clear hW;go_simp;try with_reducible rfl))
 iterate 4
  all_goals refine wkP ?_
  all_goals first|(refine kJ rfl HS1 ?_)|(refine kW (v:=?_) rfl (fun W hW=>?_) ?_;rotate_left;(· go_simp;try with_reducible rfl))
 all_goals refine wkP ?_
 all_goals first|(refine kJ rfl HS1 ?_)|(refine kW (v:=?_) rfl (fun W hW=>?_) ?_;rotate_left;(· have A_P2:=cL hW P2;clear hW;go_simp;try with_reducible rfl))
 iterate 4
  all_goals refine wkP ?_
  all_goals first|(refine kJ rfl HS1 ?_)|(refine kW (v:=?_) rfl (fun W hW=>?_) ?_;rotate_left;(· go_simp;try with_reducible rfl))
 all_goals refine wkP ?_
 all_goals refine kQ ?_
 generalize hX:bits BinOp.and IntKind.i64 _ 255=X
 have hXr:0≤X∧X≤255:=by rw [← hX];exact and255 _
 clear hX
 replace P0:=cL HS1 P0
 replace P1:=cL HS1 P1
 replace P2:=cL HS1 P2
 have hh1:wS1.heap[p]?=_:=(HS1.block p (Array.getElem?_eq_some_iff.1 hhA).1).trans hhA
 have E1:Touch (fun k=>k=p) w wS1:=TA.trans (Touch.of_below HS1)
 clear HS1 hhA TA
 go_upto_region 3 with fail
 refine kI (fun W=>Below wS1.heap.size wS1 W) [true,true,true,true,true,true,true,true,true,true] fP fP bW (bR.drew) ?_
 intro wS2 HS2
 iterate 3
  all_goals first|(refine kJ rfl HS2 ?_)|(refine kW (v:=?_) rfl (fun W hW=>?_) ?_;rotate_left;(· go_simp;try with_reducible rfl))
  all_goals refine wkP ?_
 all_goals first|(refine kJ rfl HS2 ?_)|(refine kW (v:=?_) rfl (fun W hW=>?_) ?_;rotate_left;(· have A_P0:=cL hW P0;have A_P1:=cL hW P1;clear hW;go_simp;try with_reducible rfl))
 iterate 3
  all_goals refine wkP ?_
  all_goals first|(refine kJ rfl HS2 ?_)|(refine kW (v:=?_) rfl (fun W hW=>?_) ?_;rotate_left;(· go_simp;try with_reducible rfl))
 all_goals refine wkP ?_
 all_goals first|(refine kJ rfl HS2 ?_)|(refine kW (v:=?_) rfl (fun W hW=>?_) ?_;rotate_left;(· have A_P0:=cL hW P0;have A_P1:=cL hW P1;clear hW;go_simp;try with_reducible rfl))
 iterate 2
  all_goals refine wkP ?_
  all_goals first|(refine kJ rfl HS2 ?_)|(refine kW (v:=?_) rfl (fun W hW=>?_) ?_;rotate_left;(· go_simp;try with_reducible rfl))
 all_goals refine wkP ?_
 all_goals refine kQ ?_
 replace P0:=cL HS2 P0
 replace P1:=cL HS2 P1
 replace P2:=cL HS2 P2
 have hh2:wS2.heap[p]?=_:=(HS2.block p (Array.getElem?_eq_some_iff.1 hh1).1).trans hh1
 have E2:Touch (fun k=>k=p) w wS2:=E1.trans (Touch.of_below HS2)
 clear HS2 hh1 E1
 have EB:=HW.out.trans (E2.below HW.out.size (fun k hk=>by rw [hk];exact hp0))
 by_cases hlt:m < code.length
 · have hlI:(m:Int) < code.length:=fV
   have hmI:(0:Int)≤m:=fV
   obtain ⟨cb,co,rfl,c0,cr,AC0⟩:=Rep.kAd (HC.out) hlt rfl
   have AC:=cL EB AC0
   have cr2:[c0]=[.int .u8 (code[m].toNat:Int)]:=cr
   obtain rfl:c0=.int .u8 (code[m].toNat:Int):=by simpa using cr2
   clear cr cr2
   generalize code[m]=by0 at *
   go_upto_region 4 with fail
   refine kI (fun W=>Below wS2.heap.size wS2 W) [true,true,true,true,true,true,true,true,true,true,true,true,true,true,true] fP fP bW (bR.drew) ?_
   intro wS3 HS3
   iterate 4
    all_goals first|(refine kJ rfl HS3 ?_)|(refine kW (v:=?_) rfl (fun W hW=>?_) ?_;rotate_left;(· go_simp;try with_reducible rfl))
    all_goals refine wkP ?_
   all_goals first|(refine kJ rfl HS3 ?_)|(refine kW (v:=?_) rfl (fun W hW=>?_) ?_;rotate_left;(· have A_P0:=cL hW P0;have A_P1:=cL hW P1;have A_AC:=cL hW AC;clear hW;go_simp;try with_reducible rfl))
   iterate 3
    all_goals refine wkP ?_
    all_goals first|(refine kJ rfl HS3 ?_)|(refine kW (v:=?_) rfl (fun W hW=>?_) ?_;rotate_left;(· go_simp;try with_reducible rfl))
   iterate 2
    all_goals refine wkP ?_
    all_goals first|(refine kJ rfl HS3 ?_)|(refine kW (v:=?_) rfl (fun W hW=>?_) ?_;rotate_left;(· have A_P0:=cL hW P0;have A_P1:=cL hW P1;have A_AC:=cL hW AC;clear hW;go_simp;try with_reducible rfl))
    all_goals refine wkP ?_
    all_goals first|(refine kJ rfl HS3 ?_)|(refine kW (v:=?_) rfl (fun W hW=>?_) ?_;rotate_left;(· go_simp;try with_reducible rfl))
   iterate 3
    all_goals refine wkP ?_
    all_goals first|(refine kJ rfl HS3 ?_)|(refine kW (v:=?_) rfl (fun W hW=>?_) ?_;rotate_left;(· go_simp;try with_reducible rfl))
   all_goals refine wkP ?_
   all_goals refine kQ ?_
   generalize hY:bits BinOp.and IntKind.i64 _ 255=Y
   have hYr:0≤Y∧Y≤255:=by rw [← hY];exact and255 _
   clear hY
   replace P0:=cL HS3 P0
   replace P1:=cL HS3 P1
   replace P2:=cL HS3 P2
   have hh3:wS3.heap[p]?=_:=(HS3.block p (Array.getElem?_eq_some_iff.1 hh2).1).trans hh2
   have E3:Touch (fun k=>k=p) w wS3:=E2.trans (Touch.of_below HS3)
   have Z1:=frozen_of_row wS3 p 1 _ _ hh3
   clear HS3 hh2 E2
   have hw:wrap64 ((m:Int) + 1)=(m:Int) + 1:=by unfold wrap64;omega
   have hw':IntKind.i64.wrap ((m:Int) + 1)=(m:Int) + 1:=by rw [IntKind.wrap_i64];omega
   have hcur:=heap_setCell_same wS3 p 1 _ _ (.int .i64 ((m:Int) + 1)) hh3
   have E4:Touch (fun k=>k=p) w (wS3.setCell ⟨p,1,none⟩ (.int .i64 ((m:Int) + 1))):=E3.trans (kHs _ _ _ _)
   have HCU:Hid (Cur w0 (wS3.setCell ⟨p,1,none⟩ (.int .i64 ((m:Int) + 1))) p):=yD ⟨HW.out.trans (E4.below HW.out.size (fun k hk=>by rw [hk];exact hp0)),hp0,_,c,(m:Int) + 1,H,code,by simpa using hcur,HC.out,by omega,by omega⟩
   have HE:=yD E4
   clear hcur E4 E3 hh3
   go_wp2
   go_ret
   exact ⟨Y,hYr.1,hYr.2,rfl,HCU.out,HE.out⟩
 have hlI:¬ (m:Int) < code.length:=fV
 have HCU:Hid (Cur w0 wS2 p):=yD ⟨EB,hp0,a,c,m,H,code,hh2,HC.out,by omega,by omega⟩
 go_wp2
 go_ret
 exact ⟨X,hXr.1,hXr.2,rfl,HCU.out,E2⟩
theorem yx {w0 w:World} {v:Value} {code:List UInt8} (hl0:(Rep.slice 5 Rep.byte).raw w0 [v] code) (hb0:Below w0.heap.size w0 w) :
    Calls Tryz.prog 28 #[v] w fun e w'=>∃ p,e=.returned (.pointer (some ⟨p,0,none⟩))∧Cur w0 w' p∧w.heap.size≤p∧Below w.heap.size w w':=by
 have hl:=hl0.below hb0
 have H0:=yD hl0
 have HB0:=yD hb0
 clear hl0 hb0
 obtain ⟨a,c,rfl,hcl⟩:=Rep.sl hl
 have HL:=yD hl
 clear hl
 go_enter Tryz.func28,Tryz.ntmps28
 go_wp2
 go_loopw [3,4] (fun h i wr=>∃ (k:Nat) (z:Int),k≤code.length∧i=.int .i64 k∧h=.int .i64 z∧Below w.heap.size w wr) (fun _ i _=>code.length - (intOf i).toNat)
 case atStart=>exact ⟨0,_,Nat.zero_le _,rfl,rfl,bR⟩
 obtain ⟨k,z,hk,rfl,rfl,hbel⟩:=hrel
 have fin:∀ wx,Below w.heap.size w wx→Cur w0 (wx.alloc (.cells #[.slice a code.length c,.int .i64 0,.int .i64 z] 77)) wx.heap.size:=fun wx hx =>
   ⟨(tQ HB0.out hx).alloc (Nat.le_trans HB0.out.size hx.size) _,Nat.le_trans HB0.out.size hx.size,a,c,0,z,code,heap_alloc_new wx _,H0.out,by omega,by omega⟩
 have HFIN:=yD fin;clear fin
 by_cases hlt:k < code.length
 · have hkI:=Int.ofNat_lt.2 hlt
   have hk0:=Int.natCast_nonneg k
   obtain ⟨cb,co,rfl,c0,cr,AC0⟩:=Rep.kAd HL.out hlt rfl
   have AC:=cL hbel AC0
   have cr2:[c0]=[.int .u8 (code[k].toNat:Int)]:=cr
   obtain rfl:c0=.int .u8 (code[k].toNat:Int):=by simpa using cr2
   clear cr cr2
   generalize code[k]=by0 at *
   by_cases h4:(k:Int) < 4000
   · go_wp2
     go_roundw
     case rel=>exact ⟨k + 1,_,by omega,by go_num,rfl,hbel⟩
     simp [intOf];omega
   go_wp2
   go_ret
   exact ⟨_,rfl,HFIN.out _ hbel,hbel.size,hbel.alloc hbel.size _⟩
 have hkn:¬ (k:Int) < code.length:=fV
 go_wp2
 go_ret
 exact ⟨_,rfl,HFIN.out _ hbel,hbel.size,hbel.alloc hbel.size _⟩
theorem kv {w0 w:World} {p:Nat} (hc:Cur w0 w p) {n:Int} (hn:n≤256) :
    Calls Tryz.prog 47 #[.pointer (some ⟨p,0,none⟩),.int .i64 n] w fun e w'=>∃ x:Int,0≤x∧(0 < n→x < n)∧(n≤0→x=0)∧e=.returned (.int .i64 x)∧Cur w0 w' p∧Touch (fun k=>k=p) w w':=by
 by_cases h0:n≤0
 · go_enter Tryz.func47,Tryz.ntmps47
   go_wp2
   go_ret
   exact ⟨0,by omega,by omega,fun _=>rfl,rfl,hc,Touch.of_below bR⟩
 go_enter Tryz.func47,Tryz.ntmps47
 go_wp2_with fail
 refine (kIu hc).mono ?_
 rintro e w1 ⟨x,hx0,hx1,rfl,hc1,ht1⟩
 have hne:¬ n=0:=fV
 have hnn:¬ n < 0:=fV
 go_wp2
 go_ret
 refine ⟨_,?_,?_,fun q=>absurd q fV,rfl,hc1,ht1⟩
 · exact Int.emod_nonneg _ fV
 exact fun q=>Int.emod_lt_of_pos _ q
theorem kDm {w0 w:World} {p:Nat} (hc:Cur w0 w p) {n:Int} (hn:n≤256) :
    Calls Tryz.prog 31 #[.pointer (some ⟨p,0,none⟩),.int .i64 n] w fun e w'=>∃ b:Bool,e=.returned (.bool b)∧Cur w0 w' p∧Touch (fun k=>k=p) w w':=by
 go_enter Tryz.func31,Tryz.ntmps31
 go_wp2_with fail
 refine (kv hc hn).mono ?_
 rintro e w1 ⟨x,hx0,hx1,hx2,rfl,hc1,ht1⟩
 go_wp2
 go_ret
 exact ⟨_,rfl,hc1,ht1⟩
theorem kBr {w0 w:World} {p:Nat} (hc:Cur w0 w p) {v:Value} {xs:List Int} {S:Nat→Prop} (hl:(Rep.slice 3 Rep.int).own w [v] xs S) (hp:¬ S p) (h0:0 < xs.length) (h1:xs.length≤256) :
    Calls Tryz.prog 32 #[.pointer (some ⟨p,0,none⟩),v] w fun e w'=>∃ y,y∈xs∧Rep.int.raw w' [.int .i64 y] y∧e=.returned (.int .i64 y)∧Cur w0 w' p∧Touch (fun k=>k=p) w w':=by
 have HL:=yD hl
 obtain ⟨a,c,rfl,hcl⟩:=Rep.sl hl.raw
 clear hl
 go_enter Tryz.func32,Tryz.ntmps32
 go_wp2_with fail
 refine (kv hc fV).mono ?_
 rintro e w1 ⟨x,hx0,hx1,hx2,rfl,hc1,ht1⟩
 have HL1:=yD (HL.out.keep (fun k hk hl=>ht1.block k hl (fun q=>hp (q ▸ hk))))
 obtain ⟨k,rfl⟩:=Int.eq_ofNat_of_zero_le hx0
 have hkI:=hx1 fV
 have hkl:k < xs.length:=fV
 have hk0:=Int.natCast_nonneg k
 obtain ⟨cb,co,rfl,c0,cr,AC⟩:=Rep.kAd HL1.out.raw hkl rfl
 have hmem:=List.getElem_mem hkl
 generalize xs[k]=y at *
 have HR:=yD cr
 obtain ⟨rr,_⟩:=Rep.kBf cr
 obtain rfl:c0=.int .i64 y:=by simpa using rr
 clear rr cr hx0 hx1 hx2
 go_wp2
 go_ret
 exact ⟨y,hmem,HR.out,rfl,hc1,ht1⟩
theorem zq {w0 w:World} {p:Nat} (hc:Cur w0 w p) {v:Value} {xs:List ByteArray} {S:Nat→Prop} (hl:(Rep.slice 9 Rep.str).own w [v] xs S) (hp:¬ S p) (h0:0 < xs.length) (h1:xs.length≤256) :
    Calls Tryz.prog 67 #[.pointer (some ⟨p,0,none⟩),v] w fun e w'=>∃ y,y∈xs∧Rep.str.raw w' [.string y] y∧e=.returned (.string y)∧Cur w0 w' p∧Touch (fun k=>k=p) w w':=by
 have HL:=yD hl
 obtain ⟨a,c,rfl,hcl⟩:=Rep.sl hl.raw
 clear hl
 go_enter Tryz.func67,Tryz.ntmps67
 go_wp2_with fail
 refine (kv hc fV).mono ?_
 rintro e w1 ⟨x,hx0,hx1,hx2,rfl,hc1,ht1⟩
 have HL1:=yD (HL.out.keep (fun k hk hl=>ht1.block k hl (fun q=>hp (q ▸ hk))))
 obtain ⟨k,rfl⟩:=Int.eq_ofNat_of_zero_le hx0
 have hkI:=hx1 fV
 have hkl:k < xs.length:=fV
 have hk0:=Int.natCast_nonneg k
 obtain ⟨cb,co,rfl,c0,cr,AC⟩:=Rep.kAd HL1.out.raw hkl rfl
 have hmem:=List.getElem_mem hkl
 generalize xs[k]=y at *
 have HR:=yD cr
 obtain ⟨rr,_⟩:=Rep.jv cr
 obtain rfl:c0=.string y:=by simpa using rr
 clear rr cr hx0 hx1 hx2
 go_wp2
 go_ret
 exact ⟨y,hmem,HR.out,rfl,hc1,ht1⟩
end Go.Proofs.YthpgoddjglnoiaaGreatDoor

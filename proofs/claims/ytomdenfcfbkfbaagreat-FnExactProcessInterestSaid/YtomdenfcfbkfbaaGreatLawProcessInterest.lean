/-
  The law FnExactProcessInterest, walked: it returns true, whatever its arguments; then its statement. Printed by genlaw.py.
-/
import Derived.Test.YtomdenfcfbkfbaaGreatSz
import Derived.Test.YtomdenfcfbkfbaaGreatTo
import Derived.Test.YtomdenfcfbkfbaaGreatProcS
import Derived.Test.YtomdenfcfbkfbaaGreatProcM
import Derived.Deep.RegionHeld3
set_option linter.unusedVariables false
set_option linter.unusedSimpArgs false
set_option linter.unnecessarySimpa false
set_option maxRecDepth 100000
set_option maxHeartbeats 4000000
namespace Go.Proofs.YtomdenfcfbkfbaaGreat
open Go.ChangeShapes Go.WideShapes Go.ChangeAt Go.RowKit
theorem kHw {w:World} {c0:List Value} {x0:yZ} (h0:jM.raw w c0 x0) {x1:Int} (h1:-9223372036854775808≤x1∧x1≤9223372036854775807) {c2:List Value} {x2:jF} (h2:kw.raw w c2 x2) {x3:Int} (h3:-9223372036854775808≤x3∧x3≤9223372036854775807) :
    Calls Tryz.prog 4 #[.agg c0.toArray,.int .i64 x1,.agg c2.toArray,.int .i64 x3] w (LawPost w):=by
 obtain ⟨a0v0,a0v2,a0v3,a0v4,a0v5,a0v6,rfl,a0_0,a0_1,a0_2,a0_3,a0_4,a0_5,a0_6,a0_7,a0_8⟩:=jm h0
 clear a0_0 a0_1 a0_2 a0_3 a0_4 a0_5 a0_6 a0_7 a0_8
 have hi1:=yD h1;clear h1
 obtain ⟨a2v0,rfl,a2_0,a2_1,a2_2,a2_3,a2_4⟩:=jA h2
 clear a2_0 a2_1 a2_2 a2_3 a2_4
 have hi3:=yD h3;clear h3
 obtain ⟨Y0_,hYE⟩:∃ y,kFr x0 x1 x2 x3=y:=⟨_,rfl⟩
 have HYE:=yD hYE;clear hYE
 go_enter Tryz.func4,Tryz.ntmps4
 go_wp2_with fail
 refine (szNode_c (h0.below bG) rJ rJ).mono ?_
 rintro e w1 ⟨s1,rfl,p1,q1,g1,hb1⟩
 have G1:=yD g1;clear g1
 have D1:Below w.heap.size w w1:=Below.trans bG (hb1.mono mF)
 have H1:=yD D1
 have L1:=yD (show w.heap.size + 2≤w1.heap.size from by have h:=hb1.size;(try simp at h);omega)
 have X_aX_1:Hid (w1.heap[w.heap.size]?=some (.cells #[a0v0,.int .i64 x0.2.1.1,a0v2,a0v3,a0v4,a0v5,a0v6,.int .i64 x0.2.2.2.2.2.2] 31 (0,0))):=yD ((hb1.block (w.heap.size) mF).trans (jb (kW rM)))
 have X_aW_1:Hid (w1.heap[w.heap.size + 1]?=some (.cells #[a2v0,.int .i64 x2.2.1,.int .i64 x2.2.2.1,.int .i64 x2.2.2.2] 52 (0,0))):=yD ((hb1.block (w.heap.size + 1) mF).trans (kW rM))
 clear D1 hb1
 by_cases m1:s1 < 0
 · go_wp2
   go_ret
   exact ⟨rfl,H1.out⟩
 have z1:0≤s1:=rJ
 have r0:jM.rd w _ x0:=⟨h0,jM.bdd_mono (G1.out z1) rG⟩
 obtain ⟨K_aW_0,K_aW_1,K_aW_2,K_aW_3⟩:=yR X_aW_1.out
 go_wp2_with fail
 refine (kVt (h2.below (by repeat (first|(with_reducible exact H1.out) | refine Below.alloc ?_ (by have:=H1.out.size;simp;try omega) _ | refine Below.drew ?_))) z1 rJ).mono ?_
 rintro e w2 ⟨s2,rfl,p2,q2,g2,hb2⟩
 have G2:=yD g2;clear g2
 have D2:Below w1.heap.size w1 w2:=Below.trans bG (hb2.mono mF)
 have H2:=yD (tQ H1.out D2)
 have L2:=yD (show w1.heap.size + 0≤w2.heap.size from by have h:=hb2.size;(try simp at h);omega)
 have X_aX_2:=yD (kE X_aX_1.out D2);clear X_aX_1
 have X_aW_2:=yD (kE X_aW_1.out D2);clear X_aW_1
 clear D2 K_aW_0 K_aW_1 K_aW_2 K_aW_3 hb2
 by_cases m2:s2 < 0
 · go_wp2
   go_ret
   exact ⟨rfl,H2.out⟩
 have z2:0≤s2:=rJ
 have r2:kw.rd w _ x2:=⟨h2,kw.bdd_mono (G2.out z2) rG⟩
 obtain ⟨K_aX_0,K_aX_1,K_aX_2,K_aX_3,K_aX_4,K_aX_5,K_aX_6,K_aX_7⟩:=kAa X_aX_2.out
 obtain ⟨K_aW_0,K_aW_1,K_aW_2,K_aW_3⟩:=yR X_aW_2.out
 go_wp2_with fail
 apply share (fun b W=>Below w2.heap.size w2 W∧w2.heap.size≤b∧b < W.heap.size∧∃ cs:List Value,W.heap[b]?=some (.cells cs.toArray 56 (0,0))∧yP.own W cs Y0_ (Btw w2.heap.size W.heap.size))
 case walk =>
  intro CONT
  have FX:=yD (fun (W:World) (hW:Below w2.heap.size w2 W)=>cLs12 hW K_aX_0 K_aX_1 K_aX_2 K_aX_3 K_aX_4 K_aX_5 K_aX_6 K_aX_7 K_aW_0 K_aW_1 K_aW_2 K_aW_3)
  refine yj (fun W=>Below w2.heap.size w2 W) rA (bR.drew) ?_
  intro wS HS
  refine kY 0 ?_
  refine wkP ?_
  refine kY 2 ?_
  refine wkP ?_
  refine kY 3 ?_
  refine wkP ?_
  refine kY 5 ?_
  refine wkP ?_
  refine yQ (i:=1) (j:=7) rfl rfl rA rfl rfl (fun K hK=>?_) (fun K hK=>?_)
  · go_simp
    refine (kFn (r0.below (tQ H2.out HS))).mono ?_
    rintro e u3_0 ⟨cs3_0,rfl,O3_0,hc⟩
    obtain ⟨t3_0v0,t3_0v2,t3_0v3,t3_0v4,t3_0v5,t3_0v6,rfl,t3_0_0,t3_0_1,t3_0_2,t3_0_3,t3_0_4,t3_0_5,t3_0_6,t3_0_7,t3_0_8⟩:=jm O3_0.raw
    obtain ⟨t3_0a0,t3_0p0,rfl,_⟩:=Rep.sl t3_0_0
    obtain ⟨t3_0a2,t3_0p2,rfl,_⟩:=Rep.sl t3_0_3
    obtain ⟨t3_0a3,t3_0p3,rfl,_⟩:=Rep.sl t3_0_4
    obtain ⟨t3_0a4,t3_0p4,rfl,_⟩:=Rep.sl t3_0_5
    obtain ⟨t3_0a5,t3_0p5,rfl,_⟩:=Rep.sl t3_0_6
    obtain ⟨t3_0a6,t3_0p6,rfl,_⟩:=Rep.sl t3_0_7
    clear t3_0_0 t3_0_1 t3_0_2 t3_0_3 t3_0_4 t3_0_5 t3_0_6 t3_0_7 t3_0_8
    replace HS:=(tQ HS hc)
    refine hK _ _ HS ?_
    clear hK K hc
    refine wkP ?_
    refine yQ (i:=4) (j:=7) rfl rfl rA rfl rfl (fun K hK=>?_) (fun K hK=>?_)
    · go_simp
      refine (kAc (r2.below (tQ H2.out HS))).mono ?_
      rintro e u3_1 ⟨cs3_1,rfl,O3_1,hc⟩
      obtain ⟨t3_1v0,rfl,t3_1_0,t3_1_1,t3_1_2,t3_1_3,t3_1_4⟩:=jA O3_1.raw
      obtain ⟨t3_1a0,t3_1p0,rfl,_⟩:=Rep.sl t3_1_1
      clear t3_1_0 t3_1_1 t3_1_2 t3_1_3 t3_1_4
      replace O3_0:=O3_0.below hc
      replace HS:=(tQ HS hc)
      refine hK _ _ HS ?_
      clear hK K hc
      refine wkP ?_
      refine yQ (i:=6) (j:=7) rfl rfl rA rfl rfl (fun K hK=>?_) (fun K hK=>?_)
      · go_simp
        refine (zz O3_0.rd hi1.out O3_1.rd hi3.out (G1.out z1)).mono ?_
        rintro e u3 ⟨cs3,rfl,O3,hc⟩
        rw [HYE.out] at O3
        obtain ⟨t3v0,t3v2,t3v3,t3v4,t3v5,t3v6,t3v8,rfl,t3_0,t3_1,t3_2,t3_3,t3_4,t3_5,t3_6,t3_7,t3_8,t3_9,t3_10⟩:=yG O3.raw
        obtain ⟨t3a0,t3p0,rfl,_⟩:=Rep.sl t3_1
        obtain ⟨t3a2,t3p2,rfl,_⟩:=Rep.sl t3_4
        obtain ⟨t3a3,t3p3,rfl,_⟩:=Rep.sl t3_5
        obtain ⟨t3a4,t3p4,rfl,_⟩:=Rep.sl t3_6
        obtain ⟨t3a5,t3p5,rfl,_⟩:=Rep.sl t3_7
        obtain ⟨t3a6,t3p6,rfl,_⟩:=Rep.sl t3_8
        obtain ⟨t3a8,t3p8,rfl,_⟩:=Rep.sl t3_10
        clear t3_0 t3_1 t3_2 t3_3 t3_4 t3_5 t3_6 t3_7 t3_8 t3_9 t3_10
        have hzr:=HS.size
        have hzc:=hc.size
        replace HS:=(tQ HS hc)
        refine hK _ _ HS ?_
        clear hK K hc O3_0 O3_1
        refine wkP ?_
        refine kT (k:=7) rfl rA rfl (fun K hK=>?_)
        go_simp
        generalize hwZ:World.alloc u3 _=wZ
        have hlt_:=HS.size
        have XZ:wZ.heap[u3.heap.size]?=some (.cells #[.slice none 0 0,.int .i64 0,.slice none 0 0,.slice none 0 0,.slice none 0 0,.slice none 0 0,.slice none 0 0,.int .i64 0,.slice none 0 0] 56 (0,0)):=(by rw [← hwZ];exact kW rfl)
        have hbZ:Below u3.heap.size u3 wZ:=(by rw [← hwZ];exact bR.alloc nL _)
        replace O3:=O3.below hbZ
        have hzZ:=hbZ.size
        replace HS:=(tQ HS hbZ)
        clear hwZ hbZ
        refine hK _ _ HS ?_
        clear hK K
        refine wkP ?_
        refine kT (k:=8) rfl rA rfl (fun K hK=>?_)
        obtain ⟨Y0,Y1,Y2,Y3,Y4,Y5,Y6,Y7,Y8⟩:=yH XZ
        obtain ⟨N0,N1,N2,N3,N4,N5,N6,N7,N8⟩:=zg XZ
        go_simp
        obtain ⟨wE,hws⟩:∃ W,W=Rep.setCells wZ (u3.heap.size) 0 [.slice t3a0 (Y0_.1.1).length t3p0,.int .i64 Y0_.1.2.1.1,.slice t3a2 (Y0_.1.2.1.2).length t3p2,.slice t3a3 (Y0_.1.2.2.1).length t3p3,.slice t3a4 (Y0_.1.2.2.2.1).length t3p4,.slice t3a5 (Y0_.1.2.2.2.2.1).length t3p5,.slice t3a6 (Y0_.1.2.2.2.2.2.1).length t3p6,.int .i64 Y0_.1.2.2.2.2.2.2,.slice t3a8 (Y0_.2).length t3p8]:=⟨_,rfl⟩
        change K _ (Rep.setCells _ _ 0 [.slice t3a0 (Y0_.1.1).length t3p0,.int .i64 Y0_.1.2.1.1,.slice t3a2 (Y0_.1.2.1.2).length t3p2,.slice t3a3 (Y0_.1.2.2.1).length t3p3,.slice t3a4 (Y0_.1.2.2.2.1).length t3p4,.slice t3a5 (Y0_.1.2.2.2.2.1).length t3p5,.slice t3a6 (Y0_.1.2.2.2.2.2.1).length t3p6,.int .i64 Y0_.1.2.2.2.2.2.2,.slice t3a8 (Y0_.2).length t3p8])
        rw [← hws]
        have T_:Touch (fun k=>k=u3.heap.size) wZ wE:=(by rw [hws];exact Rep.jg _ _ _ _)
        have XW:wE.heap[u3.heap.size]?=some (.cells #[.slice t3a0 (Y0_.1.1).length t3p0,.int .i64 Y0_.1.2.1.1,.slice t3a2 (Y0_.1.2.1.2).length t3p2,.slice t3a3 (Y0_.1.2.2.1).length t3p3,.slice t3a4 (Y0_.1.2.2.2.1).length t3p4,.slice t3a5 (Y0_.1.2.2.2.2.1).length t3p5,.slice t3a6 (Y0_.1.2.2.2.2.2.1).length t3p6,.int .i64 Y0_.1.2.2.2.2.2.2,.slice t3a8 (Y0_.2).length t3p8] 56 (0,0)):=(by rw [hws];exact Rep.jl [.slice t3a0 (Y0_.1.1).length t3p0,.int .i64 Y0_.1.2.1.1,.slice t3a2 (Y0_.1.2.1.2).length t3p2,.slice t3a3 (Y0_.1.2.2.1).length t3p3,.slice t3a4 (Y0_.1.2.2.2.1).length t3p4,.slice t3a5 (Y0_.1.2.2.2.2.1).length t3p5,.slice t3a6 (Y0_.1.2.2.2.2.2.1).length t3p6,.int .i64 Y0_.1.2.2.2.2.2.2,.slice t3a8 (Y0_.2).length t3p8] [.slice none 0 0,.int .i64 0,.slice none 0 0,.slice none 0 0,.slice none 0 0,.slice none 0 0,.slice none 0 0,.int .i64 0,.slice none 0 0] [] [] wZ (u3.heap.size) 0 XZ rfl rfl)
        have OW:=O3.touch T_ fH
        have hzE:wE.heap.size=wZ.heap.size:=(by rw [hws];exact Rep.setCells_size _ _ _ _)
        replace HS:=HS.trans (T_.below HS.size qD)
        clear hws Y0 N0 Y1 N1 Y2 N2 Y3 N3 Y4 N4 Y5 N5 Y6 N6 Y7 N7 Y8 N8 XZ T_
        refine hK _ _ HS ?_
        clear hK K
        refine wkP ?_
        refine jc rA ?_
        have g3:Value:=.nilIface
        generalize (.agg #[.slice t3a0 (Y0_.1.1).length t3p0,.int .i64 Y0_.1.2.1.1,.slice t3a2 (Y0_.1.2.1.2).length t3p2,.slice t3a3 (Y0_.1.2.2.1).length t3p3,.slice t3a4 (Y0_.1.2.2.2.1).length t3p4,.slice t3a5 (Y0_.1.2.2.2.2.1).length t3p5,.slice t3a6 (Y0_.1.2.2.2.2.2.1).length t3p6,.int .i64 Y0_.1.2.2.2.2.2.2,.slice t3a8 (Y0_.2).length t3p8]:Value)=g4
        generalize (.agg #[.slice t3_0a0 (x0.1).length t3_0p0,.int .i64 x0.2.1.1,.slice t3_0a2 (x0.2.1.2).length t3_0p2,.slice t3_0a3 (x0.2.2.1).length t3_0p3,.slice t3_0a4 (x0.2.2.2.1).length t3_0p4,.slice t3_0a5 (x0.2.2.2.2.1).length t3_0p5,.slice t3_0a6 (x0.2.2.2.2.2.1).length t3_0p6,.int .i64 x0.2.2.2.2.2.2]:Value)=g1
        generalize (.agg #[.slice t3_1a0 (x2.1).length t3_1p0,.int .i64 x2.2.1,.int .i64 x2.2.2.1,.int .i64 x2.2.2.2]:Value)=g2
        have hbl:=(Array.getElem?_eq_some_iff.1 XW).1
        have OE:=Rep.own.wide (T:=Btw w2.heap.size wE.heap.size) OW dM
        clear OW
        generalize u3.heap.size=b at hbl XW hlt_ ⊢
        exact CONT b g1 g2 g3 g4 wE ⟨HS,hlt_,hbl,_,XW,OE⟩
      go_simp
      generalize hwZ:World.alloc u3_1 _=wZ
      have hlt_:=HS.size
      have XZ:wZ.heap[u3_1.heap.size]?=some (.cells #[.slice none 0 0,.int .i64 0,.slice none 0 0,.slice none 0 0,.slice none 0 0,.slice none 0 0,.slice none 0 0,.int .i64 0,.slice none 0 0] 56 (0,0)):=(by rw [← hwZ];exact kW rfl)
      have hbZ:Below u3_1.heap.size u3_1 wZ:=(by rw [← hwZ];exact bR.alloc nL _)
      replace O3_0:=O3_0.below hbZ
      replace O3_1:=O3_1.below hbZ
      have hzZ:=hbZ.size
      replace HS:=(tQ HS hbZ)
      clear hwZ hbZ
      refine hK _ _ HS ?_
      clear hK K
      refine wkP ?_
      refine kT (k:=6) rfl rA rfl (fun K hK=>?_)
      go_simp
      refine (zz O3_0.rd hi1.out O3_1.rd hi3.out (G1.out z1)).mono ?_
      rintro e u3 ⟨cs3,rfl,O3,hc⟩
      rw [HYE.out] at O3
      obtain ⟨t3v0,t3v2,t3v3,t3v4,t3v5,t3v6,t3v8,rfl,t3_0,t3_1,t3_2,t3_3,t3_4,t3_5,t3_6,t3_7,t3_8,t3_9,t3_10⟩:=yG O3.raw
      obtain ⟨t3a0,t3p0,rfl,_⟩:=Rep.sl t3_1
      obtain ⟨t3a2,t3p2,rfl,_⟩:=Rep.sl t3_4
      obtain ⟨t3a3,t3p3,rfl,_⟩:=Rep.sl t3_5
      obtain ⟨t3a4,t3p4,rfl,_⟩:=Rep.sl t3_6
      obtain ⟨t3a5,t3p5,rfl,_⟩:=Rep.sl t3_7
      obtain ⟨t3a6,t3p6,rfl,_⟩:=Rep.sl t3_8
      obtain ⟨t3a8,t3p8,rfl,_⟩:=Rep.sl t3_10
      clear t3_0 t3_1 t3_2 t3_3 t3_4 t3_5 t3_6 t3_7 t3_8 t3_9 t3_10
      have hfl:=(Array.getElem?_eq_some_iff.1 XZ).1
      replace XZ:=kE XZ hc
      have hzr:=HS.size
      have hzc:=hc.size
      replace HS:=(tQ HS hc)
      refine hK _ _ HS ?_
      clear hK K hc O3_0 O3_1
      refine wkP ?_
      refine kT (k:=8) rfl rA rfl (fun K hK=>?_)
      obtain ⟨Y0,Y1,Y2,Y3,Y4,Y5,Y6,Y7,Y8⟩:=yH XZ
      obtain ⟨N0,N1,N2,N3,N4,N5,N6,N7,N8⟩:=zg XZ
      go_simp
      obtain ⟨wE,hws⟩:∃ W,W=Rep.setCells u3 (u3_1.heap.size) 0 [.slice t3a0 (Y0_.1.1).length t3p0,.int .i64 Y0_.1.2.1.1,.slice t3a2 (Y0_.1.2.1.2).length t3p2,.slice t3a3 (Y0_.1.2.2.1).length t3p3,.slice t3a4 (Y0_.1.2.2.2.1).length t3p4,.slice t3a5 (Y0_.1.2.2.2.2.1).length t3p5,.slice t3a6 (Y0_.1.2.2.2.2.2.1).length t3p6,.int .i64 Y0_.1.2.2.2.2.2.2,.slice t3a8 (Y0_.2).length t3p8]:=⟨_,rfl⟩
      change K _ (Rep.setCells _ _ 0 [.slice t3a0 (Y0_.1.1).length t3p0,.int .i64 Y0_.1.2.1.1,.slice t3a2 (Y0_.1.2.1.2).length t3p2,.slice t3a3 (Y0_.1.2.2.1).length t3p3,.slice t3a4 (Y0_.1.2.2.2.1).length t3p4,.slice t3a5 (Y0_.1.2.2.2.2.1).length t3p5,.slice t3a6 (Y0_.1.2.2.2.2.2.1).length t3p6,.int .i64 Y0_.1.2.2.2.2.2.2,.slice t3a8 (Y0_.2).length t3p8])
      rw [← hws]
      have T_:Touch (fun k=>k=u3_1.heap.size) u3 wE:=(by rw [hws];exact Rep.jg _ _ _ _)
      have XW:wE.heap[u3_1.heap.size]?=some (.cells #[.slice t3a0 (Y0_.1.1).length t3p0,.int .i64 Y0_.1.2.1.1,.slice t3a2 (Y0_.1.2.1.2).length t3p2,.slice t3a3 (Y0_.1.2.2.1).length t3p3,.slice t3a4 (Y0_.1.2.2.2.1).length t3p4,.slice t3a5 (Y0_.1.2.2.2.2.1).length t3p5,.slice t3a6 (Y0_.1.2.2.2.2.2.1).length t3p6,.int .i64 Y0_.1.2.2.2.2.2.2,.slice t3a8 (Y0_.2).length t3p8] 56 (0,0)):=(by rw [hws];exact Rep.jl [.slice t3a0 (Y0_.1.1).length t3p0,.int .i64 Y0_.1.2.1.1,.slice t3a2 (Y0_.1.2.1.2).length t3p2,.slice t3a3 (Y0_.1.2.2.1).length t3p3,.slice t3a4 (Y0_.1.2.2.2.1).length t3p4,.slice t3a5 (Y0_.1.2.2.2.2.1).length t3p5,.slice t3a6 (Y0_.1.2.2.2.2.2.1).length t3p6,.int .i64 Y0_.1.2.2.2.2.2.2,.slice t3a8 (Y0_.2).length t3p8] [.slice none 0 0,.int .i64 0,.slice none 0 0,.slice none 0 0,.slice none 0 0,.slice none 0 0,.slice none 0 0,.int .i64 0,.slice none 0 0] [] [] u3 (u3_1.heap.size) 0 XZ rfl rfl)
      have OW:=O3.touch T_ fH
      have hzE:wE.heap.size=u3.heap.size:=(by rw [hws];exact Rep.setCells_size _ _ _ _)
      replace HS:=HS.trans (T_.below HS.size qD)
      clear hws Y0 N0 Y1 N1 Y2 N2 Y3 N3 Y4 N4 Y5 N5 Y6 N6 Y7 N7 Y8 N8 XZ T_
      refine hK _ _ HS ?_
      clear hK K
      refine wkP ?_
      refine jc rA ?_
      have g3:Value:=.nilIface
      generalize (.agg #[.slice t3a0 (Y0_.1.1).length t3p0,.int .i64 Y0_.1.2.1.1,.slice t3a2 (Y0_.1.2.1.2).length t3p2,.slice t3a3 (Y0_.1.2.2.1).length t3p3,.slice t3a4 (Y0_.1.2.2.2.1).length t3p4,.slice t3a5 (Y0_.1.2.2.2.2.1).length t3p5,.slice t3a6 (Y0_.1.2.2.2.2.2.1).length t3p6,.int .i64 Y0_.1.2.2.2.2.2.2,.slice t3a8 (Y0_.2).length t3p8]:Value)=g4
      generalize (.agg #[.slice t3_0a0 (x0.1).length t3_0p0,.int .i64 x0.2.1.1,.slice t3_0a2 (x0.2.1.2).length t3_0p2,.slice t3_0a3 (x0.2.2.1).length t3_0p3,.slice t3_0a4 (x0.2.2.2.1).length t3_0p4,.slice t3_0a5 (x0.2.2.2.2.1).length t3_0p5,.slice t3_0a6 (x0.2.2.2.2.2.1).length t3_0p6,.int .i64 x0.2.2.2.2.2.2]:Value)=g1
      generalize (.agg #[.slice t3_1a0 (x2.1).length t3_1p0,.int .i64 x2.2.1,.int .i64 x2.2.2.1,.int .i64 x2.2.2.2]:Value)=g2
      have hbl:=(Array.getElem?_eq_some_iff.1 XW).1
      have OE:=Rep.own.wide (T:=Btw w2.heap.size wE.heap.size) OW dM
      clear OW
      generalize u3_1.heap.size=b at hbl XW hlt_ ⊢
      exact CONT b g1 g2 g3 g4 wE ⟨HS,hlt_,hbl,_,XW,OE⟩
    go_simp
    generalize hwZ:World.alloc u3_0 _=wZ
    have hlt_:=HS.size
    have XZ:wZ.heap[u3_0.heap.size]?=some (.cells #[.slice none 0 0,.int .i64 0,.slice none 0 0,.slice none 0 0,.slice none 0 0,.slice none 0 0,.slice none 0 0,.int .i64 0,.slice none 0 0] 56 (0,0)):=(by rw [← hwZ];exact kW rfl)
    have hbZ:Below u3_0.heap.size u3_0 wZ:=(by rw [← hwZ];exact bR.alloc nL _)
    replace O3_0:=O3_0.below hbZ
    have hzZ:=hbZ.size
    replace HS:=(tQ HS hbZ)
    clear hwZ hbZ
    refine hK _ _ HS ?_
    clear hK K
    refine wkP ?_
    refine kT (k:=4) rfl rA rfl (fun K hK=>?_)
    go_simp
    refine (kAc (r2.below (tQ H2.out HS))).mono ?_
    rintro e u3_1 ⟨cs3_1,rfl,O3_1,hc⟩
    obtain ⟨t3_1v0,rfl,t3_1_0,t3_1_1,t3_1_2,t3_1_3,t3_1_4⟩:=jA O3_1.raw
    obtain ⟨t3_1a0,t3_1p0,rfl,_⟩:=Rep.sl t3_1_1
    clear t3_1_0 t3_1_1 t3_1_2 t3_1_3 t3_1_4
    replace O3_0:=O3_0.below hc
    replace XZ:=kE XZ hc
    replace HS:=(tQ HS hc)
    refine hK _ _ HS ?_
    clear hK K hc
    refine wkP ?_
    refine kT (k:=6) rfl rA rfl (fun K hK=>?_)
    go_simp
    refine (zz O3_0.rd hi1.out O3_1.rd hi3.out (G1.out z1)).mono ?_
    rintro e u3 ⟨cs3,rfl,O3,hc⟩
    rw [HYE.out] at O3
    obtain ⟨t3v0,t3v2,t3v3,t3v4,t3v5,t3v6,t3v8,rfl,t3_0,t3_1,t3_2,t3_3,t3_4,t3_5,t3_6,t3_7,t3_8,t3_9,t3_10⟩:=yG O3.raw
    obtain ⟨t3a0,t3p0,rfl,_⟩:=Rep.sl t3_1
    obtain ⟨t3a2,t3p2,rfl,_⟩:=Rep.sl t3_4
    obtain ⟨t3a3,t3p3,rfl,_⟩:=Rep.sl t3_5
    obtain ⟨t3a4,t3p4,rfl,_⟩:=Rep.sl t3_6
    obtain ⟨t3a5,t3p5,rfl,_⟩:=Rep.sl t3_7
    obtain ⟨t3a6,t3p6,rfl,_⟩:=Rep.sl t3_8
    obtain ⟨t3a8,t3p8,rfl,_⟩:=Rep.sl t3_10
    clear t3_0 t3_1 t3_2 t3_3 t3_4 t3_5 t3_6 t3_7 t3_8 t3_9 t3_10
    have hfl:=(Array.getElem?_eq_some_iff.1 XZ).1
    replace XZ:=kE XZ hc
    have hzr:=HS.size
    have hzc:=hc.size
    replace HS:=(tQ HS hc)
    refine hK _ _ HS ?_
    clear hK K hc O3_0 O3_1
    refine wkP ?_
    refine kT (k:=8) rfl rA rfl (fun K hK=>?_)
    obtain ⟨Y0,Y1,Y2,Y3,Y4,Y5,Y6,Y7,Y8⟩:=yH XZ
    obtain ⟨N0,N1,N2,N3,N4,N5,N6,N7,N8⟩:=zg XZ
    go_simp
    obtain ⟨wE,hws⟩:∃ W,W=Rep.setCells u3 (u3_0.heap.size) 0 [.slice t3a0 (Y0_.1.1).length t3p0,.int .i64 Y0_.1.2.1.1,.slice t3a2 (Y0_.1.2.1.2).length t3p2,.slice t3a3 (Y0_.1.2.2.1).length t3p3,.slice t3a4 (Y0_.1.2.2.2.1).length t3p4,.slice t3a5 (Y0_.1.2.2.2.2.1).length t3p5,.slice t3a6 (Y0_.1.2.2.2.2.2.1).length t3p6,.int .i64 Y0_.1.2.2.2.2.2.2,.slice t3a8 (Y0_.2).length t3p8]:=⟨_,rfl⟩
    change K _ (Rep.setCells _ _ 0 [.slice t3a0 (Y0_.1.1).length t3p0,.int .i64 Y0_.1.2.1.1,.slice t3a2 (Y0_.1.2.1.2).length t3p2,.slice t3a3 (Y0_.1.2.2.1).length t3p3,.slice t3a4 (Y0_.1.2.2.2.1).length t3p4,.slice t3a5 (Y0_.1.2.2.2.2.1).length t3p5,.slice t3a6 (Y0_.1.2.2.2.2.2.1).length t3p6,.int .i64 Y0_.1.2.2.2.2.2.2,.slice t3a8 (Y0_.2).length t3p8])
    rw [← hws]
    have T_:Touch (fun k=>k=u3_0.heap.size) u3 wE:=(by rw [hws];exact Rep.jg _ _ _ _)
    have XW:wE.heap[u3_0.heap.size]?=some (.cells #[.slice t3a0 (Y0_.1.1).length t3p0,.int .i64 Y0_.1.2.1.1,.slice t3a2 (Y0_.1.2.1.2).length t3p2,.slice t3a3 (Y0_.1.2.2.1).length t3p3,.slice t3a4 (Y0_.1.2.2.2.1).length t3p4,.slice t3a5 (Y0_.1.2.2.2.2.1).length t3p5,.slice t3a6 (Y0_.1.2.2.2.2.2.1).length t3p6,.int .i64 Y0_.1.2.2.2.2.2.2,.slice t3a8 (Y0_.2).length t3p8] 56 (0,0)):=(by rw [hws];exact Rep.jl [.slice t3a0 (Y0_.1.1).length t3p0,.int .i64 Y0_.1.2.1.1,.slice t3a2 (Y0_.1.2.1.2).length t3p2,.slice t3a3 (Y0_.1.2.2.1).length t3p3,.slice t3a4 (Y0_.1.2.2.2.1).length t3p4,.slice t3a5 (Y0_.1.2.2.2.2.1).length t3p5,.slice t3a6 (Y0_.1.2.2.2.2.2.1).length t3p6,.int .i64 Y0_.1.2.2.2.2.2.2,.slice t3a8 (Y0_.2).length t3p8] [.slice none 0 0,.int .i64 0,.slice none 0 0,.slice none 0 0,.slice none 0 0,.slice none 0 0,.slice none 0 0,.int .i64 0,.slice none 0 0] [] [] u3 (u3_0.heap.size) 0 XZ rfl rfl)
    have OW:=O3.touch T_ fH
    have hzE:wE.heap.size=u3.heap.size:=(by rw [hws];exact Rep.setCells_size _ _ _ _)
    replace HS:=HS.trans (T_.below HS.size qD)
    clear hws Y0 N0 Y1 N1 Y2 N2 Y3 N3 Y4 N4 Y5 N5 Y6 N6 Y7 N7 Y8 N8 XZ T_
    refine hK _ _ HS ?_
    clear hK K
    refine wkP ?_
    refine jc rA ?_
    have g3:Value:=.nilIface
    generalize (.agg #[.slice t3a0 (Y0_.1.1).length t3p0,.int .i64 Y0_.1.2.1.1,.slice t3a2 (Y0_.1.2.1.2).length t3p2,.slice t3a3 (Y0_.1.2.2.1).length t3p3,.slice t3a4 (Y0_.1.2.2.2.1).length t3p4,.slice t3a5 (Y0_.1.2.2.2.2.1).length t3p5,.slice t3a6 (Y0_.1.2.2.2.2.2.1).length t3p6,.int .i64 Y0_.1.2.2.2.2.2.2,.slice t3a8 (Y0_.2).length t3p8]:Value)=g4
    generalize (.agg #[.slice t3_0a0 (x0.1).length t3_0p0,.int .i64 x0.2.1.1,.slice t3_0a2 (x0.2.1.2).length t3_0p2,.slice t3_0a3 (x0.2.2.1).length t3_0p3,.slice t3_0a4 (x0.2.2.2.1).length t3_0p4,.slice t3_0a5 (x0.2.2.2.2.1).length t3_0p5,.slice t3_0a6 (x0.2.2.2.2.2.1).length t3_0p6,.int .i64 x0.2.2.2.2.2.2]:Value)=g1
    generalize (.agg #[.slice t3_1a0 (x2.1).length t3_1p0,.int .i64 x2.2.1,.int .i64 x2.2.2.1,.int .i64 x2.2.2.2]:Value)=g2
    have hbl:=(Array.getElem?_eq_some_iff.1 XW).1
    have OE:=Rep.own.wide (T:=Btw w2.heap.size wE.heap.size) OW dM
    clear OW
    generalize u3_0.heap.size=b at hbl XW hlt_ ⊢
    exact CONT b g1 g2 g3 g4 wE ⟨HS,hlt_,hbl,_,XW,OE⟩
  go_simp
  generalize hwZ:World.alloc wS _=wZ
  have hlt_:=HS.size
  have XZ:wZ.heap[wS.heap.size]?=some (.cells #[.slice none 0 0,.int .i64 0,.slice none 0 0,.slice none 0 0,.slice none 0 0,.slice none 0 0,.slice none 0 0,.int .i64 0,.slice none 0 0] 56 (0,0)):=(by rw [← hwZ];exact kW rfl)
  have hbZ:Below wS.heap.size wS wZ:=(by rw [← hwZ];exact bR.alloc nL _)
  have hzZ:=hbZ.size
  replace HS:=(tQ HS hbZ)
  clear hwZ hbZ
  refine hK _ _ HS ?_
  clear hK K
  refine wkP ?_
  refine kT (k:=1) rfl rA rfl (fun K hK=>?_)
  go_simp
  refine (kFn (r0.below (tQ H2.out HS))).mono ?_
  rintro e u3_0 ⟨cs3_0,rfl,O3_0,hc⟩
  obtain ⟨t3_0v0,t3_0v2,t3_0v3,t3_0v4,t3_0v5,t3_0v6,rfl,t3_0_0,t3_0_1,t3_0_2,t3_0_3,t3_0_4,t3_0_5,t3_0_6,t3_0_7,t3_0_8⟩:=jm O3_0.raw
  obtain ⟨t3_0a0,t3_0p0,rfl,_⟩:=Rep.sl t3_0_0
  obtain ⟨t3_0a2,t3_0p2,rfl,_⟩:=Rep.sl t3_0_3
  obtain ⟨t3_0a3,t3_0p3,rfl,_⟩:=Rep.sl t3_0_4
  obtain ⟨t3_0a4,t3_0p4,rfl,_⟩:=Rep.sl t3_0_5
  obtain ⟨t3_0a5,t3_0p5,rfl,_⟩:=Rep.sl t3_0_6
  obtain ⟨t3_0a6,t3_0p6,rfl,_⟩:=Rep.sl t3_0_7
  clear t3_0_0 t3_0_1 t3_0_2 t3_0_3 t3_0_4 t3_0_5 t3_0_6 t3_0_7 t3_0_8
  replace XZ:=kE XZ hc
  replace HS:=(tQ HS hc)
  refine hK _ _ HS ?_
  clear hK K hc
  refine wkP ?_
  refine kT (k:=4) rfl rA rfl (fun K hK=>?_)
  go_simp
  refine (kAc (r2.below (tQ H2.out HS))).mono ?_
  rintro e u3_1 ⟨cs3_1,rfl,O3_1,hc⟩
  obtain ⟨t3_1v0,rfl,t3_1_0,t3_1_1,t3_1_2,t3_1_3,t3_1_4⟩:=jA O3_1.raw
  obtain ⟨t3_1a0,t3_1p0,rfl,_⟩:=Rep.sl t3_1_1
  clear t3_1_0 t3_1_1 t3_1_2 t3_1_3 t3_1_4
  replace O3_0:=O3_0.below hc
  replace XZ:=kE XZ hc
  replace HS:=(tQ HS hc)
  refine hK _ _ HS ?_
  clear hK K hc
  refine wkP ?_
  refine kT (k:=6) rfl rA rfl (fun K hK=>?_)
  go_simp
  refine (zz O3_0.rd hi1.out O3_1.rd hi3.out (G1.out z1)).mono ?_
  rintro e u3 ⟨cs3,rfl,O3,hc⟩
  rw [HYE.out] at O3
  obtain ⟨t3v0,t3v2,t3v3,t3v4,t3v5,t3v6,t3v8,rfl,t3_0,t3_1,t3_2,t3_3,t3_4,t3_5,t3_6,t3_7,t3_8,t3_9,t3_10⟩:=yG O3.raw
  obtain ⟨t3a0,t3p0,rfl,_⟩:=Rep.sl t3_1
  obtain ⟨t3a2,t3p2,rfl,_⟩:=Rep.sl t3_4
  obtain ⟨t3a3,t3p3,rfl,_⟩:=Rep.sl t3_5
  obtain ⟨t3a4,t3p4,rfl,_⟩:=Rep.sl t3_6
  obtain ⟨t3a5,t3p5,rfl,_⟩:=Rep.sl t3_7
  obtain ⟨t3a6,t3p6,rfl,_⟩:=Rep.sl t3_8
  obtain ⟨t3a8,t3p8,rfl,_⟩:=Rep.sl t3_10
  clear t3_0 t3_1 t3_2 t3_3 t3_4 t3_5 t3_6 t3_7 t3_8 t3_9 t3_10
  have hfl:=(Array.getElem?_eq_some_iff.1 XZ).1
  replace XZ:=kE XZ hc
  have hzr:=HS.size
  have hzc:=hc.size
  replace HS:=(tQ HS hc)
  refine hK _ _ HS ?_
  clear hK K hc O3_0 O3_1
  refine wkP ?_
  refine kT (k:=8) rfl rA rfl (fun K hK=>?_)
  obtain ⟨Y0,Y1,Y2,Y3,Y4,Y5,Y6,Y7,Y8⟩:=yH XZ
  obtain ⟨N0,N1,N2,N3,N4,N5,N6,N7,N8⟩:=zg XZ
  go_simp
  obtain ⟨wE,hws⟩:∃ W,W=Rep.setCells u3 (wS.heap.size) 0 [.slice t3a0 (Y0_.1.1).length t3p0,.int .i64 Y0_.1.2.1.1,.slice t3a2 (Y0_.1.2.1.2).length t3p2,.slice t3a3 (Y0_.1.2.2.1).length t3p3,.slice t3a4 (Y0_.1.2.2.2.1).length t3p4,.slice t3a5 (Y0_.1.2.2.2.2.1).length t3p5,.slice t3a6 (Y0_.1.2.2.2.2.2.1).length t3p6,.int .i64 Y0_.1.2.2.2.2.2.2,.slice t3a8 (Y0_.2).length t3p8]:=⟨_,rfl⟩
  change K _ (Rep.setCells _ _ 0 [.slice t3a0 (Y0_.1.1).length t3p0,.int .i64 Y0_.1.2.1.1,.slice t3a2 (Y0_.1.2.1.2).length t3p2,.slice t3a3 (Y0_.1.2.2.1).length t3p3,.slice t3a4 (Y0_.1.2.2.2.1).length t3p4,.slice t3a5 (Y0_.1.2.2.2.2.1).length t3p5,.slice t3a6 (Y0_.1.2.2.2.2.2.1).length t3p6,.int .i64 Y0_.1.2.2.2.2.2.2,.slice t3a8 (Y0_.2).length t3p8])
  rw [← hws]
  have T_:Touch (fun k=>k=wS.heap.size) u3 wE:=(by rw [hws];exact Rep.jg _ _ _ _)
  have XW:wE.heap[wS.heap.size]?=some (.cells #[.slice t3a0 (Y0_.1.1).length t3p0,.int .i64 Y0_.1.2.1.1,.slice t3a2 (Y0_.1.2.1.2).length t3p2,.slice t3a3 (Y0_.1.2.2.1).length t3p3,.slice t3a4 (Y0_.1.2.2.2.1).length t3p4,.slice t3a5 (Y0_.1.2.2.2.2.1).length t3p5,.slice t3a6 (Y0_.1.2.2.2.2.2.1).length t3p6,.int .i64 Y0_.1.2.2.2.2.2.2,.slice t3a8 (Y0_.2).length t3p8] 56 (0,0)):=(by rw [hws];exact Rep.jl [.slice t3a0 (Y0_.1.1).length t3p0,.int .i64 Y0_.1.2.1.1,.slice t3a2 (Y0_.1.2.1.2).length t3p2,.slice t3a3 (Y0_.1.2.2.1).length t3p3,.slice t3a4 (Y0_.1.2.2.2.1).length t3p4,.slice t3a5 (Y0_.1.2.2.2.2.1).length t3p5,.slice t3a6 (Y0_.1.2.2.2.2.2.1).length t3p6,.int .i64 Y0_.1.2.2.2.2.2.2,.slice t3a8 (Y0_.2).length t3p8] [.slice none 0 0,.int .i64 0,.slice none 0 0,.slice none 0 0,.slice none 0 0,.slice none 0 0,.slice none 0 0,.int .i64 0,.slice none 0 0] [] [] u3 (wS.heap.size) 0 XZ rfl rfl)
  have OW:=O3.touch T_ fH
  have hzE:wE.heap.size=u3.heap.size:=(by rw [hws];exact Rep.setCells_size _ _ _ _)
  replace HS:=HS.trans (T_.below HS.size qD)
  clear hws Y0 N0 Y1 N1 Y2 N2 Y3 N3 Y4 N4 Y5 N5 Y6 N6 Y7 N7 Y8 N8 XZ T_
  refine hK _ _ HS ?_
  clear hK K
  refine wkP ?_
  refine jc rA ?_
  have g3:Value:=.nilIface
  generalize (.agg #[.slice t3a0 (Y0_.1.1).length t3p0,.int .i64 Y0_.1.2.1.1,.slice t3a2 (Y0_.1.2.1.2).length t3p2,.slice t3a3 (Y0_.1.2.2.1).length t3p3,.slice t3a4 (Y0_.1.2.2.2.1).length t3p4,.slice t3a5 (Y0_.1.2.2.2.2.1).length t3p5,.slice t3a6 (Y0_.1.2.2.2.2.2.1).length t3p6,.int .i64 Y0_.1.2.2.2.2.2.2,.slice t3a8 (Y0_.2).length t3p8]:Value)=g4
  generalize (.agg #[.slice t3_0a0 (x0.1).length t3_0p0,.int .i64 x0.2.1.1,.slice t3_0a2 (x0.2.1.2).length t3_0p2,.slice t3_0a3 (x0.2.2.1).length t3_0p3,.slice t3_0a4 (x0.2.2.2.1).length t3_0p4,.slice t3_0a5 (x0.2.2.2.2.1).length t3_0p5,.slice t3_0a6 (x0.2.2.2.2.2.1).length t3_0p6,.int .i64 x0.2.2.2.2.2.2]:Value)=g1
  generalize (.agg #[.slice t3_1a0 (x2.1).length t3_1p0,.int .i64 x2.2.1,.int .i64 x2.2.2.1,.int .i64 x2.2.2.2]:Value)=g2
  have hbl:=(Array.getElem?_eq_some_iff.1 XW).1
  have OE:=Rep.own.wide (T:=Btw w2.heap.size wE.heap.size) OW dM
  clear OW
  generalize wS.heap.size=b at hbl XW hlt_ ⊢
  exact CONT b g1 g2 g3 g4 wE ⟨HS,hlt_,hbl,_,XW,OE⟩
 intro bx3 g3_1 g3_2 g3_3 g3_4 w3 ⟨HS,hb3_1,hb3_2,cs3,XB3,O3⟩
 obtain ⟨t3v0,t3v2,t3v3,t3v4,t3v5,t3v6,t3v8,rfl,t3_0,t3_1,t3_2,t3_3,t3_4,t3_5,t3_6,t3_7,t3_8,t3_9,t3_10⟩:=yG O3.raw
 obtain ⟨t3a0,t3p0,rfl,_⟩:=Rep.sl t3_1
 obtain ⟨t3a2,t3p2,rfl,_⟩:=Rep.sl t3_4
 obtain ⟨t3a3,t3p3,rfl,_⟩:=Rep.sl t3_5
 obtain ⟨t3a4,t3p4,rfl,_⟩:=Rep.sl t3_6
 obtain ⟨t3a5,t3p5,rfl,_⟩:=Rep.sl t3_7
 obtain ⟨t3a6,t3p6,rfl,_⟩:=Rep.sl t3_8
 obtain ⟨t3a8,t3p8,rfl,_⟩:=Rep.sl t3_10
 clear t3_0 t3_1 t3_2 t3_3 t3_4 t3_5 t3_6 t3_7 t3_8 t3_9 t3_10
 have Z3:=yD O3;clear O3
 have XX3:=yD XB3;clear XB3
 have D3:Below w2.heap.size w2 w3:=Below.trans bG (HS.mono mF)
 have H3:=yD (tQ H2.out D3)
 have L3:=yD (show w2.heap.size + 0≤w3.heap.size from by have h:=HS.size;(try simp at h);omega)
 have X_aX_3:=yD (kE X_aX_2.out D3);clear X_aX_2
 have X_aW_3:=yD (kE X_aW_2.out D3);clear X_aW_2
 clear D3 K_aX_0 K_aX_1 K_aX_2 K_aX_3 K_aX_4 K_aX_5 K_aX_6 K_aX_7 K_aW_0 K_aW_1 K_aW_2 K_aW_3 HS
 obtain ⟨K_aX_0,K_aX_1,K_aX_2,K_aX_3,K_aX_4,K_aX_5,K_aX_6,K_aX_7⟩:=kAa X_aX_3.out
 go_wp2_with fail
 refine (kFn (r0.below (by repeat (first|(with_reducible exact H3.out) | refine Below.alloc ?_ (by have:=H3.out.size;simp;try omega) _ | refine Below.drew ?_)))).mono ?_
 rintro e w4 ⟨cs4,rfl,O4,hb4⟩
 obtain ⟨t4v0,t4v2,t4v3,t4v4,t4v5,t4v6,rfl,t4_0,t4_1,t4_2,t4_3,t4_4,t4_5,t4_6,t4_7,t4_8⟩:=jm O4.raw
 obtain ⟨t4a0,t4p0,rfl,_⟩:=Rep.sl t4_0
 obtain ⟨t4a2,t4p2,rfl,_⟩:=Rep.sl t4_3
 obtain ⟨t4a3,t4p3,rfl,_⟩:=Rep.sl t4_4
 obtain ⟨t4a4,t4p4,rfl,_⟩:=Rep.sl t4_5
 obtain ⟨t4a5,t4p5,rfl,_⟩:=Rep.sl t4_6
 obtain ⟨t4a6,t4p6,rfl,_⟩:=Rep.sl t4_7
 clear t4_0 t4_1 t4_2 t4_3 t4_4 t4_5 t4_6 t4_7 t4_8
 have Z4:=yD (O4.wide (T:=Btw (w3.heap.size) (w4.heap.size)) dK);clear O4
 have D4:Below w3.heap.size w3 w4:=Below.trans bG (hb4.mono mF)
 have H4:=yD (tQ H3.out D4)
 have L4:=yD (show w3.heap.size + 0≤w4.heap.size from by have h:=hb4.size;(try simp at h);omega)
 have X_aX_4:=yD (kE X_aX_3.out D4);clear X_aX_3
 have X_aW_4:=yD (kE X_aW_3.out D4);clear X_aW_3
 have X_w0_4:=yD (kE XX3.out D4);clear XX3
 have O_w0_4:=yD (Z3.out.below D4);clear Z3
 clear D4 K_aX_0 K_aX_1 K_aX_2 K_aX_3 K_aX_4 K_aX_5 K_aX_6 K_aX_7 hb4
 obtain ⟨K_aW_0,K_aW_1,K_aW_2,K_aW_3⟩:=yR X_aW_4.out
 have J_aW:w.heap.size + 1 < w4.heap.size:=by have l1:=L1.out;have l2:=L2.out;have l3:=L3.out;have l4:=L4.out;omega
 go_wp2_with fail
 refine (kAc (r2.below (by repeat (first|(with_reducible exact H4.out) | refine Below.alloc ?_ (by have:=H4.out.size;simp;try omega) _ | refine Below.drew ?_)))).mono ?_
 rintro e w5 ⟨cs5,rfl,O5,hb5⟩
 obtain ⟨t5v0,rfl,t5_0,t5_1,t5_2,t5_3,t5_4⟩:=jA O5.raw
 obtain ⟨t5a0,t5p0,rfl,_⟩:=Rep.sl t5_1
 clear t5_0 t5_1 t5_2 t5_3 t5_4
 have Z5:=yD (O5.wide (T:=Btw (w4.heap.size + 1) (w5.heap.size)) dK);clear O5
 have D5:Below w4.heap.size w4 w5:=Below.trans bG (hb5.mono mF)
 have H5:=yD (tQ H4.out D5)
 have L5:=yD (show w4.heap.size + 1≤w5.heap.size from by have h:=hb5.size;(try simp at h);omega)
 have X_aX_5:=yD (kE X_aX_4.out D5);clear X_aX_4
 have X_aW_5:=yD (kE X_aW_4.out D5);clear X_aW_4
 have X_w0_5:=yD (kE X_w0_4.out D5);clear X_w0_4
 have X_x0_5:Hid (w5.heap[w4.heap.size]?=some (.cells #[.slice t4a0 (x0.1).length t4p0,.int .i64 x0.2.1.1,.slice t4a2 (x0.2.1.2).length t4p2,.slice t4a3 (x0.2.2.1).length t4p3,.slice t4a4 (x0.2.2.2.1).length t4p4,.slice t4a5 (x0.2.2.2.2.1).length t4p5,.slice t4a6 (x0.2.2.2.2.2.1).length t4p6,.int .i64 x0.2.2.2.2.2.2] 42 (0,0))):=yD ((hb5.block (w4.heap.size) mF).trans (kW rM))
 have O_w0_5:=yD (O_w0_4.out.below D5);clear O_w0_4
 have O_x0_5:=yD (Z4.out.below D5);clear Z4
 clear D5 K_aW_0 K_aW_1 K_aW_2 K_aW_3 J_aW hb5
 obtain ⟨K_x0_0,K_x0_1,K_x0_2,K_x0_3,K_x0_4,K_x0_5,K_x0_6,K_x0_7⟩:=kAa X_x0_5.out
 have J_x0:w4.heap.size < w5.heap.size:=by have l5:=L5.out;omega
 go_wp2_with fail
 refine (zS (O_x0_5.out.rd.below bG) hi1.out (Z5.out.rd.below bG) hi3.out (G1.out z1)).mono ?_
 rintro e w6 ⟨cs6,rfl,O6,hb6⟩
 rw [HYE.out] at O6
 obtain ⟨t6v0,t6v2,t6v3,t6v4,t6v5,t6v6,t6v8,rfl,t6_0,t6_1,t6_2,t6_3,t6_4,t6_5,t6_6,t6_7,t6_8,t6_9,t6_10⟩:=yG O6.raw
 obtain ⟨t6a0,t6p0,rfl,_⟩:=Rep.sl t6_1
 obtain ⟨t6a2,t6p2,rfl,_⟩:=Rep.sl t6_4
 obtain ⟨t6a3,t6p3,rfl,_⟩:=Rep.sl t6_5
 obtain ⟨t6a4,t6p4,rfl,_⟩:=Rep.sl t6_6
 obtain ⟨t6a5,t6p5,rfl,_⟩:=Rep.sl t6_7
 obtain ⟨t6a6,t6p6,rfl,_⟩:=Rep.sl t6_8
 obtain ⟨t6a8,t6p8,rfl,_⟩:=Rep.sl t6_10
 clear t6_0 t6_1 t6_2 t6_3 t6_4 t6_5 t6_6 t6_7 t6_8 t6_9 t6_10
 have Z6:=yD (O6.wide (T:=Btw (w5.heap.size + 1) (w6.heap.size)) dK);clear O6
 have D6:Below w5.heap.size w5 w6:=Below.trans bG (hb6.mono mF)
 have H6:=yD (tQ H5.out D6)
 have L6:=yD (show w5.heap.size + 1≤w6.heap.size from by have h:=hb6.size;(try simp at h);omega)
 have X_aX_6:=yD (kE X_aX_5.out D6);clear X_aX_5
 have X_aW_6:=yD (kE X_aW_5.out D6);clear X_aW_5
 have X_w0_6:=yD (kE X_w0_5.out D6);clear X_w0_5
 have X_x0_6:=yD (kE X_x0_5.out D6);clear X_x0_5
 have X_x2_6:Hid (w6.heap[w5.heap.size]?=some (.cells #[.slice t5a0 (x2.1).length t5p0,.int .i64 x2.2.1,.int .i64 x2.2.2.1,.int .i64 x2.2.2.2] 60 (0,0))):=yD ((hb6.block (w5.heap.size) mF).trans (kW rM))
 have O_w0_6:=yD (O_w0_5.out.below D6);clear O_w0_5
 have O_x0_6:=yD (O_x0_5.out.below D6);clear O_x0_5
 have O_x2_6:=yD (Z5.out.below D6);clear Z5
 clear D6 K_x0_0 K_x0_1 K_x0_2 K_x0_3 K_x0_4 K_x0_5 K_x0_6 K_x0_7 J_x0 hb6
 obtain ⟨K_w0_0,K_w0_1,K_w0_2,K_w0_3,K_w0_4,K_w0_5,K_w0_6,K_w0_7,K_w0_8⟩:=yH X_w0_6.out
 have J_w0:bx3 < w6.heap.size:=by have l4:=L4.out;have l5:=L5.out;have l6:=L6.out;omega
 go_wp2_with fail
 refine (kKy (Z6.out.raw.below bG) (O_w0_6.out.raw.below bG)).mono ?_
 rintro e w7 ⟨rfl,hb7⟩
 have D7:Below w6.heap.size w6 w7:=Below.trans bG (hb7.mono mF)
 have H7:=yD (tQ H6.out D7)
 have L7:=yD (show w6.heap.size + 1≤w7.heap.size from by have h:=hb7.size;(try simp at h);omega)
 have X_aX_7:=yD (kE X_aX_6.out D7);clear X_aX_6
 have X_aW_7:=yD (kE X_aW_6.out D7);clear X_aW_6
 have X_w0_7:=yD (kE X_w0_6.out D7);clear X_w0_6
 have X_x0_7:=yD (kE X_x0_6.out D7);clear X_x0_6
 have X_x2_7:=yD (kE X_x2_6.out D7);clear X_x2_6
 have X_g0_7:Hid (w7.heap[w6.heap.size]?=some (.cells #[.slice t6a0 (Y0_.1.1).length t6p0,.int .i64 Y0_.1.2.1.1,.slice t6a2 (Y0_.1.2.1.2).length t6p2,.slice t6a3 (Y0_.1.2.2.1).length t6p3,.slice t6a4 (Y0_.1.2.2.2.1).length t6p4,.slice t6a5 (Y0_.1.2.2.2.2.1).length t6p5,.slice t6a6 (Y0_.1.2.2.2.2.2.1).length t6p6,.int .i64 Y0_.1.2.2.2.2.2.2,.slice t6a8 (Y0_.2).length t6p8] 56 (0,0))):=yD ((hb7.block (w6.heap.size) mF).trans (kW rM))
 have O_w0_7:=yD (O_w0_6.out.below D7);clear O_w0_6
 have O_x0_7:=yD (O_x0_6.out.below D7);clear O_x0_6
 have O_x2_7:=yD (O_x2_6.out.below D7);clear O_x2_6
 have O_g0_7:=yD (Z6.out.below D7);clear Z6
 clear D7 K_w0_0 K_w0_1 K_w0_2 K_w0_3 K_w0_4 K_w0_5 K_w0_6 K_w0_7 K_w0_8 J_w0 hb7
 obtain ⟨K_aX_0,K_aX_1,K_aX_2,K_aX_3,K_aX_4,K_aX_5,K_aX_6,K_aX_7⟩:=kAa X_aX_7.out
 obtain ⟨K_x0_0,K_x0_1,K_x0_2,K_x0_3,K_x0_4,K_x0_5,K_x0_6,K_x0_7⟩:=kAa X_x0_7.out
 go_wp2_with fail
 go_region_held3 (fun W=>W.cell? ⟨w.heap.size,0,none⟩=some (a0v0)∧W.cell? ⟨w.heap.size,1,none⟩=some (.int .i64 x0.2.1.1)∧W.cell? ⟨w.heap.size,2,none⟩=some (a0v2)∧W.cell? ⟨w.heap.size,3,none⟩=some (a0v3)∧W.cell? ⟨w.heap.size,4,none⟩=some (a0v4)∧W.cell? ⟨w.heap.size,5,none⟩=some (a0v5)∧W.cell? ⟨w.heap.size,6,none⟩=some (a0v6)∧W.cell? ⟨w.heap.size,7,none⟩=some (.int .i64 x0.2.2.2.2.2.2)∧W.cell? ⟨w4.heap.size,0,none⟩=some (.slice t4a0 (x0.1).length t4p0)∧W.cell? ⟨w4.heap.size,1,none⟩=some (.int .i64 x0.2.1.1)∧W.cell? ⟨w4.heap.size,2,none⟩=some (.slice t4a2 (x0.2.1.2).length t4p2)∧W.cell? ⟨w4.heap.size,3,none⟩=some (.slice t4a3 (x0.2.2.1).length t4p3)∧W.cell? ⟨w4.heap.size,4,none⟩=some (.slice t4a4 (x0.2.2.2.1).length t4p4)∧W.cell? ⟨w4.heap.size,5,none⟩=some (.slice t4a5 (x0.2.2.2.2.1).length t4p5)∧W.cell? ⟨w4.heap.size,6,none⟩=some (.slice t4a6 (x0.2.2.2.2.2.1).length t4p6)∧W.cell? ⟨w4.heap.size,7,none⟩=some (.int .i64 x0.2.2.2.2.2.2)) (first | exact ⟨cL hd8 (cL hc8 K_aX_0),cL hd8 (cL hc8 K_aX_1),cL hd8 (cL hc8 K_aX_2),cL hd8 (cL hc8 K_aX_3),cL hd8 (cL hc8 K_aX_4),cL hd8 (cL hc8 K_aX_5),cL hd8 (cL hc8 K_aX_6),cL hd8 (cL hc8 K_aX_7),cL hd8 (cL hc8 K_x0_0),cL hd8 (cL hc8 K_x0_1),cL hd8 (cL hc8 K_x0_2),cL hd8 (cL hc8 K_x0_3),cL hd8 (cL hc8 K_x0_4),cL hd8 (cL hc8 K_x0_5),cL hd8 (cL hc8 K_x0_6),cL hd8 (cL hc8 K_x0_7)⟩ | exact ⟨cL hc8 K_aX_0,cL hc8 K_aX_1,cL hc8 K_aX_2,cL hc8 K_aX_3,cL hc8 K_aX_4,cL hc8 K_aX_5,cL hc8 K_aX_6,cL hc8 K_aX_7,cL hc8 K_x0_0,cL hc8 K_x0_1,cL hc8 K_x0_2,cL hc8 K_x0_3,cL hc8 K_x0_4,cL hc8 K_x0_5,cL hc8 K_x0_6,cL hc8 K_x0_7⟩ | go_keep)
   (first|(go_at_call 7;refine (kFn (r0.below (by repeat (first|(with_reducible exact H7.out) | refine Below.alloc ?_ (by have:=H7.out.size;simp;try omega) _ | refine Below.drew ?_)))).mono ?_;rintro e u8 ⟨cs8,rfl,O8,hc8⟩;obtain ⟨t8v0,t8v2,t8v3,t8v4,t8v5,t8v6,rfl,t8_0,t8_1,t8_2,t8_3,t8_4,t8_5,t8_6,t8_7,t8_8⟩:=jm O8.raw;obtain ⟨t8a0,t8p0,rfl,_⟩:=Rep.sl t8_0;skip;obtain ⟨t8a2,t8p2,rfl,_⟩:=Rep.sl t8_3;skip;obtain ⟨t8a3,t8p3,rfl,_⟩:=Rep.sl t8_4;skip;obtain ⟨t8a4,t8p4,rfl,_⟩:=Rep.sl t8_5;skip;obtain ⟨t8a5,t8p5,rfl,_⟩:=Rep.sl t8_6;skip;obtain ⟨t8a6,t8p6,rfl,_⟩:=Rep.sl t8_7;skip;clear t8_0 t8_1 t8_2 t8_3 t8_4 t8_5 t8_6 t8_7 t8_8)|(go_at_call 9;refine (eqNode_c (O_x0_7.out.raw.below (Below.trans bG (hc8.mono rM))) O8.raw).mono ?_;rintro e w8 ⟨rfl,hd8⟩))
 have hb8:=(tQ hc8 hd8);clear hc8 hd8 O8
 have D8:Below w7.heap.size w7 w8:=Below.trans bG (hb8.mono mF)
 have H8:=yD (tQ H7.out D8)
 have L8:=yD (show w7.heap.size + 0≤w8.heap.size from by have h:=hb8.size;(try simp at h);omega)
 have X_aX_8:=yD (kE X_aX_7.out D8);clear X_aX_7
 have X_aW_8:=yD (kE X_aW_7.out D8);clear X_aW_7
 have X_w0_8:=yD (kE X_w0_7.out D8);clear X_w0_7
 have X_x0_8:=yD (kE X_x0_7.out D8);clear X_x0_7
 have X_x2_8:=yD (kE X_x2_7.out D8);clear X_x2_7
 have X_g0_8:=yD (kE X_g0_7.out D8);clear X_g0_7
 have O_w0_8:=yD (O_w0_7.out.below D8);clear O_w0_7
 have O_x0_8:=yD (O_x0_7.out.below D8);clear O_x0_7
 have O_x2_8:=yD (O_x2_7.out.below D8);clear O_x2_7
 have O_g0_8:=yD (O_g0_7.out.below D8);clear O_g0_7
 clear D8 K_aX_0 K_aX_1 K_aX_2 K_aX_3 K_aX_4 K_aX_5 K_aX_6 K_aX_7 K_x0_0 K_x0_1 K_x0_2 K_x0_3 K_x0_4 K_x0_5 K_x0_6 K_x0_7 hb8
 obtain ⟨K_aW_0,K_aW_1,K_aW_2,K_aW_3⟩:=yR X_aW_8.out
 obtain ⟨K_x2_0,K_x2_1,K_x2_2,K_x2_3⟩:=yR X_x2_8.out
 go_wp2_with fail
 go_region_held3 (fun W=>W.cell? ⟨w.heap.size + 1,0,none⟩=some (a2v0)∧W.cell? ⟨w.heap.size + 1,1,none⟩=some (.int .i64 x2.2.1)∧W.cell? ⟨w.heap.size + 1,2,none⟩=some (.int .i64 x2.2.2.1)∧W.cell? ⟨w.heap.size + 1,3,none⟩=some (.int .i64 x2.2.2.2)∧W.cell? ⟨w5.heap.size,0,none⟩=some (.slice t5a0 (x2.1).length t5p0)∧W.cell? ⟨w5.heap.size,1,none⟩=some (.int .i64 x2.2.1)∧W.cell? ⟨w5.heap.size,2,none⟩=some (.int .i64 x2.2.2.1)∧W.cell? ⟨w5.heap.size,3,none⟩=some (.int .i64 x2.2.2.2)) (first | exact ⟨cL hd9 (cL hc9 K_aW_0),cL hd9 (cL hc9 K_aW_1),cL hd9 (cL hc9 K_aW_2),cL hd9 (cL hc9 K_aW_3),cL hd9 (cL hc9 K_x2_0),cL hd9 (cL hc9 K_x2_1),cL hd9 (cL hc9 K_x2_2),cL hd9 (cL hc9 K_x2_3)⟩ | exact ⟨cL hc9 K_aW_0,cL hc9 K_aW_1,cL hc9 K_aW_2,cL hc9 K_aW_3,cL hc9 K_x2_0,cL hc9 K_x2_1,cL hc9 K_x2_2,cL hc9 K_x2_3⟩ | go_keep)
   (first|(go_at_call 14;refine (kAc (r2.below (by repeat (first|(with_reducible exact H8.out) | refine Below.alloc ?_ (by have:=H8.out.size;simp;try omega) _ | refine Below.drew ?_)))).mono ?_;rintro e u9 ⟨cs9,rfl,O9,hc9⟩;obtain ⟨t9v0,rfl,t9_0,t9_1,t9_2,t9_3,t9_4⟩:=jA O9.raw;obtain ⟨t9a0,t9p0,rfl,_⟩:=Rep.sl t9_1;skip;clear t9_0 t9_1 t9_2 t9_3 t9_4)|(go_at_call 17;refine (kMk (O_x2_8.out.raw.below (Below.trans bG (hc9.mono rM))) O9.raw).mono ?_;rintro e w9 ⟨rfl,hd9⟩))
 have hb9:=(tQ hc9 hd9);clear hc9 hd9 O9
 have D9:Below w8.heap.size w8 w9:=Below.trans bG (hb9.mono mF)
 have H9:=yD (tQ H8.out D9)
 have L9:=yD (show w8.heap.size + 0≤w9.heap.size from by have h:=hb9.size;(try simp at h);omega)
 have X_aX_9:=yD (kE X_aX_8.out D9);clear X_aX_8
 have X_aW_9:=yD (kE X_aW_8.out D9);clear X_aW_8
 have X_w0_9:=yD (kE X_w0_8.out D9);clear X_w0_8
 have X_x0_9:=yD (kE X_x0_8.out D9);clear X_x0_8
 have X_x2_9:=yD (kE X_x2_8.out D9);clear X_x2_8
 have X_g0_9:=yD (kE X_g0_8.out D9);clear X_g0_8
 have O_w0_9:=yD (O_w0_8.out.below D9);clear O_w0_8
 have O_x0_9:=yD (O_x0_8.out.below D9);clear O_x0_8
 have O_x2_9:=yD (O_x2_8.out.below D9);clear O_x2_8
 have O_g0_9:=yD (O_g0_8.out.below D9);clear O_g0_8
 clear D9 K_aW_0 K_aW_1 K_aW_2 K_aW_3 K_x2_0 K_x2_1 K_x2_2 K_x2_3 hb9
 obtain ⟨K_x0_0,K_x0_1,K_x0_2,K_x0_3,K_x0_4,K_x0_5,K_x0_6,K_x0_7⟩:=kAa X_x0_9.out
 go_wp2_with fail
 refine (kRw (k:=1) (O_x0_9.out.below bG) rJ (by have e:(jM.cnt:Int)=3659174881787906:=(by decide);unfold Top;omega)).mono ?_
 rintro e w10 ⟨rfl,P10,Y10⟩
 have B10:Hid (1≤(jM.mark false (x0) (1)).2∧(jM.mark false (x0) (1)).2≤1 + 3659174881787906):=yD ⟨by have:=jM.mark_ge (e:=false) (x:=x0) (k:=1);omega,by have:=jM.mark_le (e:=false) (k:=1) O_x0_9.out.2;have e:(jM.cnt:Int)=3659174881787906:=(by decide);omega⟩
 have D10:Touch (Btw (w3.heap.size) (w4.heap.size)) w9 w10:=(Touch.of_below bG).trans Y10
 have H10:=yD (H9.out.trans (D10.below (by have:=H9.out.size;omega) (fun i hi=>by have a:=hi.1;have b:w.heap.size≤w3.heap.size:=H3.out.size;omega)))
 have L10:=yD (show w9.heap.size≤w10.heap.size from D10.size)
 have X_aX_10:=yD (D10.kE X_aX_9.out (fun q=>by have q1:=q.1;have q2:=q.2;have l1:=L1.out;have l2:=L2.out;have l3:=L3.out;have l4:=L4.out;omega));clear X_aX_9
 have X_aW_10:=yD (D10.kE X_aW_9.out (fun q=>by have q1:=q.1;have q2:=q.2;have l1:=L1.out;have l2:=L2.out;have l3:=L3.out;have l4:=L4.out;omega));clear X_aW_9
 have X_w0_10:=yD (D10.kE X_w0_9.out (fun q=>by have q1:=q.1;have q2:=q.2;have l4:=L4.out;omega));clear X_w0_9
 have X_x0_10:=yD (D10.kE X_x0_9.out (fun q=>by have q1:=q.1;have q2:=q.2;have l4:=L4.out;omega));clear X_x0_9
 have X_x2_10:=yD (D10.kE X_x2_9.out (fun q=>by have q1:=q.1;have q2:=q.2;have l4:=L4.out;have l5:=L5.out;omega));clear X_x2_9
 have X_g0_10:=yD (D10.kE X_g0_9.out (fun q=>by have q1:=q.1;have q2:=q.2;have l4:=L4.out;have l5:=L5.out;have l6:=L6.out;omega));clear X_g0_9
 have O_w0_10:=yD (O_w0_9.out.touch D10 (fun i p q=>by have p1:=p.1;have p2:=p.2;have q1:=q.1;have q2:=q.2;have l3:=L3.out;have l4:=L4.out;omega));clear O_w0_9
 have O_x2_10:=yD (O_x2_9.out.touch D10 (fun i p q=>by have p1:=p.1;have p2:=p.2;have q1:=q.1;have q2:=q.2;have l4:=L4.out;have l5:=L5.out;omega));clear O_x2_9
 have O_g0_10:=yD (O_g0_9.out.touch D10 (fun i p q=>by have p1:=p.1;have p2:=p.2;have q1:=q.1;have q2:=q.2;have l4:=L4.out;have l5:=L5.out;have l6:=L6.out;omega));clear O_g0_9
 clear D10 K_x0_0 K_x0_1 K_x0_2 K_x0_3 K_x0_4 K_x0_5 K_x0_6 K_x0_7 Y10
 have Z10:=yD P10;clear P10 O_x0_9
 have U10:0≤(jM.mark false (x0) (1)).2:=by have:=B10.out.1;omega
 obtain ⟨K_x2_0,K_x2_1,K_x2_2,K_x2_3⟩:=yR X_x2_10.out
 go_wp2_with fail
 refine (kRx (k:=(jM.mark false (x0) (1)).2) (O_x2_10.out.below bG) (by have:=B10.out.1;omega) (by have:=B10.out.2;have e:(kw.cnt:Int)=16777219:=(by decide);unfold Top;omega)).mono ?_
 rintro e w11 ⟨rfl,P11,Y11⟩
 have B11:Hid (1≤(kw.mark false (x2) ((jM.mark false (x0) (1)).2)).2∧(kw.mark false (x2) ((jM.mark false (x0) (1)).2)).2≤(jM.mark false (x0) (1)).2 + 16777219):=yD ⟨by have:=kw.mark_ge (e:=false) (x:=x2) (k:=(jM.mark false (x0) (1)).2);have:=B10.out.1;omega,by have:=kw.mark_le (e:=false) (k:=(jM.mark false (x0) (1)).2) O_x2_10.out.2;have e:(kw.cnt:Int)=16777219:=(by decide);omega⟩
 have D11:Touch (Btw (w4.heap.size + 1) (w5.heap.size)) w10 w11:=(Touch.of_below bG).trans Y11
 have H11:=yD (H10.out.trans (D11.below (by have:=H10.out.size;omega) (fun i hi=>by have a:=hi.1;have b:w.heap.size≤w4.heap.size:=H4.out.size;omega)))
 have L11:=yD (show w10.heap.size≤w11.heap.size from D11.size)
 have X_aX_11:=yD (D11.kE X_aX_10.out (fun q=>by have q1:=q.1;have q2:=q.2;have l1:=L1.out;have l2:=L2.out;have l3:=L3.out;have l4:=L4.out;have l5:=L5.out;omega));clear X_aX_10
 have X_aW_11:=yD (D11.kE X_aW_10.out (fun q=>by have q1:=q.1;have q2:=q.2;have l1:=L1.out;have l2:=L2.out;have l3:=L3.out;have l4:=L4.out;have l5:=L5.out;omega));clear X_aW_10
 have X_w0_11:=yD (D11.kE X_w0_10.out (fun q=>by have q1:=q.1;have q2:=q.2;have l4:=L4.out;have l5:=L5.out;omega));clear X_w0_10
 have X_x0_11:=yD (D11.kE X_x0_10.out (fun q=>by have q1:=q.1;have q2:=q.2;have l5:=L5.out;omega));clear X_x0_10
 have X_x2_11:=yD (D11.kE X_x2_10.out (fun q=>by have q1:=q.1;have q2:=q.2;have l5:=L5.out;omega));clear X_x2_10
 have X_g0_11:=yD (D11.kE X_g0_10.out (fun q=>by have q1:=q.1;have q2:=q.2;have l5:=L5.out;have l6:=L6.out;omega));clear X_g0_10
 have O_w0_11:=yD (O_w0_10.out.touch D11 (fun i p q=>by have p1:=p.1;have p2:=p.2;have q1:=q.1;have q2:=q.2;have l3:=L3.out;have l4:=L4.out;have l5:=L5.out;omega));clear O_w0_10
 have O_x0_11:=yD (Z10.out.touch D11 (fun i p q=>by have p1:=p.1;have p2:=p.2;have q1:=q.1;have q2:=q.2;have l4:=L4.out;have l5:=L5.out;omega));clear Z10
 have O_g0_11:=yD (O_g0_10.out.touch D11 (fun i p q=>by have p1:=p.1;have p2:=p.2;have q1:=q.1;have q2:=q.2;have l5:=L5.out;have l6:=L6.out;omega));clear O_g0_10
 clear D11 K_x2_0 K_x2_1 K_x2_2 K_x2_3 Y11
 have Z11:=yD P11;clear P11 O_x2_10
 have U11:0≤(kw.mark false (x2) ((jM.mark false (x0) (1)).2)).2:=by have:=B11.out.1;omega
 obtain ⟨K_g0_0,K_g0_1,K_g0_2,K_g0_3,K_g0_4,K_g0_5,K_g0_6,K_g0_7,K_g0_8⟩:=yH X_g0_11.out
 obtain ⟨K_w0_0,K_w0_1,K_w0_2,K_w0_3,K_w0_4,K_w0_5,K_w0_6,K_w0_7,K_w0_8⟩:=yH X_w0_11.out
 go_wp2_with fail
 refine (kKy (O_g0_11.out.raw.below bG) (O_w0_11.out.raw.below bG)).mono ?_
 rintro e w12 ⟨rfl,hb12⟩
 have D12:Below w11.heap.size w11 w12:=Below.trans bG (hb12.mono mF)
 have H12:=yD (tQ H11.out D12)
 have L12:=yD (show w11.heap.size + 0≤w12.heap.size from by have h:=hb12.size;(try simp at h);omega)
 have X_aX_12:=yD (kE X_aX_11.out D12);clear X_aX_11
 have X_aW_12:=yD (kE X_aW_11.out D12);clear X_aW_11
 have X_w0_12:=yD (kE X_w0_11.out D12);clear X_w0_11
 have X_x0_12:=yD (kE X_x0_11.out D12);clear X_x0_11
 have X_x2_12:=yD (kE X_x2_11.out D12);clear X_x2_11
 have X_g0_12:=yD (kE X_g0_11.out D12);clear X_g0_11
 have O_w0_12:=yD (O_w0_11.out.below D12);clear O_w0_11
 have O_x0_12:=yD (O_x0_11.out.below D12);clear O_x0_11
 have O_x2_12:=yD (Z11.out.below D12);clear Z11
 have O_g0_12:=yD (O_g0_11.out.below D12);clear O_g0_11
 clear D12 K_g0_0 K_g0_1 K_g0_2 K_g0_3 K_g0_4 K_g0_5 K_g0_6 K_g0_7 K_g0_8 K_w0_0 K_w0_1 K_w0_2 K_w0_3 K_w0_4 K_w0_5 K_w0_6 K_w0_7 K_w0_8 hb12
 obtain ⟨K_g0_0,K_g0_1,K_g0_2,K_g0_3,K_g0_4,K_g0_5,K_g0_6,K_g0_7,K_g0_8⟩:=yH X_g0_12.out
 go_wp2_with fail
 refine (kWg (k:=1) (O_g0_12.out.below bG) rJ (by have e:(yP.cnt:Int)=4785074906071042:=(by decide);unfold Top;omega)).mono ?_
 rintro e w13 ⟨rfl,P13,Y13⟩
 have B13:Hid (1≤(yP.mark false Y0_ (1)).2∧(yP.mark false Y0_ (1)).2≤1 + 4785074906071042):=yD ⟨by have:=yP.mark_ge (e:=false) (x:=Y0_) (k:=1);omega,by have:=yP.mark_le (e:=false) (k:=1) O_g0_12.out.2;have e:(yP.cnt:Int)=4785074906071042:=(by decide);omega⟩
 have D13:Touch (Btw (w5.heap.size + 1) (w6.heap.size)) w12 w13:=(Touch.of_below bG).trans Y13
 have H13:=yD (H12.out.trans (D13.below (by have:=H12.out.size;omega) (fun i hi=>by have a:=hi.1;have b:w.heap.size≤w5.heap.size:=H5.out.size;omega)))
 have L13:=yD (show w12.heap.size≤w13.heap.size from D13.size)
 have X_aX_13:=yD (D13.kE X_aX_12.out (fun q=>by have q1:=q.1;have q2:=q.2;have l1:=L1.out;have l2:=L2.out;have l3:=L3.out;have l4:=L4.out;have l5:=L5.out;have l6:=L6.out;omega));clear X_aX_12
 have X_aW_13:=yD (D13.kE X_aW_12.out (fun q=>by have q1:=q.1;have q2:=q.2;have l1:=L1.out;have l2:=L2.out;have l3:=L3.out;have l4:=L4.out;have l5:=L5.out;have l6:=L6.out;omega));clear X_aW_12
 have X_w0_13:=yD (D13.kE X_w0_12.out (fun q=>by have q1:=q.1;have q2:=q.2;have l4:=L4.out;have l5:=L5.out;have l6:=L6.out;omega));clear X_w0_12
 have X_x0_13:=yD (D13.kE X_x0_12.out (fun q=>by have q1:=q.1;have q2:=q.2;have l5:=L5.out;have l6:=L6.out;omega));clear X_x0_12
 have X_x2_13:=yD (D13.kE X_x2_12.out (fun q=>by have q1:=q.1;have q2:=q.2;have l6:=L6.out;omega));clear X_x2_12
 have X_g0_13:=yD (D13.kE X_g0_12.out (fun q=>by have q1:=q.1;have q2:=q.2;have l6:=L6.out;omega));clear X_g0_12
 have O_w0_13:=yD (O_w0_12.out.touch D13 (fun i p q=>by have p1:=p.1;have p2:=p.2;have q1:=q.1;have q2:=q.2;have l3:=L3.out;have l4:=L4.out;have l5:=L5.out;have l6:=L6.out;omega));clear O_w0_12
 have O_x0_13:=yD (O_x0_12.out.touch D13 (fun i p q=>by have p1:=p.1;have p2:=p.2;have q1:=q.1;have q2:=q.2;have l4:=L4.out;have l5:=L5.out;have l6:=L6.out;omega));clear O_x0_12
 have O_x2_13:=yD (O_x2_12.out.touch D13 (fun i p q=>by have p1:=p.1;have p2:=p.2;have q1:=q.1;have q2:=q.2;have l5:=L5.out;have l6:=L6.out;omega));clear O_x2_12
 clear D13 K_g0_0 K_g0_1 K_g0_2 K_g0_3 K_g0_4 K_g0_5 K_g0_6 K_g0_7 K_g0_8 Y13
 have Z13:=yD P13;clear P13 O_g0_12
 have U13:0≤(yP.mark false Y0_ (1)).2:=by have:=B13.out.1;omega
 obtain ⟨K_g0_0,K_g0_1,K_g0_2,K_g0_3,K_g0_4,K_g0_5,K_g0_6,K_g0_7,K_g0_8⟩:=yH X_g0_13.out
 go_wp2_with fail
 refine (kMi (Z13.out.raw.below bG) (yP.mark_held (e:=false) (x:=Y0_) (k:=1)) (by have:=B13.out.1;omega) (by have:=B13.out.2;omega)).mono ?_
 rintro e w14 ⟨rfl,hb14⟩
 have D14:Below w13.heap.size w13 w14:=Below.trans bG (hb14.mono mF)
 have H14:=yD (tQ H13.out D14)
 have L14:=yD (show w13.heap.size + 0≤w14.heap.size from by have h:=hb14.size;(try simp at h);omega)
 have X_aX_14:=yD (kE X_aX_13.out D14);clear X_aX_13
 have X_aW_14:=yD (kE X_aW_13.out D14);clear X_aW_13
 have X_w0_14:=yD (kE X_w0_13.out D14);clear X_w0_13
 have X_x0_14:=yD (kE X_x0_13.out D14);clear X_x0_13
 have X_x2_14:=yD (kE X_x2_13.out D14);clear X_x2_13
 have X_g0_14:=yD (kE X_g0_13.out D14);clear X_g0_13
 have O_w0_14:=yD (O_w0_13.out.below D14);clear O_w0_13
 have O_x0_14:=yD (O_x0_13.out.below D14);clear O_x0_13
 have O_x2_14:=yD (O_x2_13.out.below D14);clear O_x2_13
 have O_g0_14:=yD (Z13.out.below D14);clear Z13
 clear D14 K_g0_0 K_g0_1 K_g0_2 K_g0_3 K_g0_4 K_g0_5 K_g0_6 K_g0_7 K_g0_8 hb14
 obtain ⟨K_aX_0,K_aX_1,K_aX_2,K_aX_3,K_aX_4,K_aX_5,K_aX_6,K_aX_7⟩:=kAa X_aX_14.out
 obtain ⟨K_aW_0,K_aW_1,K_aW_2,K_aW_3⟩:=yR X_aW_14.out
 go_wp2_with fail
 apply share (fun b W=>Below w14.heap.size w14 W∧w14.heap.size≤b∧b < W.heap.size∧∃ cs:List Value,W.heap[b]?=some (.cells cs.toArray 56 (0,0))∧yP.own W cs Y0_ (Btw w14.heap.size W.heap.size))
 case walk =>
  intro CONT
  have FX:=yD (fun (W:World) (hW:Below w14.heap.size w14 W)=>cLs12 hW K_aX_0 K_aX_1 K_aX_2 K_aX_3 K_aX_4 K_aX_5 K_aX_6 K_aX_7 K_aW_0 K_aW_1 K_aW_2 K_aW_3)
  refine yj (fun W=>Below w14.heap.size w14 W) rA (bR.drew) ?_
  intro wS HS
  refine kY 0 ?_
  refine wkP ?_
  refine kY 2 ?_
  refine wkP ?_
  refine kY 3 ?_
  refine wkP ?_
  refine kY 5 ?_
  refine wkP ?_
  refine yQ (i:=1) (j:=7) rfl rfl rA rfl rfl (fun K hK=>?_) (fun K hK=>?_)
  · go_simp
    refine (kFn (r0.below (tQ H14.out HS))).mono ?_
    rintro e u15_0 ⟨cs15_0,rfl,O15_0,hc⟩
    obtain ⟨t15_0v0,t15_0v2,t15_0v3,t15_0v4,t15_0v5,t15_0v6,rfl,t15_0_0,t15_0_1,t15_0_2,t15_0_3,t15_0_4,t15_0_5,t15_0_6,t15_0_7,t15_0_8⟩:=jm O15_0.raw
    obtain ⟨t15_0a0,t15_0p0,rfl,_⟩:=Rep.sl t15_0_0
    obtain ⟨t15_0a2,t15_0p2,rfl,_⟩:=Rep.sl t15_0_3
    obtain ⟨t15_0a3,t15_0p3,rfl,_⟩:=Rep.sl t15_0_4
    obtain ⟨t15_0a4,t15_0p4,rfl,_⟩:=Rep.sl t15_0_5
    obtain ⟨t15_0a5,t15_0p5,rfl,_⟩:=Rep.sl t15_0_6
    obtain ⟨t15_0a6,t15_0p6,rfl,_⟩:=Rep.sl t15_0_7
    clear t15_0_0 t15_0_1 t15_0_2 t15_0_3 t15_0_4 t15_0_5 t15_0_6 t15_0_7 t15_0_8
    replace HS:=(tQ HS hc)
    refine hK _ _ HS ?_
    clear hK K hc
    refine wkP ?_
    refine yQ (i:=4) (j:=7) rfl rfl rA rfl rfl (fun K hK=>?_) (fun K hK=>?_)
    · go_simp
      refine (kAc (r2.below (tQ H14.out HS))).mono ?_
      rintro e u15_1 ⟨cs15_1,rfl,O15_1,hc⟩
      obtain ⟨t15_1v0,rfl,t15_1_0,t15_1_1,t15_1_2,t15_1_3,t15_1_4⟩:=jA O15_1.raw
      obtain ⟨t15_1a0,t15_1p0,rfl,_⟩:=Rep.sl t15_1_1
      clear t15_1_0 t15_1_1 t15_1_2 t15_1_3 t15_1_4
      replace O15_0:=O15_0.below hc
      replace HS:=(tQ HS hc)
      refine hK _ _ HS ?_
      clear hK K hc
      refine wkP ?_
      refine yQ (i:=6) (j:=7) rfl rfl rA rfl rfl (fun K hK=>?_) (fun K hK=>?_)
      · go_simp
        refine (zS O15_0.rd hi1.out O15_1.rd hi3.out (G1.out z1)).mono ?_
        rintro e u15 ⟨cs15,rfl,O15,hc⟩
        rw [HYE.out] at O15
        obtain ⟨t15v0,t15v2,t15v3,t15v4,t15v5,t15v6,t15v8,rfl,t15_0,t15_1,t15_2,t15_3,t15_4,t15_5,t15_6,t15_7,t15_8,t15_9,t15_10⟩:=yG O15.raw
        obtain ⟨t15a0,t15p0,rfl,_⟩:=Rep.sl t15_1
        obtain ⟨t15a2,t15p2,rfl,_⟩:=Rep.sl t15_4
        obtain ⟨t15a3,t15p3,rfl,_⟩:=Rep.sl t15_5
        obtain ⟨t15a4,t15p4,rfl,_⟩:=Rep.sl t15_6
        obtain ⟨t15a5,t15p5,rfl,_⟩:=Rep.sl t15_7
        obtain ⟨t15a6,t15p6,rfl,_⟩:=Rep.sl t15_8
        obtain ⟨t15a8,t15p8,rfl,_⟩:=Rep.sl t15_10
        clear t15_0 t15_1 t15_2 t15_3 t15_4 t15_5 t15_6 t15_7 t15_8 t15_9 t15_10
        have hzr:=HS.size
        have hzc:=hc.size
        replace HS:=(tQ HS hc)
        refine hK _ _ HS ?_
        clear hK K hc O15_0 O15_1
        refine wkP ?_
        refine kT (k:=7) rfl rA rfl (fun K hK=>?_)
        go_simp
        generalize hwZ:World.alloc u15 _=wZ
        have hlt_:=HS.size
        have XZ:wZ.heap[u15.heap.size]?=some (.cells #[.slice none 0 0,.int .i64 0,.slice none 0 0,.slice none 0 0,.slice none 0 0,.slice none 0 0,.slice none 0 0,.int .i64 0,.slice none 0 0] 56 (0,0)):=(by rw [← hwZ];exact kW rfl)
        have hbZ:Below u15.heap.size u15 wZ:=(by rw [← hwZ];exact bR.alloc nL _)
        replace O15:=O15.below hbZ
        have hzZ:=hbZ.size
        replace HS:=(tQ HS hbZ)
        clear hwZ hbZ
        refine hK _ _ HS ?_
        clear hK K
        refine wkP ?_
        refine kT (k:=8) rfl rA rfl (fun K hK=>?_)
        obtain ⟨Y0,Y1,Y2,Y3,Y4,Y5,Y6,Y7,Y8⟩:=yH XZ
        obtain ⟨N0,N1,N2,N3,N4,N5,N6,N7,N8⟩:=zg XZ
        go_simp
        obtain ⟨wE,hws⟩:∃ W,W=Rep.setCells wZ (u15.heap.size) 0 [.slice t15a0 (Y0_.1.1).length t15p0,.int .i64 Y0_.1.2.1.1,.slice t15a2 (Y0_.1.2.1.2).length t15p2,.slice t15a3 (Y0_.1.2.2.1).length t15p3,.slice t15a4 (Y0_.1.2.2.2.1).length t15p4,.slice t15a5 (Y0_.1.2.2.2.2.1).length t15p5,.slice t15a6 (Y0_.1.2.2.2.2.2.1).length t15p6,.int .i64 Y0_.1.2.2.2.2.2.2,.slice t15a8 (Y0_.2).length t15p8]:=⟨_,rfl⟩
        change K _ (Rep.setCells _ _ 0 [.slice t15a0 (Y0_.1.1).length t15p0,.int .i64 Y0_.1.2.1.1,.slice t15a2 (Y0_.1.2.1.2).length t15p2,.slice t15a3 (Y0_.1.2.2.1).length t15p3,.slice t15a4 (Y0_.1.2.2.2.1).length t15p4,.slice t15a5 (Y0_.1.2.2.2.2.1).length t15p5,.slice t15a6 (Y0_.1.2.2.2.2.2.1).length t15p6,.int .i64 Y0_.1.2.2.2.2.2.2,.slice t15a8 (Y0_.2).length t15p8])
        rw [← hws]
        have T_:Touch (fun k=>k=u15.heap.size) wZ wE:=(by rw [hws];exact Rep.jg _ _ _ _)
        have XW:wE.heap[u15.heap.size]?=some (.cells #[.slice t15a0 (Y0_.1.1).length t15p0,.int .i64 Y0_.1.2.1.1,.slice t15a2 (Y0_.1.2.1.2).length t15p2,.slice t15a3 (Y0_.1.2.2.1).length t15p3,.slice t15a4 (Y0_.1.2.2.2.1).length t15p4,.slice t15a5 (Y0_.1.2.2.2.2.1).length t15p5,.slice t15a6 (Y0_.1.2.2.2.2.2.1).length t15p6,.int .i64 Y0_.1.2.2.2.2.2.2,.slice t15a8 (Y0_.2).length t15p8] 56 (0,0)):=(by rw [hws];exact Rep.jl [.slice t15a0 (Y0_.1.1).length t15p0,.int .i64 Y0_.1.2.1.1,.slice t15a2 (Y0_.1.2.1.2).length t15p2,.slice t15a3 (Y0_.1.2.2.1).length t15p3,.slice t15a4 (Y0_.1.2.2.2.1).length t15p4,.slice t15a5 (Y0_.1.2.2.2.2.1).length t15p5,.slice t15a6 (Y0_.1.2.2.2.2.2.1).length t15p6,.int .i64 Y0_.1.2.2.2.2.2.2,.slice t15a8 (Y0_.2).length t15p8] [.slice none 0 0,.int .i64 0,.slice none 0 0,.slice none 0 0,.slice none 0 0,.slice none 0 0,.slice none 0 0,.int .i64 0,.slice none 0 0] [] [] wZ (u15.heap.size) 0 XZ rfl rfl)
        have OW:=O15.touch T_ fH
        have hzE:wE.heap.size=wZ.heap.size:=(by rw [hws];exact Rep.setCells_size _ _ _ _)
        replace HS:=HS.trans (T_.below HS.size qD)
        clear hws Y0 N0 Y1 N1 Y2 N2 Y3 N3 Y4 N4 Y5 N5 Y6 N6 Y7 N7 Y8 N8 XZ T_
        refine hK _ _ HS ?_
        clear hK K
        refine wkP ?_
        refine jc rA ?_
        have g3:Value:=.nilIface
        generalize (.agg #[.slice t15a0 (Y0_.1.1).length t15p0,.int .i64 Y0_.1.2.1.1,.slice t15a2 (Y0_.1.2.1.2).length t15p2,.slice t15a3 (Y0_.1.2.2.1).length t15p3,.slice t15a4 (Y0_.1.2.2.2.1).length t15p4,.slice t15a5 (Y0_.1.2.2.2.2.1).length t15p5,.slice t15a6 (Y0_.1.2.2.2.2.2.1).length t15p6,.int .i64 Y0_.1.2.2.2.2.2.2,.slice t15a8 (Y0_.2).length t15p8]:Value)=g4
        generalize (.agg #[.slice t15_0a0 (x0.1).length t15_0p0,.int .i64 x0.2.1.1,.slice t15_0a2 (x0.2.1.2).length t15_0p2,.slice t15_0a3 (x0.2.2.1).length t15_0p3,.slice t15_0a4 (x0.2.2.2.1).length t15_0p4,.slice t15_0a5 (x0.2.2.2.2.1).length t15_0p5,.slice t15_0a6 (x0.2.2.2.2.2.1).length t15_0p6,.int .i64 x0.2.2.2.2.2.2]:Value)=g1
        generalize (.agg #[.slice t15_1a0 (x2.1).length t15_1p0,.int .i64 x2.2.1,.int .i64 x2.2.2.1,.int .i64 x2.2.2.2]:Value)=g2
        have hbl:=(Array.getElem?_eq_some_iff.1 XW).1
        have OE:=Rep.own.wide (T:=Btw w14.heap.size wE.heap.size) OW dM
        clear OW
        generalize u15.heap.size=b at hbl XW hlt_ ⊢
        exact CONT b g1 g2 g3 g4 wE ⟨HS,hlt_,hbl,_,XW,OE⟩
      go_simp
      generalize hwZ:World.alloc u15_1 _=wZ
      have hlt_:=HS.size
      have XZ:wZ.heap[u15_1.heap.size]?=some (.cells #[.slice none 0 0,.int .i64 0,.slice none 0 0,.slice none 0 0,.slice none 0 0,.slice none 0 0,.slice none 0 0,.int .i64 0,.slice none 0 0] 56 (0,0)):=(by rw [← hwZ];exact kW rfl)
      have hbZ:Below u15_1.heap.size u15_1 wZ:=(by rw [← hwZ];exact bR.alloc nL _)
      replace O15_0:=O15_0.below hbZ
      replace O15_1:=O15_1.below hbZ
      have hzZ:=hbZ.size
      replace HS:=(tQ HS hbZ)
      clear hwZ hbZ
      refine hK _ _ HS ?_
      clear hK K
      refine wkP ?_
      refine kT (k:=6) rfl rA rfl (fun K hK=>?_)
      go_simp
      refine (zS O15_0.rd hi1.out O15_1.rd hi3.out (G1.out z1)).mono ?_
      rintro e u15 ⟨cs15,rfl,O15,hc⟩
      rw [HYE.out] at O15
      obtain ⟨t15v0,t15v2,t15v3,t15v4,t15v5,t15v6,t15v8,rfl,t15_0,t15_1,t15_2,t15_3,t15_4,t15_5,t15_6,t15_7,t15_8,t15_9,t15_10⟩:=yG O15.raw
      obtain ⟨t15a0,t15p0,rfl,_⟩:=Rep.sl t15_1
      obtain ⟨t15a2,t15p2,rfl,_⟩:=Rep.sl t15_4
      obtain ⟨t15a3,t15p3,rfl,_⟩:=Rep.sl t15_5
      obtain ⟨t15a4,t15p4,rfl,_⟩:=Rep.sl t15_6
      obtain ⟨t15a5,t15p5,rfl,_⟩:=Rep.sl t15_7
      obtain ⟨t15a6,t15p6,rfl,_⟩:=Rep.sl t15_8
      obtain ⟨t15a8,t15p8,rfl,_⟩:=Rep.sl t15_10
      clear t15_0 t15_1 t15_2 t15_3 t15_4 t15_5 t15_6 t15_7 t15_8 t15_9 t15_10
      have hfl:=(Array.getElem?_eq_some_iff.1 XZ).1
      replace XZ:=kE XZ hc
      have hzr:=HS.size
      have hzc:=hc.size
      replace HS:=(tQ HS hc)
      refine hK _ _ HS ?_
      clear hK K hc O15_0 O15_1
      refine wkP ?_
      refine kT (k:=8) rfl rA rfl (fun K hK=>?_)
      obtain ⟨Y0,Y1,Y2,Y3,Y4,Y5,Y6,Y7,Y8⟩:=yH XZ
      obtain ⟨N0,N1,N2,N3,N4,N5,N6,N7,N8⟩:=zg XZ
      go_simp
      obtain ⟨wE,hws⟩:∃ W,W=Rep.setCells u15 (u15_1.heap.size) 0 [.slice t15a0 (Y0_.1.1).length t15p0,.int .i64 Y0_.1.2.1.1,.slice t15a2 (Y0_.1.2.1.2).length t15p2,.slice t15a3 (Y0_.1.2.2.1).length t15p3,.slice t15a4 (Y0_.1.2.2.2.1).length t15p4,.slice t15a5 (Y0_.1.2.2.2.2.1).length t15p5,.slice t15a6 (Y0_.1.2.2.2.2.2.1).length t15p6,.int .i64 Y0_.1.2.2.2.2.2.2,.slice t15a8 (Y0_.2).length t15p8]:=⟨_,rfl⟩
      change K _ (Rep.setCells _ _ 0 [.slice t15a0 (Y0_.1.1).length t15p0,.int .i64 Y0_.1.2.1.1,.slice t15a2 (Y0_.1.2.1.2).length t15p2,.slice t15a3 (Y0_.1.2.2.1).length t15p3,.slice t15a4 (Y0_.1.2.2.2.1).length t15p4,.slice t15a5 (Y0_.1.2.2.2.2.1).length t15p5,.slice t15a6 (Y0_.1.2.2.2.2.2.1).length t15p6,.int .i64 Y0_.1.2.2.2.2.2.2,.slice t15a8 (Y0_.2).length t15p8])
      rw [← hws]
      have T_:Touch (fun k=>k=u15_1.heap.size) u15 wE:=(by rw [hws];exact Rep.jg _ _ _ _)
      have XW:wE.heap[u15_1.heap.size]?=some (.cells #[.slice t15a0 (Y0_.1.1).length t15p0,.int .i64 Y0_.1.2.1.1,.slice t15a2 (Y0_.1.2.1.2).length t15p2,.slice t15a3 (Y0_.1.2.2.1).length t15p3,.slice t15a4 (Y0_.1.2.2.2.1).length t15p4,.slice t15a5 (Y0_.1.2.2.2.2.1).length t15p5,.slice t15a6 (Y0_.1.2.2.2.2.2.1).length t15p6,.int .i64 Y0_.1.2.2.2.2.2.2,.slice t15a8 (Y0_.2).length t15p8] 56 (0,0)):=(by rw [hws];exact Rep.jl [.slice t15a0 (Y0_.1.1).length t15p0,.int .i64 Y0_.1.2.1.1,.slice t15a2 (Y0_.1.2.1.2).length t15p2,.slice t15a3 (Y0_.1.2.2.1).length t15p3,.slice t15a4 (Y0_.1.2.2.2.1).length t15p4,.slice t15a5 (Y0_.1.2.2.2.2.1).length t15p5,.slice t15a6 (Y0_.1.2.2.2.2.2.1).length t15p6,.int .i64 Y0_.1.2.2.2.2.2.2,.slice t15a8 (Y0_.2).length t15p8] [.slice none 0 0,.int .i64 0,.slice none 0 0,.slice none 0 0,.slice none 0 0,.slice none 0 0,.slice none 0 0,.int .i64 0,.slice none 0 0] [] [] u15 (u15_1.heap.size) 0 XZ rfl rfl)
      have OW:=O15.touch T_ fH
      have hzE:wE.heap.size=u15.heap.size:=(by rw [hws];exact Rep.setCells_size _ _ _ _)
      replace HS:=HS.trans (T_.below HS.size qD)
      clear hws Y0 N0 Y1 N1 Y2 N2 Y3 N3 Y4 N4 Y5 N5 Y6 N6 Y7 N7 Y8 N8 XZ T_
      refine hK _ _ HS ?_
      clear hK K
      refine wkP ?_
      refine jc rA ?_
      have g3:Value:=.nilIface
      generalize (.agg #[.slice t15a0 (Y0_.1.1).length t15p0,.int .i64 Y0_.1.2.1.1,.slice t15a2 (Y0_.1.2.1.2).length t15p2,.slice t15a3 (Y0_.1.2.2.1).length t15p3,.slice t15a4 (Y0_.1.2.2.2.1).length t15p4,.slice t15a5 (Y0_.1.2.2.2.2.1).length t15p5,.slice t15a6 (Y0_.1.2.2.2.2.2.1).length t15p6,.int .i64 Y0_.1.2.2.2.2.2.2,.slice t15a8 (Y0_.2).length t15p8]:Value)=g4
      generalize (.agg #[.slice t15_0a0 (x0.1).length t15_0p0,.int .i64 x0.2.1.1,.slice t15_0a2 (x0.2.1.2).length t15_0p2,.slice t15_0a3 (x0.2.2.1).length t15_0p3,.slice t15_0a4 (x0.2.2.2.1).length t15_0p4,.slice t15_0a5 (x0.2.2.2.2.1).length t15_0p5,.slice t15_0a6 (x0.2.2.2.2.2.1).length t15_0p6,.int .i64 x0.2.2.2.2.2.2]:Value)=g1
      generalize (.agg #[.slice t15_1a0 (x2.1).length t15_1p0,.int .i64 x2.2.1,.int .i64 x2.2.2.1,.int .i64 x2.2.2.2]:Value)=g2
      have hbl:=(Array.getElem?_eq_some_iff.1 XW).1
      have OE:=Rep.own.wide (T:=Btw w14.heap.size wE.heap.size) OW dM
      clear OW
      generalize u15_1.heap.size=b at hbl XW hlt_ ⊢
      exact CONT b g1 g2 g3 g4 wE ⟨HS,hlt_,hbl,_,XW,OE⟩
    go_simp
    generalize hwZ:World.alloc u15_0 _=wZ
    have hlt_:=HS.size
    have XZ:wZ.heap[u15_0.heap.size]?=some (.cells #[.slice none 0 0,.int .i64 0,.slice none 0 0,.slice none 0 0,.slice none 0 0,.slice none 0 0,.slice none 0 0,.int .i64 0,.slice none 0 0] 56 (0,0)):=(by rw [← hwZ];exact kW rfl)
    have hbZ:Below u15_0.heap.size u15_0 wZ:=(by rw [← hwZ];exact bR.alloc nL _)
    replace O15_0:=O15_0.below hbZ
    have hzZ:=hbZ.size
    replace HS:=(tQ HS hbZ)
    clear hwZ hbZ
    refine hK _ _ HS ?_
    clear hK K
    refine wkP ?_
    refine kT (k:=4) rfl rA rfl (fun K hK=>?_)
    go_simp
    refine (kAc (r2.below (tQ H14.out HS))).mono ?_
    rintro e u15_1 ⟨cs15_1,rfl,O15_1,hc⟩
    obtain ⟨t15_1v0,rfl,t15_1_0,t15_1_1,t15_1_2,t15_1_3,t15_1_4⟩:=jA O15_1.raw
    obtain ⟨t15_1a0,t15_1p0,rfl,_⟩:=Rep.sl t15_1_1
    clear t15_1_0 t15_1_1 t15_1_2 t15_1_3 t15_1_4
    replace O15_0:=O15_0.below hc
    replace XZ:=kE XZ hc
    replace HS:=(tQ HS hc)
    refine hK _ _ HS ?_
    clear hK K hc
    refine wkP ?_
    refine kT (k:=6) rfl rA rfl (fun K hK=>?_)
    go_simp
    refine (zS O15_0.rd hi1.out O15_1.rd hi3.out (G1.out z1)).mono ?_
    rintro e u15 ⟨cs15,rfl,O15,hc⟩
    rw [HYE.out] at O15
    obtain ⟨t15v0,t15v2,t15v3,t15v4,t15v5,t15v6,t15v8,rfl,t15_0,t15_1,t15_2,t15_3,t15_4,t15_5,t15_6,t15_7,t15_8,t15_9,t15_10⟩:=yG O15.raw
    obtain ⟨t15a0,t15p0,rfl,_⟩:=Rep.sl t15_1
    obtain ⟨t15a2,t15p2,rfl,_⟩:=Rep.sl t15_4
    obtain ⟨t15a3,t15p3,rfl,_⟩:=Rep.sl t15_5
    obtain ⟨t15a4,t15p4,rfl,_⟩:=Rep.sl t15_6
    obtain ⟨t15a5,t15p5,rfl,_⟩:=Rep.sl t15_7
    obtain ⟨t15a6,t15p6,rfl,_⟩:=Rep.sl t15_8
    obtain ⟨t15a8,t15p8,rfl,_⟩:=Rep.sl t15_10
    clear t15_0 t15_1 t15_2 t15_3 t15_4 t15_5 t15_6 t15_7 t15_8 t15_9 t15_10
    have hfl:=(Array.getElem?_eq_some_iff.1 XZ).1
    replace XZ:=kE XZ hc
    have hzr:=HS.size
    have hzc:=hc.size
    replace HS:=(tQ HS hc)
    refine hK _ _ HS ?_
    clear hK K hc O15_0 O15_1
    refine wkP ?_
    refine kT (k:=8) rfl rA rfl (fun K hK=>?_)
    obtain ⟨Y0,Y1,Y2,Y3,Y4,Y5,Y6,Y7,Y8⟩:=yH XZ
    obtain ⟨N0,N1,N2,N3,N4,N5,N6,N7,N8⟩:=zg XZ
    go_simp
    obtain ⟨wE,hws⟩:∃ W,W=Rep.setCells u15 (u15_0.heap.size) 0 [.slice t15a0 (Y0_.1.1).length t15p0,.int .i64 Y0_.1.2.1.1,.slice t15a2 (Y0_.1.2.1.2).length t15p2,.slice t15a3 (Y0_.1.2.2.1).length t15p3,.slice t15a4 (Y0_.1.2.2.2.1).length t15p4,.slice t15a5 (Y0_.1.2.2.2.2.1).length t15p5,.slice t15a6 (Y0_.1.2.2.2.2.2.1).length t15p6,.int .i64 Y0_.1.2.2.2.2.2.2,.slice t15a8 (Y0_.2).length t15p8]:=⟨_,rfl⟩
    change K _ (Rep.setCells _ _ 0 [.slice t15a0 (Y0_.1.1).length t15p0,.int .i64 Y0_.1.2.1.1,.slice t15a2 (Y0_.1.2.1.2).length t15p2,.slice t15a3 (Y0_.1.2.2.1).length t15p3,.slice t15a4 (Y0_.1.2.2.2.1).length t15p4,.slice t15a5 (Y0_.1.2.2.2.2.1).length t15p5,.slice t15a6 (Y0_.1.2.2.2.2.2.1).length t15p6,.int .i64 Y0_.1.2.2.2.2.2.2,.slice t15a8 (Y0_.2).length t15p8])
    rw [← hws]
    have T_:Touch (fun k=>k=u15_0.heap.size) u15 wE:=(by rw [hws];exact Rep.jg _ _ _ _)
    have XW:wE.heap[u15_0.heap.size]?=some (.cells #[.slice t15a0 (Y0_.1.1).length t15p0,.int .i64 Y0_.1.2.1.1,.slice t15a2 (Y0_.1.2.1.2).length t15p2,.slice t15a3 (Y0_.1.2.2.1).length t15p3,.slice t15a4 (Y0_.1.2.2.2.1).length t15p4,.slice t15a5 (Y0_.1.2.2.2.2.1).length t15p5,.slice t15a6 (Y0_.1.2.2.2.2.2.1).length t15p6,.int .i64 Y0_.1.2.2.2.2.2.2,.slice t15a8 (Y0_.2).length t15p8] 56 (0,0)):=(by rw [hws];exact Rep.jl [.slice t15a0 (Y0_.1.1).length t15p0,.int .i64 Y0_.1.2.1.1,.slice t15a2 (Y0_.1.2.1.2).length t15p2,.slice t15a3 (Y0_.1.2.2.1).length t15p3,.slice t15a4 (Y0_.1.2.2.2.1).length t15p4,.slice t15a5 (Y0_.1.2.2.2.2.1).length t15p5,.slice t15a6 (Y0_.1.2.2.2.2.2.1).length t15p6,.int .i64 Y0_.1.2.2.2.2.2.2,.slice t15a8 (Y0_.2).length t15p8] [.slice none 0 0,.int .i64 0,.slice none 0 0,.slice none 0 0,.slice none 0 0,.slice none 0 0,.slice none 0 0,.int .i64 0,.slice none 0 0] [] [] u15 (u15_0.heap.size) 0 XZ rfl rfl)
    have OW:=O15.touch T_ fH
    have hzE:wE.heap.size=u15.heap.size:=(by rw [hws];exact Rep.setCells_size _ _ _ _)
    replace HS:=HS.trans (T_.below HS.size qD)
    clear hws Y0 N0 Y1 N1 Y2 N2 Y3 N3 Y4 N4 Y5 N5 Y6 N6 Y7 N7 Y8 N8 XZ T_
    refine hK _ _ HS ?_
    clear hK K
    refine wkP ?_
    refine jc rA ?_
    have g3:Value:=.nilIface
    generalize (.agg #[.slice t15a0 (Y0_.1.1).length t15p0,.int .i64 Y0_.1.2.1.1,.slice t15a2 (Y0_.1.2.1.2).length t15p2,.slice t15a3 (Y0_.1.2.2.1).length t15p3,.slice t15a4 (Y0_.1.2.2.2.1).length t15p4,.slice t15a5 (Y0_.1.2.2.2.2.1).length t15p5,.slice t15a6 (Y0_.1.2.2.2.2.2.1).length t15p6,.int .i64 Y0_.1.2.2.2.2.2.2,.slice t15a8 (Y0_.2).length t15p8]:Value)=g4
    generalize (.agg #[.slice t15_0a0 (x0.1).length t15_0p0,.int .i64 x0.2.1.1,.slice t15_0a2 (x0.2.1.2).length t15_0p2,.slice t15_0a3 (x0.2.2.1).length t15_0p3,.slice t15_0a4 (x0.2.2.2.1).length t15_0p4,.slice t15_0a5 (x0.2.2.2.2.1).length t15_0p5,.slice t15_0a6 (x0.2.2.2.2.2.1).length t15_0p6,.int .i64 x0.2.2.2.2.2.2]:Value)=g1
    generalize (.agg #[.slice t15_1a0 (x2.1).length t15_1p0,.int .i64 x2.2.1,.int .i64 x2.2.2.1,.int .i64 x2.2.2.2]:Value)=g2
    have hbl:=(Array.getElem?_eq_some_iff.1 XW).1
    have OE:=Rep.own.wide (T:=Btw w14.heap.size wE.heap.size) OW dM
    clear OW
    generalize u15_0.heap.size=b at hbl XW hlt_ ⊢
    exact CONT b g1 g2 g3 g4 wE ⟨HS,hlt_,hbl,_,XW,OE⟩
  go_simp
  generalize hwZ:World.alloc wS _=wZ
  have hlt_:=HS.size
  have XZ:wZ.heap[wS.heap.size]?=some (.cells #[.slice none 0 0,.int .i64 0,.slice none 0 0,.slice none 0 0,.slice none 0 0,.slice none 0 0,.slice none 0 0,.int .i64 0,.slice none 0 0] 56 (0,0)):=(by rw [← hwZ];exact kW rfl)
  have hbZ:Below wS.heap.size wS wZ:=(by rw [← hwZ];exact bR.alloc nL _)
  have hzZ:=hbZ.size
  replace HS:=(tQ HS hbZ)
  clear hwZ hbZ
  refine hK _ _ HS ?_
  clear hK K
  refine wkP ?_
  refine kT (k:=1) rfl rA rfl (fun K hK=>?_)
  go_simp
  refine (kFn (r0.below (tQ H14.out HS))).mono ?_
  rintro e u15_0 ⟨cs15_0,rfl,O15_0,hc⟩
  obtain ⟨t15_0v0,t15_0v2,t15_0v3,t15_0v4,t15_0v5,t15_0v6,rfl,t15_0_0,t15_0_1,t15_0_2,t15_0_3,t15_0_4,t15_0_5,t15_0_6,t15_0_7,t15_0_8⟩:=jm O15_0.raw
  obtain ⟨t15_0a0,t15_0p0,rfl,_⟩:=Rep.sl t15_0_0
  obtain ⟨t15_0a2,t15_0p2,rfl,_⟩:=Rep.sl t15_0_3
  obtain ⟨t15_0a3,t15_0p3,rfl,_⟩:=Rep.sl t15_0_4
  obtain ⟨t15_0a4,t15_0p4,rfl,_⟩:=Rep.sl t15_0_5
  obtain ⟨t15_0a5,t15_0p5,rfl,_⟩:=Rep.sl t15_0_6
  obtain ⟨t15_0a6,t15_0p6,rfl,_⟩:=Rep.sl t15_0_7
  clear t15_0_0 t15_0_1 t15_0_2 t15_0_3 t15_0_4 t15_0_5 t15_0_6 t15_0_7 t15_0_8
  replace XZ:=kE XZ hc
  replace HS:=(tQ HS hc)
  refine hK _ _ HS ?_
  clear hK K hc
  refine wkP ?_
  refine kT (k:=4) rfl rA rfl (fun K hK=>?_)
  go_simp
  refine (kAc (r2.below (tQ H14.out HS))).mono ?_
  rintro e u15_1 ⟨cs15_1,rfl,O15_1,hc⟩
  obtain ⟨t15_1v0,rfl,t15_1_0,t15_1_1,t15_1_2,t15_1_3,t15_1_4⟩:=jA O15_1.raw
  obtain ⟨t15_1a0,t15_1p0,rfl,_⟩:=Rep.sl t15_1_1
  clear t15_1_0 t15_1_1 t15_1_2 t15_1_3 t15_1_4
  replace O15_0:=O15_0.below hc
  replace XZ:=kE XZ hc
  replace HS:=(tQ HS hc)
  refine hK _ _ HS ?_
  clear hK K hc
  refine wkP ?_
  refine kT (k:=6) rfl rA rfl (fun K hK=>?_)
  go_simp
  refine (zS O15_0.rd hi1.out O15_1.rd hi3.out (G1.out z1)).mono ?_
  rintro e u15 ⟨cs15,rfl,O15,hc⟩
  rw [HYE.out] at O15
  obtain ⟨t15v0,t15v2,t15v3,t15v4,t15v5,t15v6,t15v8,rfl,t15_0,t15_1,t15_2,t15_3,t15_4,t15_5,t15_6,t15_7,t15_8,t15_9,t15_10⟩:=yG O15.raw
  obtain ⟨t15a0,t15p0,rfl,_⟩:=Rep.sl t15_1
  obtain ⟨t15a2,t15p2,rfl,_⟩:=Rep.sl t15_4
  obtain ⟨t15a3,t15p3,rfl,_⟩:=Rep.sl t15_5
  obtain ⟨t15a4,t15p4,rfl,_⟩:=Rep.sl t15_6
  obtain ⟨t15a5,t15p5,rfl,_⟩:=Rep.sl t15_7
  obtain ⟨t15a6,t15p6,rfl,_⟩:=Rep.sl t15_8
  obtain ⟨t15a8,t15p8,rfl,_⟩:=Rep.sl t15_10
  clear t15_0 t15_1 t15_2 t15_3 t15_4 t15_5 t15_6 t15_7 t15_8 t15_9 t15_10
  have hfl:=(Array.getElem?_eq_some_iff.1 XZ).1
  replace XZ:=kE XZ hc
  have hzr:=HS.size
  have hzc:=hc.size
  replace HS:=(tQ HS hc)
  refine hK _ _ HS ?_
  clear hK K hc O15_0 O15_1
  refine wkP ?_
  refine kT (k:=8) rfl rA rfl (fun K hK=>?_)
  obtain ⟨Y0,Y1,Y2,Y3,Y4,Y5,Y6,Y7,Y8⟩:=yH XZ
  obtain ⟨N0,N1,N2,N3,N4,N5,N6,N7,N8⟩:=zg XZ
  go_simp
  obtain ⟨wE,hws⟩:∃ W,W=Rep.setCells u15 (wS.heap.size) 0 [.slice t15a0 (Y0_.1.1).length t15p0,.int .i64 Y0_.1.2.1.1,.slice t15a2 (Y0_.1.2.1.2).length t15p2,.slice t15a3 (Y0_.1.2.2.1).length t15p3,.slice t15a4 (Y0_.1.2.2.2.1).length t15p4,.slice t15a5 (Y0_.1.2.2.2.2.1).length t15p5,.slice t15a6 (Y0_.1.2.2.2.2.2.1).length t15p6,.int .i64 Y0_.1.2.2.2.2.2.2,.slice t15a8 (Y0_.2).length t15p8]:=⟨_,rfl⟩
  change K _ (Rep.setCells _ _ 0 [.slice t15a0 (Y0_.1.1).length t15p0,.int .i64 Y0_.1.2.1.1,.slice t15a2 (Y0_.1.2.1.2).length t15p2,.slice t15a3 (Y0_.1.2.2.1).length t15p3,.slice t15a4 (Y0_.1.2.2.2.1).length t15p4,.slice t15a5 (Y0_.1.2.2.2.2.1).length t15p5,.slice t15a6 (Y0_.1.2.2.2.2.2.1).length t15p6,.int .i64 Y0_.1.2.2.2.2.2.2,.slice t15a8 (Y0_.2).length t15p8])
  rw [← hws]
  have T_:Touch (fun k=>k=wS.heap.size) u15 wE:=(by rw [hws];exact Rep.jg _ _ _ _)
  have XW:wE.heap[wS.heap.size]?=some (.cells #[.slice t15a0 (Y0_.1.1).length t15p0,.int .i64 Y0_.1.2.1.1,.slice t15a2 (Y0_.1.2.1.2).length t15p2,.slice t15a3 (Y0_.1.2.2.1).length t15p3,.slice t15a4 (Y0_.1.2.2.2.1).length t15p4,.slice t15a5 (Y0_.1.2.2.2.2.1).length t15p5,.slice t15a6 (Y0_.1.2.2.2.2.2.1).length t15p6,.int .i64 Y0_.1.2.2.2.2.2.2,.slice t15a8 (Y0_.2).length t15p8] 56 (0,0)):=(by rw [hws];exact Rep.jl [.slice t15a0 (Y0_.1.1).length t15p0,.int .i64 Y0_.1.2.1.1,.slice t15a2 (Y0_.1.2.1.2).length t15p2,.slice t15a3 (Y0_.1.2.2.1).length t15p3,.slice t15a4 (Y0_.1.2.2.2.1).length t15p4,.slice t15a5 (Y0_.1.2.2.2.2.1).length t15p5,.slice t15a6 (Y0_.1.2.2.2.2.2.1).length t15p6,.int .i64 Y0_.1.2.2.2.2.2.2,.slice t15a8 (Y0_.2).length t15p8] [.slice none 0 0,.int .i64 0,.slice none 0 0,.slice none 0 0,.slice none 0 0,.slice none 0 0,.slice none 0 0,.int .i64 0,.slice none 0 0] [] [] u15 (wS.heap.size) 0 XZ rfl rfl)
  have OW:=O15.touch T_ fH
  have hzE:wE.heap.size=u15.heap.size:=(by rw [hws];exact Rep.setCells_size _ _ _ _)
  replace HS:=HS.trans (T_.below HS.size qD)
  clear hws Y0 N0 Y1 N1 Y2 N2 Y3 N3 Y4 N4 Y5 N5 Y6 N6 Y7 N7 Y8 N8 XZ T_
  refine hK _ _ HS ?_
  clear hK K
  refine wkP ?_
  refine jc rA ?_
  have g3:Value:=.nilIface
  generalize (.agg #[.slice t15a0 (Y0_.1.1).length t15p0,.int .i64 Y0_.1.2.1.1,.slice t15a2 (Y0_.1.2.1.2).length t15p2,.slice t15a3 (Y0_.1.2.2.1).length t15p3,.slice t15a4 (Y0_.1.2.2.2.1).length t15p4,.slice t15a5 (Y0_.1.2.2.2.2.1).length t15p5,.slice t15a6 (Y0_.1.2.2.2.2.2.1).length t15p6,.int .i64 Y0_.1.2.2.2.2.2.2,.slice t15a8 (Y0_.2).length t15p8]:Value)=g4
  generalize (.agg #[.slice t15_0a0 (x0.1).length t15_0p0,.int .i64 x0.2.1.1,.slice t15_0a2 (x0.2.1.2).length t15_0p2,.slice t15_0a3 (x0.2.2.1).length t15_0p3,.slice t15_0a4 (x0.2.2.2.1).length t15_0p4,.slice t15_0a5 (x0.2.2.2.2.1).length t15_0p5,.slice t15_0a6 (x0.2.2.2.2.2.1).length t15_0p6,.int .i64 x0.2.2.2.2.2.2]:Value)=g1
  generalize (.agg #[.slice t15_1a0 (x2.1).length t15_1p0,.int .i64 x2.2.1,.int .i64 x2.2.2.1,.int .i64 x2.2.2.2]:Value)=g2
  have hbl:=(Array.getElem?_eq_some_iff.1 XW).1
  have OE:=Rep.own.wide (T:=Btw w14.heap.size wE.heap.size) OW dM
  clear OW
  generalize wS.heap.size=b at hbl XW hlt_ ⊢
  exact CONT b g1 g2 g3 g4 wE ⟨HS,hlt_,hbl,_,XW,OE⟩
 intro bx15 g15_1 g15_2 g15_3 g15_4 w15 ⟨HS,hb15_1,hb15_2,cs15,XB15,O15⟩
 obtain ⟨t15v0,t15v2,t15v3,t15v4,t15v5,t15v6,t15v8,rfl,t15_0,t15_1,t15_2,t15_3,t15_4,t15_5,t15_6,t15_7,t15_8,t15_9,t15_10⟩:=yG O15.raw
 obtain ⟨t15a0,t15p0,rfl,_⟩:=Rep.sl t15_1
 obtain ⟨t15a2,t15p2,rfl,_⟩:=Rep.sl t15_4
 obtain ⟨t15a3,t15p3,rfl,_⟩:=Rep.sl t15_5
 obtain ⟨t15a4,t15p4,rfl,_⟩:=Rep.sl t15_6
 obtain ⟨t15a5,t15p5,rfl,_⟩:=Rep.sl t15_7
 obtain ⟨t15a6,t15p6,rfl,_⟩:=Rep.sl t15_8
 obtain ⟨t15a8,t15p8,rfl,_⟩:=Rep.sl t15_10
 clear t15_0 t15_1 t15_2 t15_3 t15_4 t15_5 t15_6 t15_7 t15_8 t15_9 t15_10
 have Z15:=yD O15;clear O15
 have XX15:=yD XB15;clear XB15
 have D15:Below w14.heap.size w14 w15:=Below.trans bG (HS.mono mF)
 have H15:=yD (tQ H14.out D15)
 have L15:=yD (show w14.heap.size + 0≤w15.heap.size from by have h:=HS.size;(try simp at h);omega)
 have X_aX_15:=yD (kE X_aX_14.out D15);clear X_aX_14
 have X_aW_15:=yD (kE X_aW_14.out D15);clear X_aW_14
 have X_w0_15:=yD (kE X_w0_14.out D15);clear X_w0_14
 have X_x0_15:=yD (kE X_x0_14.out D15);clear X_x0_14
 have X_x2_15:=yD (kE X_x2_14.out D15);clear X_x2_14
 have X_g0_15:=yD (kE X_g0_14.out D15);clear X_g0_14
 have O_w0_15:=yD (O_w0_14.out.below D15);clear O_w0_14
 have O_x0_15:=yD (O_x0_14.out.below D15);clear O_x0_14
 have O_x2_15:=yD (O_x2_14.out.below D15);clear O_x2_14
 have O_g0_15:=yD (O_g0_14.out.below D15);clear O_g0_14
 clear D15 K_aX_0 K_aX_1 K_aX_2 K_aX_3 K_aX_4 K_aX_5 K_aX_6 K_aX_7 K_aW_0 K_aW_1 K_aW_2 K_aW_3 HS
 obtain ⟨K_h0_0,K_h0_1,K_h0_2,K_h0_3,K_h0_4,K_h0_5,K_h0_6,K_h0_7,K_h0_8⟩:=yH XX15.out
 obtain ⟨K_w0_0,K_w0_1,K_w0_2,K_w0_3,K_w0_4,K_w0_5,K_w0_6,K_w0_7,K_w0_8⟩:=yH X_w0_15.out
 go_wp2_with fail
 refine (kKy (Z15.out.raw.below bG) (O_w0_15.out.raw.below bG)).mono ?_
 rintro e w16 ⟨rfl,hb16⟩
 have D16:Below w15.heap.size w15 w16:=Below.trans bG (hb16.mono mF)
 have H16:=yD (tQ H15.out D16)
 have L16:=yD (show w15.heap.size + 0≤w16.heap.size from by have h:=hb16.size;(try simp at h);omega)
 have X_aX_16:=yD (kE X_aX_15.out D16);clear X_aX_15
 have X_aW_16:=yD (kE X_aW_15.out D16);clear X_aW_15
 have X_w0_16:=yD (kE X_w0_15.out D16);clear X_w0_15
 have X_x0_16:=yD (kE X_x0_15.out D16);clear X_x0_15
 have X_x2_16:=yD (kE X_x2_15.out D16);clear X_x2_15
 have X_g0_16:=yD (kE X_g0_15.out D16);clear X_g0_15
 have X_h0_16:=yD (kE XX15.out D16);clear XX15
 have O_w0_16:=yD (O_w0_15.out.below D16);clear O_w0_15
 have O_x0_16:=yD (O_x0_15.out.below D16);clear O_x0_15
 have O_x2_16:=yD (O_x2_15.out.below D16);clear O_x2_15
 have O_g0_16:=yD (O_g0_15.out.below D16);clear O_g0_15
 have O_h0_16:=yD (Z15.out.below D16);clear Z15
 clear D16 K_h0_0 K_h0_1 K_h0_2 K_h0_3 K_h0_4 K_h0_5 K_h0_6 K_h0_7 K_h0_8 K_w0_0 K_w0_1 K_w0_2 K_w0_3 K_w0_4 K_w0_5 K_w0_6 K_w0_7 K_w0_8 hb16
 obtain ⟨K_g0_0,K_g0_1,K_g0_2,K_g0_3,K_g0_4,K_g0_5,K_g0_6,K_g0_7,K_g0_8⟩:=yH X_g0_16.out
 go_wp2_with fail
 refine (kMi (O_g0_16.out.raw.below bG) (yP.mark_held (e:=false) (x:=Y0_) (k:=1)) (by have:=B13.out.1;omega) (by have:=B13.out.2;omega)).mono ?_
 rintro e w17 ⟨rfl,hb17⟩
 have D17:Below w16.heap.size w16 w17:=Below.trans bG (hb17.mono mF)
 have H17:=yD (tQ H16.out D17)
 have L17:=yD (show w16.heap.size + 0≤w17.heap.size from by have h:=hb17.size;(try simp at h);omega)
 have X_aX_17:=yD (kE X_aX_16.out D17);clear X_aX_16
 have X_aW_17:=yD (kE X_aW_16.out D17);clear X_aW_16
 have X_w0_17:=yD (kE X_w0_16.out D17);clear X_w0_16
 have X_x0_17:=yD (kE X_x0_16.out D17);clear X_x0_16
 have X_x2_17:=yD (kE X_x2_16.out D17);clear X_x2_16
 have X_g0_17:=yD (kE X_g0_16.out D17);clear X_g0_16
 have X_h0_17:=yD (kE X_h0_16.out D17);clear X_h0_16
 have O_w0_17:=yD (O_w0_16.out.below D17);clear O_w0_16
 have O_x0_17:=yD (O_x0_16.out.below D17);clear O_x0_16
 have O_x2_17:=yD (O_x2_16.out.below D17);clear O_x2_16
 have O_g0_17:=yD (O_g0_16.out.below D17);clear O_g0_16
 have O_h0_17:=yD (O_h0_16.out.below D17);clear O_h0_16
 clear D17 K_g0_0 K_g0_1 K_g0_2 K_g0_3 K_g0_4 K_g0_5 K_g0_6 K_g0_7 K_g0_8 hb17
 go_wp2
 go_ret
 exact ⟨rfl,H17.out⟩
theorem lawProcessInterest_lifted (os:Os) (started:os.Started) (H:Type) (enc:TypeId × Value→H) :
    ReturnsInHanded {} Tryz.checked os 4 .any (Rows.fnExactProcessInterestSpec.pre6 enc Tryz.prog Tryz.f4 Rows.fnExactProcessInterestRow.domain false) (Rows.fnExactProcessInterestSpec.post enc Tryz.prog Tryz.f4 false true false false):=by
 refine returnsInHanded_of_change (C:=Tryz.checked) law_own started rA Tryz.func4
   (ChangeSpec.witness6 (enc:=enc) (C:=Tryz.checked) false ⟨#[],#[.agg #[.slice none 0 0,.int .i64 0,.slice none 0 0,.slice none 0 0,.slice none 0 0,.slice none 0 0,.slice none 0 0,.int .i64 0],.int .i64 0,.agg #[.slice none 0 0,.int .i64 0,.int .i64 0,.int .i64 0],.int .i64 0],[]⟩ 8 rA rA rA rA) ?_
 intro W base args ds gs before hval0 hW _ _
 have hval:∀ (j:Nat) t v,Tryz.f4.params[j]?=some t→args[j]?=some v→Value.okWide Tryz.prog W .any base t v:=hval0
 have hW0:DataW.Whole enc Tryz.prog Tryz.f4.params.toList Rows.fnExactProcessInterestSpec.vars false W args.toList ds gs before:=hW
 obtain ⟨p,q,hA0,hV,rfl,hfz,hnd⟩:=hW
 have hA:DataW.TrodAll enc Tryz.prog W 0 (fun _=>true) true Tryz.f4.params.toList args.toList ds p:=hA0
 rw [Tryz.params4] at hA hval
 obtain ⟨v0,vs0,d0,ds0,p0,q0,hargs,rfl,rfl,g0,s0⟩:=trodAll_cons hA
 obtain ⟨v1,vs1,d1,ds1,p1,q1,rfl,rfl,rfl,g1,s1⟩:=trodAll_cons s0
 obtain ⟨v2,vs2,d2,ds2,p2,q2,rfl,rfl,rfl,g2,s2⟩:=trodAll_cons s1
 obtain ⟨v3,vs3,d3,ds3,p3,q3,rfl,rfl,rfl,g3,s3⟩:=trodAll_cons s2
 obtain ⟨rfl,rfl,rfl⟩:=trodAll_nil s3
 obtain rfl:args=#[v0,v1,v2,v3]:=by cases args;simp_all
 obtain ⟨rfl,rfl⟩:=trodVars_none hV
 obtain ⟨c0,rfl⟩:∃ c:List Value,v0=.agg c.toArray:=by
  have h:=hval 0 31 v0 rfl rfl
  unfold Value.okWide at h
  rw [Tryz.underlying31] at h
  obtain ⟨cs,rfl,_⟩:=h
  exact ⟨cs.toList,by simp⟩
 obtain ⟨fu0,hf0⟩:=g0
 obtain ⟨x0,h0⟩:=bridge_Node (w:=W) hf0
 have h0:jM.raw W c0 x0:=by simpa [Value.cells] using h0
 obtain ⟨x1,rfl,rfl,rfl,e1⟩:=open_int Tryz.underlying3 (hval 1 3 v1 rfl rfl) g1
 have h1:-9223372036854775808≤x1∧x1≤9223372036854775807:=by simpa [Lit.wf,IntKind.min,IntKind.max,IntKind.signed,IntKind.bits] using e1
 obtain ⟨c2,rfl⟩:∃ c:List Value,v2=.agg c.toArray:=by
  have h:=hval 2 52 v2 rfl rfl
  unfold Value.okWide at h
  rw [Tryz.underlying52] at h
  obtain ⟨cs,rfl,_⟩:=h
  exact ⟨cs.toList,by simp⟩
 obtain ⟨fu2,hf2⟩:=g2
 obtain ⟨x2,h2⟩:=kPz (w:=W) hf2
 have h2:kw.raw W c2 x2:=by simpa [Value.cells] using h2
 obtain ⟨x3,rfl,rfl,rfl,e3⟩:=open_int Tryz.underlying3 (hval 3 3 v3 rfl rfl) g3
 have h3:-9223372036854775808≤x3∧x3≤9223372036854775807:=by simpa [Lit.wf,IntKind.min,IntKind.max,IntKind.signed,IntKind.bits] using e3
 refine (kHw h0 h1 h2 h3).mono fun e W' ⟨he,hb⟩=>?_
 subst he
 refine ⟨_,rfl,law_post (tb:=4) hW0 rfl rfl Tryz.underlying4 ⟨rfl,rfl,rfl⟩ ?_ hb⟩
 rw [Tryz.params4]
 intro t ht
 have hall:([31,3,52,3].all fun t=>Tryz.prog.readableRec t && decide (t < Tryz.prog.types.size))=true:=rA
 have h1:=List.all_eq_true.1 hall t ht
 simpa using h1
theorem lawProcessInterest_holds : Rows.FnExactProcessInterestSaid :=
  OpenClaim.holds_of_wide 4 Tryz.f4 rfl rfl rfl rfl rfl rfl rfl ⟨rfl, rfl, rfl, rfl, rfl⟩ rfl rfl rfl rfl rfl rA Tryz.func4 rA
    (of_decide_eq_true rA) (by unfold Func.isWrapper; first | (rw [if_pos (by decide +kernel)]; kernel_rfl) | (rw [if_neg (by decide +kernel)]; exact ⟨rfl, rfl⟩))
    (fun os started H enc _ => lawProcessInterest_lifted os started H enc)
end Go.Proofs.YtomdenfcfbkfbaaGreat

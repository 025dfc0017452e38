/-
  The law FnExactProcessData, walked: it returns true, whatever its arguments; then its statement. Printed by genlaw.py.
-/
import Derived.Test.YtlfblpgkegeaeaaGreatEq
import Derived.Test.YtlfblpgkegeaeaaGreatSz
import Derived.Test.YtlfblpgkegeaeaaGreatTo
import Derived.Test.YtlfblpgkegeaeaaGreatPDatS
import Derived.Test.YtlfblpgkegeaeaaGreatPDatM
import Derived.Deep.RegionHeld3
set_option linter.unusedVariables false
set_option linter.unusedSimpArgs false
set_option linter.unnecessarySimpa false
set_option maxRecDepth 100000
set_option maxHeartbeats 4000000
namespace Go.Proofs.YtlfblpgkegeaeaaGreat
open Go.ChangeShapes Go.WideShapes Go.ChangeAt Go.RowKit
theorem kNo {w:World} {c0:List Value} {x0:kAf} (h0:jC.raw w c0 x0) {c1:List Value} {x1:kz} (h1:kT.raw w c1 x1) {x2:Int} (h2:-9223372036854775808≤x2∧x2≤9223372036854775807) {c3:List Value} {x3:jJ} (h3:kP.raw w c3 x3) {x4:Int} (h4:-9223372036854775808≤x4∧x4≤9223372036854775807) :
    Calls Tryz.prog 4 #[.agg c0.toArray,.agg c1.toArray,.int .i64 x2,.agg c3.toArray,.int .i64 x4] w (LawPost w):=by
 obtain ⟨a0v0,a0v2,a0v3,a0v4,a0v5,a0v6,rfl,a0_0,a0_1,a0_2,a0_3,a0_4,a0_5,a0_6,a0_7,a0_8⟩:=jo h0
 clear a0_0 a0_1 a0_2 a0_3 a0_4 a0_5 a0_6 a0_7 a0_8
 obtain ⟨a1v0,a1v1,a1v2,a1v3,rfl,a1_0,a1_1,a1_2,a1_3⟩:=kw h1
 clear a1_0 a1_1 a1_2 a1_3
 have hi2:=yD h2;clear h2
 obtain ⟨a3v0,a3v1,a3v2,rfl,a3_0,a3_1,a3_2,a3_3,a3_4,a3_5,a3_6⟩:=kY h3
 clear a3_0 a3_1 a3_2 a3_3 a3_4 a3_5 a3_6
 have hi4:=yD h4;clear h4
 obtain ⟨Y0_,hYE⟩:∃ y,kRo x0 x1 x2 x3 x4=y:=⟨_,rfl⟩
 have HYE:=yD hYE;clear hYE
 go_enter Tryz.func4,Tryz.ntmps4
 go_wp2_with fail
 refine (szNode_c (h0.below bU) rP rP).mono ?_
 rintro e w1 ⟨s1,rfl,p1,q1,g1,hb1⟩
 have G1:=yD g1;clear g1
 have D1:Below w.heap.size w w1:=Below.trans bU (hb1.mono mZ)
 have H1:=yD D1
 have L1:=yD (show w.heap.size + 3≤w1.heap.size from by have h:=hb1.size;(try simp at h);omega)
 have X_aX_1:Hid (w1.heap[w.heap.size]?=some (.cells #[a0v0,.int .i64 x0.2.1.1,a0v2,a0v3,a0v4,a0v5,a0v6,.int .i64 x0.2.2.2.2.2.2] 31 (0,0))):=yD ((hb1.block (w.heap.size) mZ).trans (jD (jD (kN rQ))))
 have X_aT_1:Hid (w1.heap[w.heap.size + 1]?=some (.cells #[a1v0,a1v1,a1v2,a1v3] 36 (0,0))):=yD ((hb1.block (w.heap.size + 1) mZ).trans (jD (kN rQ)))
 have X_aY_1:Hid (w1.heap[w.heap.size + 1 + 1]?=some (.cells #[a3v0,a3v1,a3v2,.int .i64 x3.2.2.2.1,.int .i64 x3.2.2.2.2] 42 (0,0))):=yD ((hb1.block (w.heap.size + 1 + 1) mZ).trans (kN rQ))
 clear D1 hb1
 by_cases m1:s1 < 0
 · go_wp2
   go_ret
   exact ⟨rfl,H1.out⟩
 have z1:0≤s1:=rP
 have r0:jC.rd w _ x0:=⟨h0,jC.bdd_mono (G1.out z1) rM⟩
 obtain ⟨K_aT_0,K_aT_1,K_aT_2,K_aT_3⟩:=kAm X_aT_1.out
 go_wp2_with fail
 refine (kPj (h1.below (by repeat (first|(with_reducible exact H1.out) | refine Below.alloc ?_ (by have:=H1.out.size;simp;try omega) _ | refine Below.drew ?_))) z1 rP).mono ?_
 rintro e w2 ⟨s2,rfl,p2,q2,g2,hb2⟩
 have G2:=yD g2;clear g2
 have D2:Below w1.heap.size w1 w2:=Below.trans bU (hb2.mono mZ)
 have H2:=yD (tQ H1.out D2)
 have L2:=yD (show w1.heap.size + 0≤w2.heap.size from by have h:=hb2.size;(try simp at h);omega)
 have X_aX_2:=yD (kD X_aX_1.out D2);clear X_aX_1
 have X_aT_2:=yD (kD X_aT_1.out D2);clear X_aT_1
 have X_aY_2:=yD (kD X_aY_1.out D2);clear X_aY_1
 clear D2 K_aT_0 K_aT_1 K_aT_2 K_aT_3 hb2
 by_cases m2:s2 < 0
 · go_wp2
   go_ret
   exact ⟨rfl,H2.out⟩
 have z2:0≤s2:=rP
 have r1:kT.rd w _ x1:=⟨h1,kT.bdd_mono (G2.out z2) rM⟩
 obtain ⟨K_aY_0,K_aY_1,K_aY_2,K_aY_3,K_aY_4⟩:=jh X_aY_2.out
 go_wp2_with fail
 refine (kRa (h3.below (by repeat (first|(with_reducible exact H2.out) | refine Below.alloc ?_ (by have:=H2.out.size;simp;try omega) _ | refine Below.drew ?_))) z2 rP).mono ?_
 rintro e w3 ⟨s3,rfl,p3,q3,g3,hb3⟩
 have G3:=yD g3;clear g3
 have D3:Below w2.heap.size w2 w3:=Below.trans bU (hb3.mono mZ)
 have H3:=yD (tQ H2.out D3)
 have L3:=yD (show w2.heap.size + 0≤w3.heap.size from by have h:=hb3.size;(try simp at h);omega)
 have X_aX_3:=yD (kD X_aX_2.out D3);clear X_aX_2
 have X_aT_3:=yD (kD X_aT_2.out D3);clear X_aT_2
 have X_aY_3:=yD (kD X_aY_2.out D3);clear X_aY_2
 clear D3 K_aY_0 K_aY_1 K_aY_2 K_aY_3 K_aY_4 hb3
 by_cases m3:s3 < 0
 · go_wp2
   go_ret
   exact ⟨rfl,H3.out⟩
 have z3:0≤s3:=rP
 have r3:kP.rd w _ x3:=⟨h3,kP.bdd_mono (G3.out z3) rM⟩
 obtain ⟨K_aX_0,K_aX_1,K_aX_2,K_aX_3,K_aX_4,K_aX_5,K_aX_6,K_aX_7⟩:=kBj X_aX_3.out
 obtain ⟨K_aT_0,K_aT_1,K_aT_2,K_aT_3⟩:=kAm X_aT_3.out
 obtain ⟨K_aY_0,K_aY_1,K_aY_2,K_aY_3,K_aY_4⟩:=jh X_aY_3.out
 go_wp2_with fail
 apply share (fun b W=>Below w3.heap.size w3 W∧w3.heap.size≤b∧b < W.heap.size∧∃ cs:List Value,W.heap[b]?=some (.cells cs.toArray 74 (0,0))∧yP.own W cs Y0_ (Btw w3.heap.size W.heap.size))
 case walk =>
  intro CONT
  have FX:=yD (fun (W:World) (hW:Below w3.heap.size w3 W)=>cLs17 hW K_aX_0 K_aX_1 K_aX_2 K_aX_3 K_aX_4 K_aX_5 K_aX_6 K_aX_7 K_aT_0 K_aT_1 K_aT_2 K_aT_3 K_aY_0 K_aY_1 K_aY_2 K_aY_3 K_aY_4)
  refine kDh (fun W=>Below w3.heap.size w3 W) rF (bR.drew) ?_
  intro wS HS
  refine ja 0 ?_
  refine wkP ?_
  refine ja 2 ?_
  refine wkP ?_
  refine ja 4 ?_
  refine wkP ?_
  refine ja 5 ?_
  refine wkP ?_
  refine ja 7 ?_
  refine wkP ?_
  refine zT (i:=1) (j:=9) rfl rfl rF rfl rfl (fun K hK=>?_) (fun K hK=>?_)
  · go_simp
    refine (kGh (r0.below (tQ H3.out HS))).mono ?_
    rintro e u4_0 ⟨cs4_0,rfl,O4_0,hc⟩
    obtain ⟨t4_0v0,t4_0v2,t4_0v3,t4_0v4,t4_0v5,t4_0v6,rfl,t4_0_0,t4_0_1,t4_0_2,t4_0_3,t4_0_4,t4_0_5,t4_0_6,t4_0_7,t4_0_8⟩:=jo O4_0.raw
    obtain ⟨t4_0a0,t4_0p0,rfl,_⟩:=Rep.sl t4_0_0
    obtain ⟨t4_0a2,t4_0p2,rfl,_⟩:=Rep.sl t4_0_3
    obtain ⟨t4_0a3,t4_0p3,rfl,_⟩:=Rep.sl t4_0_4
    obtain ⟨t4_0a4,t4_0p4,rfl,_⟩:=Rep.sl t4_0_5
    obtain ⟨t4_0a5,t4_0p5,rfl,_⟩:=Rep.sl t4_0_6
    obtain ⟨t4_0a6,t4_0p6,rfl,_⟩:=Rep.sl t4_0_7
    clear t4_0_0 t4_0_1 t4_0_2 t4_0_3 t4_0_4 t4_0_5 t4_0_6 t4_0_7 t4_0_8
    replace HS:=(tQ HS hc)
    refine hK _ _ HS ?_
    clear hK K hc
    refine wkP ?_
    refine zT (i:=3) (j:=9) rfl rfl rF rfl rfl (fun K hK=>?_) (fun K hK=>?_)
    · go_simp
      refine (za (r1.below (tQ H3.out HS))).mono ?_
      rintro e u4_1 ⟨cs4_1,rfl,O4_1,hc⟩
      obtain ⟨t4_1v0,t4_1v1,t4_1v2,t4_1v3,rfl,t4_1_0,t4_1_1,t4_1_2,t4_1_3⟩:=kw O4_1.raw
      obtain ⟨t4_1a0,t4_1p0,rfl,_⟩:=Rep.sl t4_1_0
      obtain ⟨t4_1a1,t4_1p1,rfl,_⟩:=Rep.sl t4_1_1
      obtain ⟨t4_1a2,t4_1p2,rfl,_⟩:=Rep.sl t4_1_2
      obtain ⟨t4_1a3,t4_1p3,rfl,_⟩:=Rep.sl t4_1_3
      clear t4_1_0 t4_1_1 t4_1_2 t4_1_3
      replace O4_0:=O4_0.below hc
      replace HS:=(tQ HS hc)
      refine hK _ _ HS ?_
      clear hK K hc
      refine wkP ?_
      refine zT (i:=6) (j:=9) rfl rfl rF rfl rfl (fun K hK=>?_) (fun K hK=>?_)
      · go_simp
        refine (kBh (r3.below (tQ H3.out HS))).mono ?_
        rintro e u4_2 ⟨cs4_2,rfl,O4_2,hc⟩
        obtain ⟨t4_2v0,t4_2v1,t4_2v2,rfl,t4_2_0,t4_2_1,t4_2_2,t4_2_3,t4_2_4,t4_2_5,t4_2_6⟩:=kY O4_2.raw
        obtain ⟨t4_2a0,t4_2p0,rfl,_⟩:=Rep.sl t4_2_1
        obtain ⟨t4_2a1,t4_2p1,rfl,_⟩:=Rep.sl t4_2_2
        obtain ⟨t4_2a2,t4_2p2,rfl,_⟩:=Rep.sl t4_2_4
        clear t4_2_0 t4_2_1 t4_2_2 t4_2_3 t4_2_4 t4_2_5 t4_2_6
        replace O4_0:=O4_0.below hc
        replace O4_1:=O4_1.below hc
        replace HS:=(tQ HS hc)
        refine hK _ _ HS ?_
        clear hK K hc
        refine wkP ?_
        refine zT (i:=8) (j:=9) rfl rfl rF rfl rfl (fun K hK=>?_) (fun K hK=>?_)
        · go_simp
          refine (kAx O4_0.rd O4_1.rd hi2.out O4_2.rd hi4.out (G1.out z1) (G2.out z2) (G3.out z3)).mono ?_
          rintro e u4 ⟨cs4,rfl,O4,hc⟩
          rw [HYE.out] at O4
          obtain ⟨t4v0,t4v2,t4v3,t4v4,t4v5,t4v6,t4v8,rfl,t4_0,t4_1,t4_2,t4_3,t4_4,t4_5,t4_6,t4_7,t4_8,t4_9,t4_10⟩:=yB O4.raw
          obtain ⟨t4a0,t4p0,rfl,_⟩:=Rep.sl t4_1
          obtain ⟨t4a2,t4p2,rfl,_⟩:=Rep.sl t4_4
          obtain ⟨t4a3,t4p3,rfl,_⟩:=Rep.sl t4_5
          obtain ⟨t4a4,t4p4,rfl,_⟩:=Rep.sl t4_6
          obtain ⟨t4a5,t4p5,rfl,_⟩:=Rep.sl t4_7
          obtain ⟨t4a6,t4p6,rfl,_⟩:=Rep.sl t4_8
          obtain ⟨t4a8,t4p8,rfl,_⟩:=Rep.sl t4_10
          clear t4_0 t4_1 t4_2 t4_3 t4_4 t4_5 t4_6 t4_7 t4_8 t4_9 t4_10
          have hzr:=HS.size
          have hzc:=hc.size
          replace HS:=(tQ HS hc)
          refine hK _ _ HS ?_
          clear hK K hc O4_0 O4_1 O4_2
          refine wkP ?_
          refine kV (k:=9) rfl rF rfl (fun K hK=>?_)
          go_simp
          generalize hwZ:World.alloc u4 _=wZ
          have hlt_:=HS.size
          have XZ:wZ.heap[u4.heap.size]?=some (.cells #[.slice none 0 0,.int .i64 0,.slice none 0 0,.slice none 0 0,.slice none 0 0,.slice none 0 0,.slice none 0 0,.int .i64 0,.slice none 0 0] 74 (0,0)):=(by rw [← hwZ];exact kN rfl)
          have hbZ:Below u4.heap.size u4 wZ:=(by rw [← hwZ];exact bR.alloc nL _)
          replace O4:=O4.below hbZ
          have hzZ:=hbZ.size
          replace HS:=(tQ HS hbZ)
          clear hwZ hbZ
          refine hK _ _ HS ?_
          clear hK K
          refine wkP ?_
          refine kV (k:=10) rfl rF rfl (fun K hK=>?_)
          obtain ⟨Y0,Y1,Y2,Y3,Y4,Y5,Y6,Y7,Y8⟩:=ji XZ
          obtain ⟨N0,N1,N2,N3,N4,N5,N6,N7,N8⟩:=zJ XZ
          go_simp
          obtain ⟨wE,hws⟩:∃ W,W=Rep.setCells wZ (u4.heap.size) 0 [.slice t4a0 (Y0_.1.1).length t4p0,.int .i64 Y0_.1.2.1.1,.slice t4a2 (Y0_.1.2.1.2).length t4p2,.slice t4a3 (Y0_.1.2.2.1).length t4p3,.slice t4a4 (Y0_.1.2.2.2.1).length t4p4,.slice t4a5 (Y0_.1.2.2.2.2.1).length t4p5,.slice t4a6 (Y0_.1.2.2.2.2.2.1).length t4p6,.int .i64 Y0_.1.2.2.2.2.2.2,.slice t4a8 (Y0_.2).length t4p8]:=⟨_,rfl⟩
          change K _ (Rep.setCells _ _ 0 [.slice t4a0 (Y0_.1.1).length t4p0,.int .i64 Y0_.1.2.1.1,.slice t4a2 (Y0_.1.2.1.2).length t4p2,.slice t4a3 (Y0_.1.2.2.1).length t4p3,.slice t4a4 (Y0_.1.2.2.2.1).length t4p4,.slice t4a5 (Y0_.1.2.2.2.2.1).length t4p5,.slice t4a6 (Y0_.1.2.2.2.2.2.1).length t4p6,.int .i64 Y0_.1.2.2.2.2.2.2,.slice t4a8 (Y0_.2).length t4p8])
          rw [← hws]
          have T_:Touch (fun k=>k=u4.heap.size) wZ wE:=(by rw [hws];exact Rep.jq _ _ _ _)
          have XW:wE.heap[u4.heap.size]?=some (.cells #[.slice t4a0 (Y0_.1.1).length t4p0,.int .i64 Y0_.1.2.1.1,.slice t4a2 (Y0_.1.2.1.2).length t4p2,.slice t4a3 (Y0_.1.2.2.1).length t4p3,.slice t4a4 (Y0_.1.2.2.2.1).length t4p4,.slice t4a5 (Y0_.1.2.2.2.2.1).length t4p5,.slice t4a6 (Y0_.1.2.2.2.2.2.1).length t4p6,.int .i64 Y0_.1.2.2.2.2.2.2,.slice t4a8 (Y0_.2).length t4p8] 74 (0,0)):=(by rw [hws];exact Rep.yI [.slice t4a0 (Y0_.1.1).length t4p0,.int .i64 Y0_.1.2.1.1,.slice t4a2 (Y0_.1.2.1.2).length t4p2,.slice t4a3 (Y0_.1.2.2.1).length t4p3,.slice t4a4 (Y0_.1.2.2.2.1).length t4p4,.slice t4a5 (Y0_.1.2.2.2.2.1).length t4p5,.slice t4a6 (Y0_.1.2.2.2.2.2.1).length t4p6,.int .i64 Y0_.1.2.2.2.2.2.2,.slice t4a8 (Y0_.2).length t4p8] [.slice none 0 0,.int .i64 0,.slice none 0 0,.slice none 0 0,.slice none 0 0,.slice none 0 0,.slice none 0 0,.int .i64 0,.slice none 0 0] [] [] wZ (u4.heap.size) 0 XZ rfl rfl)
          have OW:=O4.touch T_ gI
          have hzE:wE.heap.size=wZ.heap.size:=(by rw [hws];exact Rep.setCells_size _ _ _ _)
          replace HS:=HS.trans (T_.below HS.size qI)
          clear hws Y0 N0 Y1 N1 Y2 N2 Y3 N3 Y4 N4 Y5 N5 Y6 N6 Y7 N7 Y8 N8 XZ T_
          refine hK _ _ HS ?_
          clear hK K
          refine wkP ?_
          refine yN rF ?_
          have g3:Value:=.nilIface
          generalize (.agg #[.slice t4a0 (Y0_.1.1).length t4p0,.int .i64 Y0_.1.2.1.1,.slice t4a2 (Y0_.1.2.1.2).length t4p2,.slice t4a3 (Y0_.1.2.2.1).length t4p3,.slice t4a4 (Y0_.1.2.2.2.1).length t4p4,.slice t4a5 (Y0_.1.2.2.2.2.1).length t4p5,.slice t4a6 (Y0_.1.2.2.2.2.2.1).length t4p6,.int .i64 Y0_.1.2.2.2.2.2.2,.slice t4a8 (Y0_.2).length t4p8]:Value)=g4
          generalize (.agg #[.slice t4_0a0 (x0.1).length t4_0p0,.int .i64 x0.2.1.1,.slice t4_0a2 (x0.2.1.2).length t4_0p2,.slice t4_0a3 (x0.2.2.1).length t4_0p3,.slice t4_0a4 (x0.2.2.2.1).length t4_0p4,.slice t4_0a5 (x0.2.2.2.2.1).length t4_0p5,.slice t4_0a6 (x0.2.2.2.2.2.1).length t4_0p6,.int .i64 x0.2.2.2.2.2.2]:Value)=g1
          generalize (.agg #[.slice t4_1a0 (x1.1).length t4_1p0,.slice t4_1a1 (x1.2.1).length t4_1p1,.slice t4_1a2 (x1.2.2.1).length t4_1p2,.slice t4_1a3 (x1.2.2.2).length t4_1p3]:Value)=g2
          generalize (.agg #[.slice t4_2a0 (x3.1).length t4_2p0,.slice t4_2a1 (x3.2.1).length t4_2p1,.slice t4_2a2 (x3.2.2.1).length t4_2p2,.int .i64 x3.2.2.2.1,.int .i64 x3.2.2.2.2]:Value)=g3
          have hbl:=(Array.getElem?_eq_some_iff.1 XW).1
          have OE:=Rep.own.wide (T:=Btw w3.heap.size wE.heap.size) OW fG
          clear OW
          generalize u4.heap.size=b at hbl XW hlt_ ⊢
          exact CONT b g1 g2 g3 g4 wE ⟨HS,hlt_,hbl,_,XW,OE⟩
        go_simp
        generalize hwZ:World.alloc u4_2 _=wZ
        have hlt_:=HS.size
        have XZ:wZ.heap[u4_2.heap.size]?=some (.cells #[.slice none 0 0,.int .i64 0,.slice none 0 0,.slice none 0 0,.slice none 0 0,.slice none 0 0,.slice none 0 0,.int .i64 0,.slice none 0 0] 74 (0,0)):=(by rw [← hwZ];exact kN rfl)
        have hbZ:Below u4_2.heap.size u4_2 wZ:=(by rw [← hwZ];exact bR.alloc nL _)
        replace O4_0:=O4_0.below hbZ
        replace O4_1:=O4_1.below hbZ
        replace O4_2:=O4_2.below hbZ
        have hzZ:=hbZ.size
        replace HS:=(tQ HS hbZ)
        clear hwZ hbZ
        refine hK _ _ HS ?_
        clear hK K
        refine wkP ?_
        refine kV (k:=8) rfl rF rfl (fun K hK=>?_)
        go_simp
        refine (kAx O4_0.rd O4_1.rd hi2.out O4_2.rd hi4.out (G1.out z1) (G2.out z2) (G3.out z3)).mono ?_
        rintro e u4 ⟨cs4,rfl,O4,hc⟩
        rw [HYE.out] at O4
        obtain ⟨t4v0,t4v2,t4v3,t4v4,t4v5,t4v6,t4v8,rfl,t4_0,t4_1,t4_2,t4_3,t4_4,t4_5,t4_6,t4_7,t4_8,t4_9,t4_10⟩:=yB O4.raw
        obtain ⟨t4a0,t4p0,rfl,_⟩:=Rep.sl t4_1
        obtain ⟨t4a2,t4p2,rfl,_⟩:=Rep.sl t4_4
        obtain ⟨t4a3,t4p3,rfl,_⟩:=Rep.sl t4_5
        obtain ⟨t4a4,t4p4,rfl,_⟩:=Rep.sl t4_6
        obtain ⟨t4a5,t4p5,rfl,_⟩:=Rep.sl t4_7
        obtain ⟨t4a6,t4p6,rfl,_⟩:=Rep.sl t4_8
        obtain ⟨t4a8,t4p8,rfl,_⟩:=Rep.sl t4_10
        clear t4_0 t4_1 t4_2 t4_3 t4_4 t4_5 t4_6 t4_7 t4_8 t4_9 t4_10
        have hfl:=(Array.getElem?_eq_some_iff.1 XZ).1
        replace XZ:=kD XZ hc
        have hzr:=HS.size
        have hzc:=hc.size
        replace HS:=(tQ HS hc)
        refine hK _ _ HS ?_
        clear hK K hc O4_0 O4_1 O4_2
        refine wkP ?_
        refine kV (k:=10) rfl rF rfl (fun K hK=>?_)
        obtain ⟨Y0,Y1,Y2,Y3,Y4,Y5,Y6,Y7,Y8⟩:=ji XZ
        obtain ⟨N0,N1,N2,N3,N4,N5,N6,N7,N8⟩:=zJ XZ
        go_simp
        obtain ⟨wE,hws⟩:∃ W,W=Rep.setCells u4 (u4_2.heap.size) 0 [.slice t4a0 (Y0_.1.1).length t4p0,.int .i64 Y0_.1.2.1.1,.slice t4a2 (Y0_.1.2.1.2).length t4p2,.slice t4a3 (Y0_.1.2.2.1).length t4p3,.slice t4a4 (Y0_.1.2.2.2.1).length t4p4,.slice t4a5 (Y0_.1.2.2.2.2.1).length t4p5,.slice t4a6 (Y0_.1.2.2.2.2.2.1).length t4p6,.int .i64 Y0_.1.2.2.2.2.2.2,.slice t4a8 (Y0_.2).length t4p8]:=⟨_,rfl⟩
        change K _ (Rep.setCells _ _ 0 [.slice t4a0 (Y0_.1.1).length t4p0,.int .i64 Y0_.1.2.1.1,.slice t4a2 (Y0_.1.2.1.2).length t4p2,.slice t4a3 (Y0_.1.2.2.1).length t4p3,.slice t4a4 (Y0_.1.2.2.2.1).length t4p4,.slice t4a5 (Y0_.1.2.2.2.2.1).length t4p5,.slice t4a6 (Y0_.1.2.2.2.2.2.1).length t4p6,.int .i64 Y0_.1.2.2.2.2.2.2,.slice t4a8 (Y0_.2).length t4p8])
        rw [← hws]
        have T_:Touch (fun k=>k=u4_2.heap.size) u4 wE:=(by rw [hws];exact Rep.jq _ _ _ _)
        have XW:wE.heap[u4_2.heap.size]?=some (.cells #[.slice t4a0 (Y0_.1.1).length t4p0,.int .i64 Y0_.1.2.1.1,.slice t4a2 (Y0_.1.2.1.2).length t4p2,.slice t4a3 (Y0_.1.2.2.1).length t4p3,.slice t4a4 (Y0_.1.2.2.2.1).length t4p4,.slice t4a5 (Y0_.1.2.2.2.2.1).length t4p5,.slice t4a6 (Y0_.1.2.2.2.2.2.1).length t4p6,.int .i64 Y0_.1.2.2.2.2.2.2,.slice t4a8 (Y0_.2).length t4p8] 74 (0,0)):=(by rw [hws];exact Rep.yI [.slice t4a0 (Y0_.1.1).length t4p0,.int .i64 Y0_.1.2.1.1,.slice t4a2 (Y0_.1.2.1.2).length t4p2,.slice t4a3 (Y0_.1.2.2.1).length t4p3,.slice t4a4 (Y0_.1.2.2.2.1).length t4p4,.slice t4a5 (Y0_.1.2.2.2.2.1).length t4p5,.slice t4a6 (Y0_.1.2.2.2.2.2.1).length t4p6,.int .i64 Y0_.1.2.2.2.2.2.2,.slice t4a8 (Y0_.2).length t4p8] [.slice none 0 0,.int .i64 0,.slice none 0 0,.slice none 0 0,.slice none 0 0,.slice none 0 0,.slice none 0 0,.int .i64 0,.slice none 0 0] [] [] u4 (u4_2.heap.size) 0 XZ rfl rfl)
        have OW:=O4.touch T_ gI
        have hzE:wE.heap.size=u4.heap.size:=(by rw [hws];exact Rep.setCells_size _ _ _ _)
        replace HS:=HS.trans (T_.below HS.size qI)
        clear hws Y0 N0 Y1 N1 Y2 N2 Y3 N3 Y4 N4 Y5 N5 Y6 N6 Y7 N7 Y8 N8 XZ T_
        refine hK _ _ HS ?_
        clear hK K
        refine wkP ?_
        refine yN rF ?_
        have g3:Value:=.nilIface
        generalize (.agg #[.slice t4a0 (Y0_.1.1).length t4p0,.int .i64 Y0_.1.2.1.1,.slice t4a2 (Y0_.1.2.1.2).length t4p2,.slice t4a3 (Y0_.1.2.2.1).length t4p3,.slice t4a4 (Y0_.1.2.2.2.1).length t4p4,.slice t4a5 (Y0_.1.2.2.2.2.1).length t4p5,.slice t4a6 (Y0_.1.2.2.2.2.2.1).length t4p6,.int .i64 Y0_.1.2.2.2.2.2.2,.slice t4a8 (Y0_.2).length t4p8]:Value)=g4
        generalize (.agg #[.slice t4_0a0 (x0.1).length t4_0p0,.int .i64 x0.2.1.1,.slice t4_0a2 (x0.2.1.2).length t4_0p2,.slice t4_0a3 (x0.2.2.1).length t4_0p3,.slice t4_0a4 (x0.2.2.2.1).length t4_0p4,.slice t4_0a5 (x0.2.2.2.2.1).length t4_0p5,.slice t4_0a6 (x0.2.2.2.2.2.1).length t4_0p6,.int .i64 x0.2.2.2.2.2.2]:Value)=g1
        generalize (.agg #[.slice t4_1a0 (x1.1).length t4_1p0,.slice t4_1a1 (x1.2.1).length t4_1p1,.slice t4_1a2 (x1.2.2.1).length t4_1p2,.slice t4_1a3 (x1.2.2.2).length t4_1p3]:Value)=g2
        generalize (.agg #[.slice t4_2a0 (x3.1).length t4_2p0,.slice t4_2a1 (x3.2.1).length t4_2p1,.slice t4_2a2 (x3.2.2.1).length t4_2p2,.int .i64 x3.2.2.2.1,.int .i64 x3.2.2.2.2]:Value)=g3
        have hbl:=(Array.getElem?_eq_some_iff.1 XW).1
        have OE:=Rep.own.wide (T:=Btw w3.heap.size wE.heap.size) OW fG
        clear OW
        generalize u4_2.heap.size=b at hbl XW hlt_ ⊢
        exact CONT b g1 g2 g3 g4 wE ⟨HS,hlt_,hbl,_,XW,OE⟩
      go_simp
      generalize hwZ:World.alloc u4_1 _=wZ
      have hlt_:=HS.size
      have XZ:wZ.heap[u4_1.heap.size]?=some (.cells #[.slice none 0 0,.int .i64 0,.slice none 0 0,.slice none 0 0,.slice none 0 0,.slice none 0 0,.slice none 0 0,.int .i64 0,.slice none 0 0] 74 (0,0)):=(by rw [← hwZ];exact kN rfl)
      have hbZ:Below u4_1.heap.size u4_1 wZ:=(by rw [← hwZ];exact bR.alloc nL _)
      replace O4_0:=O4_0.below hbZ
      replace O4_1:=O4_1.below hbZ
      have hzZ:=hbZ.size
      replace HS:=(tQ HS hbZ)
      clear hwZ hbZ
      refine hK _ _ HS ?_
      clear hK K
      refine wkP ?_
      refine kV (k:=6) rfl rF rfl (fun K hK=>?_)
      go_simp
      refine (kBh (r3.below (tQ H3.out HS))).mono ?_
      rintro e u4_2 ⟨cs4_2,rfl,O4_2,hc⟩
      obtain ⟨t4_2v0,t4_2v1,t4_2v2,rfl,t4_2_0,t4_2_1,t4_2_2,t4_2_3,t4_2_4,t4_2_5,t4_2_6⟩:=kY O4_2.raw
      obtain ⟨t4_2a0,t4_2p0,rfl,_⟩:=Rep.sl t4_2_1
      obtain ⟨t4_2a1,t4_2p1,rfl,_⟩:=Rep.sl t4_2_2
      obtain ⟨t4_2a2,t4_2p2,rfl,_⟩:=Rep.sl t4_2_4
      clear t4_2_0 t4_2_1 t4_2_2 t4_2_3 t4_2_4 t4_2_5 t4_2_6
      replace O4_0:=O4_0.below hc
      replace O4_1:=O4_1.below hc
      replace XZ:=kD XZ hc
      replace HS:=(tQ HS hc)
      refine hK _ _ HS ?_
      clear hK K hc
      refine wkP ?_
      refine kV (k:=8) rfl rF rfl (fun K hK=>?_)
      go_simp
      refine (kAx O4_0.rd O4_1.rd hi2.out O4_2.rd hi4.out (G1.out z1) (G2.out z2) (G3.out z3)).mono ?_
      rintro e u4 ⟨cs4,rfl,O4,hc⟩
      rw [HYE.out] at O4
      obtain ⟨t4v0,t4v2,t4v3,t4v4,t4v5,t4v6,t4v8,rfl,t4_0,t4_1,t4_2,t4_3,t4_4,t4_5,t4_6,t4_7,t4_8,t4_9,t4_10⟩:=yB O4.raw
      obtain ⟨t4a0,t4p0,rfl,_⟩:=Rep.sl t4_1
      obtain ⟨t4a2,t4p2,rfl,_⟩:=Rep.sl t4_4
      obtain ⟨t4a3,t4p3,rfl,_⟩:=Rep.sl t4_5
      obtain ⟨t4a4,t4p4,rfl,_⟩:=Rep.sl t4_6
      obtain ⟨t4a5,t4p5,rfl,_⟩:=Rep.sl t4_7
      obtain ⟨t4a6,t4p6,rfl,_⟩:=Rep.sl t4_8
      obtain ⟨t4a8,t4p8,rfl,_⟩:=Rep.sl t4_10
      clear t4_0 t4_1 t4_2 t4_3 t4_4 t4_5 t4_6 t4_7 t4_8 t4_9 t4_10
      have hfl:=(Array.getElem?_eq_some_iff.1 XZ).1
      replace XZ:=kD XZ hc
      have hzr:=HS.size
      have hzc:=hc.size
      replace HS:=(tQ HS hc)
      refine hK _ _ HS ?_
      clear hK K hc O4_0 O4_1 O4_2
      refine wkP ?_
      refine kV (k:=10) rfl rF rfl (fun K hK=>?_)
      obtain ⟨Y0,Y1,Y2,Y3,Y4,Y5,Y6,Y7,Y8⟩:=ji XZ
      obtain ⟨N0,N1,N2,N3,N4,N5,N6,N7,N8⟩:=zJ XZ
      go_simp
      obtain ⟨wE,hws⟩:∃ W,W=Rep.setCells u4 (u4_1.heap.size) 0 [.slice t4a0 (Y0_.1.1).length t4p0,.int .i64 Y0_.1.2.1.1,.slice t4a2 (Y0_.1.2.1.2).length t4p2,.slice t4a3 (Y0_.1.2.2.1).length t4p3,.slice t4a4 (Y0_.1.2.2.2.1).length t4p4,.slice t4a5 (Y0_.1.2.2.2.2.1).length t4p5,.slice t4a6 (Y0_.1.2.2.2.2.2.1).length t4p6,.int .i64 Y0_.1.2.2.2.2.2.2,.slice t4a8 (Y0_.2).length t4p8]:=⟨_,rfl⟩
      change K _ (Rep.setCells _ _ 0 [.slice t4a0 (Y0_.1.1).length t4p0,.int .i64 Y0_.1.2.1.1,.slice t4a2 (Y0_.1.2.1.2).length t4p2,.slice t4a3 (Y0_.1.2.2.1).length t4p3,.slice t4a4 (Y0_.1.2.2.2.1).length t4p4,.slice t4a5 (Y0_.1.2.2.2.2.1).length t4p5,.slice t4a6 (Y0_.1.2.2.2.2.2.1).length t4p6,.int .i64 Y0_.1.2.2.2.2.2.2,.slice t4a8 (Y0_.2).length t4p8])
      rw [← hws]
      have T_:Touch (fun k=>k=u4_1.heap.size) u4 wE:=(by rw [hws];exact Rep.jq _ _ _ _)
      have XW:wE.heap[u4_1.heap.size]?=some (.cells #[.slice t4a0 (Y0_.1.1).length t4p0,.int .i64 Y0_.1.2.1.1,.slice t4a2 (Y0_.1.2.1.2).length t4p2,.slice t4a3 (Y0_.1.2.2.1).length t4p3,.slice t4a4 (Y0_.1.2.2.2.1).length t4p4,.slice t4a5 (Y0_.1.2.2.2.2.1).length t4p5,.slice t4a6 (Y0_.1.2.2.2.2.2.1).length t4p6,.int .i64 Y0_.1.2.2.2.2.2.2,.slice t4a8 (Y0_.2).length t4p8] 74 (0,0)):=(by rw [hws];exact Rep.yI [.slice t4a0 (Y0_.1.1).length t4p0,.int .i64 Y0_.1.2.1.1,.slice t4a2 (Y0_.1.2.1.2).length t4p2,.slice t4a3 (Y0_.1.2.2.1).length t4p3,.slice t4a4 (Y0_.1.2.2.2.1).length t4p4,.slice t4a5 (Y0_.1.2.2.2.2.1).length t4p5,.slice t4a6 (Y0_.1.2.2.2.2.2.1).length t4p6,.int .i64 Y0_.1.2.2.2.2.2.2,.slice t4a8 (Y0_.2).length t4p8] [.slice none 0 0,.int .i64 0,.slice none 0 0,.slice none 0 0,.slice none 0 0,.slice none 0 0,.slice none 0 0,.int .i64 0,.slice none 0 0] [] [] u4 (u4_1.heap.size) 0 XZ rfl rfl)
      have OW:=O4.touch T_ gI
      have hzE:wE.heap.size=u4.heap.size:=(by rw [hws];exact Rep.setCells_size _ _ _ _)
      replace HS:=HS.trans (T_.below HS.size qI)
      clear hws Y0 N0 Y1 N1 Y2 N2 Y3 N3 Y4 N4 Y5 N5 Y6 N6 Y7 N7 Y8 N8 XZ T_
      refine hK _ _ HS ?_
      clear hK K
      refine wkP ?_
      refine yN rF ?_
      have g3:Value:=.nilIface
      generalize (.agg #[.slice t4a0 (Y0_.1.1).length t4p0,.int .i64 Y0_.1.2.1.1,.slice t4a2 (Y0_.1.2.1.2).length t4p2,.slice t4a3 (Y0_.1.2.2.1).length t4p3,.slice t4a4 (Y0_.1.2.2.2.1).length t4p4,.slice t4a5 (Y0_.1.2.2.2.2.1).length t4p5,.slice t4a6 (Y0_.1.2.2.2.2.2.1).length t4p6,.int .i64 Y0_.1.2.2.2.2.2.2,.slice t4a8 (Y0_.2).length t4p8]:Value)=g4
      generalize (.agg #[.slice t4_0a0 (x0.1).length t4_0p0,.int .i64 x0.2.1.1,.slice t4_0a2 (x0.2.1.2).length t4_0p2,.slice t4_0a3 (x0.2.2.1).length t4_0p3,.slice t4_0a4 (x0.2.2.2.1).length t4_0p4,.slice t4_0a5 (x0.2.2.2.2.1).length t4_0p5,.slice t4_0a6 (x0.2.2.2.2.2.1).length t4_0p6,.int .i64 x0.2.2.2.2.2.2]:Value)=g1
      generalize (.agg #[.slice t4_1a0 (x1.1).length t4_1p0,.slice t4_1a1 (x1.2.1).length t4_1p1,.slice t4_1a2 (x1.2.2.1).length t4_1p2,.slice t4_1a3 (x1.2.2.2).length t4_1p3]:Value)=g2
      generalize (.agg #[.slice t4_2a0 (x3.1).length t4_2p0,.slice t4_2a1 (x3.2.1).length t4_2p1,.slice t4_2a2 (x3.2.2.1).length t4_2p2,.int .i64 x3.2.2.2.1,.int .i64 x3.2.2.2.2]:Value)=g3
      have hbl:=(Array.getElem?_eq_some_iff.1 XW).1
      have OE:=Rep.own.wide (T:=Btw w3.heap.size wE.heap.size) OW fG
      clear OW
      generalize u4_1.heap.size=b at hbl XW hlt_ ⊢
      exact CONT b g1 g2 g3 g4 wE ⟨HS,hlt_,hbl,_,XW,OE⟩
    go_simp
    generalize hwZ:World.alloc u4_0 _=wZ
    have hlt_:=HS.size
    have XZ:wZ.heap[u4_0.heap.size]?=some (.cells #[.slice none 0 0,.int .i64 0,.slice none 0 0,.slice none 0 0,.slice none 0 0,.slice none 0 0,.slice none 0 0,.int .i64 0,.slice none 0 0] 74 (0,0)):=(by rw [← hwZ];exact kN rfl)
    have hbZ:Below u4_0.heap.size u4_0 wZ:=(by rw [← hwZ];exact bR.alloc nL _)
    replace O4_0:=O4_0.below hbZ
    have hzZ:=hbZ.size
    replace HS:=(tQ HS hbZ)
    clear hwZ hbZ
    refine hK _ _ HS ?_
    clear hK K
    refine wkP ?_
    refine kV (k:=3) rfl rF rfl (fun K hK=>?_)
    go_simp
    refine (za (r1.below (tQ H3.out HS))).mono ?_
    rintro e u4_1 ⟨cs4_1,rfl,O4_1,hc⟩
    obtain ⟨t4_1v0,t4_1v1,t4_1v2,t4_1v3,rfl,t4_1_0,t4_1_1,t4_1_2,t4_1_3⟩:=kw O4_1.raw
    obtain ⟨t4_1a0,t4_1p0,rfl,_⟩:=Rep.sl t4_1_0
    obtain ⟨t4_1a1,t4_1p1,rfl,_⟩:=Rep.sl t4_1_1
    obtain ⟨t4_1a2,t4_1p2,rfl,_⟩:=Rep.sl t4_1_2
    obtain ⟨t4_1a3,t4_1p3,rfl,_⟩:=Rep.sl t4_1_3
    clear t4_1_0 t4_1_1 t4_1_2 t4_1_3
    replace O4_0:=O4_0.below hc
    replace XZ:=kD XZ hc
    replace HS:=(tQ HS hc)
    refine hK _ _ HS ?_
    clear hK K hc
    refine wkP ?_
    refine kV (k:=6) rfl rF rfl (fun K hK=>?_)
    go_simp
    refine (kBh (r3.below (tQ H3.out HS))).mono ?_
    rintro e u4_2 ⟨cs4_2,rfl,O4_2,hc⟩
    obtain ⟨t4_2v0,t4_2v1,t4_2v2,rfl,t4_2_0,t4_2_1,t4_2_2,t4_2_3,t4_2_4,t4_2_5,t4_2_6⟩:=kY O4_2.raw
    obtain ⟨t4_2a0,t4_2p0,rfl,_⟩:=Rep.sl t4_2_1
    obtain ⟨t4_2a1,t4_2p1,rfl,_⟩:=Rep.sl t4_2_2
    obtain ⟨t4_2a2,t4_2p2,rfl,_⟩:=Rep.sl t4_2_4
    clear t4_2_0 t4_2_1 t4_2_2 t4_2_3 t4_2_4 t4_2_5 t4_2_6
    replace O4_0:=O4_0.below hc
    replace O4_1:=O4_1.below hc
    replace XZ:=kD XZ hc
    replace HS:=(tQ HS hc)
    refine hK _ _ HS ?_
    clear hK K hc
    refine wkP ?_
    refine kV (k:=8) rfl rF rfl (fun K hK=>?_)
    go_simp
    refine (kAx O4_0.rd O4_1.rd hi2.out O4_2.rd hi4.out (G1.out z1) (G2.out z2) (G3.out z3)).mono ?_
    rintro e u4 ⟨cs4,rfl,O4,hc⟩
    rw [HYE.out] at O4
    obtain ⟨t4v0,t4v2,t4v3,t4v4,t4v5,t4v6,t4v8,rfl,t4_0,t4_1,t4_2,t4_3,t4_4,t4_5,t4_6,t4_7,t4_8,t4_9,t4_10⟩:=yB O4.raw
    obtain ⟨t4a0,t4p0,rfl,_⟩:=Rep.sl t4_1
    obtain ⟨t4a2,t4p2,rfl,_⟩:=Rep.sl t4_4
    obtain ⟨t4a3,t4p3,rfl,_⟩:=Rep.sl t4_5
    obtain ⟨t4a4,t4p4,rfl,_⟩:=Rep.sl t4_6
    obtain ⟨t4a5,t4p5,rfl,_⟩:=Rep.sl t4_7
    obtain ⟨t4a6,t4p6,rfl,_⟩:=Rep.sl t4_8
    obtain ⟨t4a8,t4p8,rfl,_⟩:=Rep.sl t4_10
    clear t4_0 t4_1 t4_2 t4_3 t4_4 t4_5 t4_6 t4_7 t4_8 t4_9 t4_10
    have hfl:=(Array.getElem?_eq_some_iff.1 XZ).1
    replace XZ:=kD XZ hc
    have hzr:=HS.size
    have hzc:=hc.size
    replace HS:=(tQ HS hc)
    refine hK _ _ HS ?_
    clear hK K hc O4_0 O4_1 O4_2
    refine wkP ?_
    refine kV (k:=10) rfl rF rfl (fun K hK=>?_)
    obtain ⟨Y0,Y1,Y2,Y3,Y4,Y5,Y6,Y7,Y8⟩:=ji XZ
    obtain ⟨N0,N1,N2,N3,N4,N5,N6,N7,N8⟩:=zJ XZ
    go_simp
    obtain ⟨wE,hws⟩:∃ W,W=Rep.setCells u4 (u4_0.heap.size) 0 [.slice t4a0 (Y0_.1.1).length t4p0,.int .i64 Y0_.1.2.1.1,.slice t4a2 (Y0_.1.2.1.2).length t4p2,.slice t4a3 (Y0_.1.2.2.1).length t4p3,.slice t4a4 (Y0_.1.2.2.2.1).length t4p4,.slice t4a5 (Y0_.1.2.2.2.2.1).length t4p5,.slice t4a6 (Y0_.1.2.2.2.2.2.1).length t4p6,.int .i64 Y0_.1.2.2.2.2.2.2,.slice t4a8 (Y0_.2).length t4p8]:=⟨_,rfl⟩
    change K _ (Rep.setCells _ _ 0 [.slice t4a0 (Y0_.1.1).length t4p0,.int .i64 Y0_.1.2.1.1,.slice t4a2 (Y0_.1.2.1.2).length t4p2,.slice t4a3 (Y0_.1.2.2.1).length t4p3,.slice t4a4 (Y0_.1.2.2.2.1).length t4p4,.slice t4a5 (Y0_.1.2.2.2.2.1).length t4p5,.slice t4a6 (Y0_.1.2.2.2.2.2.1).length t4p6,.int .i64 Y0_.1.2.2.2.2.2.2,.slice t4a8 (Y0_.2).length t4p8])
    rw [← hws]
    have T_:Touch (fun k=>k=u4_0.heap.size) u4 wE:=(by rw [hws];exact Rep.jq _ _ _ _)
    have XW:wE.heap[u4_0.heap.size]?=some (.cells #[.slice t4a0 (Y0_.1.1).length t4p0,.int .i64 Y0_.1.2.1.1,.slice t4a2 (Y0_.1.2.1.2).length t4p2,.slice t4a3 (Y0_.1.2.2.1).length t4p3,.slice t4a4 (Y0_.1.2.2.2.1).length t4p4,.slice t4a5 (Y0_.1.2.2.2.2.1).length t4p5,.slice t4a6 (Y0_.1.2.2.2.2.2.1).length t4p6,.int .i64 Y0_.1.2.2.2.2.2.2,.slice t4a8 (Y0_.2).length t4p8] 74 (0,0)):=(by rw [hws];exact Rep.yI [.slice t4a0 (Y0_.1.1).length t4p0,.int .i64 Y0_.1.2.1.1,.slice t4a2 (Y0_.1.2.1.2).length t4p2,.slice t4a3 (Y0_.1.2.2.1).length t4p3,.slice t4a4 (Y0_.1.2.2.2.1).length t4p4,.slice t4a5 (Y0_.1.2.2.2.2.1).length t4p5,.slice t4a6 (Y0_.1.2.2.2.2.2.1).length t4p6,.int .i64 Y0_.1.2.2.2.2.2.2,.slice t4a8 (Y0_.2).length t4p8] [.slice none 0 0,.int .i64 0,.slice none 0 0,.slice none 0 0,.slice none 0 0,.slice none 0 0,.slice none 0 0,.int .i64 0,.slice none 0 0] [] [] u4 (u4_0.heap.size) 0 XZ rfl rfl)
    have OW:=O4.touch T_ gI
    have hzE:wE.heap.size=u4.heap.size:=(by rw [hws];exact Rep.setCells_size _ _ _ _)
    replace HS:=HS.trans (T_.below HS.size qI)
    clear hws Y0 N0 Y1 N1 Y2 N2 Y3 N3 Y4 N4 Y5 N5 Y6 N6 Y7 N7 Y8 N8 XZ T_
    refine hK _ _ HS ?_
    clear hK K
    refine wkP ?_
    refine yN rF ?_
    have g3:Value:=.nilIface
    generalize (.agg #[.slice t4a0 (Y0_.1.1).length t4p0,.int .i64 Y0_.1.2.1.1,.slice t4a2 (Y0_.1.2.1.2).length t4p2,.slice t4a3 (Y0_.1.2.2.1).length t4p3,.slice t4a4 (Y0_.1.2.2.2.1).length t4p4,.slice t4a5 (Y0_.1.2.2.2.2.1).length t4p5,.slice t4a6 (Y0_.1.2.2.2.2.2.1).length t4p6,.int .i64 Y0_.1.2.2.2.2.2.2,.slice t4a8 (Y0_.2).length t4p8]:Value)=g4
    generalize (.agg #[.slice t4_0a0 (x0.1).length t4_0p0,.int .i64 x0.2.1.1,.slice t4_0a2 (x0.2.1.2).length t4_0p2,.slice t4_0a3 (x0.2.2.1).length t4_0p3,.slice t4_0a4 (x0.2.2.2.1).length t4_0p4,.slice t4_0a5 (x0.2.2.2.2.1).length t4_0p5,.slice t4_0a6 (x0.2.2.2.2.2.1).length t4_0p6,.int .i64 x0.2.2.2.2.2.2]:Value)=g1
    generalize (.agg #[.slice t4_1a0 (x1.1).length t4_1p0,.slice t4_1a1 (x1.2.1).length t4_1p1,.slice t4_1a2 (x1.2.2.1).length t4_1p2,.slice t4_1a3 (x1.2.2.2).length t4_1p3]:Value)=g2
    generalize (.agg #[.slice t4_2a0 (x3.1).length t4_2p0,.slice t4_2a1 (x3.2.1).length t4_2p1,.slice t4_2a2 (x3.2.2.1).length t4_2p2,.int .i64 x3.2.2.2.1,.int .i64 x3.2.2.2.2]:Value)=g3
    have hbl:=(Array.getElem?_eq_some_iff.1 XW).1
    have OE:=Rep.own.wide (T:=Btw w3.heap.size wE.heap.size) OW fG
    clear OW
    generalize u4_0.heap.size=b at hbl XW hlt_ ⊢
    exact CONT b g1 g2 g3 g4 wE ⟨HS,hlt_,hbl,_,XW,OE⟩
  go_simp
  generalize hwZ:World.alloc wS _=wZ
  have hlt_:=HS.size
  have XZ:wZ.heap[wS.heap.size]?=some (.cells #[.slice none 0 0,.int .i64 0,.slice none 0 0,.slice none 0 0,.slice none 0 0,.slice none 0 0,.slice none 0 0,.int .i64 0,.slice none 0 0] 74 (0,0)):=(by rw [← hwZ];exact kN rfl)
  have hbZ:Below wS.heap.size wS wZ:=(by rw [← hwZ];exact bR.alloc nL _)
  have hzZ:=hbZ.size
  replace HS:=(tQ HS hbZ)
  clear hwZ hbZ
  refine hK _ _ HS ?_
  clear hK K
  refine wkP ?_
  refine kV (k:=1) rfl rF rfl (fun K hK=>?_)
  go_simp
  refine (kGh (r0.below (tQ H3.out HS))).mono ?_
  rintro e u4_0 ⟨cs4_0,rfl,O4_0,hc⟩
  obtain ⟨t4_0v0,t4_0v2,t4_0v3,t4_0v4,t4_0v5,t4_0v6,rfl,t4_0_0,t4_0_1,t4_0_2,t4_0_3,t4_0_4,t4_0_5,t4_0_6,t4_0_7,t4_0_8⟩:=jo O4_0.raw
  obtain ⟨t4_0a0,t4_0p0,rfl,_⟩:=Rep.sl t4_0_0
  obtain ⟨t4_0a2,t4_0p2,rfl,_⟩:=Rep.sl t4_0_3
  obtain ⟨t4_0a3,t4_0p3,rfl,_⟩:=Rep.sl t4_0_4
  obtain ⟨t4_0a4,t4_0p4,rfl,_⟩:=Rep.sl t4_0_5
  obtain ⟨t4_0a5,t4_0p5,rfl,_⟩:=Rep.sl t4_0_6
  obtain ⟨t4_0a6,t4_0p6,rfl,_⟩:=Rep.sl t4_0_7
  clear t4_0_0 t4_0_1 t4_0_2 t4_0_3 t4_0_4 t4_0_5 t4_0_6 t4_0_7 t4_0_8
  replace XZ:=kD XZ hc
  replace HS:=(tQ HS hc)
  refine hK _ _ HS ?_
  clear hK K hc
  refine wkP ?_
  refine kV (k:=3) rfl rF rfl (fun K hK=>?_)
  go_simp
  refine (za (r1.below (tQ H3.out HS))).mono ?_
  rintro e u4_1 ⟨cs4_1,rfl,O4_1,hc⟩
  obtain ⟨t4_1v0,t4_1v1,t4_1v2,t4_1v3,rfl,t4_1_0,t4_1_1,t4_1_2,t4_1_3⟩:=kw O4_1.raw
  obtain ⟨t4_1a0,t4_1p0,rfl,_⟩:=Rep.sl t4_1_0
  obtain ⟨t4_1a1,t4_1p1,rfl,_⟩:=Rep.sl t4_1_1
  obtain ⟨t4_1a2,t4_1p2,rfl,_⟩:=Rep.sl t4_1_2
  obtain ⟨t4_1a3,t4_1p3,rfl,_⟩:=Rep.sl t4_1_3
  clear t4_1_0 t4_1_1 t4_1_2 t4_1_3
  replace O4_0:=O4_0.below hc
  replace XZ:=kD XZ hc
  replace HS:=(tQ HS hc)
  refine hK _ _ HS ?_
  clear hK K hc
  refine wkP ?_
  refine kV (k:=6) rfl rF rfl (fun K hK=>?_)
  go_simp
  refine (kBh (r3.below (tQ H3.out HS))).mono ?_
  rintro e u4_2 ⟨cs4_2,rfl,O4_2,hc⟩
  obtain ⟨t4_2v0,t4_2v1,t4_2v2,rfl,t4_2_0,t4_2_1,t4_2_2,t4_2_3,t4_2_4,t4_2_5,t4_2_6⟩:=kY O4_2.raw
  obtain ⟨t4_2a0,t4_2p0,rfl,_⟩:=Rep.sl t4_2_1
  obtain ⟨t4_2a1,t4_2p1,rfl,_⟩:=Rep.sl t4_2_2
  obtain ⟨t4_2a2,t4_2p2,rfl,_⟩:=Rep.sl t4_2_4
  clear t4_2_0 t4_2_1 t4_2_2 t4_2_3 t4_2_4 t4_2_5 t4_2_6
  replace O4_0:=O4_0.below hc
  replace O4_1:=O4_1.below hc
  replace XZ:=kD XZ hc
  replace HS:=(tQ HS hc)
  refine hK _ _ HS ?_
  clear hK K hc
  refine wkP ?_
  refine kV (k:=8) rfl rF rfl (fun K hK=>?_)
  go_simp
  refine (kAx O4_0.rd O4_1.rd hi2.out O4_2.rd hi4.out (G1.out z1) (G2.out z2) (G3.out z3)).mono ?_
  rintro e u4 ⟨cs4,rfl,O4,hc⟩
  rw [HYE.out] at O4
  obtain ⟨t4v0,t4v2,t4v3,t4v4,t4v5,t4v6,t4v8,rfl,t4_0,t4_1,t4_2,t4_3,t4_4,t4_5,t4_6,t4_7,t4_8,t4_9,t4_10⟩:=yB O4.raw
  obtain ⟨t4a0,t4p0,rfl,_⟩:=Rep.sl t4_1
  obtain ⟨t4a2,t4p2,rfl,_⟩:=Rep.sl t4_4
  obtain ⟨t4a3,t4p3,rfl,_⟩:=Rep.sl t4_5
  obtain ⟨t4a4,t4p4,rfl,_⟩:=Rep.sl t4_6
  obtain ⟨t4a5,t4p5,rfl,_⟩:=Rep.sl t4_7
  obtain ⟨t4a6,t4p6,rfl,_⟩:=Rep.sl t4_8
  obtain ⟨t4a8,t4p8,rfl,_⟩:=Rep.sl t4_10
  clear t4_0 t4_1 t4_2 t4_3 t4_4 t4_5 t4_6 t4_7 t4_8 t4_9 t4_10
  have hfl:=(Array.getElem?_eq_some_iff.1 XZ).1
  replace XZ:=kD XZ hc
  have hzr:=HS.size
  have hzc:=hc.size
  replace HS:=(tQ HS hc)
  refine hK _ _ HS ?_
  clear hK K hc O4_0 O4_1 O4_2
  refine wkP ?_
  refine kV (k:=10) rfl rF rfl (fun K hK=>?_)
  obtain ⟨Y0,Y1,Y2,Y3,Y4,Y5,Y6,Y7,Y8⟩:=ji XZ
  obtain ⟨N0,N1,N2,N3,N4,N5,N6,N7,N8⟩:=zJ XZ
  go_simp
  obtain ⟨wE,hws⟩:∃ W,W=Rep.setCells u4 (wS.heap.size) 0 [.slice t4a0 (Y0_.1.1).length t4p0,.int .i64 Y0_.1.2.1.1,.slice t4a2 (Y0_.1.2.1.2).length t4p2,.slice t4a3 (Y0_.1.2.2.1).length t4p3,.slice t4a4 (Y0_.1.2.2.2.1).length t4p4,.slice t4a5 (Y0_.1.2.2.2.2.1).length t4p5,.slice t4a6 (Y0_.1.2.2.2.2.2.1).length t4p6,.int .i64 Y0_.1.2.2.2.2.2.2,.slice t4a8 (Y0_.2).length t4p8]:=⟨_,rfl⟩
  change K _ (Rep.setCells _ _ 0 [.slice t4a0 (Y0_.1.1).length t4p0,.int .i64 Y0_.1.2.1.1,.slice t4a2 (Y0_.1.2.1.2).length t4p2,.slice t4a3 (Y0_.1.2.2.1).length t4p3,.slice t4a4 (Y0_.1.2.2.2.1).length t4p4,.slice t4a5 (Y0_.1.2.2.2.2.1).length t4p5,.slice t4a6 (Y0_.1.2.2.2.2.2.1).length t4p6,.int .i64 Y0_.1.2.2.2.2.2.2,.slice t4a8 (Y0_.2).length t4p8])
  rw [← hws]
  have T_:Touch (fun k=>k=wS.heap.size) u4 wE:=(by rw [hws];exact Rep.jq _ _ _ _)
  have XW:wE.heap[wS.heap.size]?=some (.cells #[.slice t4a0 (Y0_.1.1).length t4p0,.int .i64 Y0_.1.2.1.1,.slice t4a2 (Y0_.1.2.1.2).length t4p2,.slice t4a3 (Y0_.1.2.2.1).length t4p3,.slice t4a4 (Y0_.1.2.2.2.1).length t4p4,.slice t4a5 (Y0_.1.2.2.2.2.1).length t4p5,.slice t4a6 (Y0_.1.2.2.2.2.2.1).length t4p6,.int .i64 Y0_.1.2.2.2.2.2.2,.slice t4a8 (Y0_.2).length t4p8] 74 (0,0)):=(by rw [hws];exact Rep.yI [.slice t4a0 (Y0_.1.1).length t4p0,.int .i64 Y0_.1.2.1.1,.slice t4a2 (Y0_.1.2.1.2).length t4p2,.slice t4a3 (Y0_.1.2.2.1).length t4p3,.slice t4a4 (Y0_.1.2.2.2.1).length t4p4,.slice t4a5 (Y0_.1.2.2.2.2.1).length t4p5,.slice t4a6 (Y0_.1.2.2.2.2.2.1).length t4p6,.int .i64 Y0_.1.2.2.2.2.2.2,.slice t4a8 (Y0_.2).length t4p8] [.slice none 0 0,.int .i64 0,.slice none 0 0,.slice none 0 0,.slice none 0 0,.slice none 0 0,.slice none 0 0,.int .i64 0,.slice none 0 0] [] [] u4 (wS.heap.size) 0 XZ rfl rfl)
  have OW:=O4.touch T_ gI
  have hzE:wE.heap.size=u4.heap.size:=(by rw [hws];exact Rep.setCells_size _ _ _ _)
  replace HS:=HS.trans (T_.below HS.size qI)
  clear hws Y0 N0 Y1 N1 Y2 N2 Y3 N3 Y4 N4 Y5 N5 Y6 N6 Y7 N7 Y8 N8 XZ T_
  refine hK _ _ HS ?_
  clear hK K
  refine wkP ?_
  refine yN rF ?_
  have g3:Value:=.nilIface
  generalize (.agg #[.slice t4a0 (Y0_.1.1).length t4p0,.int .i64 Y0_.1.2.1.1,.slice t4a2 (Y0_.1.2.1.2).length t4p2,.slice t4a3 (Y0_.1.2.2.1).length t4p3,.slice t4a4 (Y0_.1.2.2.2.1).length t4p4,.slice t4a5 (Y0_.1.2.2.2.2.1).length t4p5,.slice t4a6 (Y0_.1.2.2.2.2.2.1).length t4p6,.int .i64 Y0_.1.2.2.2.2.2.2,.slice t4a8 (Y0_.2).length t4p8]:Value)=g4
  generalize (.agg #[.slice t4_0a0 (x0.1).length t4_0p0,.int .i64 x0.2.1.1,.slice t4_0a2 (x0.2.1.2).length t4_0p2,.slice t4_0a3 (x0.2.2.1).length t4_0p3,.slice t4_0a4 (x0.2.2.2.1).length t4_0p4,.slice t4_0a5 (x0.2.2.2.2.1).length t4_0p5,.slice t4_0a6 (x0.2.2.2.2.2.1).length t4_0p6,.int .i64 x0.2.2.2.2.2.2]:Value)=g1
  generalize (.agg #[.slice t4_1a0 (x1.1).length t4_1p0,.slice t4_1a1 (x1.2.1).length t4_1p1,.slice t4_1a2 (x1.2.2.1).length t4_1p2,.slice t4_1a3 (x1.2.2.2).length t4_1p3]:Value)=g2
  generalize (.agg #[.slice t4_2a0 (x3.1).length t4_2p0,.slice t4_2a1 (x3.2.1).length t4_2p1,.slice t4_2a2 (x3.2.2.1).length t4_2p2,.int .i64 x3.2.2.2.1,.int .i64 x3.2.2.2.2]:Value)=g3
  have hbl:=(Array.getElem?_eq_some_iff.1 XW).1
  have OE:=Rep.own.wide (T:=Btw w3.heap.size wE.heap.size) OW fG
  clear OW
  generalize wS.heap.size=b at hbl XW hlt_ ⊢
  exact CONT b g1 g2 g3 g4 wE ⟨HS,hlt_,hbl,_,XW,OE⟩
 intro bx4 g4_1 g4_2 g4_3 g4_4 w4 ⟨HS,hb4_1,hb4_2,cs4,XB4,O4⟩
 obtain ⟨t4v0,t4v2,t4v3,t4v4,t4v5,t4v6,t4v8,rfl,t4_0,t4_1,t4_2,t4_3,t4_4,t4_5,t4_6,t4_7,t4_8,t4_9,t4_10⟩:=yB O4.raw
 obtain ⟨t4a0,t4p0,rfl,_⟩:=Rep.sl t4_1
 obtain ⟨t4a2,t4p2,rfl,_⟩:=Rep.sl t4_4
 obtain ⟨t4a3,t4p3,rfl,_⟩:=Rep.sl t4_5
 obtain ⟨t4a4,t4p4,rfl,_⟩:=Rep.sl t4_6
 obtain ⟨t4a5,t4p5,rfl,_⟩:=Rep.sl t4_7
 obtain ⟨t4a6,t4p6,rfl,_⟩:=Rep.sl t4_8
 obtain ⟨t4a8,t4p8,rfl,_⟩:=Rep.sl t4_10
 clear t4_0 t4_1 t4_2 t4_3 t4_4 t4_5 t4_6 t4_7 t4_8 t4_9 t4_10
 have Z4:=yD O4;clear O4
 have XX4:=yD XB4;clear XB4
 have D4:Below w3.heap.size w3 w4:=Below.trans bU (HS.mono mZ)
 have H4:=yD (tQ H3.out D4)
 have L4:=yD (show w3.heap.size + 0≤w4.heap.size from by have h:=HS.size;(try simp at h);omega)
 have X_aX_4:=yD (kD X_aX_3.out D4);clear X_aX_3
 have X_aT_4:=yD (kD X_aT_3.out D4);clear X_aT_3
 have X_aY_4:=yD (kD X_aY_3.out D4);clear X_aY_3
 clear D4 K_aX_0 K_aX_1 K_aX_2 K_aX_3 K_aX_4 K_aX_5 K_aX_6 K_aX_7 K_aT_0 K_aT_1 K_aT_2 K_aT_3 K_aY_0 K_aY_1 K_aY_2 K_aY_3 K_aY_4 HS
 obtain ⟨K_aX_0,K_aX_1,K_aX_2,K_aX_3,K_aX_4,K_aX_5,K_aX_6,K_aX_7⟩:=kBj X_aX_4.out
 go_wp2_with fail
 refine (kGh (r0.below (by repeat (first|(with_reducible exact H4.out) | refine Below.alloc ?_ (by have:=H4.out.size;simp;try omega) _ | refine Below.drew ?_)))).mono ?_
 rintro e w5 ⟨cs5,rfl,O5,hb5⟩
 obtain ⟨t5v0,t5v2,t5v3,t5v4,t5v5,t5v6,rfl,t5_0,t5_1,t5_2,t5_3,t5_4,t5_5,t5_6,t5_7,t5_8⟩:=jo O5.raw
 obtain ⟨t5a0,t5p0,rfl,_⟩:=Rep.sl t5_0
 obtain ⟨t5a2,t5p2,rfl,_⟩:=Rep.sl t5_3
 obtain ⟨t5a3,t5p3,rfl,_⟩:=Rep.sl t5_4
 obtain ⟨t5a4,t5p4,rfl,_⟩:=Rep.sl t5_5
 obtain ⟨t5a5,t5p5,rfl,_⟩:=Rep.sl t5_6
 obtain ⟨t5a6,t5p6,rfl,_⟩:=Rep.sl t5_7
 clear t5_0 t5_1 t5_2 t5_3 t5_4 t5_5 t5_6 t5_7 t5_8
 have Z5:=yD (O5.wide (T:=Btw (w4.heap.size) (w5.heap.size)) fD);clear O5
 have D5:Below w4.heap.size w4 w5:=Below.trans bU (hb5.mono mZ)
 have H5:=yD (tQ H4.out D5)
 have L5:=yD (show w4.heap.size + 0≤w5.heap.size from by have h:=hb5.size;(try simp at h);omega)
 have X_aX_5:=yD (kD X_aX_4.out D5);clear X_aX_4
 have X_aT_5:=yD (kD X_aT_4.out D5);clear X_aT_4
 have X_aY_5:=yD (kD X_aY_4.out D5);clear X_aY_4
 have X_w0_5:=yD (kD XX4.out D5);clear XX4
 have O_w0_5:=yD (Z4.out.below D5);clear Z4
 clear D5 K_aX_0 K_aX_1 K_aX_2 K_aX_3 K_aX_4 K_aX_5 K_aX_6 K_aX_7 hb5
 obtain ⟨K_aT_0,K_aT_1,K_aT_2,K_aT_3⟩:=kAm X_aT_5.out
 have J_aT:w.heap.size + 1 < w5.heap.size:=by have l1:=L1.out;have l2:=L2.out;have l3:=L3.out;have l4:=L4.out;have l5:=L5.out;omega
 go_wp2_with fail
 refine (za (r1.below (by repeat (first|(with_reducible exact H5.out) | refine Below.alloc ?_ (by have:=H5.out.size;simp;try omega) _ | refine Below.drew ?_)))).mono ?_
 rintro e w6 ⟨cs6,rfl,O6,hb6⟩
 obtain ⟨t6v0,t6v1,t6v2,t6v3,rfl,t6_0,t6_1,t6_2,t6_3⟩:=kw O6.raw
 obtain ⟨t6a0,t6p0,rfl,_⟩:=Rep.sl t6_0
 obtain ⟨t6a1,t6p1,rfl,_⟩:=Rep.sl t6_1
 obtain ⟨t6a2,t6p2,rfl,_⟩:=Rep.sl t6_2
 obtain ⟨t6a3,t6p3,rfl,_⟩:=Rep.sl t6_3
 clear t6_0 t6_1 t6_2 t6_3
 have Z6:=yD (O6.wide (T:=Btw (w5.heap.size + 1) (w6.heap.size)) fD);clear O6
 have D6:Below w5.heap.size w5 w6:=Below.trans bU (hb6.mono mZ)
 have H6:=yD (tQ H5.out D6)
 have L6:=yD (show w5.heap.size + 1≤w6.heap.size from by have h:=hb6.size;(try simp at h);omega)
 have X_aX_6:=yD (kD X_aX_5.out D6);clear X_aX_5
 have X_aT_6:=yD (kD X_aT_5.out D6);clear X_aT_5
 have X_aY_6:=yD (kD X_aY_5.out D6);clear X_aY_5
 have X_w0_6:=yD (kD X_w0_5.out D6);clear X_w0_5
 have X_x0_6:Hid (w6.heap[w5.heap.size]?=some (.cells #[.slice t5a0 (x0.1).length t5p0,.int .i64 x0.2.1.1,.slice t5a2 (x0.2.1.2).length t5p2,.slice t5a3 (x0.2.2.1).length t5p3,.slice t5a4 (x0.2.2.2.1).length t5p4,.slice t5a5 (x0.2.2.2.2.1).length t5p5,.slice t5a6 (x0.2.2.2.2.2.1).length t5p6,.int .i64 x0.2.2.2.2.2.2] 56 (0,0))):=yD ((hb6.block (w5.heap.size) mZ).trans (kN rQ))
 have O_w0_6:=yD (O_w0_5.out.below D6);clear O_w0_5
 have O_x0_6:=yD (Z5.out.below D6);clear Z5
 clear D6 K_aT_0 K_aT_1 K_aT_2 K_aT_3 J_aT hb6
 obtain ⟨K_aY_0,K_aY_1,K_aY_2,K_aY_3,K_aY_4⟩:=jh X_aY_6.out
 have J_aY:w.heap.size + 1 + 1 < w6.heap.size:=by have l1:=L1.out;have l2:=L2.out;have l3:=L3.out;have l4:=L4.out;have l5:=L5.out;have l6:=L6.out;omega
 go_wp2_with fail
 refine (kBh (r3.below (by repeat (first|(with_reducible exact H6.out) | refine Below.alloc ?_ (by have:=H6.out.size;simp;try omega) _ | refine Below.drew ?_)))).mono ?_
 rintro e w7 ⟨cs7,rfl,O7,hb7⟩
 obtain ⟨t7v0,t7v1,t7v2,rfl,t7_0,t7_1,t7_2,t7_3,t7_4,t7_5,t7_6⟩:=kY O7.raw
 obtain ⟨t7a0,t7p0,rfl,_⟩:=Rep.sl t7_1
 obtain ⟨t7a1,t7p1,rfl,_⟩:=Rep.sl t7_2
 obtain ⟨t7a2,t7p2,rfl,_⟩:=Rep.sl t7_4
 clear t7_0 t7_1 t7_2 t7_3 t7_4 t7_5 t7_6
 have Z7:=yD (O7.wide (T:=Btw (w6.heap.size + 1) (w7.heap.size)) fD);clear O7
 have D7:Below w6.heap.size w6 w7:=Below.trans bU (hb7.mono mZ)
 have H7:=yD (tQ H6.out D7)
 have L7:=yD (show w6.heap.size + 1≤w7.heap.size from by have h:=hb7.size;(try simp at h);omega)
 have X_aX_7:=yD (kD X_aX_6.out D7);clear X_aX_6
 have X_aT_7:=yD (kD X_aT_6.out D7);clear X_aT_6
 have X_aY_7:=yD (kD X_aY_6.out D7);clear X_aY_6
 have X_w0_7:=yD (kD X_w0_6.out D7);clear X_w0_6
 have X_x0_7:=yD (kD X_x0_6.out D7);clear X_x0_6
 have X_x1_7:Hid (w7.heap[w6.heap.size]?=some (.cells #[.slice t6a0 (x1.1).length t6p0,.slice t6a1 (x1.2.1).length t6p1,.slice t6a2 (x1.2.2.1).length t6p2,.slice t6a3 (x1.2.2.2).length t6p3] 62 (0,0))):=yD ((hb7.block (w6.heap.size) mZ).trans (kN rQ))
 have O_w0_7:=yD (O_w0_6.out.below D7);clear O_w0_6
 have O_x0_7:=yD (O_x0_6.out.below D7);clear O_x0_6
 have O_x1_7:=yD (Z6.out.below D7);clear Z6
 clear D7 K_aY_0 K_aY_1 K_aY_2 K_aY_3 K_aY_4 J_aY hb7
 obtain ⟨K_x0_0,K_x0_1,K_x0_2,K_x0_3,K_x0_4,K_x0_5,K_x0_6,K_x0_7⟩:=kBj X_x0_7.out
 have J_x0:w5.heap.size < w7.heap.size:=by have l6:=L6.out;have l7:=L7.out;omega
 obtain ⟨K_x1_0,K_x1_1,K_x1_2,K_x1_3⟩:=kAm X_x1_7.out
 have J_x1:w6.heap.size < w7.heap.size:=by have l7:=L7.out;omega
 go_wp2_with fail
 refine (kAd (O_x0_7.out.rd.below bU) (O_x1_7.out.rd.below bU) hi2.out (Z7.out.rd.below bU) hi4.out (G1.out z1) (G2.out z2) (G3.out z3)).mono ?_
 rintro e w8 ⟨cs8,rfl,O8,hb8⟩
 rw [HYE.out] at O8
 obtain ⟨t8v0,t8v2,t8v3,t8v4,t8v5,t8v6,t8v8,rfl,t8_0,t8_1,t8_2,t8_3,t8_4,t8_5,t8_6,t8_7,t8_8,t8_9,t8_10⟩:=yB O8.raw
 obtain ⟨t8a0,t8p0,rfl,_⟩:=Rep.sl t8_1
 obtain ⟨t8a2,t8p2,rfl,_⟩:=Rep.sl t8_4
 obtain ⟨t8a3,t8p3,rfl,_⟩:=Rep.sl t8_5
 obtain ⟨t8a4,t8p4,rfl,_⟩:=Rep.sl t8_6
 obtain ⟨t8a5,t8p5,rfl,_⟩:=Rep.sl t8_7
 obtain ⟨t8a6,t8p6,rfl,_⟩:=Rep.sl t8_8
 obtain ⟨t8a8,t8p8,rfl,_⟩:=Rep.sl t8_10
 clear t8_0 t8_1 t8_2 t8_3 t8_4 t8_5 t8_6 t8_7 t8_8 t8_9 t8_10
 have Z8:=yD (O8.wide (T:=Btw (w7.heap.size + 1) (w8.heap.size)) fD);clear O8
 have D8:Below w7.heap.size w7 w8:=Below.trans bU (hb8.mono mZ)
 have H8:=yD (tQ H7.out D8)
 have L8:=yD (show w7.heap.size + 1≤w8.heap.size from by have h:=hb8.size;(try simp at h);omega)
 have X_aX_8:=yD (kD X_aX_7.out D8);clear X_aX_7
 have X_aT_8:=yD (kD X_aT_7.out D8);clear X_aT_7
 have X_aY_8:=yD (kD X_aY_7.out D8);clear X_aY_7
 have X_w0_8:=yD (kD X_w0_7.out D8);clear X_w0_7
 have X_x0_8:=yD (kD X_x0_7.out D8);clear X_x0_7
 have X_x1_8:=yD (kD X_x1_7.out D8);clear X_x1_7
 have X_x3_8:Hid (w8.heap[w7.heap.size]?=some (.cells #[.slice t7a0 (x3.1).length t7p0,.slice t7a1 (x3.2.1).length t7p1,.slice t7a2 (x3.2.2.1).length t7p2,.int .i64 x3.2.2.2.1,.int .i64 x3.2.2.2.2] 66 (0,0))):=yD ((hb8.block (w7.heap.size) mZ).trans (kN rQ))
 have O_w0_8:=yD (O_w0_7.out.below D8);clear O_w0_7
 have O_x0_8:=yD (O_x0_7.out.below D8);clear O_x0_7
 have O_x1_8:=yD (O_x1_7.out.below D8);clear O_x1_7
 have O_x3_8:=yD (Z7.out.below D8);clear Z7
 clear D8 K_x0_0 K_x0_1 K_x0_2 K_x0_3 K_x0_4 K_x0_5 K_x0_6 K_x0_7 J_x0 K_x1_0 K_x1_1 K_x1_2 K_x1_3 J_x1 hb8
 obtain ⟨K_w0_0,K_w0_1,K_w0_2,K_w0_3,K_w0_4,K_w0_5,K_w0_6,K_w0_7,K_w0_8⟩:=ji X_w0_8.out
 have J_w0:bx4 < w8.heap.size:=by have l5:=L5.out;have l6:=L6.out;have l7:=L7.out;have l8:=L8.out;omega
 go_wp2_with fail
 refine (kKv (Z8.out.raw.below bU) (O_w0_8.out.raw.below bU)).mono ?_
 rintro e w9 ⟨rfl,hb9⟩
 have D9:Below w8.heap.size w8 w9:=Below.trans bU (hb9.mono mZ)
 have H9:=yD (tQ H8.out D9)
 have L9:=yD (show w8.heap.size + 1≤w9.heap.size from by have h:=hb9.size;(try simp at h);omega)
 have X_aX_9:=yD (kD X_aX_8.out D9);clear X_aX_8
 have X_aT_9:=yD (kD X_aT_8.out D9);clear X_aT_8
 have X_aY_9:=yD (kD X_aY_8.out D9);clear X_aY_8
 have X_w0_9:=yD (kD X_w0_8.out D9);clear X_w0_8
 have X_x0_9:=yD (kD X_x0_8.out D9);clear X_x0_8
 have X_x1_9:=yD (kD X_x1_8.out D9);clear X_x1_8
 have X_x3_9:=yD (kD X_x3_8.out D9);clear X_x3_8
 have X_g0_9:Hid (w9.heap[w8.heap.size]?=some (.cells #[.slice t8a0 (Y0_.1.1).length t8p0,.int .i64 Y0_.1.2.1.1,.slice t8a2 (Y0_.1.2.1.2).length t8p2,.slice t8a3 (Y0_.1.2.2.1).length t8p3,.slice t8a4 (Y0_.1.2.2.2.1).length t8p4,.slice t8a5 (Y0_.1.2.2.2.2.1).length t8p5,.slice t8a6 (Y0_.1.2.2.2.2.2.1).length t8p6,.int .i64 Y0_.1.2.2.2.2.2.2,.slice t8a8 (Y0_.2).length t8p8] 74 (0,0))):=yD ((hb9.block (w8.heap.size) mZ).trans (kN rQ))
 have O_w0_9:=yD (O_w0_8.out.below D9);clear O_w0_8
 have O_x0_9:=yD (O_x0_8.out.below D9);clear O_x0_8
 have O_x1_9:=yD (O_x1_8.out.below D9);clear O_x1_8
 have O_x3_9:=yD (O_x3_8.out.below D9);clear O_x3_8
 have O_g0_9:=yD (Z8.out.below D9);clear Z8
 clear D9 K_w0_0 K_w0_1 K_w0_2 K_w0_3 K_w0_4 K_w0_5 K_w0_6 K_w0_7 K_w0_8 J_w0 hb9
 obtain ⟨K_aX_0,K_aX_1,K_aX_2,K_aX_3,K_aX_4,K_aX_5,K_aX_6,K_aX_7⟩:=kBj X_aX_9.out
 obtain ⟨K_x0_0,K_x0_1,K_x0_2,K_x0_3,K_x0_4,K_x0_5,K_x0_6,K_x0_7⟩:=kBj X_x0_9.out
 go_wp2_with fail
 go_region_held3 (fun W=>W.cell? ⟨w.heap.size,0,none⟩=some (a0v0)∧W.cell? ⟨w.heap.size,1,none⟩=some (.int .i64 x0.2.1.1)∧W.cell? ⟨w.heap.size,2,none⟩=some (a0v2)∧W.cell? ⟨w.heap.size,3,none⟩=some (a0v3)∧W.cell? ⟨w.heap.size,4,none⟩=some (a0v4)∧W.cell? ⟨w.heap.size,5,none⟩=some (a0v5)∧W.cell? ⟨w.heap.size,6,none⟩=some (a0v6)∧W.cell? ⟨w.heap.size,7,none⟩=some (.int .i64 x0.2.2.2.2.2.2)∧W.cell? ⟨w5.heap.size,0,none⟩=some (.slice t5a0 (x0.1).length t5p0)∧W.cell? ⟨w5.heap.size,1,none⟩=some (.int .i64 x0.2.1.1)∧W.cell? ⟨w5.heap.size,2,none⟩=some (.slice t5a2 (x0.2.1.2).length t5p2)∧W.cell? ⟨w5.heap.size,3,none⟩=some (.slice t5a3 (x0.2.2.1).length t5p3)∧W.cell? ⟨w5.heap.size,4,none⟩=some (.slice t5a4 (x0.2.2.2.1).length t5p4)∧W.cell? ⟨w5.heap.size,5,none⟩=some (.slice t5a5 (x0.2.2.2.2.1).length t5p5)∧W.cell? ⟨w5.heap.size,6,none⟩=some (.slice t5a6 (x0.2.2.2.2.2.1).length t5p6)∧W.cell? ⟨w5.heap.size,7,none⟩=some (.int .i64 x0.2.2.2.2.2.2)) (first | exact ⟨cL hd10 (cL hc10 K_aX_0),cL hd10 (cL hc10 K_aX_1),cL hd10 (cL hc10 K_aX_2),cL hd10 (cL hc10 K_aX_3),cL hd10 (cL hc10 K_aX_4),cL hd10 (cL hc10 K_aX_5),cL hd10 (cL hc10 K_aX_6),cL hd10 (cL hc10 K_aX_7),cL hd10 (cL hc10 K_x0_0),cL hd10 (cL hc10 K_x0_1),cL hd10 (cL hc10 K_x0_2),cL hd10 (cL hc10 K_x0_3),cL hd10 (cL hc10 K_x0_4),cL hd10 (cL hc10 K_x0_5),cL hd10 (cL hc10 K_x0_6),cL hd10 (cL hc10 K_x0_7)⟩ | exact ⟨cL hc10 K_aX_0,cL hc10 K_aX_1,cL hc10 K_aX_2,cL hc10 K_aX_3,cL hc10 K_aX_4,cL hc10 K_aX_5,cL hc10 K_aX_6,cL hc10 K_aX_7,cL hc10 K_x0_0,cL hc10 K_x0_1,cL hc10 K_x0_2,cL hc10 K_x0_3,cL hc10 K_x0_4,cL hc10 K_x0_5,cL hc10 K_x0_6,cL hc10 K_x0_7⟩ | go_keep)
   (first|(go_at_call 9;refine (kGh (r0.below (by repeat (first|(with_reducible exact H9.out) | refine Below.alloc ?_ (by have:=H9.out.size;simp;try omega) _ | refine Below.drew ?_)))).mono ?_;rintro e u10 ⟨cs10,rfl,O10,hc10⟩;obtain ⟨t10v0,t10v2,t10v3,t10v4,t10v5,t10v6,rfl,t10_0,t10_1,t10_2,t10_3,t10_4,t10_5,t10_6,t10_7,t10_8⟩:=jo O10.raw;obtain ⟨t10a0,t10p0,rfl,_⟩:=Rep.sl t10_0;skip;obtain ⟨t10a2,t10p2,rfl,_⟩:=Rep.sl t10_3;skip;obtain ⟨t10a3,t10p3,rfl,_⟩:=Rep.sl t10_4;skip;obtain ⟨t10a4,t10p4,rfl,_⟩:=Rep.sl t10_5;skip;obtain ⟨t10a5,t10p5,rfl,_⟩:=Rep.sl t10_6;skip;obtain ⟨t10a6,t10p6,rfl,_⟩:=Rep.sl t10_7;skip;clear t10_0 t10_1 t10_2 t10_3 t10_4 t10_5 t10_6 t10_7 t10_8)|(go_at_call 13;refine (eqNode_c (O_x0_9.out.raw.below (Below.trans bU (hc10.mono rQ))) O10.raw).mono ?_;rintro e w10 ⟨rfl,hd10⟩))
 have hb10:=(tQ hc10 hd10);clear hc10 hd10 O10
 have D10:Below w9.heap.size w9 w10:=Below.trans bU (hb10.mono mZ)
 have H10:=yD (tQ H9.out D10)
 have L10:=yD (show w9.heap.size + 0≤w10.heap.size from by have h:=hb10.size;(try simp at h);omega)
 have X_aX_10:=yD (kD X_aX_9.out D10);clear X_aX_9
 have X_aT_10:=yD (kD X_aT_9.out D10);clear X_aT_9
 have X_aY_10:=yD (kD X_aY_9.out D10);clear X_aY_9
 have X_w0_10:=yD (kD X_w0_9.out D10);clear X_w0_9
 have X_x0_10:=yD (kD X_x0_9.out D10);clear X_x0_9
 have X_x1_10:=yD (kD X_x1_9.out D10);clear X_x1_9
 have X_x3_10:=yD (kD X_x3_9.out D10);clear X_x3_9
 have X_g0_10:=yD (kD X_g0_9.out D10);clear X_g0_9
 have O_w0_10:=yD (O_w0_9.out.below D10);clear O_w0_9
 have O_x0_10:=yD (O_x0_9.out.below D10);clear O_x0_9
 have O_x1_10:=yD (O_x1_9.out.below D10);clear O_x1_9
 have O_x3_10:=yD (O_x3_9.out.below D10);clear O_x3_9
 have O_g0_10:=yD (O_g0_9.out.below D10);clear O_g0_9
 clear D10 K_aX_0 K_aX_1 K_aX_2 K_aX_3 K_aX_4 K_aX_5 K_aX_6 K_aX_7 K_x0_0 K_x0_1 K_x0_2 K_x0_3 K_x0_4 K_x0_5 K_x0_6 K_x0_7 hb10
 obtain ⟨K_aT_0,K_aT_1,K_aT_2,K_aT_3⟩:=kAm X_aT_10.out
 obtain ⟨K_x1_0,K_x1_1,K_x1_2,K_x1_3⟩:=kAm X_x1_10.out
 go_wp2_with fail
 go_region_held3 (fun W=>W.cell? ⟨w.heap.size + 1,0,none⟩=some (a1v0)∧W.cell? ⟨w.heap.size + 1,1,none⟩=some (a1v1)∧W.cell? ⟨w.heap.size + 1,2,none⟩=some (a1v2)∧W.cell? ⟨w.heap.size + 1,3,none⟩=some (a1v3)∧W.cell? ⟨w6.heap.size,0,none⟩=some (.slice t6a0 (x1.1).length t6p0)∧W.cell? ⟨w6.heap.size,1,none⟩=some (.slice t6a1 (x1.2.1).length t6p1)∧W.cell? ⟨w6.heap.size,2,none⟩=some (.slice t6a2 (x1.2.2.1).length t6p2)∧W.cell? ⟨w6.heap.size,3,none⟩=some (.slice t6a3 (x1.2.2.2).length t6p3)) (first | exact ⟨cL hd11 (cL hc11 K_aT_0),cL hd11 (cL hc11 K_aT_1),cL hd11 (cL hc11 K_aT_2),cL hd11 (cL hc11 K_aT_3),cL hd11 (cL hc11 K_x1_0),cL hd11 (cL hc11 K_x1_1),cL hd11 (cL hc11 K_x1_2),cL hd11 (cL hc11 K_x1_3)⟩ | exact ⟨cL hc11 K_aT_0,cL hc11 K_aT_1,cL hc11 K_aT_2,cL hc11 K_aT_3,cL hc11 K_x1_0,cL hc11 K_x1_1,cL hc11 K_x1_2,cL hc11 K_x1_3⟩ | go_keep)
   (first|(go_at_call 10;refine (za (r1.below (by repeat (first|(with_reducible exact H10.out) | refine Below.alloc ?_ (by have:=H10.out.size;simp;try omega) _ | refine Below.drew ?_)))).mono ?_;rintro e u11 ⟨cs11,rfl,O11,hc11⟩;obtain ⟨t11v0,t11v1,t11v2,t11v3,rfl,t11_0,t11_1,t11_2,t11_3⟩:=kw O11.raw;obtain ⟨t11a0,t11p0,rfl,_⟩:=Rep.sl t11_0;skip;obtain ⟨t11a1,t11p1,rfl,_⟩:=Rep.sl t11_1;skip;obtain ⟨t11a2,t11p2,rfl,_⟩:=Rep.sl t11_2;skip;obtain ⟨t11a3,t11p3,rfl,_⟩:=Rep.sl t11_3;skip;clear t11_0 t11_1 t11_2 t11_3)|(go_at_call 14;refine (kQb (O_x1_10.out.raw.below (Below.trans bU (hc11.mono rQ))) O11.raw).mono ?_;rintro e w11 ⟨rfl,hd11⟩))
 have hb11:=(tQ hc11 hd11);clear hc11 hd11 O11
 have D11:Below w10.heap.size w10 w11:=Below.trans bU (hb11.mono mZ)
 have H11:=yD (tQ H10.out D11)
 have L11:=yD (show w10.heap.size + 0≤w11.heap.size from by have h:=hb11.size;(try simp at h);omega)
 have X_aX_11:=yD (kD X_aX_10.out D11);clear X_aX_10
 have X_aT_11:=yD (kD X_aT_10.out D11);clear X_aT_10
 have X_aY_11:=yD (kD X_aY_10.out D11);clear X_aY_10
 have X_w0_11:=yD (kD X_w0_10.out D11);clear X_w0_10
 have X_x0_11:=yD (kD X_x0_10.out D11);clear X_x0_10
 have X_x1_11:=yD (kD X_x1_10.out D11);clear X_x1_10
 have X_x3_11:=yD (kD X_x3_10.out D11);clear X_x3_10
 have X_g0_11:=yD (kD X_g0_10.out D11);clear X_g0_10
 have O_w0_11:=yD (O_w0_10.out.below D11);clear O_w0_10
 have O_x0_11:=yD (O_x0_10.out.below D11);clear O_x0_10
 have O_x1_11:=yD (O_x1_10.out.below D11);clear O_x1_10
 have O_x3_11:=yD (O_x3_10.out.below D11);clear O_x3_10
 have O_g0_11:=yD (O_g0_10.out.below D11);clear O_g0_10
 clear D11 K_aT_0 K_aT_1 K_aT_2 K_aT_3 K_x1_0 K_x1_1 K_x1_2 K_x1_3 hb11
 obtain ⟨K_aY_0,K_aY_1,K_aY_2,K_aY_3,K_aY_4⟩:=jh X_aY_11.out
 obtain ⟨K_x3_0,K_x3_1,K_x3_2,K_x3_3,K_x3_4⟩:=jh X_x3_11.out
 go_wp2_with fail
 go_region_held3 (fun W=>W.cell? ⟨w.heap.size + 1 + 1,0,none⟩=some (a3v0)∧W.cell? ⟨w.heap.size + 1 + 1,1,none⟩=some (a3v1)∧W.cell? ⟨w.heap.size + 1 + 1,2,none⟩=some (a3v2)∧W.cell? ⟨w.heap.size + 1 + 1,3,none⟩=some (.int .i64 x3.2.2.2.1)∧W.cell? ⟨w.heap.size + 1 + 1,4,none⟩=some (.int .i64 x3.2.2.2.2)∧W.cell? ⟨w7.heap.size,0,none⟩=some (.slice t7a0 (x3.1).length t7p0)∧W.cell? ⟨w7.heap.size,1,none⟩=some (.slice t7a1 (x3.2.1).length t7p1)∧W.cell? ⟨w7.heap.size,2,none⟩=some (.slice t7a2 (x3.2.2.1).length t7p2)∧W.cell? ⟨w7.heap.size,3,none⟩=some (.int .i64 x3.2.2.2.1)∧W.cell? ⟨w7.heap.size,4,none⟩=some (.int .i64 x3.2.2.2.2)) (first | exact ⟨cL hd12 (cL hc12 K_aY_0),cL hd12 (cL hc12 K_aY_1),cL hd12 (cL hc12 K_aY_2),cL hd12 (cL hc12 K_aY_3),cL hd12 (cL hc12 K_aY_4),cL hd12 (cL hc12 K_x3_0),cL hd12 (cL hc12 K_x3_1),cL hd12 (cL hc12 K_x3_2),cL hd12 (cL hc12 K_x3_3),cL hd12 (cL hc12 K_x3_4)⟩ | exact ⟨cL hc12 K_aY_0,cL hc12 K_aY_1,cL hc12 K_aY_2,cL hc12 K_aY_3,cL hc12 K_aY_4,cL hc12 K_x3_0,cL hc12 K_x3_1,cL hc12 K_x3_2,cL hc12 K_x3_3,cL hc12 K_x3_4⟩ | go_keep)
   (first|(go_at_call 11;refine (kBh (r3.below (by repeat (first|(with_reducible exact H11.out) | refine Below.alloc ?_ (by have:=H11.out.size;simp;try omega) _ | refine Below.drew ?_)))).mono ?_;rintro e u12 ⟨cs12,rfl,O12,hc12⟩;obtain ⟨t12v0,t12v1,t12v2,rfl,t12_0,t12_1,t12_2,t12_3,t12_4,t12_5,t12_6⟩:=kY O12.raw;obtain ⟨t12a0,t12p0,rfl,_⟩:=Rep.sl t12_1;skip;obtain ⟨t12a1,t12p1,rfl,_⟩:=Rep.sl t12_2;skip;obtain ⟨t12a2,t12p2,rfl,_⟩:=Rep.sl t12_4;skip;clear t12_0 t12_1 t12_2 t12_3 t12_4 t12_5 t12_6)|(go_at_call 15;refine (kIr (O_x3_11.out.raw.below (Below.trans bU (hc12.mono rQ))) O12.raw).mono ?_;rintro e w12 ⟨rfl,hd12⟩))
 have hb12:=(tQ hc12 hd12);clear hc12 hd12 O12
 have D12:Below w11.heap.size w11 w12:=Below.trans bU (hb12.mono mZ)
 have H12:=yD (tQ H11.out D12)
 have L12:=yD (show w11.heap.size + 0≤w12.heap.size from by have h:=hb12.size;(try simp at h);omega)
 have X_aX_12:=yD (kD X_aX_11.out D12);clear X_aX_11
 have X_aT_12:=yD (kD X_aT_11.out D12);clear X_aT_11
 have X_aY_12:=yD (kD X_aY_11.out D12);clear X_aY_11
 have X_w0_12:=yD (kD X_w0_11.out D12);clear X_w0_11
 have X_x0_12:=yD (kD X_x0_11.out D12);clear X_x0_11
 have X_x1_12:=yD (kD X_x1_11.out D12);clear X_x1_11
 have X_x3_12:=yD (kD X_x3_11.out D12);clear X_x3_11
 have X_g0_12:=yD (kD X_g0_11.out D12);clear X_g0_11
 have O_w0_12:=yD (O_w0_11.out.below D12);clear O_w0_11
 have O_x0_12:=yD (O_x0_11.out.below D12);clear O_x0_11
 have O_x1_12:=yD (O_x1_11.out.below D12);clear O_x1_11
 have O_x3_12:=yD (O_x3_11.out.below D12);clear O_x3_11
 have O_g0_12:=yD (O_g0_11.out.below D12);clear O_g0_11
 clear D12 K_aY_0 K_aY_1 K_aY_2 K_aY_3 K_aY_4 K_x3_0 K_x3_1 K_x3_2 K_x3_3 K_x3_4 hb12
 obtain ⟨K_x0_0,K_x0_1,K_x0_2,K_x0_3,K_x0_4,K_x0_5,K_x0_6,K_x0_7⟩:=kBj X_x0_12.out
 go_wp2_with fail
 refine (kRu (k:=1) (O_x0_12.out.below bU) rP (by have e:(jC.cnt:Int)=3659174881787906:=(by decide);unfold Top;omega)).mono ?_
 rintro e w13 ⟨rfl,P13,Y13⟩
 have B13:Hid (1≤(jC.mark false (x0) (1)).2∧(jC.mark false (x0) (1)).2≤1 + 3659174881787906):=yD ⟨by have:=jC.mark_ge (e:=false) (x:=x0) (k:=1);omega,by have:=jC.mark_le (e:=false) (k:=1) O_x0_12.out.2;have e:(jC.cnt:Int)=3659174881787906:=(by decide);omega⟩
 have D13:Touch (Btw (w4.heap.size) (w5.heap.size)) w12 w13:=(Touch.of_below bU).trans Y13
 have H13:=yD (H12.out.trans (D13.below (by have:=H12.out.size;omega) (fun i hi=>by have a:=hi.1;have b:w.heap.size≤w4.heap.size:=H4.out.size;omega)))
 have L13:=yD (show w12.heap.size≤w13.heap.size from D13.size)
 have X_aX_13:=yD (D13.kD X_aX_12.out bS);clear X_aX_12
 have X_aT_13:=yD (D13.kD X_aT_12.out bS);clear X_aT_12
 have X_aY_13:=yD (D13.kD X_aY_12.out bS);clear X_aY_12
 have X_w0_13:=yD (D13.kD X_w0_12.out (fun q=>by have q1:=q.1;have q2:=q.2;have l5:=L5.out;omega));clear X_w0_12
 have X_x0_13:=yD (D13.kD X_x0_12.out (fun q=>by have q1:=q.1;have q2:=q.2;have l5:=L5.out;omega));clear X_x0_12
 have X_x1_13:=yD (D13.kD X_x1_12.out (fun q=>by have q1:=q.1;have q2:=q.2;have l5:=L5.out;have l6:=L6.out;omega));clear X_x1_12
 have X_x3_13:=yD (D13.kD X_x3_12.out (fun q=>by have q1:=q.1;have q2:=q.2;have l5:=L5.out;have l6:=L6.out;have l7:=L7.out;omega));clear X_x3_12
 have X_g0_13:=yD (D13.kD X_g0_12.out (fun q=>by have q1:=q.1;have q2:=q.2;have l5:=L5.out;have l6:=L6.out;have l7:=L7.out;have l8:=L8.out;omega));clear X_g0_12
 have O_w0_13:=yD (O_w0_12.out.touch D13 (fun i p q=>by have p1:=p.1;have p2:=p.2;have q1:=q.1;have q2:=q.2;have l4:=L4.out;have l5:=L5.out;omega));clear O_w0_12
 have O_x1_13:=yD (O_x1_12.out.touch D13 (fun i p q=>by have p1:=p.1;have p2:=p.2;have q1:=q.1;have q2:=q.2;have l5:=L5.out;have l6:=L6.out;omega));clear O_x1_12
 have O_x3_13:=yD (O_x3_12.out.touch D13 (fun i p q=>by have p1:=p.1;have p2:=p.2;have q1:=q.1;have q2:=q.2;have l5:=L5.out;have l6:=L6.out;have l7:=L7.out;omega));clear O_x3_12
 have O_g0_13:=yD (O_g0_12.out.touch D13 (fun i p q=>by have p1:=p.1;have p2:=p.2;have q1:=q.1;have q2:=q.2;have l5:=L5.out;have l6:=L6.out;have l7:=L7.out;have l8:=L8.out;omega));clear O_g0_12
 clear D13 K_x0_0 K_x0_1 K_x0_2 K_x0_3 K_x0_4 K_x0_5 K_x0_6 K_x0_7 Y13
 have Z13:=yD P13;clear P13 O_x0_12
 have U13:0≤(jC.mark false (x0) (1)).2:=by have:=B13.out.1;omega
 obtain ⟨K_x1_0,K_x1_1,K_x1_2,K_x1_3⟩:=kAm X_x1_13.out
 go_wp2_with fail
 refine (kLx (k:=(jC.mark false (x0) (1)).2) (O_x1_13.out.below bU) (by have:=B13.out.1;omega) (by have:=B13.out.2;have e:(kT.cnt:Int)=1970324887306240:=(by decide);unfold Top;omega)).mono ?_
 rintro e w14 ⟨rfl,P14,Y14⟩
 have B14:Hid (1≤(kT.mark false (x1) ((jC.mark false (x0) (1)).2)).2∧(kT.mark false (x1) ((jC.mark false (x0) (1)).2)).2≤(jC.mark false (x0) (1)).2 + 1970324887306240):=yD ⟨by have:=kT.mark_ge (e:=false) (x:=x1) (k:=(jC.mark false (x0) (1)).2);have:=B13.out.1;omega,by have:=kT.mark_le (e:=false) (k:=(jC.mark false (x0) (1)).2) O_x1_13.out.2;have e:(kT.cnt:Int)=1970324887306240:=(by decide);omega⟩
 have D14:Touch (Btw (w5.heap.size + 1) (w6.heap.size)) w13 w14:=(Touch.of_below bU).trans Y14
 have H14:=yD (H13.out.trans (D14.below (by have:=H13.out.size;omega) (fun i hi=>by have a:=hi.1;have b:w.heap.size≤w5.heap.size:=H5.out.size;omega)))
 have L14:=yD (show w13.heap.size≤w14.heap.size from D14.size)
 have X_aX_14:=yD (D14.kD X_aX_13.out bM);clear X_aX_13
 have X_aT_14:=yD (D14.kD X_aT_13.out bM);clear X_aT_13
 have X_aY_14:=yD (D14.kD X_aY_13.out bM);clear X_aY_13
 have X_w0_14:=yD (D14.kD X_w0_13.out (fun q=>by have q1:=q.1;have q2:=q.2;have l5:=L5.out;have l6:=L6.out;omega));clear X_w0_13
 have X_x0_14:=yD (D14.kD X_x0_13.out (fun q=>by have q1:=q.1;have q2:=q.2;have l6:=L6.out;omega));clear X_x0_13
 have X_x1_14:=yD (D14.kD X_x1_13.out (fun q=>by have q1:=q.1;have q2:=q.2;have l6:=L6.out;omega));clear X_x1_13
 have X_x3_14:=yD (D14.kD X_x3_13.out (fun q=>by have q1:=q.1;have q2:=q.2;have l6:=L6.out;have l7:=L7.out;omega));clear X_x3_13
 have X_g0_14:=yD (D14.kD X_g0_13.out (fun q=>by have q1:=q.1;have q2:=q.2;have l6:=L6.out;have l7:=L7.out;have l8:=L8.out;omega));clear X_g0_13
 have O_w0_14:=yD (O_w0_13.out.touch D14 (fun i p q=>by have p1:=p.1;have p2:=p.2;have q1:=q.1;have q2:=q.2;have l4:=L4.out;have l5:=L5.out;have l6:=L6.out;omega));clear O_w0_13
 have O_x0_14:=yD (Z13.out.touch D14 (fun i p q=>by have p1:=p.1;have p2:=p.2;have q1:=q.1;have q2:=q.2;have l5:=L5.out;have l6:=L6.out;omega));clear Z13
 have O_x3_14:=yD (O_x3_13.out.touch D14 (fun i p q=>by have p1:=p.1;have p2:=p.2;have q1:=q.1;have q2:=q.2;have l6:=L6.out;have l7:=L7.out;omega));clear O_x3_13
 have O_g0_14:=yD (O_g0_13.out.touch D14 (fun i p q=>by have p1:=p.1;have p2:=p.2;have q1:=q.1;have q2:=q.2;have l6:=L6.out;have l7:=L7.out;have l8:=L8.out;omega));clear O_g0_13
 clear D14 K_x1_0 K_x1_1 K_x1_2 K_x1_3 Y14
 have Z14:=yD P14;clear P14 O_x1_13
 have U14:0≤(kT.mark false (x1) ((jC.mark false (x0) (1)).2)).2:=by have:=B14.out.1;omega
 obtain ⟨K_x3_0,K_x3_1,K_x3_2,K_x3_3,K_x3_4⟩:=jh X_x3_14.out
 go_wp2_with fail
 refine (markData_c (k:=(kT.mark false (x1) ((jC.mark false (x0) (1)).2)).2) (O_x3_14.out.below bU) (by have:=B13.out.1;have:=B14.out.1;omega) (by have:=B13.out.2;have:=B14.out.2;have e:(kP.cnt:Int)=50331650:=(by decide);unfold Top;omega)).mono ?_
 rintro e w15 ⟨rfl,P15,Y15⟩
 have B15:Hid (1≤(kP.mark false (x3) ((kT.mark false (x1) ((jC.mark false (x0) (1)).2)).2)).2∧(kP.mark false (x3) ((kT.mark false (x1) ((jC.mark false (x0) (1)).2)).2)).2≤(kT.mark false (x1) ((jC.mark false (x0) (1)).2)).2 + 50331650):=yD ⟨by have:=kP.mark_ge (e:=false) (x:=x3) (k:=(kT.mark false (x1) ((jC.mark false (x0) (1)).2)).2);have:=B13.out.1;have:=B14.out.1;omega,by have:=kP.mark_le (e:=false) (k:=(kT.mark false (x1) ((jC.mark false (x0) (1)).2)).2) O_x3_14.out.2;have e:(kP.cnt:Int)=50331650:=(by decide);omega⟩
 have D15:Touch (Btw (w6.heap.size + 1) (w7.heap.size)) w14 w15:=(Touch.of_below bU).trans Y15
 have H15:=yD (H14.out.trans (D15.below (by have:=H14.out.size;omega) (fun i hi=>by have a:=hi.1;have b:w.heap.size≤w6.heap.size:=H6.out.size;omega)))
 have L15:=yD (show w14.heap.size≤w15.heap.size from D15.size)
 have X_aX_15:=yD (D15.kD X_aX_14.out bI);clear X_aX_14
 have X_aT_15:=yD (D15.kD X_aT_14.out bI);clear X_aT_14
 have X_aY_15:=yD (D15.kD X_aY_14.out bI);clear X_aY_14
 have X_w0_15:=yD (D15.kD X_w0_14.out (fun q=>by have q1:=q.1;have q2:=q.2;have l5:=L5.out;have l6:=L6.out;have l7:=L7.out;omega));clear X_w0_14
 have X_x0_15:=yD (D15.kD X_x0_14.out (fun q=>by have q1:=q.1;have q2:=q.2;have l6:=L6.out;have l7:=L7.out;omega));clear X_x0_14
 have X_x1_15:=yD (D15.kD X_x1_14.out (fun q=>by have q1:=q.1;have q2:=q.2;have l7:=L7.out;omega));clear X_x1_14
 have X_x3_15:=yD (D15.kD X_x3_14.out (fun q=>by have q1:=q.1;have q2:=q.2;have l7:=L7.out;omega));clear X_x3_14
 have X_g0_15:=yD (D15.kD X_g0_14.out (fun q=>by have q1:=q.1;have q2:=q.2;have l7:=L7.out;have l8:=L8.out;omega));clear X_g0_14
 have O_w0_15:=yD (O_w0_14.out.touch D15 (fun i p q=>by have p1:=p.1;have p2:=p.2;have q1:=q.1;have q2:=q.2;have l4:=L4.out;have l5:=L5.out;have l6:=L6.out;have l7:=L7.out;omega));clear O_w0_14
 have O_x0_15:=yD (O_x0_14.out.touch D15 (fun i p q=>by have p1:=p.1;have p2:=p.2;have q1:=q.1;have q2:=q.2;have l5:=L5.out;have l6:=L6.out;have l7:=L7.out;omega));clear O_x0_14
 have O_x1_15:=yD (Z14.out.touch D15 (fun i p q=>by have p1:=p.1;have p2:=p.2;have q1:=q.1;have q2:=q.2;have l6:=L6.out;have l7:=L7.out;omega));clear Z14
 have O_g0_15:=yD (O_g0_14.out.touch D15 (fun i p q=>by have p1:=p.1;have p2:=p.2;have q1:=q.1;have q2:=q.2;have l7:=L7.out;have l8:=L8.out;omega));clear O_g0_14
 clear D15 K_x3_0 K_x3_1 K_x3_2 K_x3_3 K_x3_4 Y15
 have Z15:=yD P15;clear P15 O_x3_14
 have U15:0≤(kP.mark false (x3) ((kT.mark false (x1) ((jC.mark false (x0) (1)).2)).2)).2:=by have:=B15.out.1;omega
 obtain ⟨K_g0_0,K_g0_1,K_g0_2,K_g0_3,K_g0_4,K_g0_5,K_g0_6,K_g0_7,K_g0_8⟩:=ji X_g0_15.out
 obtain ⟨K_w0_0,K_w0_1,K_w0_2,K_w0_3,K_w0_4,K_w0_5,K_w0_6,K_w0_7,K_w0_8⟩:=ji X_w0_15.out
 go_wp2_with fail
 refine (kKv (O_g0_15.out.raw.below bU) (O_w0_15.out.raw.below bU)).mono ?_
 rintro e w16 ⟨rfl,hb16⟩
 have D16:Below w15.heap.size w15 w16:=Below.trans bU (hb16.mono mZ)
 have H16:=yD (tQ H15.out D16)
 have L16:=yD (show w15.heap.size + 0≤w16.heap.size from by have h:=hb16.size;(try simp at h);omega)
 have X_aX_16:=yD (kD X_aX_15.out D16);clear X_aX_15
 have X_aT_16:=yD (kD X_aT_15.out D16);clear X_aT_15
 have X_aY_16:=yD (kD X_aY_15.out D16);clear X_aY_15
 have X_w0_16:=yD (kD X_w0_15.out D16);clear X_w0_15
 have X_x0_16:=yD (kD X_x0_15.out D16);clear X_x0_15
 have X_x1_16:=yD (kD X_x1_15.out D16);clear X_x1_15
 have X_x3_16:=yD (kD X_x3_15.out D16);clear X_x3_15
 have X_g0_16:=yD (kD X_g0_15.out D16);clear X_g0_15
 have O_w0_16:=yD (O_w0_15.out.below D16);clear O_w0_15
 have O_x0_16:=yD (O_x0_15.out.below D16);clear O_x0_15
 have O_x1_16:=yD (O_x1_15.out.below D16);clear O_x1_15
 have O_x3_16:=yD (Z15.out.below D16);clear Z15
 have O_g0_16:=yD (O_g0_15.out.below D16);clear O_g0_15
 clear D16 K_g0_0 K_g0_1 K_g0_2 K_g0_3 K_g0_4 K_g0_5 K_g0_6 K_g0_7 K_g0_8 K_w0_0 K_w0_1 K_w0_2 K_w0_3 K_w0_4 K_w0_5 K_w0_6 K_w0_7 K_w0_8 hb16
 obtain ⟨K_g0_0,K_g0_1,K_g0_2,K_g0_3,K_g0_4,K_g0_5,K_g0_6,K_g0_7,K_g0_8⟩:=ji X_g0_16.out
 go_wp2_with fail
 refine (kVt (k:=1) (O_g0_16.out.below bU) rP (by have e:(yP.cnt:Int)=4785074906071042:=(by decide);unfold Top;omega)).mono ?_
 rintro e w17 ⟨rfl,P17,Y17⟩
 have B17:Hid (1≤(yP.mark false Y0_ (1)).2∧(yP.mark false Y0_ (1)).2≤1 + 4785074906071042):=yD ⟨by have:=yP.mark_ge (e:=false) (x:=Y0_) (k:=1);omega,by have:=yP.mark_le (e:=false) (k:=1) O_g0_16.out.2;have e:(yP.cnt:Int)=4785074906071042:=(by decide);omega⟩
 have D17:Touch (Btw (w7.heap.size + 1) (w8.heap.size)) w16 w17:=(Touch.of_below bU).trans Y17
 have H17:=yD (H16.out.trans (D17.below (by have:=H16.out.size;omega) (fun i hi=>by have a:=hi.1;have b:w.heap.size≤w7.heap.size:=H7.out.size;omega)))
 have L17:=yD (show w16.heap.size≤w17.heap.size from D17.size)
 have X_aX_17:=yD (D17.kD X_aX_16.out bE);clear X_aX_16
 have X_aT_17:=yD (D17.kD X_aT_16.out bE);clear X_aT_16
 have X_aY_17:=yD (D17.kD X_aY_16.out bE);clear X_aY_16
 have X_w0_17:=yD (D17.kD X_w0_16.out (fun q=>by have q1:=q.1;have q2:=q.2;have l5:=L5.out;have l6:=L6.out;have l7:=L7.out;have l8:=L8.out;omega));clear X_w0_16
 have X_x0_17:=yD (D17.kD X_x0_16.out (fun q=>by have q1:=q.1;have q2:=q.2;have l6:=L6.out;have l7:=L7.out;have l8:=L8.out;omega));clear X_x0_16
 have X_x1_17:=yD (D17.kD X_x1_16.out (fun q=>by have q1:=q.1;have q2:=q.2;have l7:=L7.out;have l8:=L8.out;omega));clear X_x1_16
 have X_x3_17:=yD (D17.kD X_x3_16.out (fun q=>by have q1:=q.1;have q2:=q.2;have l8:=L8.out;omega));clear X_x3_16
 have X_g0_17:=yD (D17.kD X_g0_16.out (fun q=>by have q1:=q.1;have q2:=q.2;have l8:=L8.out;omega));clear X_g0_16
 have O_w0_17:=yD (O_w0_16.out.touch D17 (fun i p q=>by have p1:=p.1;have p2:=p.2;have q1:=q.1;have q2:=q.2;have l4:=L4.out;have l5:=L5.out;have l6:=L6.out;have l7:=L7.out;have l8:=L8.out;omega));clear O_w0_16
 have O_x0_17:=yD (O_x0_16.out.touch D17 (fun i p q=>by have p1:=p.1;have p2:=p.2;have q1:=q.1;have q2:=q.2;have l5:=L5.out;have l6:=L6.out;have l7:=L7.out;have l8:=L8.out;omega));clear O_x0_16
 have O_x1_17:=yD (O_x1_16.out.touch D17 (fun i p q=>by have p1:=p.1;have p2:=p.2;have q1:=q.1;have q2:=q.2;have l6:=L6.out;have l7:=L7.out;have l8:=L8.out;omega));clear O_x1_16
 have O_x3_17:=yD (O_x3_16.out.touch D17 (fun i p q=>by have p1:=p.1;have p2:=p.2;have q1:=q.1;have q2:=q.2;have l7:=L7.out;have l8:=L8.out;omega));clear O_x3_16
 clear D17 K_g0_0 K_g0_1 K_g0_2 K_g0_3 K_g0_4 K_g0_5 K_g0_6 K_g0_7 K_g0_8 Y17
 have Z17:=yD P17;clear P17 O_g0_16
 have U17:0≤(yP.mark false Y0_ (1)).2:=by have:=B17.out.1;omega
 obtain ⟨K_g0_0,K_g0_1,K_g0_2,K_g0_3,K_g0_4,K_g0_5,K_g0_6,K_g0_7,K_g0_8⟩:=ji X_g0_17.out
 go_wp2_with fail
 refine (kMh (Z17.out.raw.below bU) (yP.mark_held (e:=false) (x:=Y0_) (k:=1)) (by have:=B17.out.1;omega) (by have:=B17.out.2;omega)).mono ?_
 rintro e w18 ⟨rfl,hb18⟩
 have D18:Below w17.heap.size w17 w18:=Below.trans bU (hb18.mono mZ)
 have H18:=yD (tQ H17.out D18)
 have L18:=yD (show w17.heap.size + 0≤w18.heap.size from by have h:=hb18.size;(try simp at h);omega)
 have X_aX_18:=yD (kD X_aX_17.out D18);clear X_aX_17
 have X_aT_18:=yD (kD X_aT_17.out D18);clear X_aT_17
 have X_aY_18:=yD (kD X_aY_17.out D18);clear X_aY_17
 have X_w0_18:=yD (kD X_w0_17.out D18);clear X_w0_17
 have X_x0_18:=yD (kD X_x0_17.out D18);clear X_x0_17
 have X_x1_18:=yD (kD X_x1_17.out D18);clear X_x1_17
 have X_x3_18:=yD (kD X_x3_17.out D18);clear X_x3_17
 have X_g0_18:=yD (kD X_g0_17.out D18);clear X_g0_17
 have O_w0_18:=yD (O_w0_17.out.below D18);clear O_w0_17
 have O_x0_18:=yD (O_x0_17.out.below D18);clear O_x0_17
 have O_x1_18:=yD (O_x1_17.out.below D18);clear O_x1_17
 have O_x3_18:=yD (O_x3_17.out.below D18);clear O_x3_17
 have O_g0_18:=yD (Z17.out.below D18);clear Z17
 clear D18 K_g0_0 K_g0_1 K_g0_2 K_g0_3 K_g0_4 K_g0_5 K_g0_6 K_g0_7 K_g0_8 hb18
 obtain ⟨K_aX_0,K_aX_1,K_aX_2,K_aX_3,K_aX_4,K_aX_5,K_aX_6,K_aX_7⟩:=kBj X_aX_18.out
 obtain ⟨K_aT_0,K_aT_1,K_aT_2,K_aT_3⟩:=kAm X_aT_18.out
 obtain ⟨K_aY_0,K_aY_1,K_aY_2,K_aY_3,K_aY_4⟩:=jh X_aY_18.out
 go_wp2_with fail
 apply share (fun b W=>Below w18.heap.size w18 W∧w18.heap.size≤b∧b < W.heap.size∧∃ cs:List Value,W.heap[b]?=some (.cells cs.toArray 74 (0,0))∧yP.own W cs Y0_ (Btw w18.heap.size W.heap.size))
 case walk =>
  intro CONT
  have FX:=yD (fun (W:World) (hW:Below w18.heap.size w18 W)=>cLs17 hW K_aX_0 K_aX_1 K_aX_2 K_aX_3 K_aX_4 K_aX_5 K_aX_6 K_aX_7 K_aT_0 K_aT_1 K_aT_2 K_aT_3 K_aY_0 K_aY_1 K_aY_2 K_aY_3 K_aY_4)
  refine kDh (fun W=>Below w18.heap.size w18 W) rF (bR.drew) ?_
  intro wS HS
  refine ja 0 ?_
  refine wkP ?_
  refine ja 2 ?_
  refine wkP ?_
  refine ja 4 ?_
  refine wkP ?_
  refine ja 5 ?_
  refine wkP ?_
  refine ja 7 ?_
  refine wkP ?_
  refine zT (i:=1) (j:=9) rfl rfl rF rfl rfl (fun K hK=>?_) (fun K hK=>?_)
  · go_simp
    refine (kGh (r0.below (tQ H18.out HS))).mono ?_
    rintro e u19_0 ⟨cs19_0,rfl,O19_0,hc⟩
    obtain ⟨t19_0v0,t19_0v2,t19_0v3,t19_0v4,t19_0v5,t19_0v6,rfl,t19_0_0,t19_0_1,t19_0_2,t19_0_3,t19_0_4,t19_0_5,t19_0_6,t19_0_7,t19_0_8⟩:=jo O19_0.raw
    obtain ⟨t19_0a0,t19_0p0,rfl,_⟩:=Rep.sl t19_0_0
    obtain ⟨t19_0a2,t19_0p2,rfl,_⟩:=Rep.sl t19_0_3
    obtain ⟨t19_0a3,t19_0p3,rfl,_⟩:=Rep.sl t19_0_4
    obtain ⟨t19_0a4,t19_0p4,rfl,_⟩:=Rep.sl t19_0_5
    obtain ⟨t19_0a5,t19_0p5,rfl,_⟩:=Rep.sl t19_0_6
    obtain ⟨t19_0a6,t19_0p6,rfl,_⟩:=Rep.sl t19_0_7
    clear t19_0_0 t19_0_1 t19_0_2 t19_0_3 t19_0_4 t19_0_5 t19_0_6 t19_0_7 t19_0_8
    replace HS:=(tQ HS hc)
    refine hK _ _ HS ?_
    clear hK K hc
    refine wkP ?_
    refine zT (i:=3) (j:=9) rfl rfl rF rfl rfl (fun K hK=>?_) (fun K hK=>?_)
    · go_simp
      refine (za (r1.below (tQ H18.out HS))).mono ?_
      rintro e u19_1 ⟨cs19_1,rfl,O19_1,hc⟩
      obtain ⟨t19_1v0,t19_1v1,t19_1v2,t19_1v3,rfl,t19_1_0,t19_1_1,t19_1_2,t19_1_3⟩:=kw O19_1.raw
      obtain ⟨t19_1a0,t19_1p0,rfl,_⟩:=Rep.sl t19_1_0
      obtain ⟨t19_1a1,t19_1p1,rfl,_⟩:=Rep.sl t19_1_1
      obtain ⟨t19_1a2,t19_1p2,rfl,_⟩:=Rep.sl t19_1_2
      obtain ⟨t19_1a3,t19_1p3,rfl,_⟩:=Rep.sl t19_1_3
      clear t19_1_0 t19_1_1 t19_1_2 t19_1_3
      replace O19_0:=O19_0.below hc
      replace HS:=(tQ HS hc)
      refine hK _ _ HS ?_
      clear hK K hc
      refine wkP ?_
      refine zT (i:=6) (j:=9) rfl rfl rF rfl rfl (fun K hK=>?_) (fun K hK=>?_)
      · go_simp
        refine (kBh (r3.below (tQ H18.out HS))).mono ?_
        rintro e u19_2 ⟨cs19_2,rfl,O19_2,hc⟩
        obtain ⟨t19_2v0,t19_2v1,t19_2v2,rfl,t19_2_0,t19_2_1,t19_2_2,t19_2_3,t19_2_4,t19_2_5,t19_2_6⟩:=kY O19_2.raw
        obtain ⟨t19_2a0,t19_2p0,rfl,_⟩:=Rep.sl t19_2_1
        obtain ⟨t19_2a1,t19_2p1,rfl,_⟩:=Rep.sl t19_2_2
        obtain ⟨t19_2a2,t19_2p2,rfl,_⟩:=Rep.sl t19_2_4
        clear t19_2_0 t19_2_1 t19_2_2 t19_2_3 t19_2_4 t19_2_5 t19_2_6
        replace O19_0:=O19_0.below hc
        replace O19_1:=O19_1.below hc
        replace HS:=(tQ HS hc)
        refine hK _ _ HS ?_
        clear hK K hc
        refine wkP ?_
        refine zT (i:=8) (j:=9) rfl rfl rF rfl rfl (fun K hK=>?_) (fun K hK=>?_)
        · go_simp
          refine (kAd O19_0.rd O19_1.rd hi2.out O19_2.rd hi4.out (G1.out z1) (G2.out z2) (G3.out z3)).mono ?_
          rintro e u19 ⟨cs19,rfl,O19,hc⟩
          rw [HYE.out] at O19
          obtain ⟨t19v0,t19v2,t19v3,t19v4,t19v5,t19v6,t19v8,rfl,t19_0,t19_1,t19_2,t19_3,t19_4,t19_5,t19_6,t19_7,t19_8,t19_9,t19_10⟩:=yB O19.raw
          obtain ⟨t19a0,t19p0,rfl,_⟩:=Rep.sl t19_1
          obtain ⟨t19a2,t19p2,rfl,_⟩:=Rep.sl t19_4
          obtain ⟨t19a3,t19p3,rfl,_⟩:=Rep.sl t19_5
          obtain ⟨t19a4,t19p4,rfl,_⟩:=Rep.sl t19_6
          obtain ⟨t19a5,t19p5,rfl,_⟩:=Rep.sl t19_7
          obtain ⟨t19a6,t19p6,rfl,_⟩:=Rep.sl t19_8
          obtain ⟨t19a8,t19p8,rfl,_⟩:=Rep.sl t19_10
          clear t19_0 t19_1 t19_2 t19_3 t19_4 t19_5 t19_6 t19_7 t19_8 t19_9 t19_10
          have hzr:=HS.size
          have hzc:=hc.size
          replace HS:=(tQ HS hc)
          refine hK _ _ HS ?_
          clear hK K hc O19_0 O19_1 O19_2
          refine wkP ?_
          refine kV (k:=9) rfl rF rfl (fun K hK=>?_)
          go_simp
          generalize hwZ:World.alloc u19 _=wZ
          have hlt_:=HS.size
          have XZ:wZ.heap[u19.heap.size]?=some (.cells #[.slice none 0 0,.int .i64 0,.slice none 0 0,.slice none 0 0,.slice none 0 0,.slice none 0 0,.slice none 0 0,.int .i64 0,.slice none 0 0] 74 (0,0)):=(by rw [← hwZ];exact kN rfl)
          have hbZ:Below u19.heap.size u19 wZ:=(by rw [← hwZ];exact bR.alloc nL _)
          replace O19:=O19.below hbZ
          have hzZ:=hbZ.size
          replace HS:=(tQ HS hbZ)
          clear hwZ hbZ
          refine hK _ _ HS ?_
          clear hK K
          refine wkP ?_
          refine kV (k:=10) rfl rF rfl (fun K hK=>?_)
          obtain ⟨Y0,Y1,Y2,Y3,Y4,Y5,Y6,Y7,Y8⟩:=ji XZ
          obtain ⟨N0,N1,N2,N3,N4,N5,N6,N7,N8⟩:=zJ XZ
          go_simp
          obtain ⟨wE,hws⟩:∃ W,W=Rep.setCells wZ (u19.heap.size) 0 [.slice t19a0 (Y0_.1.1).length t19p0,.int .i64 Y0_.1.2.1.1,.slice t19a2 (Y0_.1.2.1.2).length t19p2,.slice t19a3 (Y0_.1.2.2.1).length t19p3,.slice t19a4 (Y0_.1.2.2.2.1).length t19p4,.slice t19a5 (Y0_.1.2.2.2.2.1).length t19p5,.slice t19a6 (Y0_.1.2.2.2.2.2.1).length t19p6,.int .i64 Y0_.1.2.2.2.2.2.2,.slice t19a8 (Y0_.2).length t19p8]:=⟨_,rfl⟩
          change K _ (Rep.setCells _ _ 0 [.slice t19a0 (Y0_.1.1).length t19p0,.int .i64 Y0_.1.2.1.1,.slice t19a2 (Y0_.1.2.1.2).length t19p2,.slice t19a3 (Y0_.1.2.2.1).length t19p3,.slice t19a4 (Y0_.1.2.2.2.1).length t19p4,.slice t19a5 (Y0_.1.2.2.2.2.1).length t19p5,.slice t19a6 (Y0_.1.2.2.2.2.2.1).length t19p6,.int .i64 Y0_.1.2.2.2.2.2.2,.slice t19a8 (Y0_.2).length t19p8])
          rw [← hws]
          have T_:Touch (fun k=>k=u19.heap.size) wZ wE:=(by rw [hws];exact Rep.jq _ _ _ _)
          have XW:wE.heap[u19.heap.size]?=some (.cells #[.slice t19a0 (Y0_.1.1).length t19p0,.int .i64 Y0_.1.2.1.1,.slice t19a2 (Y0_.1.2.1.2).length t19p2,.slice t19a3 (Y0_.1.2.2.1).length t19p3,.slice t19a4 (Y0_.1.2.2.2.1).length t19p4,.slice t19a5 (Y0_.1.2.2.2.2.1).length t19p5,.slice t19a6 (Y0_.1.2.2.2.2.2.1).length t19p6,.int .i64 Y0_.1.2.2.2.2.2.2,.slice t19a8 (Y0_.2).length t19p8] 74 (0,0)):=(by rw [hws];exact Rep.yI [.slice t19a0 (Y0_.1.1).length t19p0,.int .i64 Y0_.1.2.1.1,.slice t19a2 (Y0_.1.2.1.2).length t19p2,.slice t19a3 (Y0_.1.2.2.1).length t19p3,.slice t19a4 (Y0_.1.2.2.2.1).length t19p4,.slice t19a5 (Y0_.1.2.2.2.2.1).length t19p5,.slice t19a6 (Y0_.1.2.2.2.2.2.1).length t19p6,.int .i64 Y0_.1.2.2.2.2.2.2,.slice t19a8 (Y0_.2).length t19p8] [.slice none 0 0,.int .i64 0,.slice none 0 0,.slice none 0 0,.slice none 0 0,.slice none 0 0,.slice none 0 0,.int .i64 0,.slice none 0 0] [] [] wZ (u19.heap.size) 0 XZ rfl rfl)
          have OW:=O19.touch T_ gI
          have hzE:wE.heap.size=wZ.heap.size:=(by rw [hws];exact Rep.setCells_size _ _ _ _)
          replace HS:=HS.trans (T_.below HS.size qI)
          clear hws Y0 N0 Y1 N1 Y2 N2 Y3 N3 Y4 N4 Y5 N5 Y6 N6 Y7 N7 Y8 N8 XZ T_
          refine hK _ _ HS ?_
          clear hK K
          refine wkP ?_
          refine yN rF ?_
          have g3:Value:=.nilIface
          generalize (.agg #[.slice t19a0 (Y0_.1.1).length t19p0,.int .i64 Y0_.1.2.1.1,.slice t19a2 (Y0_.1.2.1.2).length t19p2,.slice t19a3 (Y0_.1.2.2.1).length t19p3,.slice t19a4 (Y0_.1.2.2.2.1).length t19p4,.slice t19a5 (Y0_.1.2.2.2.2.1).length t19p5,.slice t19a6 (Y0_.1.2.2.2.2.2.1).length t19p6,.int .i64 Y0_.1.2.2.2.2.2.2,.slice t19a8 (Y0_.2).length t19p8]:Value)=g4
          generalize (.agg #[.slice t19_0a0 (x0.1).length t19_0p0,.int .i64 x0.2.1.1,.slice t19_0a2 (x0.2.1.2).length t19_0p2,.slice t19_0a3 (x0.2.2.1).length t19_0p3,.slice t19_0a4 (x0.2.2.2.1).length t19_0p4,.slice t19_0a5 (x0.2.2.2.2.1).length t19_0p5,.slice t19_0a6 (x0.2.2.2.2.2.1).length t19_0p6,.int .i64 x0.2.2.2.2.2.2]:Value)=g1
          generalize (.agg #[.slice t19_1a0 (x1.1).length t19_1p0,.slice t19_1a1 (x1.2.1).length t19_1p1,.slice t19_1a2 (x1.2.2.1).length t19_1p2,.slice t19_1a3 (x1.2.2.2).length t19_1p3]:Value)=g2
          generalize (.agg #[.slice t19_2a0 (x3.1).length t19_2p0,.slice t19_2a1 (x3.2.1).length t19_2p1,.slice t19_2a2 (x3.2.2.1).length t19_2p2,.int .i64 x3.2.2.2.1,.int .i64 x3.2.2.2.2]:Value)=g3
          have hbl:=(Array.getElem?_eq_some_iff.1 XW).1
          have OE:=Rep.own.wide (T:=Btw w18.heap.size wE.heap.size) OW fG
          clear OW
          generalize u19.heap.size=b at hbl XW hlt_ ⊢
          exact CONT b g1 g2 g3 g4 wE ⟨HS,hlt_,hbl,_,XW,OE⟩
        go_simp
        generalize hwZ:World.alloc u19_2 _=wZ
        have hlt_:=HS.size
        have XZ:wZ.heap[u19_2.heap.size]?=some (.cells #[.slice none 0 0,.int .i64 0,.slice none 0 0,.slice none 0 0,.slice none 0 0,.slice none 0 0,.slice none 0 0,.int .i64 0,.slice none 0 0] 74 (0,0)):=(by rw [← hwZ];exact kN rfl)
        have hbZ:Below u19_2.heap.size u19_2 wZ:=(by rw [← hwZ];exact bR.alloc nL _)
        replace O19_0:=O19_0.below hbZ
        replace O19_1:=O19_1.below hbZ
        replace O19_2:=O19_2.below hbZ
        have hzZ:=hbZ.size
        replace HS:=(tQ HS hbZ)
        clear hwZ hbZ
        refine hK _ _ HS ?_
        clear hK K
        refine wkP ?_
        refine kV (k:=8) rfl rF rfl (fun K hK=>?_)
        go_simp
        refine (kAd O19_0.rd O19_1.rd hi2.out O19_2.rd hi4.out (G1.out z1) (G2.out z2) (G3.out z3)).mono ?_
        rintro e u19 ⟨cs19,rfl,O19,hc⟩
        rw [HYE.out] at O19
        obtain ⟨t19v0,t19v2,t19v3,t19v4,t19v5,t19v6,t19v8,rfl,t19_0,t19_1,t19_2,t19_3,t19_4,t19_5,t19_6,t19_7,t19_8,t19_9,t19_10⟩:=yB O19.raw
        obtain ⟨t19a0,t19p0,rfl,_⟩:=Rep.sl t19_1
        obtain ⟨t19a2,t19p2,rfl,_⟩:=Rep.sl t19_4
        obtain ⟨t19a3,t19p3,rfl,_⟩:=Rep.sl t19_5
        obtain ⟨t19a4,t19p4,rfl,_⟩:=Rep.sl t19_6
        obtain ⟨t19a5,t19p5,rfl,_⟩:=Rep.sl t19_7
        obtain ⟨t19a6,t19p6,rfl,_⟩:=Rep.sl t19_8
        obtain ⟨t19a8,t19p8,rfl,_⟩:=Rep.sl t19_10
        clear t19_0 t19_1 t19_2 t19_3 t19_4 t19_5 t19_6 t19_7 t19_8 t19_9 t19_10
        have hfl:=(Array.getElem?_eq_some_iff.1 XZ).1
        replace XZ:=kD XZ hc
        have hzr:=HS.size
        have hzc:=hc.size
        replace HS:=(tQ HS hc)
        refine hK _ _ HS ?_
        clear hK K hc O19_0 O19_1 O19_2
        refine wkP ?_
        refine kV (k:=10) rfl rF rfl (fun K hK=>?_)
        obtain ⟨Y0,Y1,Y2,Y3,Y4,Y5,Y6,Y7,Y8⟩:=ji XZ
        obtain ⟨N0,N1,N2,N3,N4,N5,N6,N7,N8⟩:=zJ XZ
        go_simp
        obtain ⟨wE,hws⟩:∃ W,W=Rep.setCells u19 (u19_2.heap.size) 0 [.slice t19a0 (Y0_.1.1).length t19p0,.int .i64 Y0_.1.2.1.1,.slice t19a2 (Y0_.1.2.1.2).length t19p2,.slice t19a3 (Y0_.1.2.2.1).length t19p3,.slice t19a4 (Y0_.1.2.2.2.1).length t19p4,.slice t19a5 (Y0_.1.2.2.2.2.1).length t19p5,.slice t19a6 (Y0_.1.2.2.2.2.2.1).length t19p6,.int .i64 Y0_.1.2.2.2.2.2.2,.slice t19a8 (Y0_.2).length t19p8]:=⟨_,rfl⟩
        change K _ (Rep.setCells _ _ 0 [.slice t19a0 (Y0_.1.1).length t19p0,.int .i64 Y0_.1.2.1.1,.slice t19a2 (Y0_.1.2.1.2).length t19p2,.slice t19a3 (Y0_.1.2.2.1).length t19p3,.slice t19a4 (Y0_.1.2.2.2.1).length t19p4,.slice t19a5 (Y0_.1.2.2.2.2.1).length t19p5,.slice t19a6 (Y0_.1.2.2.2.2.2.1).length t19p6,.int .i64 Y0_.1.2.2.2.2.2.2,.slice t19a8 (Y0_.2).length t19p8])
        rw [← hws]
        have T_:Touch (fun k=>k=u19_2.heap.size) u19 wE:=(by rw [hws];exact Rep.jq _ _ _ _)
        have XW:wE.heap[u19_2.heap.size]?=some (.cells #[.slice t19a0 (Y0_.1.1).length t19p0,.int .i64 Y0_.1.2.1.1,.slice t19a2 (Y0_.1.2.1.2).length t19p2,.slice t19a3 (Y0_.1.2.2.1).length t19p3,.slice t19a4 (Y0_.1.2.2.2.1).length t19p4,.slice t19a5 (Y0_.1.2.2.2.2.1).length t19p5,.slice t19a6 (Y0_.1.2.2.2.2.2.1).length t19p6,.int .i64 Y0_.1.2.2.2.2.2.2,.slice t19a8 (Y0_.2).length t19p8] 74 (0,0)):=(by rw [hws];exact Rep.yI [.slice t19a0 (Y0_.1.1).length t19p0,.int .i64 Y0_.1.2.1.1,.slice t19a2 (Y0_.1.2.1.2).length t19p2,.slice t19a3 (Y0_.1.2.2.1).length t19p3,.slice t19a4 (Y0_.1.2.2.2.1).length t19p4,.slice t19a5 (Y0_.1.2.2.2.2.1).length t19p5,.slice t19a6 (Y0_.1.2.2.2.2.2.1).length t19p6,.int .i64 Y0_.1.2.2.2.2.2.2,.slice t19a8 (Y0_.2).length t19p8] [.slice none 0 0,.int .i64 0,.slice none 0 0,.slice none 0 0,.slice none 0 0,.slice none 0 0,.slice none 0 0,.int .i64 0,.slice none 0 0] [] [] u19 (u19_2.heap.size) 0 XZ rfl rfl)
        have OW:=O19.touch T_ gI
        have hzE:wE.heap.size=u19.heap.size:=(by rw [hws];exact Rep.setCells_size _ _ _ _)
        replace HS:=HS.trans (T_.below HS.size qI)
        clear hws Y0 N0 Y1 N1 Y2 N2 Y3 N3 Y4 N4 Y5 N5 Y6 N6 Y7 N7 Y8 N8 XZ T_
        refine hK _ _ HS ?_
        clear hK K
        refine wkP ?_
        refine yN rF ?_
        have g3:Value:=.nilIface
        generalize (.agg #[.slice t19a0 (Y0_.1.1).length t19p0,.int .i64 Y0_.1.2.1.1,.slice t19a2 (Y0_.1.2.1.2).length t19p2,.slice t19a3 (Y0_.1.2.2.1).length t19p3,.slice t19a4 (Y0_.1.2.2.2.1).length t19p4,.slice t19a5 (Y0_.1.2.2.2.2.1).length t19p5,.slice t19a6 (Y0_.1.2.2.2.2.2.1).length t19p6,.int .i64 Y0_.1.2.2.2.2.2.2,.slice t19a8 (Y0_.2).length t19p8]:Value)=g4
        generalize (.agg #[.slice t19_0a0 (x0.1).length t19_0p0,.int .i64 x0.2.1.1,.slice t19_0a2 (x0.2.1.2).length t19_0p2,.slice t19_0a3 (x0.2.2.1).length t19_0p3,.slice t19_0a4 (x0.2.2.2.1).length t19_0p4,.slice t19_0a5 (x0.2.2.2.2.1).length t19_0p5,.slice t19_0a6 (x0.2.2.2.2.2.1).length t19_0p6,.int .i64 x0.2.2.2.2.2.2]:Value)=g1
        generalize (.agg #[.slice t19_1a0 (x1.1).length t19_1p0,.slice t19_1a1 (x1.2.1).length t19_1p1,.slice t19_1a2 (x1.2.2.1).length t19_1p2,.slice t19_1a3 (x1.2.2.2).length t19_1p3]:Value)=g2
        generalize (.agg #[.slice t19_2a0 (x3.1).length t19_2p0,.slice t19_2a1 (x3.2.1).length t19_2p1,.slice t19_2a2 (x3.2.2.1).length t19_2p2,.int .i64 x3.2.2.2.1,.int .i64 x3.2.2.2.2]:Value)=g3
        have hbl:=(Array.getElem?_eq_some_iff.1 XW).1
        have OE:=Rep.own.wide (T:=Btw w18.heap.size wE.heap.size) OW fG
        clear OW
        generalize u19_2.heap.size=b at hbl XW hlt_ ⊢
        exact CONT b g1 g2 g3 g4 wE ⟨HS,hlt_,hbl,_,XW,OE⟩
      go_simp
      generalize hwZ:World.alloc u19_1 _=wZ
      have hlt_:=HS.size
      have XZ:wZ.heap[u19_1.heap.size]?=some (.cells #[.slice none 0 0,.int .i64 0,.slice none 0 0,.slice none 0 0,.slice none 0 0,.slice none 0 0,.slice none 0 0,.int .i64 0,.slice none 0 0] 74 (0,0)):=(by rw [← hwZ];exact kN rfl)
      have hbZ:Below u19_1.heap.size u19_1 wZ:=(by rw [← hwZ];exact bR.alloc nL _)
      replace O19_0:=O19_0.below hbZ
      replace O19_1:=O19_1.below hbZ
      have hzZ:=hbZ.size
      replace HS:=(tQ HS hbZ)
      clear hwZ hbZ
      refine hK _ _ HS ?_
      clear hK K
      refine wkP ?_
      refine kV (k:=6) rfl rF rfl (fun K hK=>?_)
      go_simp
      refine (kBh (r3.below (tQ H18.out HS))).mono ?_
      rintro e u19_2 ⟨cs19_2,rfl,O19_2,hc⟩
      obtain ⟨t19_2v0,t19_2v1,t19_2v2,rfl,t19_2_0,t19_2_1,t19_2_2,t19_2_3,t19_2_4,t19_2_5,t19_2_6⟩:=kY O19_2.raw
      obtain ⟨t19_2a0,t19_2p0,rfl,_⟩:=Rep.sl t19_2_1
      obtain ⟨t19_2a1,t19_2p1,rfl,_⟩:=Rep.sl t19_2_2
      obtain ⟨t19_2a2,t19_2p2,rfl,_⟩:=Rep.sl t19_2_4
      clear t19_2_0 t19_2_1 t19_2_2 t19_2_3 t19_2_4 t19_2_5 t19_2_6
      replace O19_0:=O19_0.below hc
      replace O19_1:=O19_1.below hc
      replace XZ:=kD XZ hc
      replace HS:=(tQ HS hc)
      refine hK _ _ HS ?_
      clear hK K hc
      refine wkP ?_
      refine kV (k:=8) rfl rF rfl (fun K hK=>?_)
      go_simp
      refine (kAd O19_0.rd O19_1.rd hi2.out O19_2.rd hi4.out (G1.out z1) (G2.out z2) (G3.out z3)).mono ?_
      rintro e u19 ⟨cs19,rfl,O19,hc⟩
      rw [HYE.out] at O19
      obtain ⟨t19v0,t19v2,t19v3,t19v4,t19v5,t19v6,t19v8,rfl,t19_0,t19_1,t19_2,t19_3,t19_4,t19_5,t19_6,t19_7,t19_8,t19_9,t19_10⟩:=yB O19.raw
      obtain ⟨t19a0,t19p0,rfl,_⟩:=Rep.sl t19_1
      obtain ⟨t19a2,t19p2,rfl,_⟩:=Rep.sl t19_4
      obtain ⟨t19a3,t19p3,rfl,_⟩:=Rep.sl t19_5
      obtain ⟨t19a4,t19p4,rfl,_⟩:=Rep.sl t19_6
      obtain ⟨t19a5,t19p5,rfl,_⟩:=Rep.sl t19_7
      obtain ⟨t19a6,t19p6,rfl,_⟩:=Rep.sl t19_8
      obtain ⟨t19a8,t19p8,rfl,_⟩:=Rep.sl t19_10
      clear t19_0 t19_1 t19_2 t19_3 t19_4 t19_5 t19_6 t19_7 t19_8 t19_9 t19_10
      have hfl:=(Array.getElem?_eq_some_iff.1 XZ).1
      replace XZ:=kD XZ hc
      have hzr:=HS.size
      have hzc:=hc.size
      replace HS:=(tQ HS hc)
      refine hK _ _ HS ?_
      clear hK K hc O19_0 O19_1 O19_2
      refine wkP ?_
      refine kV (k:=10) rfl rF rfl (fun K hK=>?_)
      obtain ⟨Y0,Y1,Y2,Y3,Y4,Y5,Y6,Y7,Y8⟩:=ji XZ
      obtain ⟨N0,N1,N2,N3,N4,N5,N6,N7,N8⟩:=zJ XZ
      go_simp
      obtain ⟨wE,hws⟩:∃ W,W=Rep.setCells u19 (u19_1.heap.size) 0 [.slice t19a0 (Y0_.1.1).length t19p0,.int .i64 Y0_.1.2.1.1,.slice t19a2 (Y0_.1.2.1.2).length t19p2,.slice t19a3 (Y0_.1.2.2.1).length t19p3,.slice t19a4 (Y0_.1.2.2.2.1).length t19p4,.slice t19a5 (Y0_.1.2.2.2.2.1).length t19p5,.slice t19a6 (Y0_.1.2.2.2.2.2.1).length t19p6,.int .i64 Y0_.1.2.2.2.2.2.2,.slice t19a8 (Y0_.2).length t19p8]:=⟨_,rfl⟩
      change K _ (Rep.setCells _ _ 0 [.slice t19a0 (Y0_.1.1).length t19p0,.int .i64 Y0_.1.2.1.1,.slice t19a2 (Y0_.1.2.1.2).length t19p2,.slice t19a3 (Y0_.1.2.2.1).length t19p3,.slice t19a4 (Y0_.1.2.2.2.1).length t19p4,.slice t19a5 (Y0_.1.2.2.2.2.1).length t19p5,.slice t19a6 (Y0_.1.2.2.2.2.2.1).length t19p6,.int .i64 Y0_.1.2.2.2.2.2.2,.slice t19a8 (Y0_.2).length t19p8])
      rw [← hws]
      have T_:Touch (fun k=>k=u19_1.heap.size) u19 wE:=(by rw [hws];exact Rep.jq _ _ _ _)
      have XW:wE.heap[u19_1.heap.size]?=some (.cells #[.slice t19a0 (Y0_.1.1).length t19p0,.int .i64 Y0_.1.2.1.1,.slice t19a2 (Y0_.1.2.1.2).length t19p2,.slice t19a3 (Y0_.1.2.2.1).length t19p3,.slice t19a4 (Y0_.1.2.2.2.1).length t19p4,.slice t19a5 (Y0_.1.2.2.2.2.1).length t19p5,.slice t19a6 (Y0_.1.2.2.2.2.2.1).length t19p6,.int .i64 Y0_.1.2.2.2.2.2.2,.slice t19a8 (Y0_.2).length t19p8] 74 (0,0)):=(by rw [hws];exact Rep.yI [.slice t19a0 (Y0_.1.1).length t19p0,.int .i64 Y0_.1.2.1.1,.slice t19a2 (Y0_.1.2.1.2).length t19p2,.slice t19a3 (Y0_.1.2.2.1).length t19p3,.slice t19a4 (Y0_.1.2.2.2.1).length t19p4,.slice t19a5 (Y0_.1.2.2.2.2.1).length t19p5,.slice t19a6 (Y0_.1.2.2.2.2.2.1).length t19p6,.int .i64 Y0_.1.2.2.2.2.2.2,.slice t19a8 (Y0_.2).length t19p8] [.slice none 0 0,.int .i64 0,.slice none 0 0,.slice none 0 0,.slice none 0 0,.slice none 0 0,.slice none 0 0,.int .i64 0,.slice none 0 0] [] [] u19 (u19_1.heap.size) 0 XZ rfl rfl)
      have OW:=O19.touch T_ gI
      have hzE:wE.heap.size=u19.heap.size:=(by rw [hws];exact Rep.setCells_size _ _ _ _)
      replace HS:=HS.trans (T_.below HS.size qI)
      clear hws Y0 N0 Y1 N1 Y2 N2 Y3 N3 Y4 N4 Y5 N5 Y6 N6 Y7 N7 Y8 N8 XZ T_
      refine hK _ _ HS ?_
      clear hK K
      refine wkP ?_
      refine yN rF ?_
      have g3:Value:=.nilIface
      generalize (.agg #[.slice t19a0 (Y0_.1.1).length t19p0,.int .i64 Y0_.1.2.1.1,.slice t19a2 (Y0_.1.2.1.2).length t19p2,.slice t19a3 (Y0_.1.2.2.1).length t19p3,.slice t19a4 (Y0_.1.2.2.2.1).length t19p4,.slice t19a5 (Y0_.1.2.2.2.2.1).length t19p5,.slice t19a6 (Y0_.1.2.2.2.2.2.1).length t19p6,.int .i64 Y0_.1.2.2.2.2.2.2,.slice t19a8 (Y0_.2).length t19p8]:Value)=g4
      generalize (.agg #[.slice t19_0a0 (x0.1).length t19_0p0,.int .i64 x0.2.1.1,.slice t19_0a2 (x0.2.1.2).length t19_0p2,.slice t19_0a3 (x0.2.2.1).length t19_0p3,.slice t19_0a4 (x0.2.2.2.1).length t19_0p4,.slice t19_0a5 (x0.2.2.2.2.1).length t19_0p5,.slice t19_0a6 (x0.2.2.2.2.2.1).length t19_0p6,.int .i64 x0.2.2.2.2.2.2]:Value)=g1
      generalize (.agg #[.slice t19_1a0 (x1.1).length t19_1p0,.slice t19_1a1 (x1.2.1).length t19_1p1,.slice t19_1a2 (x1.2.2.1).length t19_1p2,.slice t19_1a3 (x1.2.2.2).length t19_1p3]:Value)=g2
      generalize (.agg #[.slice t19_2a0 (x3.1).length t19_2p0,.slice t19_2a1 (x3.2.1).length t19_2p1,.slice t19_2a2 (x3.2.2.1).length t19_2p2,.int .i64 x3.2.2.2.1,.int .i64 x3.2.2.2.2]:Value)=g3
      have hbl:=(Array.getElem?_eq_some_iff.1 XW).1
      have OE:=Rep.own.wide (T:=Btw w18.heap.size wE.heap.size) OW fG
      clear OW
      generalize u19_1.heap.size=b at hbl XW hlt_ ⊢
      exact CONT b g1 g2 g3 g4 wE ⟨HS,hlt_,hbl,_,XW,OE⟩
    go_simp
    generalize hwZ:World.alloc u19_0 _=wZ
    have hlt_:=HS.size
    have XZ:wZ.heap[u19_0.heap.size]?=some (.cells #[.slice none 0 0,.int .i64 0,.slice none 0 0,.slice none 0 0,.slice none 0 0,.slice none 0 0,.slice none 0 0,.int .i64 0,.slice none 0 0] 74 (0,0)):=(by rw [← hwZ];exact kN rfl)
    have hbZ:Below u19_0.heap.size u19_0 wZ:=(by rw [← hwZ];exact bR.alloc nL _)
    replace O19_0:=O19_0.below hbZ
    have hzZ:=hbZ.size
    replace HS:=(tQ HS hbZ)
    clear hwZ hbZ
    refine hK _ _ HS ?_
    clear hK K
    refine wkP ?_
    refine kV (k:=3) rfl rF rfl (fun K hK=>?_)
    go_simp
    refine (za (r1.below (tQ H18.out HS))).mono ?_
    rintro e u19_1 ⟨cs19_1,rfl,O19_1,hc⟩
    obtain ⟨t19_1v0,t19_1v1,t19_1v2,t19_1v3,rfl,t19_1_0,t19_1_1,t19_1_2,t19_1_3⟩:=kw O19_1.raw
    obtain ⟨t19_1a0,t19_1p0,rfl,_⟩:=Rep.sl t19_1_0
    obtain ⟨t19_1a1,t19_1p1,rfl,_⟩:=Rep.sl t19_1_1
    obtain ⟨t19_1a2,t19_1p2,rfl,_⟩:=Rep.sl t19_1_2
    obtain ⟨t19_1a3,t19_1p3,rfl,_⟩:=Rep.sl t19_1_3
    clear t19_1_0 t19_1_1 t19_1_2 t19_1_3
    replace O19_0:=O19_0.below hc
    replace XZ:=kD XZ hc
    replace HS:=(tQ HS hc)
    refine hK _ _ HS ?_
    clear hK K hc
    refine wkP ?_
    refine kV (k:=6) rfl rF rfl (fun K hK=>?_)
    go_simp
    refine (kBh (r3.below (tQ H18.out HS))).mono ?_
    rintro e u19_2 ⟨cs19_2,rfl,O19_2,hc⟩
    obtain ⟨t19_2v0,t19_2v1,t19_2v2,rfl,t19_2_0,t19_2_1,t19_2_2,t19_2_3,t19_2_4,t19_2_5,t19_2_6⟩:=kY O19_2.raw
    obtain ⟨t19_2a0,t19_2p0,rfl,_⟩:=Rep.sl t19_2_1
    obtain ⟨t19_2a1,t19_2p1,rfl,_⟩:=Rep.sl t19_2_2
    obtain ⟨t19_2a2,t19_2p2,rfl,_⟩:=Rep.sl t19_2_4
    clear t19_2_0 t19_2_1 t19_2_2 t19_2_3 t19_2_4 t19_2_5 t19_2_6
    replace O19_0:=O19_0.below hc
    replace O19_1:=O19_1.below hc
    replace XZ:=kD XZ hc
    replace HS:=(tQ HS hc)
    refine hK _ _ HS ?_
    clear hK K hc
    refine wkP ?_
    refine kV (k:=8) rfl rF rfl (fun K hK=>?_)
    go_simp
    refine (kAd O19_0.rd O19_1.rd hi2.out O19_2.rd hi4.out (G1.out z1) (G2.out z2) (G3.out z3)).mono ?_
    rintro e u19 ⟨cs19,rfl,O19,hc⟩
    rw [HYE.out] at O19
    obtain ⟨t19v0,t19v2,t19v3,t19v4,t19v5,t19v6,t19v8,rfl,t19_0,t19_1,t19_2,t19_3,t19_4,t19_5,t19_6,t19_7,t19_8,t19_9,t19_10⟩:=yB O19.raw
    obtain ⟨t19a0,t19p0,rfl,_⟩:=Rep.sl t19_1
    obtain ⟨t19a2,t19p2,rfl,_⟩:=Rep.sl t19_4
    obtain ⟨t19a3,t19p3,rfl,_⟩:=Rep.sl t19_5
    obtain ⟨t19a4,t19p4,rfl,_⟩:=Rep.sl t19_6
    obtain ⟨t19a5,t19p5,rfl,_⟩:=Rep.sl t19_7
    obtain ⟨t19a6,t19p6,rfl,_⟩:=Rep.sl t19_8
    obtain ⟨t19a8,t19p8,rfl,_⟩:=Rep.sl t19_10
    clear t19_0 t19_1 t19_2 t19_3 t19_4 t19_5 t19_6 t19_7 t19_8 t19_9 t19_10
    have hfl:=(Array.getElem?_eq_some_iff.1 XZ).1
    replace XZ:=kD XZ hc
    have hzr:=HS.size
    have hzc:=hc.size
    replace HS:=(tQ HS hc)
    refine hK _ _ HS ?_
    clear hK K hc O19_0 O19_1 O19_2
    refine wkP ?_
    refine kV (k:=10) rfl rF rfl (fun K hK=>?_)
    obtain ⟨Y0,Y1,Y2,Y3,Y4,Y5,Y6,Y7,Y8⟩:=ji XZ
    obtain ⟨N0,N1,N2,N3,N4,N5,N6,N7,N8⟩:=zJ XZ
    go_simp
    obtain ⟨wE,hws⟩:∃ W,W=Rep.setCells u19 (u19_0.heap.size) 0 [.slice t19a0 (Y0_.1.1).length t19p0,.int .i64 Y0_.1.2.1.1,.slice t19a2 (Y0_.1.2.1.2).length t19p2,.slice t19a3 (Y0_.1.2.2.1).length t19p3,.slice t19a4 (Y0_.1.2.2.2.1).length t19p4,.slice t19a5 (Y0_.1.2.2.2.2.1).length t19p5,.slice t19a6 (Y0_.1.2.2.2.2.2.1).length t19p6,.int .i64 Y0_.1.2.2.2.2.2.2,.slice t19a8 (Y0_.2).length t19p8]:=⟨_,rfl⟩
    change K _ (Rep.setCells _ _ 0 [.slice t19a0 (Y0_.1.1).length t19p0,.int .i64 Y0_.1.2.1.1,.slice t19a2 (Y0_.1.2.1.2).length t19p2,.slice t19a3 (Y0_.1.2.2.1).length t19p3,.slice t19a4 (Y0_.1.2.2.2.1).length t19p4,.slice t19a5 (Y0_.1.2.2.2.2.1).length t19p5,.slice t19a6 (Y0_.1.2.2.2.2.2.1).length t19p6,.int .i64 Y0_.1.2.2.2.2.2.2,.slice t19a8 (Y0_.2).length t19p8])
    rw [← hws]
    have T_:Touch (fun k=>k=u19_0.heap.size) u19 wE:=(by rw [hws];exact Rep.jq _ _ _ _)
    have XW:wE.heap[u19_0.heap.size]?=some (.cells #[.slice t19a0 (Y0_.1.1).length t19p0,.int .i64 Y0_.1.2.1.1,.slice t19a2 (Y0_.1.2.1.2).length t19p2,.slice t19a3 (Y0_.1.2.2.1).length t19p3,.slice t19a4 (Y0_.1.2.2.2.1).length t19p4,.slice t19a5 (Y0_.1.2.2.2.2.1).length t19p5,.slice t19a6 (Y0_.1.2.2.2.2.2.1).length t19p6,.int .i64 Y0_.1.2.2.2.2.2.2,.slice t19a8 (Y0_.2).length t19p8] 74 (0,0)):=(by rw [hws];exact Rep.yI [.slice t19a0 (Y0_.1.1).length t19p0,.int .i64 Y0_.1.2.1.1,.slice t19a2 (Y0_.1.2.1.2).length t19p2,.slice t19a3 (Y0_.1.2.2.1).length t19p3,.slice t19a4 (Y0_.1.2.2.2.1).length t19p4,.slice t19a5 (Y0_.1.2.2.2.2.1).length t19p5,.slice t19a6 (Y0_.1.2.2.2.2.2.1).length t19p6,.int .i64 Y0_.1.2.2.2.2.2.2,.slice t19a8 (Y0_.2).length t19p8] [.slice none 0 0,.int .i64 0,.slice none 0 0,.slice none 0 0,.slice none 0 0,.slice none 0 0,.slice none 0 0,.int .i64 0,.slice none 0 0] [] [] u19 (u19_0.heap.size) 0 XZ rfl rfl)
    have OW:=O19.touch T_ gI
    have hzE:wE.heap.size=u19.heap.size:=(by rw [hws];exact Rep.setCells_size _ _ _ _)
    replace HS:=HS.trans (T_.below HS.size qI)
    clear hws Y0 N0 Y1 N1 Y2 N2 Y3 N3 Y4 N4 Y5 N5 Y6 N6 Y7 N7 Y8 N8 XZ T_
    refine hK _ _ HS ?_
    clear hK K
    refine wkP ?_
    refine yN rF ?_
    have g3:Value:=.nilIface
    generalize (.agg #[.slice t19a0 (Y0_.1.1).length t19p0,.int .i64 Y0_.1.2.1.1,.slice t19a2 (Y0_.1.2.1.2).length t19p2,.slice t19a3 (Y0_.1.2.2.1).length t19p3,.slice t19a4 (Y0_.1.2.2.2.1).length t19p4,.slice t19a5 (Y0_.1.2.2.2.2.1).length t19p5,.slice t19a6 (Y0_.1.2.2.2.2.2.1).length t19p6,.int .i64 Y0_.1.2.2.2.2.2.2,.slice t19a8 (Y0_.2).length t19p8]:Value)=g4
    generalize (.agg #[.slice t19_0a0 (x0.1).length t19_0p0,.int .i64 x0.2.1.1,.slice t19_0a2 (x0.2.1.2).length t19_0p2,.slice t19_0a3 (x0.2.2.1).length t19_0p3,.slice t19_0a4 (x0.2.2.2.1).length t19_0p4,.slice t19_0a5 (x0.2.2.2.2.1).length t19_0p5,.slice t19_0a6 (x0.2.2.2.2.2.1).length t19_0p6,.int .i64 x0.2.2.2.2.2.2]:Value)=g1
    generalize (.agg #[.slice t19_1a0 (x1.1).length t19_1p0,.slice t19_1a1 (x1.2.1).length t19_1p1,.slice t19_1a2 (x1.2.2.1).length t19_1p2,.slice t19_1a3 (x1.2.2.2).length t19_1p3]:Value)=g2
    generalize (.agg #[.slice t19_2a0 (x3.1).length t19_2p0,.slice t19_2a1 (x3.2.1).length t19_2p1,.slice t19_2a2 (x3.2.2.1).length t19_2p2,.int .i64 x3.2.2.2.1,.int .i64 x3.2.2.2.2]:Value)=g3
    have hbl:=(Array.getElem?_eq_some_iff.1 XW).1
    have OE:=Rep.own.wide (T:=Btw w18.heap.size wE.heap.size) OW fG
    clear OW
    generalize u19_0.heap.size=b at hbl XW hlt_ ⊢
    exact CONT b g1 g2 g3 g4 wE ⟨HS,hlt_,hbl,_,XW,OE⟩
  go_simp
  generalize hwZ:World.alloc wS _=wZ
  have hlt_:=HS.size
  have XZ:wZ.heap[wS.heap.size]?=some (.cells #[.slice none 0 0,.int .i64 0,.slice none 0 0,.slice none 0 0,.slice none 0 0,.slice none 0 0,.slice none 0 0,.int .i64 0,.slice none 0 0] 74 (0,0)):=(by rw [← hwZ];exact kN rfl)
  have hbZ:Below wS.heap.size wS wZ:=(by rw [← hwZ];exact bR.alloc nL _)
  have hzZ:=hbZ.size
  replace HS:=(tQ HS hbZ)
  clear hwZ hbZ
  refine hK _ _ HS ?_
  clear hK K
  refine wkP ?_
  refine kV (k:=1) rfl rF rfl (fun K hK=>?_)
  go_simp
  refine (kGh (r0.below (tQ H18.out HS))).mono ?_
  rintro e u19_0 ⟨cs19_0,rfl,O19_0,hc⟩
  obtain ⟨t19_0v0,t19_0v2,t19_0v3,t19_0v4,t19_0v5,t19_0v6,rfl,t19_0_0,t19_0_1,t19_0_2,t19_0_3,t19_0_4,t19_0_5,t19_0_6,t19_0_7,t19_0_8⟩:=jo O19_0.raw
  obtain ⟨t19_0a0,t19_0p0,rfl,_⟩:=Rep.sl t19_0_0
  obtain ⟨t19_0a2,t19_0p2,rfl,_⟩:=Rep.sl t19_0_3
  obtain ⟨t19_0a3,t19_0p3,rfl,_⟩:=Rep.sl t19_0_4
  obtain ⟨t19_0a4,t19_0p4,rfl,_⟩:=Rep.sl t19_0_5
  obtain ⟨t19_0a5,t19_0p5,rfl,_⟩:=Rep.sl t19_0_6
  obtain ⟨t19_0a6,t19_0p6,rfl,_⟩:=Rep.sl t19_0_7
  clear t19_0_0 t19_0_1 t19_0_2 t19_0_3 t19_0_4 t19_0_5 t19_0_6 t19_0_7 t19_0_8
  replace XZ:=kD XZ hc
  replace HS:=(tQ HS hc)
  refine hK _ _ HS ?_
  clear hK K hc
  refine wkP ?_
  refine kV (k:=3) rfl rF rfl (fun K hK=>?_)
  go_simp
  refine (za (r1.below (tQ H18.out HS))).mono ?_
  rintro e u19_1 ⟨cs19_1,rfl,O19_1,hc⟩
  obtain ⟨t19_1v0,t19_1v1,t19_1v2,t19_1v3,rfl,t19_1_0,t19_1_1,t19_1_2,t19_1_3⟩:=kw O19_1.raw
  obtain ⟨t19_1a0,t19_1p0,rfl,_⟩:=Rep.sl t19_1_0
  obtain ⟨t19_1a1,t19_1p1,rfl,_⟩:=Rep.sl t19_1_1
  obtain ⟨t19_1a2,t19_1p2,rfl,_⟩:=Rep.sl t19_1_2
  obtain ⟨t19_1a3,t19_1p3,rfl,_⟩:=Rep.sl t19_1_3
  clear t19_1_0 t19_1_1 t19_1_2 t19_1_3
  replace O19_0:=O19_0.below hc
  replace XZ:=kD XZ hc
  replace HS:=(tQ HS hc)
  refine hK _ _ HS ?_
  clear hK K hc
  refine wkP ?_
  refine kV (k:=6) rfl rF rfl (fun K hK=>?_)
  go_simp
  refine (kBh (r3.below (tQ H18.out HS))).mono ?_
  rintro e u19_2 ⟨cs19_2,rfl,O19_2,hc⟩
  obtain ⟨t19_2v0,t19_2v1,t19_2v2,rfl,t19_2_0,t19_2_1,t19_2_2,t19_2_3,t19_2_4,t19_2_5,t19_2_6⟩:=kY O19_2.raw
  obtain ⟨t19_2a0,t19_2p0,rfl,_⟩:=Rep.sl t19_2_1
  obtain ⟨t19_2a1,t19_2p1,rfl,_⟩:=Rep.sl t19_2_2
  obtain ⟨t19_2a2,t19_2p2,rfl,_⟩:=Rep.sl t19_2_4
  clear t19_2_0 t19_2_1 t19_2_2 t19_2_3 t19_2_4 t19_2_5 t19_2_6
  replace O19_0:=O19_0.below hc
  replace O19_1:=O19_1.below hc
  replace XZ:=kD XZ hc
  replace HS:=(tQ HS hc)
  refine hK _ _ HS ?_
  clear hK K hc
  refine wkP ?_
  refine kV (k:=8) rfl rF rfl (fun K hK=>?_)
  go_simp
  refine (kAd O19_0.rd O19_1.rd hi2.out O19_2.rd hi4.out (G1.out z1) (G2.out z2) (G3.out z3)).mono ?_
  rintro e u19 ⟨cs19,rfl,O19,hc⟩
  rw [HYE.out] at O19
  obtain ⟨t19v0,t19v2,t19v3,t19v4,t19v5,t19v6,t19v8,rfl,t19_0,t19_1,t19_2,t19_3,t19_4,t19_5,t19_6,t19_7,t19_8,t19_9,t19_10⟩:=yB O19.raw
  obtain ⟨t19a0,t19p0,rfl,_⟩:=Rep.sl t19_1
  obtain ⟨t19a2,t19p2,rfl,_⟩:=Rep.sl t19_4
  obtain ⟨t19a3,t19p3,rfl,_⟩:=Rep.sl t19_5
  obtain ⟨t19a4,t19p4,rfl,_⟩:=Rep.sl t19_6
  obtain ⟨t19a5,t19p5,rfl,_⟩:=Rep.sl t19_7
  obtain ⟨t19a6,t19p6,rfl,_⟩:=Rep.sl t19_8
  obtain ⟨t19a8,t19p8,rfl,_⟩:=Rep.sl t19_10
  clear t19_0 t19_1 t19_2 t19_3 t19_4 t19_5 t19_6 t19_7 t19_8 t19_9 t19_10
  have hfl:=(Array.getElem?_eq_some_iff.1 XZ).1
  replace XZ:=kD XZ hc
  have hzr:=HS.size
  have hzc:=hc.size
  replace HS:=(tQ HS hc)
  refine hK _ _ HS ?_
  clear hK K hc O19_0 O19_1 O19_2
  refine wkP ?_
  refine kV (k:=10) rfl rF rfl (fun K hK=>?_)
  obtain ⟨Y0,Y1,Y2,Y3,Y4,Y5,Y6,Y7,Y8⟩:=ji XZ
  obtain ⟨N0,N1,N2,N3,N4,N5,N6,N7,N8⟩:=zJ XZ
  go_simp
  obtain ⟨wE,hws⟩:∃ W,W=Rep.setCells u19 (wS.heap.size) 0 [.slice t19a0 (Y0_.1.1).length t19p0,.int .i64 Y0_.1.2.1.1,.slice t19a2 (Y0_.1.2.1.2).length t19p2,.slice t19a3 (Y0_.1.2.2.1).length t19p3,.slice t19a4 (Y0_.1.2.2.2.1).length t19p4,.slice t19a5 (Y0_.1.2.2.2.2.1).length t19p5,.slice t19a6 (Y0_.1.2.2.2.2.2.1).length t19p6,.int .i64 Y0_.1.2.2.2.2.2.2,.slice t19a8 (Y0_.2).length t19p8]:=⟨_,rfl⟩
  change K _ (Rep.setCells _ _ 0 [.slice t19a0 (Y0_.1.1).length t19p0,.int .i64 Y0_.1.2.1.1,.slice t19a2 (Y0_.1.2.1.2).length t19p2,.slice t19a3 (Y0_.1.2.2.1).length t19p3,.slice t19a4 (Y0_.1.2.2.2.1).length t19p4,.slice t19a5 (Y0_.1.2.2.2.2.1).length t19p5,.slice t19a6 (Y0_.1.2.2.2.2.2.1).length t19p6,.int .i64 Y0_.1.2.2.2.2.2.2,.slice t19a8 (Y0_.2).length t19p8])
  rw [← hws]
  have T_:Touch (fun k=>k=wS.heap.size) u19 wE:=(by rw [hws];exact Rep.jq _ _ _ _)
  have XW:wE.heap[wS.heap.size]?=some (.cells #[.slice t19a0 (Y0_.1.1).length t19p0,.int .i64 Y0_.1.2.1.1,.slice t19a2 (Y0_.1.2.1.2).length t19p2,.slice t19a3 (Y0_.1.2.2.1).length t19p3,.slice t19a4 (Y0_.1.2.2.2.1).length t19p4,.slice t19a5 (Y0_.1.2.2.2.2.1).length t19p5,.slice t19a6 (Y0_.1.2.2.2.2.2.1).length t19p6,.int .i64 Y0_.1.2.2.2.2.2.2,.slice t19a8 (Y0_.2).length t19p8] 74 (0,0)):=(by rw [hws];exact Rep.yI [.slice t19a0 (Y0_.1.1).length t19p0,.int .i64 Y0_.1.2.1.1,.slice t19a2 (Y0_.1.2.1.2).length t19p2,.slice t19a3 (Y0_.1.2.2.1).length t19p3,.slice t19a4 (Y0_.1.2.2.2.1).length t19p4,.slice t19a5 (Y0_.1.2.2.2.2.1).length t19p5,.slice t19a6 (Y0_.1.2.2.2.2.2.1).length t19p6,.int .i64 Y0_.1.2.2.2.2.2.2,.slice t19a8 (Y0_.2).length t19p8] [.slice none 0 0,.int .i64 0,.slice none 0 0,.slice none 0 0,.slice none 0 0,.slice none 0 0,.slice none 0 0,.int .i64 0,.slice none 0 0] [] [] u19 (wS.heap.size) 0 XZ rfl rfl)
  have OW:=O19.touch T_ gI
  have hzE:wE.heap.size=u19.heap.size:=(by rw [hws];exact Rep.setCells_size _ _ _ _)
  replace HS:=HS.trans (T_.below HS.size qI)
  clear hws Y0 N0 Y1 N1 Y2 N2 Y3 N3 Y4 N4 Y5 N5 Y6 N6 Y7 N7 Y8 N8 XZ T_
  refine hK _ _ HS ?_
  clear hK K
  refine wkP ?_
  refine yN rF ?_
  have g3:Value:=.nilIface
  generalize (.agg #[.slice t19a0 (Y0_.1.1).length t19p0,.int .i64 Y0_.1.2.1.1,.slice t19a2 (Y0_.1.2.1.2).length t19p2,.slice t19a3 (Y0_.1.2.2.1).length t19p3,.slice t19a4 (Y0_.1.2.2.2.1).length t19p4,.slice t19a5 (Y0_.1.2.2.2.2.1).length t19p5,.slice t19a6 (Y0_.1.2.2.2.2.2.1).length t19p6,.int .i64 Y0_.1.2.2.2.2.2.2,.slice t19a8 (Y0_.2).length t19p8]:Value)=g4
  generalize (.agg #[.slice t19_0a0 (x0.1).length t19_0p0,.int .i64 x0.2.1.1,.slice t19_0a2 (x0.2.1.2).length t19_0p2,.slice t19_0a3 (x0.2.2.1).length t19_0p3,.slice t19_0a4 (x0.2.2.2.1).length t19_0p4,.slice t19_0a5 (x0.2.2.2.2.1).length t19_0p5,.slice t19_0a6 (x0.2.2.2.2.2.1).length t19_0p6,.int .i64 x0.2.2.2.2.2.2]:Value)=g1
  generalize (.agg #[.slice t19_1a0 (x1.1).length t19_1p0,.slice t19_1a1 (x1.2.1).length t19_1p1,.slice t19_1a2 (x1.2.2.1).length t19_1p2,.slice t19_1a3 (x1.2.2.2).length t19_1p3]:Value)=g2
  generalize (.agg #[.slice t19_2a0 (x3.1).length t19_2p0,.slice t19_2a1 (x3.2.1).length t19_2p1,.slice t19_2a2 (x3.2.2.1).length t19_2p2,.int .i64 x3.2.2.2.1,.int .i64 x3.2.2.2.2]:Value)=g3
  have hbl:=(Array.getElem?_eq_some_iff.1 XW).1
  have OE:=Rep.own.wide (T:=Btw w18.heap.size wE.heap.size) OW fG
  clear OW
  generalize wS.heap.size=b at hbl XW hlt_ ⊢
  exact CONT b g1 g2 g3 g4 wE ⟨HS,hlt_,hbl,_,XW,OE⟩
 intro bx19 g19_1 g19_2 g19_3 g19_4 w19 ⟨HS,hb19_1,hb19_2,cs19,XB19,O19⟩
 obtain ⟨t19v0,t19v2,t19v3,t19v4,t19v5,t19v6,t19v8,rfl,t19_0,t19_1,t19_2,t19_3,t19_4,t19_5,t19_6,t19_7,t19_8,t19_9,t19_10⟩:=yB O19.raw
 obtain ⟨t19a0,t19p0,rfl,_⟩:=Rep.sl t19_1
 obtain ⟨t19a2,t19p2,rfl,_⟩:=Rep.sl t19_4
 obtain ⟨t19a3,t19p3,rfl,_⟩:=Rep.sl t19_5
 obtain ⟨t19a4,t19p4,rfl,_⟩:=Rep.sl t19_6
 obtain ⟨t19a5,t19p5,rfl,_⟩:=Rep.sl t19_7
 obtain ⟨t19a6,t19p6,rfl,_⟩:=Rep.sl t19_8
 obtain ⟨t19a8,t19p8,rfl,_⟩:=Rep.sl t19_10
 clear t19_0 t19_1 t19_2 t19_3 t19_4 t19_5 t19_6 t19_7 t19_8 t19_9 t19_10
 have Z19:=yD O19;clear O19
 have XX19:=yD XB19;clear XB19
 have D19:Below w18.heap.size w18 w19:=Below.trans bU (HS.mono mZ)
 have H19:=yD (tQ H18.out D19)
 have L19:=yD (show w18.heap.size + 0≤w19.heap.size from by have h:=HS.size;(try simp at h);omega)
 have X_aX_19:=yD (kD X_aX_18.out D19);clear X_aX_18
 have X_aT_19:=yD (kD X_aT_18.out D19);clear X_aT_18
 have X_aY_19:=yD (kD X_aY_18.out D19);clear X_aY_18
 have X_w0_19:=yD (kD X_w0_18.out D19);clear X_w0_18
 have X_x0_19:=yD (kD X_x0_18.out D19);clear X_x0_18
 have X_x1_19:=yD (kD X_x1_18.out D19);clear X_x1_18
 have X_x3_19:=yD (kD X_x3_18.out D19);clear X_x3_18
 have X_g0_19:=yD (kD X_g0_18.out D19);clear X_g0_18
 have O_w0_19:=yD (O_w0_18.out.below D19);clear O_w0_18
 have O_x0_19:=yD (O_x0_18.out.below D19);clear O_x0_18
 have O_x1_19:=yD (O_x1_18.out.below D19);clear O_x1_18
 have O_x3_19:=yD (O_x3_18.out.below D19);clear O_x3_18
 have O_g0_19:=yD (O_g0_18.out.below D19);clear O_g0_18
 clear D19 K_aX_0 K_aX_1 K_aX_2 K_aX_3 K_aX_4 K_aX_5 K_aX_6 K_aX_7 K_aT_0 K_aT_1 K_aT_2 K_aT_3 K_aY_0 K_aY_1 K_aY_2 K_aY_3 K_aY_4 HS
 obtain ⟨K_h0_0,K_h0_1,K_h0_2,K_h0_3,K_h0_4,K_h0_5,K_h0_6,K_h0_7,K_h0_8⟩:=ji XX19.out
 obtain ⟨K_w0_0,K_w0_1,K_w0_2,K_w0_3,K_w0_4,K_w0_5,K_w0_6,K_w0_7,K_w0_8⟩:=ji X_w0_19.out
 go_wp2_with fail
 refine (kKv (Z19.out.raw.below bU) (O_w0_19.out.raw.below bU)).mono ?_
 rintro e w20 ⟨rfl,hb20⟩
 have D20:Below w19.heap.size w19 w20:=Below.trans bU (hb20.mono mZ)
 have H20:=yD (tQ H19.out D20)
 have L20:=yD (show w19.heap.size + 0≤w20.heap.size from by have h:=hb20.size;(try simp at h);omega)
 have X_aX_20:=yD (kD X_aX_19.out D20);clear X_aX_19
 have X_aT_20:=yD (kD X_aT_19.out D20);clear X_aT_19
 have X_aY_20:=yD (kD X_aY_19.out D20);clear X_aY_19
 have X_w0_20:=yD (kD X_w0_19.out D20);clear X_w0_19
 have X_x0_20:=yD (kD X_x0_19.out D20);clear X_x0_19
 have X_x1_20:=yD (kD X_x1_19.out D20);clear X_x1_19
 have X_x3_20:=yD (kD X_x3_19.out D20);clear X_x3_19
 have X_g0_20:=yD (kD X_g0_19.out D20);clear X_g0_19
 have X_h0_20:=yD (kD XX19.out D20);clear XX19
 have O_w0_20:=yD (O_w0_19.out.below D20);clear O_w0_19
 have O_x0_20:=yD (O_x0_19.out.below D20);clear O_x0_19
 have O_x1_20:=yD (O_x1_19.out.below D20);clear O_x1_19
 have O_x3_20:=yD (O_x3_19.out.below D20);clear O_x3_19
 have O_g0_20:=yD (O_g0_19.out.below D20);clear O_g0_19
 have O_h0_20:=yD (Z19.out.below D20);clear Z19
 clear D20 K_h0_0 K_h0_1 K_h0_2 K_h0_3 K_h0_4 K_h0_5 K_h0_6 K_h0_7 K_h0_8 K_w0_0 K_w0_1 K_w0_2 K_w0_3 K_w0_4 K_w0_5 K_w0_6 K_w0_7 K_w0_8 hb20
 obtain ⟨K_g0_0,K_g0_1,K_g0_2,K_g0_3,K_g0_4,K_g0_5,K_g0_6,K_g0_7,K_g0_8⟩:=ji X_g0_20.out
 go_wp2_with fail
 refine (kMh (O_g0_20.out.raw.below bU) (yP.mark_held (e:=false) (x:=Y0_) (k:=1)) (by have:=B17.out.1;omega) (by have:=B17.out.2;omega)).mono ?_
 rintro e w21 ⟨rfl,hb21⟩
 have D21:Below w20.heap.size w20 w21:=Below.trans bU (hb21.mono mZ)
 have H21:=yD (tQ H20.out D21)
 have L21:=yD (show w20.heap.size + 0≤w21.heap.size from by have h:=hb21.size;(try simp at h);omega)
 have X_aX_21:=yD (kD X_aX_20.out D21);clear X_aX_20
 have X_aT_21:=yD (kD X_aT_20.out D21);clear X_aT_20
 have X_aY_21:=yD (kD X_aY_20.out D21);clear X_aY_20
 have X_w0_21:=yD (kD X_w0_20.out D21);clear X_w0_20
 have X_x0_21:=yD (kD X_x0_20.out D21);clear X_x0_20
 have X_x1_21:=yD (kD X_x1_20.out D21);clear X_x1_20
 have X_x3_21:=yD (kD X_x3_20.out D21);clear X_x3_20
 have X_g0_21:=yD (kD X_g0_20.out D21);clear X_g0_20
 have X_h0_21:=yD (kD X_h0_20.out D21);clear X_h0_20
 have O_w0_21:=yD (O_w0_20.out.below D21);clear O_w0_20
 have O_x0_21:=yD (O_x0_20.out.below D21);clear O_x0_20
 have O_x1_21:=yD (O_x1_20.out.below D21);clear O_x1_20
 have O_x3_21:=yD (O_x3_20.out.below D21);clear O_x3_20
 have O_g0_21:=yD (O_g0_20.out.below D21);clear O_g0_20
 have O_h0_21:=yD (O_h0_20.out.below D21);clear O_h0_20
 clear D21 K_g0_0 K_g0_1 K_g0_2 K_g0_3 K_g0_4 K_g0_5 K_g0_6 K_g0_7 K_g0_8 hb21
 go_wp2
 go_ret
 exact ⟨rfl,H21.out⟩
theorem lawProcessData_lifted (os:Os) (started:os.Started) (H:Type) (enc:TypeId × Value→H) :
    ReturnsInHanded {} Tryz.checked os 4 .any (Rows.fnExactProcessDataSpec.pre6 enc Tryz.prog Tryz.f4 Rows.fnExactProcessDataRow.domain false) (Rows.fnExactProcessDataSpec.post enc Tryz.prog Tryz.f4 false true false false):=by
 refine returnsInHanded_of_change (C:=Tryz.checked) law_own started rF Tryz.func4
   (ChangeSpec.witness6 (enc:=enc) (C:=Tryz.checked) false ⟨#[],#[.agg #[.slice none 0 0,.int .i64 0,.slice none 0 0,.slice none 0 0,.slice none 0 0,.slice none 0 0,.slice none 0 0,.int .i64 0],.agg #[.slice none 0 0,.slice none 0 0,.slice none 0 0,.slice none 0 0],.int .i64 0,.agg #[.slice none 0 0,.slice none 0 0,.slice none 0 0,.int .i64 0,.int .i64 0],.int .i64 0],[]⟩ 8 rF rF rF rF) ?_
 intro W base args ds gs before hval0 hW _ _
 have hval:∀ (j:Nat) t v,Tryz.f4.params[j]?=some t→args[j]?=some v→Value.okWide Tryz.prog W .any base t v:=hval0
 have hW0:DataW.Whole enc Tryz.prog Tryz.f4.params.toList Rows.fnExactProcessDataSpec.vars false W args.toList ds gs before:=hW
 obtain ⟨p,q,hA0,hV,rfl,hfz,hnd⟩:=hW
 have hA:DataW.TrodAll enc Tryz.prog W 0 (fun _=>true) true Tryz.f4.params.toList args.toList ds p:=hA0
 rw [Tryz.params4] at hA hval
 obtain ⟨v0,vs0,d0,ds0,p0,q0,hargs,rfl,rfl,g0,s0⟩:=trodAll_cons hA
 obtain ⟨v1,vs1,d1,ds1,p1,q1,rfl,rfl,rfl,g1,s1⟩:=trodAll_cons s0
 obtain ⟨v2,vs2,d2,ds2,p2,q2,rfl,rfl,rfl,g2,s2⟩:=trodAll_cons s1
 obtain ⟨v3,vs3,d3,ds3,p3,q3,rfl,rfl,rfl,g3,s3⟩:=trodAll_cons s2
 obtain ⟨v4,vs4,d4,ds4,p4,q4,rfl,rfl,rfl,g4,s4⟩:=trodAll_cons s3
 obtain ⟨rfl,rfl,rfl⟩:=trodAll_nil s4
 obtain rfl:args=#[v0,v1,v2,v3,v4]:=by cases args;simp_all
 obtain ⟨rfl,rfl⟩:=trodVars_none hV
 obtain ⟨c0,rfl⟩:∃ c:List Value,v0=.agg c.toArray:=by
  have h:=hval 0 31 v0 rfl rfl
  unfold Value.okWide at h
  rw [Tryz.underlying31] at h
  obtain ⟨cs,rfl,_⟩:=h
  exact ⟨cs.toList,by simp⟩
 obtain ⟨fu0,hf0⟩:=g0
 obtain ⟨x0,h0⟩:=bridge_Node (w:=W) hf0
 have h0:jC.raw W c0 x0:=by simpa [Value.cells] using h0
 obtain ⟨c1,rfl⟩:∃ c:List Value,v1=.agg c.toArray:=by
  have h:=hval 1 36 v1 rfl rfl
  unfold Value.okWide at h
  rw [Tryz.underlying36] at h
  obtain ⟨cs,rfl,_⟩:=h
  exact ⟨cs.toList,by simp⟩
 obtain ⟨fu1,hf1⟩:=g1
 obtain ⟨x1,h1⟩:=kKx (w:=W) hf1
 have h1:kT.raw W c1 x1:=by simpa [Value.cells] using h1
 obtain ⟨x2,rfl,rfl,rfl,e2⟩:=open_int Tryz.underlying3 (hval 2 3 v2 rfl rfl) g2
 have h2:-9223372036854775808≤x2∧x2≤9223372036854775807:=by simpa [Lit.wf,IntKind.min,IntKind.max,IntKind.signed,IntKind.bits] using e2
 obtain ⟨c3,rfl⟩:∃ c:List Value,v3=.agg c.toArray:=by
  have h:=hval 3 42 v3 rfl rfl
  unfold Value.okWide at h
  rw [Tryz.underlying42] at h
  obtain ⟨cs,rfl,_⟩:=h
  exact ⟨cs.toList,by simp⟩
 obtain ⟨fu3,hf3⟩:=g3
 obtain ⟨x3,h3⟩:=kIv (w:=W) hf3
 have h3:kP.raw W c3 x3:=by simpa [Value.cells] using h3
 obtain ⟨x4,rfl,rfl,rfl,e4⟩:=open_int Tryz.underlying3 (hval 4 3 v4 rfl rfl) g4
 have h4:-9223372036854775808≤x4∧x4≤9223372036854775807:=by simpa [Lit.wf,IntKind.min,IntKind.max,IntKind.signed,IntKind.bits] using e4
 refine (kNo h0 h1 h2 h3 h4).mono fun e W' ⟨he,hb⟩=>?_
 subst he
 refine ⟨_,rfl,law_post (tb:=4) hW0 rfl rfl Tryz.underlying4 ⟨rfl,rfl,rfl⟩ ?_ hb⟩
 rw [Tryz.params4]
 intro t ht
 have hall:([31,36,3,42,3].all fun t=>Tryz.prog.readableRec t && decide (t < Tryz.prog.types.size))=true:=rF
 have h1:=List.all_eq_true.1 hall t ht
 simpa using h1
theorem lawProcessData_holds : Rows.FnExactProcessDataSaid :=
  OpenClaim.holds_of_wide 4 Tryz.f4 rfl rfl rfl rfl rfl rfl rfl ⟨rfl, rfl, rfl, rfl, rfl⟩ rfl rfl rfl rfl rfl rF Tryz.func4 rF
    (of_decide_eq_true rF) (by unfold Func.isWrapper; first | (rw [if_pos (by decide +kernel)]; kernel_rfl) | (rw [if_neg (by decide +kernel)]; exact ⟨rfl, rfl⟩))
    (fun os started H enc _ => lawProcessData_lifted os started H enc)
end Go.Proofs.YtlfblpgkegeaeaaGreat

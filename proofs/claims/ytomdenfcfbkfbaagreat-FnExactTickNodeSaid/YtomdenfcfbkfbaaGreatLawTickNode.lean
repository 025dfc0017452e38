/-
  The law FnExactTickNode, walked: it returns true, whatever its arguments; then its statement. Printed by genlaw.py.
-/
import Derived.Test.YtomdenfcfbkfbaaGreatBase
import Derived.Test.YtomdenfcfbkfbaaGreatEq
import Derived.Test.YtomdenfcfbkfbaaGreatSz
import Derived.Test.YtomdenfcfbkfbaaGreatTo
import Derived.Test.YtomdenfcfbkfbaaGreatMarkT
import Derived.Test.YtomdenfcfbkfbaaGreatMark
import Derived.Test.YtomdenfcfbkfbaaGreatMarkN
import Derived.Test.YtomdenfcfbkfbaaGreatHeld
import Derived.Test.YtomdenfcfbkfbaaGreatTickS
import Derived.Test.YtomdenfcfbkfbaaGreatTickI
import Derived.Test.YtomdenfcfbkfbaaGreatSeen
import Derived.Deep.RegionHeld3
namespace Go.Proofs.YtomdenfcfbkfbaaGreat
open Go.ChangeShapes Go.WideShapes Go.ChangeAt Go.RowKit
set_option linter.unusedVariables false
set_option linter.unusedSimpArgs false
set_option linter.unnecessarySimpa false
set_option maxRecDepth 100000 in
set_option maxHeartbeats 4000000 in
theorem lawTickNode_c {w:World} {c0:List Value} {x0:LNode} (h0:RNode.raw w c0 x0) {x1:Int} (h1:-9223372036854775808≤x1∧x1≤9223372036854775807) :
    Calls Tryz.prog 3 #[.agg c0.toArray,.int .i64 x1] w (LawPost w):=by
 obtain ⟨a0v0,a0v2,a0v3,a0v4,a0v5,a0v6,rfl,a0_0,a0_1,a0_2,a0_3,a0_4,a0_5,a0_6,a0_7,a0_8⟩:=RNode_raw h0
 clear a0_0 a0_1 a0_2 a0_3 a0_4 a0_5 a0_6 a0_7 a0_8
 have hi1:=hD h1;clear h1
 go_enter Tryz.func3,Tryz.ntmps3
 go_wp2_with fail
 refine (szNode_c (h0.below (by repeat (first|(with_reducible exact Below.refl _ _) | refine Below.alloc ?_ (by simp;try omega) _ | refine Below.drew ?_))) (by omega) (by omega)).mono ?_
 rintro e w1 ⟨s1,rfl,p1,q1,g1,hb1⟩
 have G1:=hD g1;clear g1
 have D1:Below w.heap.size w w1:=Below.trans (by repeat (first|(with_reducible exact Below.refl _ _) | refine Below.alloc ?_ (by simp;try omega) _ | refine Below.drew ?_)) (hb1.mono (by first|(simp;done)|(simp;omega)))
 have H1:=hD D1
 have L1:=hD (show w.heap.size + 1≤w1.heap.size from by have h:=hb1.size;(try simp at h);omega)
 have X_aX_1:Hid (w1.heap[w.heap.size]?=some (.cells #[a0v0,.int .i64 x0.2.1.1,a0v2,a0v3,a0v4,a0v5,a0v6,.int .i64 x0.2.2.2.2.2.2] 31 (0,0))):=hD ((hb1.block (w.heap.size) (by first|(simp;done)|(simp;omega))).trans (heap_new_at (by simp)))
 clear D1 hb1
 by_cases m1:s1 < 0
 · go_wp2
   go_ret
   exact ⟨rfl,H1.out⟩
 have z1:0≤s1:=by omega
 have r0:RNode.rd w _ x0:=⟨h0,RNode.bdd_mono (G1.out z1) (by decide)⟩
 have K_aX_0:=kG X_aX_1.out (j:=0) (v:=a0v0) rfl
 have K_aX_1:=kG X_aX_1.out (j:=1) (v:=.int .i64 x0.2.1.1) rfl
 have K_aX_2:=kG X_aX_1.out (j:=2) (v:=a0v2) rfl
 have K_aX_3:=kG X_aX_1.out (j:=3) (v:=a0v3) rfl
 have K_aX_4:=kG X_aX_1.out (j:=4) (v:=a0v4) rfl
 have K_aX_5:=kG X_aX_1.out (j:=5) (v:=a0v5) rfl
 have K_aX_6:=kG X_aX_1.out (j:=6) (v:=a0v6) rfl
 have K_aX_7:=kG X_aX_1.out (j:=7) (v:=.int .i64 x0.2.2.2.2.2.2) rfl
 go_wp2_with fail
 refine (toNode_c (r0.below (by repeat (first|(with_reducible exact H1.out) | refine Below.alloc ?_ (by have:=H1.out.size;simp;try omega) _ | refine Below.drew ?_)))).mono ?_
 rintro e w2 ⟨cs2,rfl,O2,hb2⟩
 obtain ⟨t2v0,t2v2,t2v3,t2v4,t2v5,t2v6,rfl,t2_0,t2_1,t2_2,t2_3,t2_4,t2_5,t2_6,t2_7,t2_8⟩:=RNode_raw O2.raw
 obtain ⟨t2a0,t2p0,t2h0,_⟩:=Rep.kR t2_0;obtain rfl:t2v0=_:=(by simpa using t2h0)
 clear t2h0
 obtain ⟨t2a2,t2p2,t2h2,_⟩:=Rep.kR t2_3;obtain rfl:t2v2=_:=(by simpa using t2h2)
 clear t2h2
 obtain ⟨t2a3,t2p3,t2h3,_⟩:=Rep.kR t2_4;obtain rfl:t2v3=_:=(by simpa using t2h3)
 clear t2h3
 obtain ⟨t2a4,t2p4,t2h4,_⟩:=Rep.kR t2_5;obtain rfl:t2v4=_:=(by simpa using t2h4)
 clear t2h4
 obtain ⟨t2a5,t2p5,t2h5,_⟩:=Rep.kR t2_6;obtain rfl:t2v5=_:=(by simpa using t2h5)
 clear t2h5
 obtain ⟨t2a6,t2p6,t2h6,_⟩:=Rep.kR t2_7;obtain rfl:t2v6=_:=(by simpa using t2h6)
 clear t2h6
 clear t2_0 t2_1 t2_2 t2_3 t2_4 t2_5 t2_6 t2_7 t2_8
 have Z2:=hD (O2.wide (T:=Btw (w1.heap.size) (w2.heap.size)) (fun i hi=>⟨by have h:=hi.1;(try simp at h);omega,hi.2⟩));clear O2
 have D2:Below w1.heap.size w1 w2:=Below.trans (by repeat (first|(with_reducible exact Below.refl _ _) | refine Below.alloc ?_ (by simp;try omega) _ | refine Below.drew ?_)) (hb2.mono (by first|(simp;done)|(simp;omega)))
 have H2:=hD (H1.out.trans (D2.mono H1.out.size))
 have L2:=hD (show w1.heap.size + 0≤w2.heap.size from by have h:=hb2.size;(try simp at h);omega)
 have X_aX_2:=hD (kN X_aX_1.out D2);clear X_aX_1
 clear D2 K_aX_0 K_aX_1 K_aX_2 K_aX_3 K_aX_4 K_aX_5 K_aX_6 K_aX_7 hb2
 go_wp2_with fail
 refine (specTickNode_c (Z2.out.rd.below (by repeat (first|(with_reducible exact Below.refl _ _) | refine Below.alloc ?_ (by simp;try omega) _ | refine Below.drew ?_))) hi1.out (G1.out z1)).mono ?_
 rintro e w3 ⟨cs3,rfl,O3,hb3⟩
 obtain ⟨t3v0,t3v2,t3v3,t3v4,t3v5,t3v6,rfl,t3_0,t3_1,t3_2,t3_3,t3_4,t3_5,t3_6,t3_7,t3_8⟩:=RNode_raw O3.raw
 obtain ⟨t3a0,t3p0,t3h0,_⟩:=Rep.kR t3_0;obtain rfl:t3v0=_:=(by simpa using t3h0)
 clear t3h0
 obtain ⟨t3a2,t3p2,t3h2,_⟩:=Rep.kR t3_3;obtain rfl:t3v2=_:=(by simpa using t3h2)
 clear t3h2
 obtain ⟨t3a3,t3p3,t3h3,_⟩:=Rep.kR t3_4;obtain rfl:t3v3=_:=(by simpa using t3h3)
 clear t3h3
 obtain ⟨t3a4,t3p4,t3h4,_⟩:=Rep.kR t3_5;obtain rfl:t3v4=_:=(by simpa using t3h4)
 clear t3h4
 obtain ⟨t3a5,t3p5,t3h5,_⟩:=Rep.kR t3_6;obtain rfl:t3v5=_:=(by simpa using t3h5)
 clear t3h5
 obtain ⟨t3a6,t3p6,t3h6,_⟩:=Rep.kR t3_7;obtain rfl:t3v6=_:=(by simpa using t3h6)
 clear t3h6
 clear t3_0 t3_1 t3_2 t3_3 t3_4 t3_5 t3_6 t3_7 t3_8
 have Z3:=hD (O3.wide (T:=Btw (w2.heap.size) (w3.heap.size)) (fun i hi=>⟨by have h:=hi.1;(try simp at h);omega,hi.2⟩));clear O3
 have D3:Below w2.heap.size w2 w3:=Below.trans (by repeat (first|(with_reducible exact Below.refl _ _) | refine Below.alloc ?_ (by simp;try omega) _ | refine Below.drew ?_)) (hb3.mono (by first|(simp;done)|(simp;omega)))
 have H3:=hD (H2.out.trans (D3.mono H2.out.size))
 have L3:=hD (show w2.heap.size + 0≤w3.heap.size from by have h:=hb3.size;(try simp at h);omega)
 have X_aX_3:=hD (kN X_aX_2.out D3);clear X_aX_2
 have O_t2_3:=hD (Z2.out.below D3);clear Z2
 clear D3 hb3
 clear O_t2_3
 have K_aX_0:=kG X_aX_3.out (j:=0) (v:=a0v0) rfl
 have K_aX_1:=kG X_aX_3.out (j:=1) (v:=.int .i64 x0.2.1.1) rfl
 have K_aX_2:=kG X_aX_3.out (j:=2) (v:=a0v2) rfl
 have K_aX_3:=kG X_aX_3.out (j:=3) (v:=a0v3) rfl
 have K_aX_4:=kG X_aX_3.out (j:=4) (v:=a0v4) rfl
 have K_aX_5:=kG X_aX_3.out (j:=5) (v:=a0v5) rfl
 have K_aX_6:=kG X_aX_3.out (j:=6) (v:=a0v6) rfl
 have K_aX_7:=kG X_aX_3.out (j:=7) (v:=.int .i64 x0.2.2.2.2.2.2) rfl
 have J_aX:w.heap.size < w3.heap.size:=by have l1:=L1.out;have l2:=L2.out;have l3:=L3.out;omega
 go_wp2_with fail
 refine (toNode_c (r0.below (by repeat (first|(with_reducible exact H3.out) | refine Below.alloc ?_ (by have:=H3.out.size;simp;try omega) _ | refine Below.drew ?_)))).mono ?_
 rintro e w4 ⟨cs4,rfl,O4,hb4⟩
 obtain ⟨t4v0,t4v2,t4v3,t4v4,t4v5,t4v6,rfl,t4_0,t4_1,t4_2,t4_3,t4_4,t4_5,t4_6,t4_7,t4_8⟩:=RNode_raw O4.raw
 obtain ⟨t4a0,t4p0,t4h0,_⟩:=Rep.kR t4_0;obtain rfl:t4v0=_:=(by simpa using t4h0)
 clear t4h0
 obtain ⟨t4a2,t4p2,t4h2,_⟩:=Rep.kR t4_3;obtain rfl:t4v2=_:=(by simpa using t4h2)
 clear t4h2
 obtain ⟨t4a3,t4p3,t4h3,_⟩:=Rep.kR t4_4;obtain rfl:t4v3=_:=(by simpa using t4h3)
 clear t4h3
 obtain ⟨t4a4,t4p4,t4h4,_⟩:=Rep.kR t4_5;obtain rfl:t4v4=_:=(by simpa using t4h4)
 clear t4h4
 obtain ⟨t4a5,t4p5,t4h5,_⟩:=Rep.kR t4_6;obtain rfl:t4v5=_:=(by simpa using t4h5)
 clear t4h5
 obtain ⟨t4a6,t4p6,t4h6,_⟩:=Rep.kR t4_7;obtain rfl:t4v6=_:=(by simpa using t4h6)
 clear t4h6
 clear t4_0 t4_1 t4_2 t4_3 t4_4 t4_5 t4_6 t4_7 t4_8
 have Z4:=hD (O4.wide (T:=Btw (w3.heap.size + 1) (w4.heap.size)) (fun i hi=>⟨by have h:=hi.1;(try simp at h);omega,hi.2⟩));clear O4
 have D4:Below w3.heap.size w3 w4:=Below.trans (by repeat (first|(with_reducible exact Below.refl _ _) | refine Below.alloc ?_ (by simp;try omega) _ | refine Below.drew ?_)) (hb4.mono (by first|(simp;done)|(simp;omega)))
 have H4:=hD (H3.out.trans (D4.mono H3.out.size))
 have L4:=hD (show w3.heap.size + 1≤w4.heap.size from by have h:=hb4.size;(try simp at h);omega)
 have X_aX_4:=hD (kN X_aX_3.out D4);clear X_aX_3
 have X_w0_4:Hid (w4.heap[w3.heap.size]?=some (.cells #[.slice t3a0 (((tickN x1 x0)).1).length t3p0,.int .i64 ((tickN x1 x0)).2.1.1,.slice t3a2 (((tickN x1 x0)).2.1.2).length t3p2,.slice t3a3 (((tickN x1 x0)).2.2.1).length t3p3,.slice t3a4 (((tickN x1 x0)).2.2.2.1).length t3p4,.slice t3a5 (((tickN x1 x0)).2.2.2.2.1).length t3p5,.slice t3a6 (((tickN x1 x0)).2.2.2.2.2.1).length t3p6,.int .i64 ((tickN x1 x0)).2.2.2.2.2.2] 42 (0,0))):=hD ((hb4.block (w3.heap.size) (by first|(simp;done)|(simp;omega))).trans (heap_new_at (by simp)))
 have O_w0_4:=hD (Z3.out.below D4);clear Z3
 clear D4 K_aX_0 K_aX_1 K_aX_2 K_aX_3 K_aX_4 K_aX_5 K_aX_6 K_aX_7 J_aX hb4
 go_wp2_with fail
 refine (implTickNode_c (Z4.out.rd.below (by repeat (first|(with_reducible exact Below.refl _ _) | refine Below.alloc ?_ (by simp;try omega) _ | refine Below.drew ?_))) hi1.out (G1.out z1)).mono ?_
 rintro e w5 ⟨cs5,rfl,O5,hb5⟩
 obtain ⟨t5v0,t5v2,t5v3,t5v4,t5v5,t5v6,rfl,t5_0,t5_1,t5_2,t5_3,t5_4,t5_5,t5_6,t5_7,t5_8⟩:=RNode_raw O5.raw
 obtain ⟨t5a0,t5p0,t5h0,_⟩:=Rep.kR t5_0;obtain rfl:t5v0=_:=(by simpa using t5h0)
 clear t5h0
 obtain ⟨t5a2,t5p2,t5h2,_⟩:=Rep.kR t5_3;obtain rfl:t5v2=_:=(by simpa using t5h2)
 clear t5h2
 obtain ⟨t5a3,t5p3,t5h3,_⟩:=Rep.kR t5_4;obtain rfl:t5v3=_:=(by simpa using t5h3)
 clear t5h3
 obtain ⟨t5a4,t5p4,t5h4,_⟩:=Rep.kR t5_5;obtain rfl:t5v4=_:=(by simpa using t5h4)
 clear t5h4
 obtain ⟨t5a5,t5p5,t5h5,_⟩:=Rep.kR t5_6;obtain rfl:t5v5=_:=(by simpa using t5h5)
 clear t5h5
 obtain ⟨t5a6,t5p6,t5h6,_⟩:=Rep.kR t5_7;obtain rfl:t5v6=_:=(by simpa using t5h6)
 clear t5h6
 clear t5_0 t5_1 t5_2 t5_3 t5_4 t5_5 t5_6 t5_7 t5_8
 have Z5:=hD (O5.wide (T:=Btw (w4.heap.size + 1) (w5.heap.size)) (fun i hi=>⟨by have h:=hi.1;(try simp at h);omega,hi.2⟩));clear O5
 have D5:Below w4.heap.size w4 w5:=Below.trans (by repeat (first|(with_reducible exact Below.refl _ _) | refine Below.alloc ?_ (by simp;try omega) _ | refine Below.drew ?_)) (hb5.mono (by first|(simp;done)|(simp;omega)))
 have H5:=hD (H4.out.trans (D5.mono H4.out.size))
 have L5:=hD (show w4.heap.size + 1≤w5.heap.size from by have h:=hb5.size;(try simp at h);omega)
 have X_aX_5:=hD (kN X_aX_4.out D5);clear X_aX_4
 have X_w0_5:=hD (kN X_w0_4.out D5);clear X_w0_4
 have X_x0_5:Hid (w5.heap[w4.heap.size]?=some (.cells #[.slice t4a0 (x0.1).length t4p0,.int .i64 x0.2.1.1,.slice t4a2 (x0.2.1.2).length t4p2,.slice t4a3 (x0.2.2.1).length t4p3,.slice t4a4 (x0.2.2.2.1).length t4p4,.slice t4a5 (x0.2.2.2.2.1).length t4p5,.slice t4a6 (x0.2.2.2.2.2.1).length t4p6,.int .i64 x0.2.2.2.2.2.2] 42 (0,0))):=hD ((hb5.block (w4.heap.size) (by first|(simp;done)|(simp;omega))).trans (heap_new_at (by simp)))
 have O_w0_5:=hD (O_w0_4.out.below D5);clear O_w0_4
 have O_x0_5:=hD (Z4.out.below D5);clear Z4
 clear D5 hb5
 have K_w0_0:=kG X_w0_5.out (j:=0) (v:=.slice t3a0 (((tickN x1 x0)).1).length t3p0) rfl
 have K_w0_1:=kG X_w0_5.out (j:=1) (v:=.int .i64 ((tickN x1 x0)).2.1.1) rfl
 have K_w0_2:=kG X_w0_5.out (j:=2) (v:=.slice t3a2 (((tickN x1 x0)).2.1.2).length t3p2) rfl
 have K_w0_3:=kG X_w0_5.out (j:=3) (v:=.slice t3a3 (((tickN x1 x0)).2.2.1).length t3p3) rfl
 have K_w0_4:=kG X_w0_5.out (j:=4) (v:=.slice t3a4 (((tickN x1 x0)).2.2.2.1).length t3p4) rfl
 have K_w0_5:=kG X_w0_5.out (j:=5) (v:=.slice t3a5 (((tickN x1 x0)).2.2.2.2.1).length t3p5) rfl
 have K_w0_6:=kG X_w0_5.out (j:=6) (v:=.slice t3a6 (((tickN x1 x0)).2.2.2.2.2.1).length t3p6) rfl
 have K_w0_7:=kG X_w0_5.out (j:=7) (v:=.int .i64 ((tickN x1 x0)).2.2.2.2.2.2) rfl
 have J_w0:w3.heap.size < w5.heap.size:=by have l4:=L4.out;have l5:=L5.out;omega
 go_wp2_with fail
 refine (eqNode_c (Z5.out.raw.below (by repeat (first|(with_reducible exact Below.refl _ _) | refine Below.alloc ?_ (by simp;try omega) _ | refine Below.drew ?_))) (O_w0_5.out.raw.below (by repeat (first|(with_reducible exact Below.refl _ _) | refine Below.alloc ?_ (by simp;try omega) _ | refine Below.drew ?_)))).mono ?_
 rintro e w6 ⟨rfl,hb6⟩
 have D6:Below w5.heap.size w5 w6:=Below.trans (by repeat (first|(with_reducible exact Below.refl _ _) | refine Below.alloc ?_ (by simp;try omega) _ | refine Below.drew ?_)) (hb6.mono (by first|(simp;done)|(simp;omega)))
 have H6:=hD (H5.out.trans (D6.mono H5.out.size))
 have L6:=hD (show w5.heap.size + 1≤w6.heap.size from by have h:=hb6.size;(try simp at h);omega)
 have X_aX_6:=hD (kN X_aX_5.out D6);clear X_aX_5
 have X_w0_6:=hD (kN X_w0_5.out D6);clear X_w0_5
 have X_x0_6:=hD (kN X_x0_5.out D6);clear X_x0_5
 have X_g0_6:Hid (w6.heap[w5.heap.size]?=some (.cells #[.slice t5a0 (((tickN x1 x0)).1).length t5p0,.int .i64 ((tickN x1 x0)).2.1.1,.slice t5a2 (((tickN x1 x0)).2.1.2).length t5p2,.slice t5a3 (((tickN x1 x0)).2.2.1).length t5p3,.slice t5a4 (((tickN x1 x0)).2.2.2.1).length t5p4,.slice t5a5 (((tickN x1 x0)).2.2.2.2.1).length t5p5,.slice t5a6 (((tickN x1 x0)).2.2.2.2.2.1).length t5p6,.int .i64 ((tickN x1 x0)).2.2.2.2.2.2] 42 (0,0))):=hD ((hb6.block (w5.heap.size) (by first|(simp;done)|(simp;omega))).trans (heap_new_at (by simp)))
 have O_w0_6:=hD (O_w0_5.out.below D6);clear O_w0_5
 have O_x0_6:=hD (O_x0_5.out.below D6);clear O_x0_5
 have O_g0_6:=hD (Z5.out.below D6);clear Z5
 clear D6 K_w0_0 K_w0_1 K_w0_2 K_w0_3 K_w0_4 K_w0_5 K_w0_6 K_w0_7 J_w0 hb6
 have K_aX_0:=kG X_aX_6.out (j:=0) (v:=a0v0) rfl
 have K_aX_1:=kG X_aX_6.out (j:=1) (v:=.int .i64 x0.2.1.1) rfl
 have K_aX_2:=kG X_aX_6.out (j:=2) (v:=a0v2) rfl
 have K_aX_3:=kG X_aX_6.out (j:=3) (v:=a0v3) rfl
 have K_aX_4:=kG X_aX_6.out (j:=4) (v:=a0v4) rfl
 have K_aX_5:=kG X_aX_6.out (j:=5) (v:=a0v5) rfl
 have K_aX_6:=kG X_aX_6.out (j:=6) (v:=a0v6) rfl
 have K_aX_7:=kG X_aX_6.out (j:=7) (v:=.int .i64 x0.2.2.2.2.2.2) rfl
 have K_x0_0:=kG X_x0_6.out (j:=0) (v:=.slice t4a0 (x0.1).length t4p0) rfl
 have K_x0_1:=kG X_x0_6.out (j:=1) (v:=.int .i64 x0.2.1.1) rfl
 have K_x0_2:=kG X_x0_6.out (j:=2) (v:=.slice t4a2 (x0.2.1.2).length t4p2) rfl
 have K_x0_3:=kG X_x0_6.out (j:=3) (v:=.slice t4a3 (x0.2.2.1).length t4p3) rfl
 have K_x0_4:=kG X_x0_6.out (j:=4) (v:=.slice t4a4 (x0.2.2.2.1).length t4p4) rfl
 have K_x0_5:=kG X_x0_6.out (j:=5) (v:=.slice t4a5 (x0.2.2.2.2.1).length t4p5) rfl
 have K_x0_6:=kG X_x0_6.out (j:=6) (v:=.slice t4a6 (x0.2.2.2.2.2.1).length t4p6) rfl
 have K_x0_7:=kG X_x0_6.out (j:=7) (v:=.int .i64 x0.2.2.2.2.2.2) rfl
 go_wp2_with fail
 go_region_held3 (fun W=>W.cell? ⟨w.heap.size,0,none⟩=some (a0v0)∧W.cell? ⟨w.heap.size,1,none⟩=some (.int .i64 x0.2.1.1)∧W.cell? ⟨w.heap.size,2,none⟩=some (a0v2)∧W.cell? ⟨w.heap.size,3,none⟩=some (a0v3)∧W.cell? ⟨w.heap.size,4,none⟩=some (a0v4)∧W.cell? ⟨w.heap.size,5,none⟩=some (a0v5)∧W.cell? ⟨w.heap.size,6,none⟩=some (a0v6)∧W.cell? ⟨w.heap.size,7,none⟩=some (.int .i64 x0.2.2.2.2.2.2)∧W.cell? ⟨w4.heap.size,0,none⟩=some (.slice t4a0 (x0.1).length t4p0)∧W.cell? ⟨w4.heap.size,1,none⟩=some (.int .i64 x0.2.1.1)∧W.cell? ⟨w4.heap.size,2,none⟩=some (.slice t4a2 (x0.2.1.2).length t4p2)∧W.cell? ⟨w4.heap.size,3,none⟩=some (.slice t4a3 (x0.2.2.1).length t4p3)∧W.cell? ⟨w4.heap.size,4,none⟩=some (.slice t4a4 (x0.2.2.2.1).length t4p4)∧W.cell? ⟨w4.heap.size,5,none⟩=some (.slice t4a5 (x0.2.2.2.2.1).length t4p5)∧W.cell? ⟨w4.heap.size,6,none⟩=some (.slice t4a6 (x0.2.2.2.2.2.1).length t4p6)∧W.cell? ⟨w4.heap.size,7,none⟩=some (.int .i64 x0.2.2.2.2.2.2)) (first | exact ⟨cL hd7 (cL hc7 K_aX_0),cL hd7 (cL hc7 K_aX_1),cL hd7 (cL hc7 K_aX_2),cL hd7 (cL hc7 K_aX_3),cL hd7 (cL hc7 K_aX_4),cL hd7 (cL hc7 K_aX_5),cL hd7 (cL hc7 K_aX_6),cL hd7 (cL hc7 K_aX_7),cL hd7 (cL hc7 K_x0_0),cL hd7 (cL hc7 K_x0_1),cL hd7 (cL hc7 K_x0_2),cL hd7 (cL hc7 K_x0_3),cL hd7 (cL hc7 K_x0_4),cL hd7 (cL hc7 K_x0_5),cL hd7 (cL hc7 K_x0_6),cL hd7 (cL hc7 K_x0_7)⟩ | exact ⟨cL hc7 K_aX_0,cL hc7 K_aX_1,cL hc7 K_aX_2,cL hc7 K_aX_3,cL hc7 K_aX_4,cL hc7 K_aX_5,cL hc7 K_aX_6,cL hc7 K_aX_7,cL hc7 K_x0_0,cL hc7 K_x0_1,cL hc7 K_x0_2,cL hc7 K_x0_3,cL hc7 K_x0_4,cL hc7 K_x0_5,cL hc7 K_x0_6,cL hc7 K_x0_7⟩ | go_keep)
   (first|(go_at_call 7;refine (toNode_c (r0.below (by repeat (first|(with_reducible exact H6.out) | refine Below.alloc ?_ (by have:=H6.out.size;simp;try omega) _ | refine Below.drew ?_)))).mono ?_;rintro e u7 ⟨cs7,rfl,O7,hc7⟩;obtain ⟨t7v0,t7v2,t7v3,t7v4,t7v5,t7v6,rfl,t7_0,t7_1,t7_2,t7_3,t7_4,t7_5,t7_6,t7_7,t7_8⟩:=RNode_raw O7.raw;obtain ⟨t7a0,t7p0,t7h0,_⟩:=Rep.kR t7_0;obtain rfl:t7v0=_:=(by simpa using t7h0);clear t7h0;obtain ⟨t7a2,t7p2,t7h2,_⟩:=Rep.kR t7_3;obtain rfl:t7v2=_:=(by simpa using t7h2);clear t7h2;obtain ⟨t7a3,t7p3,t7h3,_⟩:=Rep.kR t7_4;obtain rfl:t7v3=_:=(by simpa using t7h3);clear t7h3;obtain ⟨t7a4,t7p4,t7h4,_⟩:=Rep.kR t7_5;obtain rfl:t7v4=_:=(by simpa using t7h4);clear t7h4;obtain ⟨t7a5,t7p5,t7h5,_⟩:=Rep.kR t7_6;obtain rfl:t7v5=_:=(by simpa using t7h5);clear t7h5;obtain ⟨t7a6,t7p6,t7h6,_⟩:=Rep.kR t7_7;obtain rfl:t7v6=_:=(by simpa using t7h6);clear t7h6;clear t7_0 t7_1 t7_2 t7_3 t7_4 t7_5 t7_6 t7_7 t7_8)|(go_at_call 9;refine (eqNode_c (O_x0_6.out.raw.below (Below.trans (by repeat (first|(with_reducible exact Below.refl _ _) | refine Below.alloc ?_ (by simp;try omega) _ | refine Below.drew ?_)) (hc7.mono (by simp)))) O7.raw).mono ?_;rintro e w7 ⟨rfl,hd7⟩))
 have hb7:=hc7.trans (hd7.mono hc7.size);clear hc7 hd7 O7
 have D7:Below w6.heap.size w6 w7:=Below.trans (by repeat (first|(with_reducible exact Below.refl _ _) | refine Below.alloc ?_ (by simp;try omega) _ | refine Below.drew ?_)) (hb7.mono (by first|(simp;done)|(simp;omega)))
 have H7:=hD (H6.out.trans (D7.mono H6.out.size))
 have L7:=hD (show w6.heap.size + 0≤w7.heap.size from by have h:=hb7.size;(try simp at h);omega)
 have X_aX_7:=hD (kN X_aX_6.out D7);clear X_aX_6
 have X_w0_7:=hD (kN X_w0_6.out D7);clear X_w0_6
 have X_x0_7:=hD (kN X_x0_6.out D7);clear X_x0_6
 have X_g0_7:=hD (kN X_g0_6.out D7);clear X_g0_6
 have O_w0_7:=hD (O_w0_6.out.below D7);clear O_w0_6
 have O_x0_7:=hD (O_x0_6.out.below D7);clear O_x0_6
 have O_g0_7:=hD (O_g0_6.out.below D7);clear O_g0_6
 clear D7 K_aX_0 K_aX_1 K_aX_2 K_aX_3 K_aX_4 K_aX_5 K_aX_6 K_aX_7 K_x0_0 K_x0_1 K_x0_2 K_x0_3 K_x0_4 K_x0_5 K_x0_6 K_x0_7 hb7
 have K_x0_0:=kG X_x0_7.out (j:=0) (v:=.slice t4a0 (x0.1).length t4p0) rfl
 have K_x0_1:=kG X_x0_7.out (j:=1) (v:=.int .i64 x0.2.1.1) rfl
 have K_x0_2:=kG X_x0_7.out (j:=2) (v:=.slice t4a2 (x0.2.1.2).length t4p2) rfl
 have K_x0_3:=kG X_x0_7.out (j:=3) (v:=.slice t4a3 (x0.2.2.1).length t4p3) rfl
 have K_x0_4:=kG X_x0_7.out (j:=4) (v:=.slice t4a4 (x0.2.2.2.1).length t4p4) rfl
 have K_x0_5:=kG X_x0_7.out (j:=5) (v:=.slice t4a5 (x0.2.2.2.2.1).length t4p5) rfl
 have K_x0_6:=kG X_x0_7.out (j:=6) (v:=.slice t4a6 (x0.2.2.2.2.2.1).length t4p6) rfl
 have K_x0_7:=kG X_x0_7.out (j:=7) (v:=.int .i64 x0.2.2.2.2.2.2) rfl
 go_wp2_with fail
 refine (markNode_c (k:=1) (O_x0_7.out.below (by repeat (first|(with_reducible exact Below.refl _ _) | refine Below.alloc ?_ (by simp;try omega) _ | refine Below.drew ?_))) (by omega) (by have e:(RNode.cnt:Int)=3659174881787906:=(by decide);unfold Top;omega)).mono ?_
 rintro e w8 ⟨rfl,P8,Y8⟩
 have B8:Hid (1≤(RNode.mark false (x0) (1)).2∧(RNode.mark false (x0) (1)).2≤1 + 3659174881787906):=hD ⟨by have:=RNode.mark_ge (e:=false) (x:=x0) (k:=1);omega,by have:=RNode.mark_le (e:=false) (k:=1) O_x0_7.out.2;have e:(RNode.cnt:Int)=3659174881787906:=(by decide);omega⟩
 have D8:Touch (Btw (w3.heap.size + 1) (w4.heap.size)) w7 w8:=(Touch.of_below (by repeat (first|(with_reducible exact Below.refl _ _) | refine Below.alloc ?_ (by simp;try omega) _ | refine Below.drew ?_))).trans Y8
 have H8:=hD (H7.out.trans (D8.below (by have:=H7.out.size;omega) (fun i hi=>by have a:=hi.1;have b:w.heap.size≤w3.heap.size:=H3.out.size;omega)))
 have L8:=hD (show w7.heap.size≤w8.heap.size from D8.size)
 have X_aX_8:=hD (D8.kN X_aX_7.out (fun q=>by have q1:=q.1;have q2:=q.2;have l1:=L1.out;have l2:=L2.out;have l3:=L3.out;have l4:=L4.out;omega));clear X_aX_7
 have X_w0_8:=hD (D8.kN X_w0_7.out (fun q=>by have q1:=q.1;have q2:=q.2;have l4:=L4.out;omega));clear X_w0_7
 have X_x0_8:=hD (D8.kN X_x0_7.out (fun q=>by have q1:=q.1;have q2:=q.2;have l4:=L4.out;omega));clear X_x0_7
 have X_g0_8:=hD (D8.kN X_g0_7.out (fun q=>by have q1:=q.1;have q2:=q.2;have l4:=L4.out;have l5:=L5.out;omega));clear X_g0_7
 have O_w0_8:=hD (O_w0_7.out.touch D8 (fun i p q=>by have p1:=p.1;have p2:=p.2;have q1:=q.1;have q2:=q.2;have l3:=L3.out;have l4:=L4.out;omega));clear O_w0_7
 have O_g0_8:=hD (O_g0_7.out.touch D8 (fun i p q=>by have p1:=p.1;have p2:=p.2;have q1:=q.1;have q2:=q.2;have l4:=L4.out;have l5:=L5.out;omega));clear O_g0_7
 clear D8 K_x0_0 K_x0_1 K_x0_2 K_x0_3 K_x0_4 K_x0_5 K_x0_6 K_x0_7 Y8
 have Z8:=hD P8;clear P8 O_x0_7
 have U8:0≤(RNode.mark false (x0) (1)).2:=by have:=B8.out.1;omega
 have K_g0_0:=kG X_g0_8.out (j:=0) (v:=.slice t5a0 (((tickN x1 x0)).1).length t5p0) rfl
 have K_g0_1:=kG X_g0_8.out (j:=1) (v:=.int .i64 ((tickN x1 x0)).2.1.1) rfl
 have K_g0_2:=kG X_g0_8.out (j:=2) (v:=.slice t5a2 (((tickN x1 x0)).2.1.2).length t5p2) rfl
 have K_g0_3:=kG X_g0_8.out (j:=3) (v:=.slice t5a3 (((tickN x1 x0)).2.2.1).length t5p3) rfl
 have K_g0_4:=kG X_g0_8.out (j:=4) (v:=.slice t5a4 (((tickN x1 x0)).2.2.2.1).length t5p4) rfl
 have K_g0_5:=kG X_g0_8.out (j:=5) (v:=.slice t5a5 (((tickN x1 x0)).2.2.2.2.1).length t5p5) rfl
 have K_g0_6:=kG X_g0_8.out (j:=6) (v:=.slice t5a6 (((tickN x1 x0)).2.2.2.2.2.1).length t5p6) rfl
 have K_g0_7:=kG X_g0_8.out (j:=7) (v:=.int .i64 ((tickN x1 x0)).2.2.2.2.2.2) rfl
 have K_w0_0:=kG X_w0_8.out (j:=0) (v:=.slice t3a0 (((tickN x1 x0)).1).length t3p0) rfl
 have K_w0_1:=kG X_w0_8.out (j:=1) (v:=.int .i64 ((tickN x1 x0)).2.1.1) rfl
 have K_w0_2:=kG X_w0_8.out (j:=2) (v:=.slice t3a2 (((tickN x1 x0)).2.1.2).length t3p2) rfl
 have K_w0_3:=kG X_w0_8.out (j:=3) (v:=.slice t3a3 (((tickN x1 x0)).2.2.1).length t3p3) rfl
 have K_w0_4:=kG X_w0_8.out (j:=4) (v:=.slice t3a4 (((tickN x1 x0)).2.2.2.1).length t3p4) rfl
 have K_w0_5:=kG X_w0_8.out (j:=5) (v:=.slice t3a5 (((tickN x1 x0)).2.2.2.2.1).length t3p5) rfl
 have K_w0_6:=kG X_w0_8.out (j:=6) (v:=.slice t3a6 (((tickN x1 x0)).2.2.2.2.2.1).length t3p6) rfl
 have K_w0_7:=kG X_w0_8.out (j:=7) (v:=.int .i64 ((tickN x1 x0)).2.2.2.2.2.2) rfl
 go_wp2_with fail
 refine (eqNode_c (O_g0_8.out.raw.below (by repeat (first|(with_reducible exact Below.refl _ _) | refine Below.alloc ?_ (by simp;try omega) _ | refine Below.drew ?_))) (O_w0_8.out.raw.below (by repeat (first|(with_reducible exact Below.refl _ _) | refine Below.alloc ?_ (by simp;try omega) _ | refine Below.drew ?_)))).mono ?_
 rintro e w9 ⟨rfl,hb9⟩
 have D9:Below w8.heap.size w8 w9:=Below.trans (by repeat (first|(with_reducible exact Below.refl _ _) | refine Below.alloc ?_ (by simp;try omega) _ | refine Below.drew ?_)) (hb9.mono (by first|(simp;done)|(simp;omega)))
 have H9:=hD (H8.out.trans (D9.mono H8.out.size))
 have L9:=hD (show w8.heap.size + 0≤w9.heap.size from by have h:=hb9.size;(try simp at h);omega)
 have X_aX_9:=hD (kN X_aX_8.out D9);clear X_aX_8
 have X_w0_9:=hD (kN X_w0_8.out D9);clear X_w0_8
 have X_x0_9:=hD (kN X_x0_8.out D9);clear X_x0_8
 have X_g0_9:=hD (kN X_g0_8.out D9);clear X_g0_8
 have O_w0_9:=hD (O_w0_8.out.below D9);clear O_w0_8
 have O_x0_9:=hD (Z8.out.below D9);clear Z8
 have O_g0_9:=hD (O_g0_8.out.below D9);clear O_g0_8
 clear D9 K_g0_0 K_g0_1 K_g0_2 K_g0_3 K_g0_4 K_g0_5 K_g0_6 K_g0_7 K_w0_0 K_w0_1 K_w0_2 K_w0_3 K_w0_4 K_w0_5 K_w0_6 K_w0_7 hb9
 have K_g0_0:=kG X_g0_9.out (j:=0) (v:=.slice t5a0 (((tickN x1 x0)).1).length t5p0) rfl
 have K_g0_1:=kG X_g0_9.out (j:=1) (v:=.int .i64 ((tickN x1 x0)).2.1.1) rfl
 have K_g0_2:=kG X_g0_9.out (j:=2) (v:=.slice t5a2 (((tickN x1 x0)).2.1.2).length t5p2) rfl
 have K_g0_3:=kG X_g0_9.out (j:=3) (v:=.slice t5a3 (((tickN x1 x0)).2.2.1).length t5p3) rfl
 have K_g0_4:=kG X_g0_9.out (j:=4) (v:=.slice t5a4 (((tickN x1 x0)).2.2.2.1).length t5p4) rfl
 have K_g0_5:=kG X_g0_9.out (j:=5) (v:=.slice t5a5 (((tickN x1 x0)).2.2.2.2.1).length t5p5) rfl
 have K_g0_6:=kG X_g0_9.out (j:=6) (v:=.slice t5a6 (((tickN x1 x0)).2.2.2.2.2.1).length t5p6) rfl
 have K_g0_7:=kG X_g0_9.out (j:=7) (v:=.int .i64 ((tickN x1 x0)).2.2.2.2.2.2) rfl
 go_wp2_with fail
 refine (markNode_c (k:=1) (O_g0_9.out.below (by repeat (first|(with_reducible exact Below.refl _ _) | refine Below.alloc ?_ (by simp;try omega) _ | refine Below.drew ?_))) (by omega) (by have e:(RNode.cnt:Int)=3659174881787906:=(by decide);unfold Top;omega)).mono ?_
 rintro e w10 ⟨rfl,P10,Y10⟩
 have B10:Hid (1≤(RNode.mark false ((tickN x1 x0)) (1)).2∧(RNode.mark false ((tickN x1 x0)) (1)).2≤1 + 3659174881787906):=hD ⟨by have:=RNode.mark_ge (e:=false) (x:=(tickN x1 x0)) (k:=1);omega,by have:=RNode.mark_le (e:=false) (k:=1) O_g0_9.out.2;have e:(RNode.cnt:Int)=3659174881787906:=(by decide);omega⟩
 have D10:Touch (Btw (w4.heap.size + 1) (w5.heap.size)) w9 w10:=(Touch.of_below (by repeat (first|(with_reducible exact Below.refl _ _) | refine Below.alloc ?_ (by simp;try omega) _ | refine Below.drew ?_))).trans Y10
 have H10:=hD (H9.out.trans (D10.below (by have:=H9.out.size;omega) (fun i hi=>by have a:=hi.1;have b:w.heap.size≤w4.heap.size:=H4.out.size;omega)))
 have L10:=hD (show w9.heap.size≤w10.heap.size from D10.size)
 have X_aX_10:=hD (D10.kN X_aX_9.out (fun q=>by have q1:=q.1;have q2:=q.2;have l1:=L1.out;have l2:=L2.out;have l3:=L3.out;have l4:=L4.out;have l5:=L5.out;omega));clear X_aX_9
 have X_w0_10:=hD (D10.kN X_w0_9.out (fun q=>by have q1:=q.1;have q2:=q.2;have l4:=L4.out;have l5:=L5.out;omega));clear X_w0_9
 have X_x0_10:=hD (D10.kN X_x0_9.out (fun q=>by have q1:=q.1;have q2:=q.2;have l5:=L5.out;omega));clear X_x0_9
 have X_g0_10:=hD (D10.kN X_g0_9.out (fun q=>by have q1:=q.1;have q2:=q.2;have l5:=L5.out;omega));clear X_g0_9
 have O_w0_10:=hD (O_w0_9.out.touch D10 (fun i p q=>by have p1:=p.1;have p2:=p.2;have q1:=q.1;have q2:=q.2;have l3:=L3.out;have l4:=L4.out;have l5:=L5.out;omega));clear O_w0_9
 have O_x0_10:=hD (O_x0_9.out.touch D10 (fun i p q=>by have p1:=p.1;have p2:=p.2;have q1:=q.1;have q2:=q.2;have l4:=L4.out;have l5:=L5.out;omega));clear O_x0_9
 clear D10 K_g0_0 K_g0_1 K_g0_2 K_g0_3 K_g0_4 K_g0_5 K_g0_6 K_g0_7 Y10
 have Z10:=hD P10;clear P10 O_g0_9
 have U10:0≤(RNode.mark false ((tickN x1 x0)) (1)).2:=by have:=B10.out.1;omega
 have K_g0_0:=kG X_g0_10.out (j:=0) (v:=.slice t5a0 (((tickN x1 x0)).1).length t5p0) rfl
 have K_g0_1:=kG X_g0_10.out (j:=1) (v:=.int .i64 ((tickN x1 x0)).2.1.1) rfl
 have K_g0_2:=kG X_g0_10.out (j:=2) (v:=.slice t5a2 (((tickN x1 x0)).2.1.2).length t5p2) rfl
 have K_g0_3:=kG X_g0_10.out (j:=3) (v:=.slice t5a3 (((tickN x1 x0)).2.2.1).length t5p3) rfl
 have K_g0_4:=kG X_g0_10.out (j:=4) (v:=.slice t5a4 (((tickN x1 x0)).2.2.2.1).length t5p4) rfl
 have K_g0_5:=kG X_g0_10.out (j:=5) (v:=.slice t5a5 (((tickN x1 x0)).2.2.2.2.1).length t5p5) rfl
 have K_g0_6:=kG X_g0_10.out (j:=6) (v:=.slice t5a6 (((tickN x1 x0)).2.2.2.2.2.1).length t5p6) rfl
 have K_g0_7:=kG X_g0_10.out (j:=7) (v:=.int .i64 ((tickN x1 x0)).2.2.2.2.2.2) rfl
 go_wp2_with fail
 refine (heldNode_c (Z10.out.raw.below (by repeat (first|(with_reducible exact Below.refl _ _) | refine Below.alloc ?_ (by simp;try omega) _ | refine Below.drew ?_))) (RNode.mark_held (e:=false) (x:=(tickN x1 x0)) (k:=1)) (by have:=B10.out.1;omega) (by have:=B10.out.2;omega)).mono ?_
 rintro e w11 ⟨rfl,hb11⟩
 have D11:Below w10.heap.size w10 w11:=Below.trans (by repeat (first|(with_reducible exact Below.refl _ _) | refine Below.alloc ?_ (by simp;try omega) _ | refine Below.drew ?_)) (hb11.mono (by first|(simp;done)|(simp;omega)))
 have H11:=hD (H10.out.trans (D11.mono H10.out.size))
 have L11:=hD (show w10.heap.size + 0≤w11.heap.size from by have h:=hb11.size;(try simp at h);omega)
 have X_aX_11:=hD (kN X_aX_10.out D11);clear X_aX_10
 have X_w0_11:=hD (kN X_w0_10.out D11);clear X_w0_10
 have X_x0_11:=hD (kN X_x0_10.out D11);clear X_x0_10
 have X_g0_11:=hD (kN X_g0_10.out D11);clear X_g0_10
 have O_w0_11:=hD (O_w0_10.out.below D11);clear O_w0_10
 have O_x0_11:=hD (O_x0_10.out.below D11);clear O_x0_10
 have O_g0_11:=hD (Z10.out.below D11);clear Z10
 clear D11 K_g0_0 K_g0_1 K_g0_2 K_g0_3 K_g0_4 K_g0_5 K_g0_6 K_g0_7 hb11
 have K_aX_0:=kG X_aX_11.out (j:=0) (v:=a0v0) rfl
 have K_aX_1:=kG X_aX_11.out (j:=1) (v:=.int .i64 x0.2.1.1) rfl
 have K_aX_2:=kG X_aX_11.out (j:=2) (v:=a0v2) rfl
 have K_aX_3:=kG X_aX_11.out (j:=3) (v:=a0v3) rfl
 have K_aX_4:=kG X_aX_11.out (j:=4) (v:=a0v4) rfl
 have K_aX_5:=kG X_aX_11.out (j:=5) (v:=a0v5) rfl
 have K_aX_6:=kG X_aX_11.out (j:=6) (v:=a0v6) rfl
 have K_aX_7:=kG X_aX_11.out (j:=7) (v:=.int .i64 x0.2.2.2.2.2.2) rfl
 go_wp2_with fail
 refine (toNode_c (r0.below (by repeat (first|(with_reducible exact H11.out) | refine Below.alloc ?_ (by have:=H11.out.size;simp;try omega) _ | refine Below.drew ?_)))).mono ?_
 rintro e w12 ⟨cs12,rfl,O12,hb12⟩
 obtain ⟨t12v0,t12v2,t12v3,t12v4,t12v5,t12v6,rfl,t12_0,t12_1,t12_2,t12_3,t12_4,t12_5,t12_6,t12_7,t12_8⟩:=RNode_raw O12.raw
 obtain ⟨t12a0,t12p0,t12h0,_⟩:=Rep.kR t12_0;obtain rfl:t12v0=_:=(by simpa using t12h0)
 clear t12h0
 obtain ⟨t12a2,t12p2,t12h2,_⟩:=Rep.kR t12_3;obtain rfl:t12v2=_:=(by simpa using t12h2)
 clear t12h2
 obtain ⟨t12a3,t12p3,t12h3,_⟩:=Rep.kR t12_4;obtain rfl:t12v3=_:=(by simpa using t12h3)
 clear t12h3
 obtain ⟨t12a4,t12p4,t12h4,_⟩:=Rep.kR t12_5;obtain rfl:t12v4=_:=(by simpa using t12h4)
 clear t12h4
 obtain ⟨t12a5,t12p5,t12h5,_⟩:=Rep.kR t12_6;obtain rfl:t12v5=_:=(by simpa using t12h5)
 clear t12h5
 obtain ⟨t12a6,t12p6,t12h6,_⟩:=Rep.kR t12_7;obtain rfl:t12v6=_:=(by simpa using t12h6)
 clear t12h6
 clear t12_0 t12_1 t12_2 t12_3 t12_4 t12_5 t12_6 t12_7 t12_8
 have Z12:=hD (O12.wide (T:=Btw (w11.heap.size) (w12.heap.size)) (fun i hi=>⟨by have h:=hi.1;(try simp at h);omega,hi.2⟩));clear O12
 have D12:Below w11.heap.size w11 w12:=Below.trans (by repeat (first|(with_reducible exact Below.refl _ _) | refine Below.alloc ?_ (by simp;try omega) _ | refine Below.drew ?_)) (hb12.mono (by first|(simp;done)|(simp;omega)))
 have H12:=hD (H11.out.trans (D12.mono H11.out.size))
 have L12:=hD (show w11.heap.size + 0≤w12.heap.size from by have h:=hb12.size;(try simp at h);omega)
 have X_aX_12:=hD (kN X_aX_11.out D12);clear X_aX_11
 have X_w0_12:=hD (kN X_w0_11.out D12);clear X_w0_11
 have X_x0_12:=hD (kN X_x0_11.out D12);clear X_x0_11
 have X_g0_12:=hD (kN X_g0_11.out D12);clear X_g0_11
 have O_w0_12:=hD (O_w0_11.out.below D12);clear O_w0_11
 have O_x0_12:=hD (O_x0_11.out.below D12);clear O_x0_11
 have O_g0_12:=hD (O_g0_11.out.below D12);clear O_g0_11
 clear D12 K_aX_0 K_aX_1 K_aX_2 K_aX_3 K_aX_4 K_aX_5 K_aX_6 K_aX_7 hb12
 go_wp2_with fail
 refine (implTickNode_c (Z12.out.rd.below (by repeat (first|(with_reducible exact Below.refl _ _) | refine Below.alloc ?_ (by simp;try omega) _ | refine Below.drew ?_))) hi1.out (G1.out z1)).mono ?_
 rintro e w13 ⟨cs13,rfl,O13,hb13⟩
 obtain ⟨t13v0,t13v2,t13v3,t13v4,t13v5,t13v6,rfl,t13_0,t13_1,t13_2,t13_3,t13_4,t13_5,t13_6,t13_7,t13_8⟩:=RNode_raw O13.raw
 obtain ⟨t13a0,t13p0,t13h0,_⟩:=Rep.kR t13_0;obtain rfl:t13v0=_:=(by simpa using t13h0)
 clear t13h0
 obtain ⟨t13a2,t13p2,t13h2,_⟩:=Rep.kR t13_3;obtain rfl:t13v2=_:=(by simpa using t13h2)
 clear t13h2
 obtain ⟨t13a3,t13p3,t13h3,_⟩:=Rep.kR t13_4;obtain rfl:t13v3=_:=(by simpa using t13h3)
 clear t13h3
 obtain ⟨t13a4,t13p4,t13h4,_⟩:=Rep.kR t13_5;obtain rfl:t13v4=_:=(by simpa using t13h4)
 clear t13h4
 obtain ⟨t13a5,t13p5,t13h5,_⟩:=Rep.kR t13_6;obtain rfl:t13v5=_:=(by simpa using t13h5)
 clear t13h5
 obtain ⟨t13a6,t13p6,t13h6,_⟩:=Rep.kR t13_7;obtain rfl:t13v6=_:=(by simpa using t13h6)
 clear t13h6
 clear t13_0 t13_1 t13_2 t13_3 t13_4 t13_5 t13_6 t13_7 t13_8
 have Z13:=hD (O13.wide (T:=Btw (w12.heap.size) (w13.heap.size)) (fun i hi=>⟨by have h:=hi.1;(try simp at h);omega,hi.2⟩));clear O13
 have D13:Below w12.heap.size w12 w13:=Below.trans (by repeat (first|(with_reducible exact Below.refl _ _) | refine Below.alloc ?_ (by simp;try omega) _ | refine Below.drew ?_)) (hb13.mono (by first|(simp;done)|(simp;omega)))
 have H13:=hD (H12.out.trans (D13.mono H12.out.size))
 have L13:=hD (show w12.heap.size + 0≤w13.heap.size from by have h:=hb13.size;(try simp at h);omega)
 have X_aX_13:=hD (kN X_aX_12.out D13);clear X_aX_12
 have X_w0_13:=hD (kN X_w0_12.out D13);clear X_w0_12
 have X_x0_13:=hD (kN X_x0_12.out D13);clear X_x0_12
 have X_g0_13:=hD (kN X_g0_12.out D13);clear X_g0_12
 have O_w0_13:=hD (O_w0_12.out.below D13);clear O_w0_12
 have O_x0_13:=hD (O_x0_12.out.below D13);clear O_x0_12
 have O_g0_13:=hD (O_g0_12.out.below D13);clear O_g0_12
 have O_t12_13:=hD (Z12.out.below D13);clear Z12
 clear D13 hb13
 clear O_t12_13
 have K_w0_0:=kG X_w0_13.out (j:=0) (v:=.slice t3a0 (((tickN x1 x0)).1).length t3p0) rfl
 have K_w0_1:=kG X_w0_13.out (j:=1) (v:=.int .i64 ((tickN x1 x0)).2.1.1) rfl
 have K_w0_2:=kG X_w0_13.out (j:=2) (v:=.slice t3a2 (((tickN x1 x0)).2.1.2).length t3p2) rfl
 have K_w0_3:=kG X_w0_13.out (j:=3) (v:=.slice t3a3 (((tickN x1 x0)).2.2.1).length t3p3) rfl
 have K_w0_4:=kG X_w0_13.out (j:=4) (v:=.slice t3a4 (((tickN x1 x0)).2.2.2.1).length t3p4) rfl
 have K_w0_5:=kG X_w0_13.out (j:=5) (v:=.slice t3a5 (((tickN x1 x0)).2.2.2.2.1).length t3p5) rfl
 have K_w0_6:=kG X_w0_13.out (j:=6) (v:=.slice t3a6 (((tickN x1 x0)).2.2.2.2.2.1).length t3p6) rfl
 have K_w0_7:=kG X_w0_13.out (j:=7) (v:=.int .i64 ((tickN x1 x0)).2.2.2.2.2.2) rfl
 have J_w0:w3.heap.size < w13.heap.size:=by have l4:=L4.out;have l5:=L5.out;have l6:=L6.out;have l7:=L7.out;have l8:=L8.out;have l9:=L9.out;have l10:=L10.out;have l11:=L11.out;have l12:=L12.out;have l13:=L13.out;omega
 go_wp2_with fail
 refine (eqNode_c (Z13.out.raw.below (by repeat (first|(with_reducible exact Below.refl _ _) | refine Below.alloc ?_ (by simp;try omega) _ | refine Below.drew ?_))) (O_w0_13.out.raw.below (by repeat (first|(with_reducible exact Below.refl _ _) | refine Below.alloc ?_ (by simp;try omega) _ | refine Below.drew ?_)))).mono ?_
 rintro e w14 ⟨rfl,hb14⟩
 have D14:Below w13.heap.size w13 w14:=Below.trans (by repeat (first|(with_reducible exact Below.refl _ _) | refine Below.alloc ?_ (by simp;try omega) _ | refine Below.drew ?_)) (hb14.mono (by first|(simp;done)|(simp;omega)))
 have H14:=hD (H13.out.trans (D14.mono H13.out.size))
 have L14:=hD (show w13.heap.size + 1≤w14.heap.size from by have h:=hb14.size;(try simp at h);omega)
 have X_aX_14:=hD (kN X_aX_13.out D14);clear X_aX_13
 have X_w0_14:=hD (kN X_w0_13.out D14);clear X_w0_13
 have X_x0_14:=hD (kN X_x0_13.out D14);clear X_x0_13
 have X_g0_14:=hD (kN X_g0_13.out D14);clear X_g0_13
 have X_h0_14:Hid (w14.heap[w13.heap.size]?=some (.cells #[.slice t13a0 (((tickN x1 x0)).1).length t13p0,.int .i64 ((tickN x1 x0)).2.1.1,.slice t13a2 (((tickN x1 x0)).2.1.2).length t13p2,.slice t13a3 (((tickN x1 x0)).2.2.1).length t13p3,.slice t13a4 (((tickN x1 x0)).2.2.2.1).length t13p4,.slice t13a5 (((tickN x1 x0)).2.2.2.2.1).length t13p5,.slice t13a6 (((tickN x1 x0)).2.2.2.2.2.1).length t13p6,.int .i64 ((tickN x1 x0)).2.2.2.2.2.2] 42 (0,0))):=hD ((hb14.block (w13.heap.size) (by first|(simp;done)|(simp;omega))).trans (heap_new_at (by simp)))
 have O_w0_14:=hD (O_w0_13.out.below D14);clear O_w0_13
 have O_x0_14:=hD (O_x0_13.out.below D14);clear O_x0_13
 have O_g0_14:=hD (O_g0_13.out.below D14);clear O_g0_13
 have O_h0_14:=hD (Z13.out.below D14);clear Z13
 clear D14 K_w0_0 K_w0_1 K_w0_2 K_w0_3 K_w0_4 K_w0_5 K_w0_6 K_w0_7 J_w0 hb14
 have K_g0_0:=kG X_g0_14.out (j:=0) (v:=.slice t5a0 (((tickN x1 x0)).1).length t5p0) rfl
 have K_g0_1:=kG X_g0_14.out (j:=1) (v:=.int .i64 ((tickN x1 x0)).2.1.1) rfl
 have K_g0_2:=kG X_g0_14.out (j:=2) (v:=.slice t5a2 (((tickN x1 x0)).2.1.2).length t5p2) rfl
 have K_g0_3:=kG X_g0_14.out (j:=3) (v:=.slice t5a3 (((tickN x1 x0)).2.2.1).length t5p3) rfl
 have K_g0_4:=kG X_g0_14.out (j:=4) (v:=.slice t5a4 (((tickN x1 x0)).2.2.2.1).length t5p4) rfl
 have K_g0_5:=kG X_g0_14.out (j:=5) (v:=.slice t5a5 (((tickN x1 x0)).2.2.2.2.1).length t5p5) rfl
 have K_g0_6:=kG X_g0_14.out (j:=6) (v:=.slice t5a6 (((tickN x1 x0)).2.2.2.2.2.1).length t5p6) rfl
 have K_g0_7:=kG X_g0_14.out (j:=7) (v:=.int .i64 ((tickN x1 x0)).2.2.2.2.2.2) rfl
 go_wp2_with fail
 refine (heldNode_c (O_g0_14.out.raw.below (by repeat (first|(with_reducible exact Below.refl _ _) | refine Below.alloc ?_ (by simp;try omega) _ | refine Below.drew ?_))) (RNode.mark_held (e:=false) (x:=(tickN x1 x0)) (k:=1)) (by have:=B10.out.1;omega) (by have:=B10.out.2;omega)).mono ?_
 rintro e w15 ⟨rfl,hb15⟩
 have D15:Below w14.heap.size w14 w15:=Below.trans (by repeat (first|(with_reducible exact Below.refl _ _) | refine Below.alloc ?_ (by simp;try omega) _ | refine Below.drew ?_)) (hb15.mono (by first|(simp;done)|(simp;omega)))
 have H15:=hD (H14.out.trans (D15.mono H14.out.size))
 have L15:=hD (show w14.heap.size + 0≤w15.heap.size from by have h:=hb15.size;(try simp at h);omega)
 have X_aX_15:=hD (kN X_aX_14.out D15);clear X_aX_14
 have X_w0_15:=hD (kN X_w0_14.out D15);clear X_w0_14
 have X_x0_15:=hD (kN X_x0_14.out D15);clear X_x0_14
 have X_g0_15:=hD (kN X_g0_14.out D15);clear X_g0_14
 have X_h0_15:=hD (kN X_h0_14.out D15);clear X_h0_14
 have O_w0_15:=hD (O_w0_14.out.below D15);clear O_w0_14
 have O_x0_15:=hD (O_x0_14.out.below D15);clear O_x0_14
 have O_g0_15:=hD (O_g0_14.out.below D15);clear O_g0_14
 have O_h0_15:=hD (O_h0_14.out.below D15);clear O_h0_14
 clear D15 K_g0_0 K_g0_1 K_g0_2 K_g0_3 K_g0_4 K_g0_5 K_g0_6 K_g0_7 hb15
 go_wp2
 go_ret
 exact ⟨rfl,H15.out⟩
set_option maxRecDepth 100000 in
theorem lawTickNode_lifted (os:Os) (started:os.Started) (H:Type) (enc:TypeId × Value→H) :
    ReturnsInHanded {} Tryz.checked os 3 .any (Rows.fnExactTickNodeSpec.pre6 enc Tryz.prog Tryz.f3 Rows.fnExactTickNodeRow.domain false) (Rows.fnExactTickNodeSpec.post enc Tryz.prog Tryz.f3 false true false false):=by
 refine returnsInHanded_of_change (C:=Tryz.checked) law_own started (by kernel_rfl) Tryz.func3
   (ChangeSpec.witness6 (enc:=enc) (C:=Tryz.checked) false ⟨#[],#[.agg #[.slice none 0 0,.int .i64 0,.slice none 0 0,.slice none 0 0,.slice none 0 0,.slice none 0 0,.slice none 0 0,.int .i64 0],.int .i64 0],[]⟩ 8 (by kernel_rfl) (by kernel_rfl) (by kernel_rfl) (by kernel_rfl)) ?_
 intro W base args ds gs before hval0 hW _ _
 have hval:∀ (j:Nat) t v,Tryz.f3.params[j]?=some t→args[j]?=some v→Value.okWide Tryz.prog W .any base t v:=hval0
 have hW0:DataW.Whole enc Tryz.prog Tryz.f3.params.toList Rows.fnExactTickNodeSpec.vars false W args.toList ds gs before:=hW
 obtain ⟨p,q,hA0,hV,rfl,hfz,hnd⟩:=hW
 have hA:DataW.TrodAll enc Tryz.prog W 0 (fun _=>true) true Tryz.f3.params.toList args.toList ds p:=hA0
 rw [Tryz.params3] at hA hval
 obtain ⟨v0,vs0,d0,ds0,p0,q0,hargs,rfl,rfl,g0,s0⟩:=trodAll_cons hA
 obtain ⟨v1,vs1,d1,ds1,p1,q1,rfl,rfl,rfl,g1,s1⟩:=trodAll_cons s0
 obtain ⟨rfl,rfl,rfl⟩:=trodAll_nil s1
 obtain rfl:args=#[v0,v1]:=by cases args;simp_all
 obtain ⟨rfl,rfl⟩:=trodVars_none hV
 obtain ⟨c0,rfl⟩:∃ c:List Value,v0=.agg c.toArray:=by
  have h:=hval 0 31 v0 rfl rfl
  unfold Value.okWide at h
  rw [Tryz.underlying31] at h
  obtain ⟨cs,rfl,_⟩:=h
  exact ⟨cs.toList,by simp⟩
 obtain ⟨fu0,hf0⟩:=g0
 obtain ⟨x0,h0⟩:=bridge_Node (w:=W) hf0
 have h0:RNode.raw W c0 x0:=by simpa [Value.cells] using h0
 obtain ⟨x1,rfl,rfl,rfl,e1⟩:=open_int Tryz.underlying3 (hval 1 3 v1 rfl rfl) g1
 have h1:-9223372036854775808≤x1∧x1≤9223372036854775807:=by simpa [Lit.wf,IntKind.min,IntKind.max,IntKind.signed,IntKind.bits] using e1
 refine (lawTickNode_c h0 h1).mono fun e W' ⟨he,hb⟩=>?_
 subst he
 refine ⟨_,rfl,law_post (tb:=4) hW0 rfl rfl Tryz.underlying4 ⟨rfl,rfl,rfl⟩ ?_ hb⟩
 rw [Tryz.params3]
 intro t ht
 have hall:([31,3].all fun t=>Tryz.prog.readableRec t && decide (t < Tryz.prog.types.size))=true:=by kernel_rfl
 have h1:=List.all_eq_true.1 hall t ht
 simpa using h1
theorem lawTickNode_holds : Rows.FnExactTickNodeSaid :=
  OpenClaim.holds_of_wide 3 Tryz.f3 rfl rfl rfl rfl rfl rfl rfl ⟨rfl, rfl, rfl, rfl, rfl⟩ rfl rfl rfl rfl rfl (by kernel_rfl) Tryz.func3 (by kernel_rfl)
    (of_decide_eq_true (by kernel_rfl)) (by unfold Func.isWrapper; first | (rw [if_pos (by decide +kernel)]; kernel_rfl) | (rw [if_neg (by decide +kernel)]; exact ⟨rfl, rfl⟩))
    (fun os started H enc _ => lawTickNode_lifted os started H enc)
end Go.Proofs.YtomdenfcfbkfbaaGreat

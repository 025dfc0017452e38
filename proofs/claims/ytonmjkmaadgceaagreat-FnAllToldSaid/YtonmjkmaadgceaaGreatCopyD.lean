/-
  Copies of interests and data.
-/
import Derived.Test.YtonmjkmaadgceaaGreatPend
set_option linter.unusedVariables false
set_option linter.unusedSimpArgs false
set_option linter.unnecessarySimpa false
set_option maxRecDepth 100000
set_option maxHeartbeats 4000000
namespace Go.Proofs.YtonmjkmaadgceaaGreat
open Go.RowKit _root_.Go.Proofs.Tryz
theorem kMm {w:World} {cx:List Value} {x:yt} (hx:zg.rd w cx x):Calls prog 37 #[.agg cx.toArray] w (kAn zg x w):=by
 obtain ⟨hx,a9⟩:=hx
 obtain ⟨v0,rfl,ac,ay,a3,a5,ba⟩:=kCz hx
 obtain ⟨x0,x1,x2,x3⟩:=x
 obtain ⟨a0,p0,rfl,_⟩:=kE.sl ay
 have r0:kM.rd w _ x0:=⟨ac,a9.1⟩
 have N1:=yD a3
 have N2:=yD a5
 have N3:=yD ba
 clear a9 hx ac ay a3 a5 ba
 go_enter func37,ntmps37
 go_upto_region 1 with fail
 generalize H:World.alloc (World.alloc w _) _=v0
 have E0:Below w.heap.size w v0:=by rw [← H];exact bI
 have bb:v0.heap.size=w.heap.size + 2:=bA4
 have F:Hid (v0.heap[w.heap.size]?=some (.cells #[.slice a0 (x0).length p0,.int .i64 x1,.int .i64 x2,.int .i64 x3] 79 (0,0))):=yD sP
 have XR:Hid (v0.heap[w.heap.size + 1]?=some (.cells #[.slice none 0 0,.int .i64 0,.int .i64 0,.int .i64 0] 79 (0,0))):=yD sD
 clear H
 have aj:=kF (b:=w.heap.size) F.out (j:=0) (v:=.slice a0 (x0).length p0) rfl
 go_wp2_with fail
 refine (zG (r0.below E0)).mono ?_
 rintro e w1 ⟨tc,rfl,O1,O⟩
 obtain ⟨bd,rfl,al⟩:=kU O1.raw
 obtain ⟨Z,N,rfl,ao⟩:=kE.sl al
 clear al
 have X:=yD O1;clear O1
 have az:=O.size
 have F1:=(tQ E0 O)
 replace F:=yD (kD F.out O)
 replace XR:=yD (kD XR.out O)
 clear O aj
 have ah:=kF (b:=w.heap.size) F.out (j:=0) (v:=.slice a0 (x0).length p0) rfl
 have aa:=frozen_of_row w1 (w.heap.size) 0 _ _ F.out
 go_upto_region 2 with fail
 generalize E:(w1.setCell ⟨w.heap.size,0,none⟩ (.slice Z x0.length N))=v1
 have L:v1.heap[w.heap.size]?=some (.cells #[.slice Z x0.length N,.int .i64 x1,.int .i64 x2,.int .i64 x3] 79 (0,0)):=by
  rw [← E]
  have y0:=heap_setCell_same _ (w.heap.size) 0 _ 79 (.slice Z x0.length N) F.out
  exact y0
 replace XR:=yD (show v1.heap[w.heap.size + 1]?=some (.cells #[.slice none 0 0,.int .i64 0,.int .i64 0,.int .i64 0] 79 (0,0)) from by rw [← E];exact ((heap_setCell_other _ ⟨w.heap.size,0,none⟩ (w.heap.size + 1) _ (show w.heap.size + 1≠w.heap.size by omega)).trans XR.out))
 replace F:=yD L;clear L
 obtain ⟨E1,U,X⟩:=xM
 clear E F1 ah aa
 have K0:=kF (b:=w.heap.size) F.out (j:=0) (v:=.slice Z x0.length N) rfl
 have R0:=kF (b:=w.heap.size + 1) XR.out (j:=0) rfl
 have Z0:=frozen_of_row v1 (w.heap.size + 1) 0 _ _ XR.out
 have K1:=kF (b:=w.heap.size) F.out (j:=1) (v:=.int .i64 x1) rfl
 have R1:=kF (b:=w.heap.size + 1) XR.out (j:=1) rfl
 have Z1:=frozen_of_row v1 (w.heap.size + 1) 1 _ _ XR.out
 have K2:=kF (b:=w.heap.size) F.out (j:=2) (v:=.int .i64 x2) rfl
 have R2:=kF (b:=w.heap.size + 1) XR.out (j:=2) rfl
 have Z2:=frozen_of_row v1 (w.heap.size + 1) 2 _ _ XR.out
 have K3:=kF (b:=w.heap.size) F.out (j:=3) (v:=.int .i64 x3) rfl
 have R3:=kF (b:=w.heap.size + 1) XR.out (j:=3) rfl
 have Z3:=frozen_of_row v1 (w.heap.size + 1) 3 _ _ XR.out
 go_wp2
 have a4:=U.out
 refine bodyPost_ret (v:=.agg #[.slice Z x0.length N,.int .i64 x1,.int .i64 x2,.int .i64 x3]) (by simp [results,results37,go_sem,R0,Z0,R1,Z1,R2,Z2,R3,Z3]) rfl ⟨[_,_,_,_],rfl,?_,?_⟩
 · refine kE.own.wide (S:=jR (v0.heap.size) (w1.heap.size)) ?_ fK
   exact kE.jw (r:=kM) (q:=(kE.pair kE.int (kE.pair kE.int kE.int))) (cs:=[.slice Z x0.length N]) (ds:=[.int .i64 x1,.int .i64 x2,.int .i64 x3]) (x:=x0) (y:=(x1,x2,x3)) (kE.own.out X.out fD) (kE.jr (r:=kE.int) (q:=(kE.pair kE.int kE.int)) (cs:=[.int .i64 x1]) (ds:=[.int .i64 x2,.int .i64 x3]) (x:=x1) (y:=(x2,x3)) (kE.ky N1.out) (kE.jr (r:=kE.int) (q:=kE.int) (cs:=[.int .i64 x2]) (ds:=[.int .i64 x3]) (x:=x2) (y:=x3) (kE.ky N2.out) (kE.ky N3.out)))
 repeat (first|(with_reducible exact E1) | refine Below.setCell ?_ rH _)
theorem kAj {w:World} {cx:List Value} {x:jG} (hx:jA.rd w cx x):Calls prog 32 #[.agg cx.toArray] w (kAn jA x w):=by
 obtain ⟨hx,a9⟩:=hx
 obtain ⟨v0,v1,v2,rfl,ac,ay,a3,a5,ba,bg,b2⟩:=jN hx
 obtain ⟨x0,x1,x2,x3,x4⟩:=x
 obtain ⟨a0,p0,rfl,_⟩:=kE.sl ay
 obtain ⟨a1,p1,rfl,_⟩:=kE.sl a3
 obtain ⟨a2,p2,rfl,_⟩:=kE.sl ba
 have r0:kM.rd w _ x0:=⟨ac,a9.1⟩
 have r1:(kE.slice 5 kE.byte).rd w _ x1:=⟨a3,a9.2.1⟩
 have r2:kM.rd w _ x2:=⟨a5,a9.2.2.1⟩
 have N3:=yD bg
 have N4:=yD b2
 clear a9 hx ac ay a3 a5 ba bg b2
 go_enter func32,ntmps32
 go_upto_region 1 with fail
 generalize H:World.alloc (World.alloc w _) _=v0
 have E0:Below w.heap.size w v0:=by rw [← H];exact bI
 have bb:v0.heap.size=w.heap.size + 2:=bA4
 have F:Hid (v0.heap[w.heap.size]?=some (.cells #[.slice a0 (x0).length p0,.slice a1 x1.length p1,.slice a2 (x2).length p2,.int .i64 x3,.int .i64 x4] 43 (0,0))):=yD sP
 have XR:Hid (v0.heap[w.heap.size + 1]?=some (.cells #[.slice none 0 0,.slice none 0 0,.slice none 0 0,.int .i64 0,.int .i64 0] 43 (0,0))):=yD sD
 clear H
 have aj:=kF (b:=w.heap.size) F.out (j:=0) (v:=.slice a0 (x0).length p0) rfl
 go_wp2_with fail
 refine (zG (r0.below E0)).mono ?_
 rintro e w1 ⟨tc,rfl,O1,O⟩
 obtain ⟨bd,rfl,al⟩:=kU O1.raw
 obtain ⟨Z,N,rfl,ao⟩:=kE.sl al
 clear al
 have X:=yD O1;clear O1
 have az:=O.size
 have F1:=(tQ E0 O)
 replace F:=yD (kD F.out O)
 replace XR:=yD (kD XR.out O)
 clear O aj
 have ah:=kF (b:=w.heap.size) F.out (j:=0) (v:=.slice a0 (x0).length p0) rfl
 have aa:=frozen_of_row w1 (w.heap.size) 0 _ _ F.out
 go_upto_region 2 with fail
 generalize E:(w1.setCell ⟨w.heap.size,0,none⟩ (.slice Z x0.length N))=v1
 have L:v1.heap[w.heap.size]?=some (.cells #[.slice Z x0.length N,.slice a1 x1.length p1,.slice a2 (x2).length p2,.int .i64 x3,.int .i64 x4] 43 (0,0)):=by
  rw [← E]
  have y0:=heap_setCell_same _ (w.heap.size) 0 _ 43 (.slice Z x0.length N) F.out
  exact y0
 replace XR:=yD (show v1.heap[w.heap.size + 1]?=some (.cells #[.slice none 0 0,.slice none 0 0,.slice none 0 0,.int .i64 0,.int .i64 0] 43 (0,0)) from by rw [← E];exact ((heap_setCell_other _ ⟨w.heap.size,0,none⟩ (w.heap.size + 1) _ (show w.heap.size + 1≠w.heap.size by omega)).trans XR.out))
 replace F:=yD L;clear L
 obtain ⟨E1,U,X⟩:=xM
 clear E F1 ah aa
 have af:=kF (b:=w.heap.size) F.out (j:=1) (v:=.slice a1 x1.length p1) rfl
 go_wp2_with fail
 refine (kXk (r1.below E1)).mono ?_
 rintro e V ⟨tv,rfl,O2,ab⟩
 obtain ⟨aw,bi,rfl,_⟩:=kE.sl O2.raw
 have ag:=yD O2;clear O2
 have an:=ab.size
 have F2:=(tQ E1 ab)
 replace F:=yD (kD F.out ab)
 replace XR:=yD (kD XR.out ab)
 replace X:=yD (X.out.below ab)
 clear ab af
 have ak:=kF (b:=w.heap.size) F.out (j:=1) (v:=.slice a1 x1.length p1) rfl
 have ar:=frozen_of_row V (w.heap.size) 1 _ _ F.out
 go_upto_region 3 with fail
 generalize E:(V.setCell ⟨w.heap.size,1,none⟩ (.slice aw x1.length bi))=v2
 have L:v2.heap[w.heap.size]?=some (.cells #[.slice Z x0.length N,.slice aw x1.length bi,.slice a2 (x2).length p2,.int .i64 x3,.int .i64 x4] 43 (0,0)):=by
  rw [← E]
  have y0:=heap_setCell_same _ (w.heap.size) 1 _ 43 (.slice aw x1.length bi) F.out
  exact y0
 replace XR:=yD (show v2.heap[w.heap.size + 1]?=some (.cells #[.slice none 0 0,.slice none 0 0,.slice none 0 0,.int .i64 0,.int .i64 0] 43 (0,0)) from by rw [← E];exact ((heap_setCell_other _ ⟨w.heap.size,1,none⟩ (w.heap.size + 1) _ (show w.heap.size + 1≠w.heap.size by omega)).trans XR.out))
 replace F:=yD L;clear L
 obtain ⟨E2,W,X,ag⟩:=CR
 clear E F2 ak ar
 have R:=kF (b:=w.heap.size) F.out (j:=2) (v:=.slice a2 (x2).length p2) rfl
 go_wp2_with fail
 refine (zG (r2.below E2)).mono ?_
 rintro e w3 ⟨tc,rfl,O3,Y⟩
 obtain ⟨av,rfl,ai⟩:=kU O3.raw
 obtain ⟨J,G,rfl,ax⟩:=kE.sl ai
 clear ai
 have ae:=yD O3;clear O3
 have a7:=Y.size
 have F3:=(tQ E2 Y)
 replace F:=yD (kD F.out Y)
 replace XR:=yD (kD XR.out Y)
 replace X:=yD (X.out.below Y)
 replace ag:=yD (ag.out.below Y)
 clear Y R
 have ap:=kF (b:=w.heap.size) F.out (j:=2) (v:=.slice a2 (x2).length p2) rfl
 have aq:=frozen_of_row w3 (w.heap.size) 2 _ _ F.out
 go_upto_region 4 with fail
 generalize E:(w3.setCell ⟨w.heap.size,2,none⟩ (.slice J x2.length G))=v3
 have L:v3.heap[w.heap.size]?=some (.cells #[.slice Z x0.length N,.slice aw x1.length bi,.slice J x2.length G,.int .i64 x3,.int .i64 x4] 43 (0,0)):=by
  rw [← E]
  have y0:=heap_setCell_same _ (w.heap.size) 2 _ 43 (.slice J x2.length G) F.out
  exact y0
 replace XR:=yD (show v3.heap[w.heap.size + 1]?=some (.cells #[.slice none 0 0,.slice none 0 0,.slice none 0 0,.int .i64 0,.int .i64 0] 43 (0,0)) from by rw [← E];exact ((heap_setCell_other _ ⟨w.heap.size,2,none⟩ (w.heap.size + 1) _ (show w.heap.size + 1≠w.heap.size by omega)).trans XR.out))
 replace F:=yD L;clear L
 obtain ⟨E3,au,X,ag,ae⟩:=BC
 clear E F3 ap aq
 have K0:=kF (b:=w.heap.size) F.out (j:=0) (v:=.slice Z x0.length N) rfl
 have R0:=kF (b:=w.heap.size + 1) XR.out (j:=0) rfl
 have Z0:=frozen_of_row v3 (w.heap.size + 1) 0 _ _ XR.out
 have K1:=kF (b:=w.heap.size) F.out (j:=1) (v:=.slice aw x1.length bi) rfl
 have R1:=kF (b:=w.heap.size + 1) XR.out (j:=1) rfl
 have Z1:=frozen_of_row v3 (w.heap.size + 1) 1 _ _ XR.out
 have K2:=kF (b:=w.heap.size) F.out (j:=2) (v:=.slice J x2.length G) rfl
 have R2:=kF (b:=w.heap.size + 1) XR.out (j:=2) rfl
 have Z2:=frozen_of_row v3 (w.heap.size + 1) 2 _ _ XR.out
 have K3:=kF (b:=w.heap.size) F.out (j:=3) (v:=.int .i64 x3) rfl
 have R3:=kF (b:=w.heap.size + 1) XR.out (j:=3) rfl
 have Z3:=frozen_of_row v3 (w.heap.size + 1) 3 _ _ XR.out
 have K4:=kF (b:=w.heap.size) F.out (j:=4) (v:=.int .i64 x4) rfl
 have R4:=kF (b:=w.heap.size + 1) XR.out (j:=4) rfl
 have Z4:=frozen_of_row v3 (w.heap.size + 1) 4 _ _ XR.out
 go_wp2
 have a4:=U.out
 have a6:=W.out
 have am:=au.out
 refine bodyPost_ret (v:=.agg #[.slice Z x0.length N,.slice aw x1.length bi,.slice J x2.length G,.int .i64 x3,.int .i64 x4]) (by simp [results,results32,go_sem,R0,Z0,R1,Z1,R2,Z2,R3,Z3,R4,Z4]) rfl ⟨[_,_,_,_,_],rfl,?_,?_⟩
 · exact aM
 repeat (first|(with_reducible exact E3) | refine Below.setCell ?_ rH _)
theorem kCm {w:World} {cx:List Value} {x:jG} (hx:jA.rd w cx x):Calls prog 143 #[.agg cx.toArray] w (kAn jA x w):=by
 obtain ⟨hx,a9⟩:=hx
 obtain ⟨v0,v1,v2,rfl,ac,ay,a3,a5,ba,bg,b2⟩:=jN hx
 obtain ⟨x0,x1,x2,x3,x4⟩:=x
 obtain ⟨a0,p0,rfl,_⟩:=kE.sl ay
 obtain ⟨a1,p1,rfl,_⟩:=kE.sl a3
 obtain ⟨a2,p2,rfl,_⟩:=kE.sl ba
 have r0:kM.rd w _ x0:=⟨ac,a9.1⟩
 have r1:(kE.slice 5 kE.byte).rd w _ x1:=⟨a3,a9.2.1⟩
 have r2:kM.rd w _ x2:=⟨a5,a9.2.2.1⟩
 have N3:=yD bg
 have N4:=yD b2
 clear a9 hx ac ay a3 a5 ba bg b2
 go_enter func143,ntmps143
 go_upto_region 2 with fail
 generalize H:World.alloc (World.alloc (World.alloc w _) _) _=v0
 have E0:Below w.heap.size w v0:=by rw [← H];exact bI
 have bb:v0.heap.size=w.heap.size + 3:=bA4
 have XB:Hid (v0.heap[w.heap.size]?=some (.cells #[.slice a0 (x0).length p0,.slice a1 x1.length p1,.slice a2 (x2).length p2,.int .i64 x3,.int .i64 x4] 43 (0,0))):=yD (by rw [← H];exact jC (jC (kG rfl)))
 have XR:Hid (v0.heap[w.heap.size + 1]?=some (.cells #[.slice none 0 0,.slice none 0 0,.slice none 0 0,.int .i64 0,.int .i64 0] 43 (0,0))):=yD (by rw [← H];exact jC (kG bC0))
 have F:Hid (v0.heap[w.heap.size + 1 + 1]?=some (.cells #[.slice a0 (x0).length p0,.slice a1 x1.length p1,.slice a2 (x2).length p2,.int .i64 x3,.int .i64 x4] 43 (0,0))):=yD sD
 clear H
 have aj:=kF (b:=w.heap.size) XB.out (j:=0) (v:=.slice a0 (x0).length p0) rfl
 go_wp2_with fail
 refine (zi (r0.below E0)).mono ?_
 rintro e w1 ⟨tc,rfl,O1,O⟩
 obtain ⟨bd,rfl,al⟩:=kU O1.raw
 obtain ⟨Z,N,rfl,ao⟩:=kE.sl al
 clear al
 have X:=yD O1;clear O1
 have az:=O.size
 have F1:=(tQ E0 O)
 replace XB:=yD (kD XB.out O)
 replace F:=yD (kD F.out O)
 replace XR:=yD (kD XR.out O)
 clear O aj
 have ah:=kF (b:=w.heap.size + 1 + 1) F.out (j:=0) (v:=.slice a0 (x0).length p0) rfl
 have aa:=frozen_of_row w1 (w.heap.size + 1 + 1) 0 _ _ F.out
 go_upto_region 3 with fail
 generalize E:(w1.setCell ⟨w.heap.size + 1 + 1,0,none⟩ (.slice Z x0.length N))=v1
 have L:v1.heap[w.heap.size + 1 + 1]?=some (.cells #[.slice Z x0.length N,.slice a1 x1.length p1,.slice a2 (x2).length p2,.int .i64 x3,.int .i64 x4] 43 (0,0)):=by
  rw [← E]
  have y0:=heap_setCell_same _ (w.heap.size + 1 + 1) 0 _ 43 (.slice Z x0.length N) F.out
  exact y0
 replace XB:=yD (show v1.heap[w.heap.size]?=some (.cells #[.slice a0 (x0).length p0,.slice a1 x1.length p1,.slice a2 (x2).length p2,.int .i64 x3,.int .i64 x4] 43 (0,0)) from by rw [← E];exact ((heap_setCell_other _ ⟨w.heap.size + 1 + 1,0,none⟩ (w.heap.size) _ (show w.heap.size≠w.heap.size + 1 + 1 by omega)).trans XB.out))
 replace XR:=yD (show v1.heap[w.heap.size + 1]?=some (.cells #[.slice none 0 0,.slice none 0 0,.slice none 0 0,.int .i64 0,.int .i64 0] 43 (0,0)) from by rw [← E];exact ((heap_setCell_other _ ⟨w.heap.size + 1 + 1,0,none⟩ (w.heap.size + 1) _ (show w.heap.size + 1≠w.heap.size + 1 + 1 by omega)).trans XR.out))
 replace F:=yD L;clear L
 obtain ⟨E1,U,X⟩:=xM
 clear E F1 ah aa
 have af:=kF (b:=w.heap.size) XB.out (j:=1) (v:=.slice a1 x1.length p1) rfl
 replace af:=cL (kE.zD v1 (.cells #[] 5)) af
 go_wp2_with (at_builtin;refine kE.yF rfl _ _ 22 rfl (r:=kE.byte) (e:=5) underlying22 kBl rfl bB8 bB8 flatbyte (B:=v1.heap.size) (kE.ku.void (S:=fun _=>False)) bC1 bC1 ((r1.below E1).alloc _) (fun _ h=>h.elim) bC0 (by have:=r1.2.1;simp;unfold Big at this;omega) ?_)
 intro tv V hown D hz
 have ab:Below v1.heap.size v1 V:=(bR.alloc nL _).trans D
 obtain ⟨aw,bi,a8⟩:=hown.zL;obtain rfl:=a8
 have ag:=yD (hown.own r1.2.1)
 try simp only [List.nil_append] at ag
 clear hown D hz
 have an:=ab.size
 have F2:=(tQ E1 ab)
 replace XB:=yD (kD XB.out ab)
 replace F:=yD (kD F.out ab)
 replace XR:=yD (kD XR.out ab)
 replace X:=yD (X.out.below ab)
 clear ab af
 have ak:=kF (b:=w.heap.size + 1 + 1) F.out (j:=1) (v:=.slice a1 x1.length p1) rfl
 have ar:=frozen_of_row V (w.heap.size + 1 + 1) 1 _ _ F.out
 go_upto_region 4 with fail
 generalize E:(V.setCell ⟨w.heap.size + 1 + 1,1,none⟩ (.slice aw x1.length bi))=v2
 have L:v2.heap[w.heap.size + 1 + 1]?=some (.cells #[.slice Z x0.length N,.slice aw x1.length bi,.slice a2 (x2).length p2,.int .i64 x3,.int .i64 x4] 43 (0,0)):=by
  rw [← E]
  have y0:=heap_setCell_same _ (w.heap.size + 1 + 1) 1 _ 43 (.slice aw x1.length bi) F.out
  exact y0
 replace XB:=yD (show v2.heap[w.heap.size]?=some (.cells #[.slice a0 (x0).length p0,.slice a1 x1.length p1,.slice a2 (x2).length p2,.int .i64 x3,.int .i64 x4] 43 (0,0)) from by rw [← E];exact ((heap_setCell_other _ ⟨w.heap.size + 1 + 1,1,none⟩ (w.heap.size) _ (show w.heap.size≠w.heap.size + 1 + 1 by omega)).trans XB.out))
 replace XR:=yD (show v2.heap[w.heap.size + 1]?=some (.cells #[.slice none 0 0,.slice none 0 0,.slice none 0 0,.int .i64 0,.int .i64 0] 43 (0,0)) from by rw [← E];exact ((heap_setCell_other _ ⟨w.heap.size + 1 + 1,1,none⟩ (w.heap.size + 1) _ (show w.heap.size + 1≠w.heap.size + 1 + 1 by omega)).trans XR.out))
 replace F:=yD L;clear L
 obtain ⟨E2,W,X,ag⟩:=CR
 clear E F2 ak ar
 have R:=kF (b:=w.heap.size) XB.out (j:=2) (v:=.slice a2 (x2).length p2) rfl
 go_wp2_with fail
 refine (zi (r2.below E2)).mono ?_
 rintro e w3 ⟨tc,rfl,O3,Y⟩
 obtain ⟨av,rfl,ai⟩:=kU O3.raw
 obtain ⟨J,G,rfl,ax⟩:=kE.sl ai
 clear ai
 have ae:=yD O3;clear O3
 have a7:=Y.size
 have F3:=(tQ E2 Y)
 replace XB:=yD (kD XB.out Y)
 replace F:=yD (kD F.out Y)
 replace XR:=yD (kD XR.out Y)
 replace X:=yD (X.out.below Y)
 replace ag:=yD (ag.out.below Y)
 clear Y R
 have ap:=kF (b:=w.heap.size + 1 + 1) F.out (j:=2) (v:=.slice a2 (x2).length p2) rfl
 have aq:=frozen_of_row w3 (w.heap.size + 1 + 1) 2 _ _ F.out
 go_upto_region 5 with fail
 generalize E:(w3.setCell ⟨w.heap.size + 1 + 1,2,none⟩ (.slice J x2.length G))=v3
 have L:v3.heap[w.heap.size + 1 + 1]?=some (.cells #[.slice Z x0.length N,.slice aw x1.length bi,.slice J x2.length G,.int .i64 x3,.int .i64 x4] 43 (0,0)):=by
  rw [← E]
  have y0:=heap_setCell_same _ (w.heap.size + 1 + 1) 2 _ 43 (.slice J x2.length G) F.out
  exact y0
 replace XB:=yD (show v3.heap[w.heap.size]?=some (.cells #[.slice a0 (x0).length p0,.slice a1 x1.length p1,.slice a2 (x2).length p2,.int .i64 x3,.int .i64 x4] 43 (0,0)) from by rw [← E];exact ((heap_setCell_other _ ⟨w.heap.size + 1 + 1,2,none⟩ (w.heap.size) _ (show w.heap.size≠w.heap.size + 1 + 1 by omega)).trans XB.out))
 replace XR:=yD (show v3.heap[w.heap.size + 1]?=some (.cells #[.slice none 0 0,.slice none 0 0,.slice none 0 0,.int .i64 0,.int .i64 0] 43 (0,0)) from by rw [← E];exact ((heap_setCell_other _ ⟨w.heap.size + 1 + 1,2,none⟩ (w.heap.size + 1) _ (show w.heap.size + 1≠w.heap.size + 1 + 1 by omega)).trans XR.out))
 replace F:=yD L;clear L
 obtain ⟨E3,au,X,ag,ae⟩:=BC
 clear E F3 ap aq
 have K0:=kF (b:=w.heap.size + 1 + 1) F.out (j:=0) (v:=.slice Z x0.length N) rfl
 have R0:=kF (b:=w.heap.size + 1) XR.out (j:=0) rfl
 have Z0:=frozen_of_row v3 (w.heap.size + 1) 0 _ _ XR.out
 have K1:=kF (b:=w.heap.size + 1 + 1) F.out (j:=1) (v:=.slice aw x1.length bi) rfl
 have R1:=kF (b:=w.heap.size + 1) XR.out (j:=1) rfl
 have Z1:=frozen_of_row v3 (w.heap.size + 1) 1 _ _ XR.out
 have K2:=kF (b:=w.heap.size + 1 + 1) F.out (j:=2) (v:=.slice J x2.length G) rfl
 have R2:=kF (b:=w.heap.size + 1) XR.out (j:=2) rfl
 have Z2:=frozen_of_row v3 (w.heap.size + 1) 2 _ _ XR.out
 have K3:=kF (b:=w.heap.size + 1 + 1) F.out (j:=3) (v:=.int .i64 x3) rfl
 have R3:=kF (b:=w.heap.size + 1) XR.out (j:=3) rfl
 have Z3:=frozen_of_row v3 (w.heap.size + 1) 3 _ _ XR.out
 have K4:=kF (b:=w.heap.size + 1 + 1) F.out (j:=4) (v:=.int .i64 x4) rfl
 have R4:=kF (b:=w.heap.size + 1) XR.out (j:=4) rfl
 have Z4:=frozen_of_row v3 (w.heap.size + 1) 4 _ _ XR.out
 go_wp2
 have a4:=U.out
 have a6:=W.out
 have am:=au.out
 refine bodyPost_ret (v:=.agg #[.slice Z x0.length N,.slice aw x1.length bi,.slice J x2.length G,.int .i64 x3,.int .i64 x4]) (by simp [results,results143,go_sem,R0,Z0,R1,Z1,R2,Z2,R3,Z3,R4,Z4]) rfl ⟨[_,_,_,_,_],rfl,?_,?_⟩
 · exact aM
 repeat (first|(with_reducible exact E3) | refine Below.setCell ?_ rH _)
end Go.Proofs.YtonmjkmaadgceaaGreat

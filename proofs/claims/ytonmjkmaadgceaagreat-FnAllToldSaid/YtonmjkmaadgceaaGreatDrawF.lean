/-
  What a node is asked: drawn.
-/
import Derived.Test.YtonmjkmaadgceaaGreatDrawZ
import Derived.Test.YtonmjkmaadgceaaGreatDrawR
set_option linter.unusedVariables false
set_option linter.unusedSimpArgs false
set_option linter.unnecessarySimpa false
set_option maxRecDepth 100000
set_option maxHeartbeats 16000000
namespace Go.Proofs.YtonmjkmaadgceaaGreat
open Go.RowKit _root_.Go.Proofs.Tryz
theorem kDt {w:World} {c0 c1 c2 c3 c4 c5 N D:Value} {x0:List jG} {x1:kg} {x2:List kI} {x3:List jI} {x4:List jL} {x5:List kT} {x6:Int} {S:Nat→Prop} (h:yA.jY w [c0,c1,c2,c3,c4,c5,N,D] (x0,x1,x2,x3,x4,x5,x6) S) :
    (kE.slice 43 jA).jY w [c0] x0 S∧kN.jY w [c1,c2] x1 S∧(kE.slice 71 kJ).jY w [c3] x2 S∧(kE.slice 123 jF).jY w [c4] x3 S∧(kE.slice 102 jT).jY w [c5] x4 S∧(kE.slice 105 kL).jY w [N] x5 S∧D=.int .i64 x6∧(-9223372036854775808≤x6∧x6≤9223372036854775807):=by
 obtain ⟨d0,F,he,k0,h⟩:=kE.kCx (r:=(kE.slice 43 jA)) (q:=(kE.pair kN (kE.pair (kE.slice 71 kJ) (kE.pair (kE.slice 123 jF) (kE.pair (kE.slice 102 jT) (kE.pair (kE.slice 105 kL) kE.int)))))) (z:=(x0,x1,x2,x3,x4,x5,x6)) h
 obtain ⟨W,O,rfl,k1,h⟩:=kE.kCx (r:=kN) (q:=(kE.pair (kE.slice 71 kJ) (kE.pair (kE.slice 123 jF) (kE.pair (kE.slice 102 jT) (kE.pair (kE.slice 105 kL) kE.int))))) (z:=(x1,x2,x3,x4,x5,x6)) h
 obtain ⟨d2,e2,rfl,k2,h⟩:=kE.kCx (r:=(kE.slice 71 kJ)) (q:=(kE.pair (kE.slice 123 jF) (kE.pair (kE.slice 102 jT) (kE.pair (kE.slice 105 kL) kE.int)))) (z:=(x2,x3,x4,x5,x6)) h
 obtain ⟨d3,I,rfl,k3,h⟩:=kE.kCx (r:=(kE.slice 123 jF)) (q:=(kE.pair (kE.slice 102 jT) (kE.pair (kE.slice 105 kL) kE.int))) (z:=(x3,x4,x5,x6)) h
 obtain ⟨d4,H,rfl,k4,h⟩:=kE.kCx (r:=(kE.slice 102 jT)) (q:=(kE.pair (kE.slice 105 kL) kE.int)) (z:=(x4,x5,x6)) h
 obtain ⟨d5,G,rfl,k5,k6⟩:=kE.kCx (r:=(kE.slice 105 kL)) (q:=kE.int) (z:=(x5,x6)) h
 have l0:=(kE.slice 43 jA).len k0.1;have l1:=kN.len k1.1;have l2:=(kE.slice 71 kJ).len k2.1;have l3:=(kE.slice 123 jF).len k3.1;have l4:=(kE.slice 102 jT).len k4.1;have l5:=(kE.slice 105 kL).len k5.1;have E:=kE.yz (w:=w) k6.1
 match d0,l0,W,l1,d2,l2,d3,l3,d4,l4,d5,l5 with
 | [_],_,[_,_],_,[_],_,[_],_,[_],_,[_],_ =>
   simp only [List.cons_append,List.nil_append,List.cons.injEq,E.1,and_true] at he
   obtain ⟨rfl,rfl,rfl,rfl,rfl,rfl,rfl,rfl⟩:=he
   exact ⟨k0,k1,k2,k3,k4,k5,rfl,E.2⟩
theorem kKe {w:World} {c0 c1 c2 c3 c4 c5 N:Value} {x0:List jG} {x1:kg} {x2:List kI} {x3:List jI} {x4:List jL} {x5:List kT} {x6:Int} {S:Nat→Prop} (h0:(kE.slice 43 jA).jY w [c0] x0 S) (h1:kN.jY w [c1,c2] x1 S) (h2:(kE.slice 71 kJ).jY w [c3] x2 S) (h3:(kE.slice 123 jF).jY w [c4] x3 S) (h4:(kE.slice 102 jT).jY w [c5] x4 S) (h5:(kE.slice 105 kL).jY w [N] x5 S) (h6:-9223372036854775808≤x6∧x6≤9223372036854775807) :
    yA.jY w [c0,c1,c2,c3,c4,c5,N,.int .i64 x6] (x0,x1,x2,x3,x4,x5,x6) S :=
  kE.kAi (r:=(kE.slice 43 jA)) (q:=(kE.pair kN (kE.pair (kE.slice 71 kJ) (kE.pair (kE.slice 123 jF) (kE.pair (kE.slice 102 jT) (kE.pair (kE.slice 105 kL) kE.int)))))) (cs:=[c0]) (ds:=[c1,c2,c3,c4,c5,N,.int .i64 x6]) (z:=(x0,x1,x2,x3,x4,x5,x6)) h0
  (kE.kAi (r:=kN) (q:=(kE.pair (kE.slice 71 kJ) (kE.pair (kE.slice 123 jF) (kE.pair (kE.slice 102 jT) (kE.pair (kE.slice 105 kL) kE.int))))) (cs:=[c1,c2]) (ds:=[c3,c4,c5,N,.int .i64 x6]) (z:=(x1,x2,x3,x4,x5,x6)) h1
  (kE.kAi (r:=(kE.slice 71 kJ)) (q:=(kE.pair (kE.slice 123 jF) (kE.pair (kE.slice 102 jT) (kE.pair (kE.slice 105 kL) kE.int)))) (cs:=[c3]) (ds:=[c4,c5,N,.int .i64 x6]) (z:=(x2,x3,x4,x5,x6)) h2
  (kE.kAi (r:=(kE.slice 123 jF)) (q:=(kE.pair (kE.slice 102 jT) (kE.pair (kE.slice 105 kL) kE.int))) (cs:=[c4]) (ds:=[c5,N,.int .i64 x6]) (z:=(x3,x4,x5,x6)) h3
  (kE.kAi (r:=(kE.slice 102 jT)) (q:=(kE.pair (kE.slice 105 kL) kE.int)) (cs:=[c5]) (ds:=[N,.int .i64 x6]) (z:=(x4,x5,x6)) h4
  (kE.kAi (r:=(kE.slice 105 kL)) (q:=kE.int) (cs:=[N]) (ds:=[.int .i64 x6]) (z:=(x5,x6)) h5 (kE.flat.jY (kE.ky h6)))))))
theorem node_localO {w:World} {c0 c1 c2 c3 c4 c5 N D:Value} {x0:List jG} {x1:kg} {x2:List kI} {x3:List jI} {x4:List jL} {x5:List kT} {x6:Int} {S:Nat→Prop} (h:yA.own w [c0,c1,c2,c3,c4,c5,N,D] (x0,x1,x2,x3,x4,x5,x6) S) :
    ∃ A B:Nat→Prop,(kE.slice 43 jA).own w [c0] x0 A∧(kE.pair kN (kE.pair (kE.slice 71 kJ) (kE.pair (kE.slice 123 jF) (kE.pair (kE.slice 102 jT) (kE.pair (kE.slice 105 kL) kE.int))))).own w [c1,c2,c3,c4,c5,N,D] (x1,x2,x3,x4,x5,x6) B∧(∀ k,A k→S k)∧(∀ k,B k→S k)∧(∀ k,A k→B k→False):=by
 obtain ⟨a,d,A,B,he,h1,h2,hA,hB,hd⟩:=kE.kCe (r:=(kE.slice 43 jA)) (q:=(kE.pair kN (kE.pair (kE.slice 71 kJ) (kE.pair (kE.slice 123 jF) (kE.pair (kE.slice 102 jT) (kE.pair (kE.slice 105 kL) kE.int)))))) h
 have l1:=(kE.slice 43 jA).len h1.1
 match a,l1 with
 | [u],_=>simp only [List.singleton_append,List.cons.injEq] at he;obtain ⟨rfl,rfl⟩:=he;exact ⟨A,B,h1,h2,hA,hB,hd⟩
theorem node_ofL {w:World} {c0 c1 c2 c3 c4 c5 N D:Value} {x0:List jG} {x1:kg} {x2:List kI} {x3:List jI} {x4:List jL} {x5:List kT} {x6:Int} {S:Nat→Prop} (h0:(kE.slice 43 jA).jY w [c0] x0 S) (h1:(kE.pair kN (kE.pair (kE.slice 71 kJ) (kE.pair (kE.slice 123 jF) (kE.pair (kE.slice 102 jT) (kE.pair (kE.slice 105 kL) kE.int))))).jY w [c1,c2,c3,c4,c5,N,D] (x1,x2,x3,x4,x5,x6) S):yA.jY w [c0,c1,c2,c3,c4,c5,N,D] (x0,x1,x2,x3,x4,x5,x6) S :=
  kE.kAi (r:=(kE.slice 43 jA)) (q:=(kE.pair kN (kE.pair (kE.slice 71 kJ) (kE.pair (kE.slice 123 jF) (kE.pair (kE.slice 102 jT) (kE.pair (kE.slice 105 kL) kE.int)))))) (cs:=[c0]) (ds:=[c1,c2,c3,c4,c5,N,D]) (z:=(x0,x1,x2,x3,x4,x5,x6)) h0 h1
def kGj (x:yI):Prop:=x.1.length≤10∧x.2.1.2.length≤9∧kAa x.2.2.1 14∧kFc x.2.2.2.1∧x.2.2.2.2.1.length≤48∧x.2.2.2.2.2.1.length≤48∧-1≤x.2.2.2.2.2.2∧x.2.2.2.2.2.2≤0
theorem tameN.kGj {x:yI} (h:tameN x):kGj x:=⟨by have:=h.1;omega,h.2⟩
def DrawnA (w0 w:World) (p:Nat) (e:Ending) (w':World):Prop:=∃ cs x ct t tb,e=.returned (.tuple #[.agg cs.toArray,.agg ct.toArray])∧yA.jY w' cs x (jR tb w'.heap.size)∧kGj x∧je.jY w' ct t (jR w.heap.size tb)∧lenT t∧(w.heap.size≤tb∧tb≤w'.heap.size)∧yK w0 w' p∧Touch (fun k=>k=p) w w'
theorem kWg {w0 w:World} {p:Nat} (hc:yK w0 w p) :
    Calls prog 39 #[.pointer (some ⟨p,0,none⟩)] w fun e w'=>DrawnA w0 w p e w':=by
 go_enter func39,ntmps39
 obtain ⟨b7,cj⟩:=hc.lt
 go_upto_region 1 with fail
 generalize F:World.alloc (World.alloc w _) _=w1
 obtain ⟨hb,RN,RT,bn⟩:=uP
 clear F
 obtain ⟨hc,H⟩:=CQ
 clear hb
 go_wp2_with fail
 refine (kUb hc).mono ?_
 rintro e V ⟨cs,x,ct,t,tb,rfl,hO,hx,Y,hlt,⟨e9,fb⟩,G,D⟩
 have bo:=D.size
 replace RN:=D.kD RN bB9
 replace RT:=D.kD RT bB9
 replace H:=H.trans D
 clear hc D
 have hc:=G
 clear G
 obtain ⟨av,br,bd,bw,aw,bz,ag,bt,rfl⟩:=kDj Y.rd.1
 obtain ⟨a0,c0,a1,c1,a2,c2,a3,c3,a4,c4,a5,c5,rfl⟩:=kDu hO.raw
 obtain ⟨x0,⟨kc,xe⟩,x2,x3,x4,x5,x6⟩:=x
 replace hO:yA.own _ [.slice a0 x0.length c0,.int .i64 kc,.slice a1 xe.length c1,.slice a2 x2.length c2,.slice a3 x3.length c3,.slice a4 x4.length c4,.slice a5 x5.length c5,.int .i64 x6] (x0,(kc,xe),x2,x3,x4,x5,x6) _:=hO
 have L:=yD hO
 have U:=yD Y
 have O:=yD hx
 have dn:=yD hlt
 clear hO Y hx hlt
 go_upto_region 2 with fail
 generalize F:World.alloc (World.alloc V _) _=w3
 have hb:Below V.heap.size V w3:=by rw [← F];exact (bR.alloc nL _).alloc bC0 _
 have BN:w3.heap[V.heap.size]?=some (.cells #[.slice a0 x0.length c0,.int .i64 kc,.slice a1 xe.length c1,.slice a2 x2.length c2,.slice a3 x3.length c3,.slice a4 x4.length c4,.slice a5 x5.length c5,.int .i64 x6] 33 (0,0)):=sO
 have BT:w3.heap[V.heap.size + 1]?=some (.cells #[.slice av t.1.length br,.slice bd t.2.1.length bw,.slice aw t.2.2.1.length bz,.slice ag t.2.2.2.length bt] 38 (0,0)):=by rw [← F];exact kG bC0
 have bp:V.heap.size + 2≤w3.heap.size:=bA3
 clear F
 replace RN:=kD RN hb
 replace RT:=kD RT hb
 obtain ⟨L,U⟩:=BV
 obtain ⟨hc,H⟩:=oP
 clear hb
 obtain ⟨nb,d2⟩:∃ b_,b_=V.heap.size:=⟨_,rfl⟩
 rw [← d2] at BN BT ⊢
 have f0:=Nat.le_of_eq d2
 have fy:=Nat.le_of_eq d2.symm
 clear d2
 go_wp2_with fail
 refine (kV (n:=14) hc bB8).mono ?_
 rintro e w4 ⟨m,bq,ao,ck,rfl,G,D⟩
 have b9:=D.size
 replace RN:=D.kD RN bB9
 replace RT:=D.kD RT bB9
 replace BN:=D.kD BN bB9
 replace BT:=D.kD BT bB9
 replace L:=yD (L.out.touch D qB)
 replace U:=yD (U.out.touch D qB)
 replace H:=H.trans D
 clear hc D
 have hc:=G
 clear G
 replace ao:=ao bB8
 clear ck
 obtain ⟨m,rfl⟩:=Int.eq_ofNat_of_zero_le bq
 have X:Touch (fun k=>k=p∨k=nb∨(tb≤k∧k < V.heap.size)) w4 w4:=Touch.of_below bR
 have HR:=yD (L.out.jY.wide (T:=(fun k=>tb≤k∧k < w4.heap.size∧k≠nb∧k≠nb + 1)) (fun k q=>⟨q.1,by have:=q.2;omega,by have:=q.2;omega,by have:=q.2;omega⟩))
 go_upto_block 0 with fail
 go_cut [] from 11 to 44 (fun wc=>∃ (a0:Option Addr) (c0:Nat) (kc:Int) (a1:Option Addr) (c1:Nat) (a2:Option Addr) (c2:Nat) (a3:Option Addr) (c3:Nat) (a4:Option Addr) (c4:Nat) (a5:Option Addr) (c5:Nat) (x0:List jG) (xe:List kr) (x2:List kI) (x3:List jI) (x4:List jL) (x5:List kT) (x6:Int),wc.heap[nb]?=some (.cells #[.slice a0 x0.length c0,.int .i64 kc,.slice a1 xe.length c1,.slice a2 x2.length c2,.slice a3 x3.length c3,.slice a4 x4.length c4,.slice a5 x5.length c5,.int .i64 x6] 33 (0,0))∧Hid (yA.jY wc [.slice a0 x0.length c0,.int .i64 kc,.slice a1 xe.length c1,.slice a2 x2.length c2,.slice a3 x3.length c3,.slice a4 x4.length c4,.slice a5 x5.length c5,.int .i64 x6] (x0,(kc,xe),x2,x3,x4,x5,x6) (fun k=>tb≤k∧k < wc.heap.size∧k≠nb∧k≠nb + 1))∧Hid (kGj (x0,(kc,xe),x2,x3,x4,x5,x6))∧w4.heap.size≤wc.heap.size∧yK w0 wc p∧Touch (fun k=>k=p∨k=nb∨(tb≤k∧k < V.heap.size)) w4 wc)
 case first =>
  clear RN RT BT U H dn
  by_cases az:m=0
  · subst az
    clear L
    go_wp2_with fail
    refine (kWl hc).mono ?_
    rintro e cf ⟨va,vc,l,rfl,ak,hP,G,D⟩
    obtain ⟨de,X,BN,HR⟩:=AY
    clear hc D
    have hc:=G
    clear G
    have HP:=yD hP
    clear hP
    obtain ⟨bb,am,ae,R,Z,aj,ai,ah⟩:=zt BN
    obtain ⟨N,b2,b4,ax,b0,bk,b3,bx⟩:=kGn BN
    go_wp2
    generalize F:World.setCell cf _ _=bu
    have Y:Touch (fun k=>k=nb) cf bu:=sU
    replace BN:bu.heap[nb]?=some (.cells #[.slice a0 x0.length c0,.int .i64 kc,.slice a1 xe.length c1,.slice va l.length vc,.slice a3 x3.length c3,.slice a4 x4.length c4,.slice a5 x5.length c5,.int .i64 x6] 33 (0,0)):=by rw [← F];exact kH (BN) 3
    have cq:=Y.size
    clear F
    clear bb am ae R Z aj ai ah N b2 b4 ax b0 bk b3 bx
    obtain ⟨HR,HP⟩:=D6
    obtain ⟨hc,X⟩:=uU
    clear Y
    obtain ⟨k0,k1,k2,k3,k4,k5,_,k6⟩:=kDt (HR.out.wide (T:=(fun k=>tb≤k∧k < bu.heap.size∧k≠nb∧k≠nb + 1)) pQ)
    have kn:=HP.out.wide (T:=(fun k=>tb≤k∧k < bu.heap.size∧k≠nb∧k≠nb + 1)) dJ
    go_meet
    exact ⟨a0,c0,kc,a1,c1,va,vc,a3,c3,a4,c4,a5,c5,x0,xe,l,x3,x4,x5,x6,BN,yD (kKe k0 k1 kn k3 k4 k5 k6),yD (⟨O.out.kGj.1,O.out.2.1,ak,O.out.2.2.2⟩),by omega,hc,X⟩
  have bm:¬ (m:Int)=0:=bB9
  by_cases bj:m=1
  · subst bj
    clear L
    go_wp2_with fail
    refine (kWj hc).mono ?_
    rintro e cf ⟨va,vc,l,rfl,hP,ak,G,D⟩
    obtain ⟨de,X,BN,HR⟩:=AY
    clear hc D
    have hc:=G
    clear G
    have HP:=yD hP.jY
    clear hP
    obtain ⟨bb,am,ae,R,Z,aj,ai,ah⟩:=zt BN
    obtain ⟨N,b2,b4,ax,b0,bk,b3,bx⟩:=kGn BN
    go_wp2
    generalize F:World.setCell cf _ _=bu
    have Y:Touch (fun k=>k=nb) cf bu:=sU
    replace BN:bu.heap[nb]?=some (.cells #[.slice a0 x0.length c0,.int .i64 kc,.slice a1 xe.length c1,.slice a2 x2.length c2,.slice a3 x3.length c3,.slice va l.length vc,.slice a5 x5.length c5,.int .i64 x6] 33 (0,0)):=by rw [← F];exact kH (BN) 5
    have cq:=Y.size
    clear F
    clear bb am ae R Z aj ai ah N b2 b4 ax b0 bk b3 bx
    obtain ⟨HR,HP⟩:=D6
    obtain ⟨hc,X⟩:=uU
    clear Y
    obtain ⟨k0,k1,k2,k3,k4,k5,_,k6⟩:=kDt (HR.out.wide (T:=(fun k=>tb≤k∧k < bu.heap.size∧k≠nb∧k≠nb + 1)) pQ)
    have kn:=HP.out.wide (T:=(fun k=>tb≤k∧k < bu.heap.size∧k≠nb∧k≠nb + 1)) dJ
    go_meet
    exact ⟨a0,c0,kc,a1,c1,a2,c2,a3,c3,va,vc,a5,c5,x0,xe,x2,x3,l,x5,x6,BN,yD (kKe k0 k1 k2 k3 kn k5 k6),yD (⟨O.out.kGj.1,O.out.2.1,O.out.2.2.1,O.out.2.2.2.1,ak.1,O.out.2.2.2.2.2⟩),by omega,hc,X⟩
  have bv:¬ (m:Int)=1:=bB9
  by_cases a7:m=2
  · subst a7
    clear L
    go_wp2_with fail
    refine (kWh hc).mono ?_
    rintro e cf ⟨va,vc,l,rfl,hP,ak,G,D⟩
    obtain ⟨de,X,BN,HR⟩:=AY
    clear hc D
    have hc:=G
    clear G
    have HP:=yD hP.jY
    clear hP
    obtain ⟨bb,am,ae,R,Z,aj,ai,ah⟩:=zt BN
    obtain ⟨N,b2,b4,ax,b0,bk,b3,bx⟩:=kGn BN
    go_wp2
    generalize F:World.setCell cf _ _=bu
    have Y:Touch (fun k=>k=nb) cf bu:=sU
    replace BN:bu.heap[nb]?=some (.cells #[.slice a0 x0.length c0,.int .i64 kc,.slice a1 xe.length c1,.slice a2 x2.length c2,.slice a3 x3.length c3,.slice a4 x4.length c4,.slice va l.length vc,.int .i64 x6] 33 (0,0)):=by rw [← F];exact kH (BN) 6
    have cq:=Y.size
    clear F
    clear bb am ae R Z aj ai ah N b2 b4 ax b0 bk b3 bx
    obtain ⟨HR,HP⟩:=D6
    obtain ⟨hc,X⟩:=uU
    clear Y
    obtain ⟨k0,k1,k2,k3,k4,k5,_,k6⟩:=kDt (HR.out.wide (T:=(fun k=>tb≤k∧k < bu.heap.size∧k≠nb∧k≠nb + 1)) pQ)
    have kn:=HP.out.wide (T:=(fun k=>tb≤k∧k < bu.heap.size∧k≠nb∧k≠nb + 1)) dJ
    go_meet
    exact ⟨a0,c0,kc,a1,c1,a2,c2,a3,c3,a4,c4,va,vc,x0,xe,x2,x3,x4,l,x6,BN,yD (kKe k0 k1 k2 k3 k4 kn k6),yD (⟨O.out.kGj.1,O.out.2.1,O.out.2.2.1,O.out.2.2.2.1,O.out.2.2.2.2.1,ak,O.out.2.2.2.2.2.2⟩),by omega,hc,X⟩
  have cc:¬ (m:Int)=2:=bB9
  by_cases b5:m=3
  · subst b5
    clear L
    go_wp2_with fail
    refine (kWm hc).mono ?_
    rintro e cf ⟨va,vc,vk,l,rfl,hP,ak,G,D⟩
    obtain ⟨de,X,BN,HR⟩:=AY
    clear hc D
    have hc:=G
    clear G
    have HP:=yD hP
    clear hP
    obtain ⟨bb,am,ae,R,Z,aj,ai,ah⟩:=zt BN
    obtain ⟨N,b2,b4,ax,b0,bk,b3,bx⟩:=kGn BN
    go_wp2
    generalize F:World.setCell (World.setCell cf _ _) _ _=bu
    have Y:Touch (fun k=>k=nb) cf bu:=mO
    replace BN:bu.heap[nb]?=some (.cells #[.slice a0 x0.length c0,.int .i64 vk,.slice va l.length vc,.slice a2 x2.length c2,.slice a3 x3.length c3,.slice a4 x4.length c4,.slice a5 x5.length c5,.int .i64 x6] 33 (0,0)):=by rw [← F];exact kH (kH (BN) 1) 2
    have cq:=Y.size
    clear F
    clear bb am ae R Z aj ai ah N b2 b4 ax b0 bk b3 bx
    obtain ⟨HR,HP⟩:=D6
    obtain ⟨hc,X⟩:=uU
    clear Y
    obtain ⟨k0,k1,k2,k3,k4,k5,_,k6⟩:=kDt (HR.out.wide (T:=(fun k=>tb≤k∧k < bu.heap.size∧k≠nb∧k≠nb + 1)) pQ)
    have kn:=HP.out.wide (T:=(fun k=>tb≤k∧k < bu.heap.size∧k≠nb∧k≠nb + 1)) dJ
    go_meet
    exact ⟨a0,c0,vk,va,vc,a2,c2,a3,c3,a4,c4,a5,c5,x0,l,x2,x3,x4,x5,x6,BN,yD (kKe k0 kn k2 k3 k4 k5 k6),yD (⟨O.out.kGj.1,by show l.length≤9;omega,O.out.2.2⟩),by omega,hc,X⟩
  have d4:¬ (m:Int)=3:=bB9
  by_cases b1:m=4
  · subst b1
    clear HR
    obtain ⟨A_,B_,hA,hB,sA,sB,dt⟩:=node_localO L.out
    have HA:=yD hA
    have HB:=yD hB
    clear hA hB L
    go_upto_region 12 with fail
    refine zT (fun W=>Touch (fun k=>k=p) w4 W∧yK w0 W p) (fun _=>True) [] [(0,true),(1,true),(2,true),(3,false),(4,false)] [(5,false),(6,true),(7,false)] bB4 bB4 qD (⟨Touch.of_below bR.drew,hc.below bR.drew⟩) ?_
    intro wS E
    simp only [jD,kAv,List.getElem?_cons_succ,List.getElem?_cons_zero,List.map_cons,List.map_nil]
    refine pre_nil ?_
    refine jX (v:=?_) rfl (fun W hW=>?_) ?_;rotate_left;(· go_simp;try with_reducible rfl)
    refine kX ?_
    refine jX (v:=?_) rfl (fun W hW=>?_) ?_;rotate_left;(· have cg:=kF (hW.1.kD BN bB9) (j:=0) (v:=.slice a0 x0.length c0) rfl;have c9:=kF (hW.1.kD BN bB9) (j:=1) (v:=.int .i64 kc) rfl;have di:=kF (hW.1.kD BN bB9) (j:=2) (v:=.slice a1 xe.length c1) rfl;have df:=kF (hW.1.kD BN bB9) (j:=3) (v:=.slice a2 x2.length c2) rfl;have dd:=kF (hW.1.kD BN bB9) (j:=4) (v:=.slice a3 x3.length c3) rfl;have dk:=kF (hW.1.kD BN bB9) (j:=5) (v:=.slice a4 x4.length c4) rfl;have dr:=kF (hW.1.kD BN bB9) (j:=6) (v:=.slice a5 x5.length c5) rfl;have dw:=kF (hW.1.kD BN bB9) (j:=7) (v:=.int .i64 x6) rfl;clear hW;go_simp;try with_reducible rfl)
    refine kX ?_
    refine jX (v:=?_) rfl (fun W hW=>?_) ?_;rotate_left;(· go_simp;try with_reducible rfl)
    refine kX ?_
    refine yu rfl (fun K J=>?_);go_simp;refine (kQf E.2).mono ?_;rintro e wS1 ⟨ds,x,rfl,hX,ci,be,a9⟩;obtain ⟨bg,dc,ay,c6,bf,db,rfl⟩:=yN hX.raw;have HX:=yD hX;have fd:=E.1.size;replace E:=And.intro (E.1.trans a9) be;refine J _ _ E ?_;clear J K be a9 hX
    refine kX ?_
    refine yu rfl (fun K J=>?_);go_simp;have aa:Touch (fun k=>k=p) w4 (World.alloc wS1 (.cells #[.slice bg x.1.length dc,.slice ay x.2.1.length c6,.slice bf x.2.2.1.length db,.int .i64 x.2.2.2.1,.int .i64 x.2.2.2.2] 43))∧yK w0 (World.alloc wS1 (.cells #[.slice bg x.1.length dc,.slice ay x.2.1.length c6,.slice bf x.2.2.1.length db,.int .i64 x.2.2.2.1,.int .i64 x.2.2.2.2] 43)) p:=⟨E.1.trans (Touch.of_below (bR.alloc nL _)),E.2.below (bR.alloc nL _)⟩;refine J _ _ aa ?_;clear J K aa
    refine kX ?_
    have zS:=E.1.size
    have B5:=E.1.kD BN bB9
    have bc:=E.2
    have al:=X.jZ E.1 (fun k q=>.inl (.inl q))
    have au:=HA.out.touch E.1 bU
    have ap:=HB.out.touch E.1 bU
    clear BN hc X HA HB
    obtain ⟨v3,u3,ba,af,an⟩:=kE.kFu (P:=prog) (t:=24) (ty:=24) (r:=jA) (e:=43) (c:=1) underlying24 kKv rfl bB8 bB8 au bR HX.out (fun k q1 q2=>by have h1:=sA k q1;have h2:=h1.2;have h3:=q2.1;omega) (Nat.lt_of_le_of_lt O.out.1 bB8)
    have z3:=an.size
    have ab:Touch (fun k=>tb≤k∧k < V.heap.size) wS1 u3:=an.wide (fun k q=>⟨(sA k q.1).1,(sA k q.1).2⟩)
    have cd:=ap.touch an (fun k q h=>dt k h.1 q)
    have b8:(x0++[x]).length≤10:=by have h1:=O.out.1;have h2:x0.length≤9:=h1;simp;omega
    generalize x0++[x]=q at *
    obtain ⟨aq,a8,ac,_⟩:=kE.kAx af.raw
    obtain rfl:v3=_:=by simpa using ac
    have BN:=ab.kD B5 bB9
    have hc:=bc.touch ab tT sM
    have X:=al.jZ ab (fun k q=>.inl (.inr (.inr q)))
    obtain ⟨a6,bh,d6,dh,dq,ei,eh,dg⟩:=zt BN
    obtain ⟨bi,bl,d3,d0,d8,d1,dz,d9⟩:=kGn BN
    clear B5 bc al au ap ac an ab E
    refine zl trivial ?_
    refine ko rfl (fun K J=>?_);refine kE.jP _ _ _ rfl bC1 bC1 ba ?_;refine J _ _ trivial ?_;clear J K
    refine kX ?_
    refine kS ?_
    refine ko rfl (fun K J=>?_);go_simp;refine J _ _ trivial ?_;clear J K
    refine kX ?_
    refine kZ ?_
    generalize F:World.setCell u3 _ _=wQ
    have Y:Touch (fun k=>k=nb) u3 wQ:=by rw [← F];exact kC u3 nb 0 _
    have BQ:wQ.heap[nb]?=some (.cells #[.slice aq q.length a8,.int .i64 kc,.slice a1 xe.length c1,.slice a2 x2.length c2,.slice a3 x3.length c3,.slice a4 x4.length c4,.slice a5 x5.length c5,.int .i64 x6] 33 (0,0)):=by rw [← F];exact kH BN 0
    have b6:=Y.size
    clear F
    replace hc:=hc.touch Y bB9 wB
    replace X:=X.jZ Y (fun k q=>.inl (.inr (.inl q)))
    have k0:=(af.jY.touch Y (fun k q h=>by rcases q with q | q | q;(have h1:=(sA k q).2;omega);(have h1:=q.1;omega);(have h1:=q.1;omega))).wide (T:=(fun k=>tb≤k∧k < wQ.heap.size∧k≠nb∧k≠nb + 1)) (fun k q=>by rcases q with q | q | q;(have h1:=sA k q;have h2:=h1.2;exact ⟨h1.1,by omega,by omega,by omega⟩);exact ⟨by have:=q.1;omega,by have:=q.2;omega,by have:=q.1;omega,by have:=q.1;omega⟩;exact ⟨by have:=q.1;omega,by have:=q.2;omega,by have:=q.1;omega,by have:=q.1;omega⟩)
    have k1:=(cd.jY.touch Y (fun k q h=>by have h1:=(sB k q).2;omega)).wide (T:=(fun k=>tb≤k∧k < wQ.heap.size∧k≠nb∧k≠nb + 1)) (fun k q=>by have h1:=sB k q;have h2:=h1.2;exact ⟨h1.1,by omega,by omega,by omega⟩)
    go_wp2
    go_meet
    exact ⟨aq,a8,kc,a1,c1,a2,c2,a3,c3,a4,c4,a5,c5,q,xe,x2,x3,x4,x5,x6,BQ,yD (node_ofL k0 k1),yD ⟨b8,O.out.2⟩,by omega,hc,X⟩
  have ee:¬ (m:Int)=4:=bB9
  by_cases ar:m=5
  · subst ar
    clear L
    obtain ⟨bb,am,ae,R,Z,aj,ai,ah⟩:=zt BN
    obtain ⟨N,b2,b4,ax,b0,bk,b3,bx⟩:=kGn BN
    go_wp2
    generalize F:World.setCell w4 _ _=cf
    have Y:Touch (fun k=>k=nb) w4 cf:=sU
    replace BN:cf.heap[nb]?=some (.cells #[.slice a0 x0.length c0,.int .i64 kc,.slice a1 xe.length c1,.slice a2 x2.length c2,.slice a3 x3.length c3,.slice a4 x4.length c4,.slice a5 x5.length c5,.int .i64 (-1)] 33 (0,0)):=by rw [← F];exact kH (BN) 7
    have de:=Y.size
    clear F
    clear bb am ae R Z aj ai ah N b2 b4 ax b0 bk b3 bx
    replace HR:=yD (HR.out.touch Y nO)
    obtain ⟨hc,X⟩:=uU
    clear Y
    obtain ⟨k0,k1,k2,k3,k4,k5,_,k6⟩:=kDt (HR.out.wide (T:=(fun k=>tb≤k∧k < cf.heap.size∧k≠nb∧k≠nb + 1)) pQ)
    go_meet
    exact ⟨a0,c0,kc,a1,c1,a2,c2,a3,c3,a4,c4,a5,c5,x0,xe,x2,x3,x4,x5,(-1),BN,yD (kKe k0 k1 k2 k3 k4 k5 bB9),yD ⟨O.out.kGj.1,O.out.2.1,O.out.2.2.1,O.out.2.2.2.1,O.out.2.2.2.2.1,O.out.2.2.2.2.2.1,by show (-1:Int)≤-1;omega,by show (-1:Int)≤0;omega⟩,by omega,hc,X⟩
  have dy:¬ (m:Int)=5:=bB9
  go_wp2
  go_meet
  exact ⟨a0,c0,kc,a1,c1,a2,c2,a3,c3,a4,c4,a5,c5,x0,xe,x2,x3,x4,x5,x6,BN,HR,yD O.out.kGj,by omega,hc,X⟩
 clear L HR O BN X
 rename World=>wd
 obtain ⟨a0,c0,kc,a1,c1,a2,c2,a3,c3,a4,c4,a5,c5,x0,xe,x2,x3,x4,x5,x6,BN,HR,c8,zd,da,ce⟩:=hcut
 replace RN:=ce.kD RN bB9
 replace RT:=ce.kD RT bB9
 replace BT:=ce.kD BT bB9
 replace H:=H.jZ ce wG
 replace U:=yD (U.out.touch ce nO)
 clear hc
 have hc:=da
 clear da ce
 go_upto_region 15 with fail
 have FX:=yD (fun (W:World) (hW:Touch (fun k=>k=w.heap.size∨k=w.heap.size + 1) wd W)=>And.intro (kF (hW.kD BN bB9) (j:=0) (v:=.slice a0 x0.length c0) rfl) (And.intro (kF (hW.kD BN bB9) (j:=1) (v:=.int .i64 kc) rfl) (And.intro (kF (hW.kD BN bB9) (j:=2) (v:=.slice a1 xe.length c1) rfl) (And.intro (kF (hW.kD BN bB9) (j:=3) (v:=.slice a2 x2.length c2) rfl) (And.intro (kF (hW.kD BN bB9) (j:=4) (v:=.slice a3 x3.length c3) rfl) (And.intro (kF (hW.kD BN bB9) (j:=5) (v:=.slice a4 x4.length c4) rfl) (And.intro (kF (hW.kD BN bB9) (j:=6) (v:=.slice a5 x5.length c5) rfl) (And.intro (kF (hW.kD BN bB9) (j:=7) (v:=.int .i64 x6) rfl) (And.intro (kF (hW.kD BT bB9) (j:=0) (v:=.slice av t.1.length br) rfl) (And.intro (kF (hW.kD BT bB9) (j:=1) (v:=.slice bd t.2.1.length bw) rfl) (And.intro (kF (hW.kD BT bB9) (j:=2) (v:=.slice aw t.2.2.1.length bz) rfl) (kF (hW.kD BT bB9) (j:=3) (v:=.slice ag t.2.2.2.length bt) rfl))))))))))))
 refine kAp (fun W=>Touch (fun k=>k=w.heap.size∨k=w.heap.size + 1) wd W) bB4 (Touch.of_below bR.drew) ?_
 intro t1 dj E
 have bD:Below wd.heap.size wd t1:=(by rw [dj];exact bR.drew)
 replace RN:=kD RN bD
 replace RT:=kD RT bD
 clear bD dj
 have ga:=E.size
 refine jB 0 ?_
 refine kX ?_
 refine jB 1 ?_
 refine kX ?_
 refine kY (k:=2) rfl bB4 rfl (fun K J=>?_)
 obtain ⟨ch,cv,cl,cz,dm,ea,ed,eg⟩:=zt RN
 obtain ⟨cw,co,cu,c7,dl,eb,ef,ec⟩:=kGn RN
 go_simp
 generalize F:World.setCell (World.setCell (World.setCell (World.setCell (World.setCell (World.setCell (World.setCell (World.setCell t1 _ _) _ _) _ _) _ _) _ _) _ _) _ _) _ _=t2
 have Y:Touch (fun k=>k=w.heap.size) t1 t2:=(by rw [← F];exact (((((((kC _ _ _ _).trans (kC _ _ _ _)).trans (kC _ _ _ _)).trans (kC _ _ _ _)).trans (kC _ _ _ _)).trans (kC _ _ _ _)).trans (kC _ _ _ _)).trans (kC _ _ _ _))
 replace RN:t2.heap[w.heap.size]?=some (.cells #[.slice a0 x0.length c0,.int .i64 kc,.slice a1 xe.length c1,.slice a2 x2.length c2,.slice a3 x3.length c3,.slice a4 x4.length c4,.slice a5 x5.length c5,.int .i64 x6] 33 (0,0)):=(by rw [← F];exact kH (kH (kH (kH (kH (kH (kH (kH (RN) 0) 1) 2) 3) 4) 5) 6) 7)
 have d7:=Y.size
 clear F ch cw cv co cl cu cz c7 dm dl ea eb ed ef eg ec
 replace RT:=Y.kD RT bB9
 replace E:=E.trans (Y.wide (fun k q=>.inl q))
 clear Y
 refine J _ _ E ?_
 clear J K
 refine kX ?_
 refine kY (k:=3) rfl bB4 rfl (fun K J=>?_)
 obtain ⟨ch,cv,cl,cz⟩:=kAh RT
 obtain ⟨cw,co,cu,c7⟩:=kNk RT
 go_simp
 generalize F:World.setCell (World.setCell (World.setCell (World.setCell t2 _ _) _ _) _ _) _ _=t3
 obtain ⟨Y,RT,d5⟩:=x9
 clear F ch cw cv co cl cu cz c7
 replace RN:=Y.kD RN bB9
 replace E:=E.trans (Y.wide (fun k q=>.inr q))
 clear Y
 refine J _ _ E ?_
 clear J K
 refine kX ?_
 refine yR bB4 ?_
 obtain ⟨fq,fu,fk,fo,ff,fp,fj,fl⟩:=zt RN
 obtain ⟨dp,du,dx,dv⟩:=kAh RT
 have zS:=E.size
 go_wp2
 refine bodyPost_ret (v:=.tuple #[.agg #[.slice a0 x0.length c0,.int .i64 kc,.slice a1 xe.length c1,.slice a2 x2.length c2,.slice a3 x3.length c3,.slice a4 x4.length c4,.slice a5 x5.length c5,.int .i64 x6],.agg #[.slice av t.1.length br,.slice bd t.2.1.length bw,.slice aw t.2.2.1.length bz,.slice ag t.2.2.2.length bt]]) (by simp [results,results39,go_sem,fq,fu,fk,fo,ff,fp,fj,fl,dp,du,dx,dv]) rfl ⟨[.slice a0 x0.length c0,.int .i64 kc,.slice a1 xe.length c1,.slice a2 x2.length c2,.slice a3 x3.length c3,.slice a4 x4.length c4,.slice a5 x5.length c5,.int .i64 x6],(x0,(kc,xe),x2,x3,x4,x5,x6),[.slice av t.1.length br,.slice bd t.2.1.length bw,.slice aw t.2.2.1.length bz,.slice ag t.2.2.2.length bt],t,tb,rfl,?_,c8.out,?_,dn.out,⟨by omega,by omega⟩,hc.touch E bB9 wG,H.jZ E wG⟩
 · exact (HR.out.touch E sK).wide (T:=jR tb _) (fun j I=>⟨I.1,by have:=I.2.1;omega⟩)
 exact (U.out.touch E sK).wide (T:=jR w.heap.size tb) mR
theorem rdB_at {α:Type} {r:kE α} {e:TypeId} {w:World} {a:Option Addr} {len cap:Nat} {xs:List α} {S:Nat→Prop} (h:(kE.slice e r).jY w [.slice a len cap] xs S) (h0:0 < xs.length):∃ b off,a=some ⟨b,off,none⟩∧S b:=by
 obtain ⟨⟨a',H,cap',h0,h1,h2,h3,h4⟩,fc,O⟩:=h
 simp only [List.cons.injEq,Value.slice.injEq,and_true] at h0
 obtain ⟨rfl,rfl,rfl⟩:=h0
 rcases h4 with ⟨rfl,_⟩|⟨b,off,ha,cur,e',fr,p,c,q,hb,hc,hp,hl,hf,hS,hx⟩
 · simp at h0
 exact ⟨b,off,ha,hS⟩
end Go.Proofs.YtonmjkmaadgceaaGreat

/-
  What a node is asked: drawn.
-/
import Derived.Test.YtjhfdpopkkmigaaGreatDrawZ
import Derived.Test.YtjhfdpopkkmigaaGreatDrawR
set_option linter.unusedVariables false
set_option linter.unusedSimpArgs false
set_option linter.unnecessarySimpa false
set_option maxRecDepth 100000
set_option maxHeartbeats 16000000
open Go renaming frozen_of_row->Aa,World->Ab,Ending->Ag
open _root_ renaming List->Ac,Option->Ai
open List renaming getElem?_cons_succ->Ad,getElem?_cons_zero->Ae
open List.cons renaming injEq->Ah
open Go.Act renaming put->Aj
namespace Go.Proofs.YtjhfdpopkkmigaaGreat
open Go.RowKit _root_.Go.Proofs.Tryz
theorem kFf {w:Ab} {c0 c1 c2 c3 c4 c5 N D:Value} {x0:Ac jL} {x1:kg} {x2:Ac kI} {x3:Ac jK} {x4:Ac kz} {X:Ac kT} {o:Int} {S:Nat->Prop} (h:je.ji w [c0,c1,c2,c3,c4,c5,N,D] (x0,x1,x2,x3,x4,X,o) S) :
    (kD.slice 38 jF).ji w [c0] x0 S/\kP.ji w [c1,c2] x1 S/\(kD.slice 145 kJ).ji w [c3] x2 S/\(kD.slice 102 jE).ji w [c4] x3 S/\(kD.slice 131 kS).ji w [c5] x4 S/\(kD.slice 149 kL).ji w [N] X S/\D=.int .i64 o/\Qi o:=by
 obtain ⟨Z,e0,he,k0,h⟩:=kD.kFe (r:=(kD.slice 38 jF)) (q:=(kD.pair kP (kD.pair (kD.slice 145 kJ) (kD.pair (kD.slice 102 jE) (kD.pair (kD.slice 131 kS) (kD.pair (kD.slice 149 kL) kD.int)))))) (z:=(x0,x1,x2,x3,x4,X,o)) h
 obtain ⟨H,e1,rfl,k1,h⟩:=kD.kFe (r:=kP) (q:=(kD.pair (kD.slice 145 kJ) (kD.pair (kD.slice 102 jE) (kD.pair (kD.slice 131 kS) (kD.pair (kD.slice 149 kL) kD.int))))) (z:=(x1,x2,x3,x4,X,o)) h
 obtain ⟨O,e2,rfl,k2,h⟩:=kD.kFe (r:=(kD.slice 145 kJ)) (q:=(kD.pair (kD.slice 102 jE) (kD.pair (kD.slice 131 kS) (kD.pair (kD.slice 149 kL) kD.int)))) (z:=(x2,x3,x4,X,o)) h
 obtain ⟨R,e3,rfl,k3,h⟩:=kD.kFe (r:=(kD.slice 102 jE)) (q:=(kD.pair (kD.slice 131 kS) (kD.pair (kD.slice 149 kL) kD.int))) (z:=(x3,x4,X,o)) h
 obtain ⟨F,e4,rfl,k4,h⟩:=kD.kFe (r:=(kD.slice 131 kS)) (q:=(kD.pair (kD.slice 149 kL) kD.int)) (z:=(x4,X,o)) h
 obtain ⟨G,L,rfl,k5,k6⟩:=kD.kFe (r:=(kD.slice 149 kL)) (q:=kD.int) (z:=(X,o)) h
 have l0:=(kD.slice 38 jF).len k0.1;have l1:=kP.len k1.1;have l2:=(kD.slice 145 kJ).len k2.1;have l3:=(kD.slice 102 jE).len k3.1;have I:=(kD.slice 131 kS).len k4.1;have J:=(kD.slice 149 kL).len k5.1;have E:=kD.jb (w:=w) k6.1
 match Z,l0,H,l1,O,l2,R,l3,F,I,G,J with
 | [_],_,[_,_],_,[_],_,[_],_,[_],_,[_],_ =>
   simp only [List.cons_append,List.nil_append,Ah,E.1,and_true] at he;obtain ⟨rfl,rfl,rfl,rfl,rfl,rfl,rfl,rfl⟩:=he;exact ⟨k0,k1,k2,k3,k4,k5,rfl,E.2⟩
theorem kKu {w:Ab} {c0 c1 c2 c3 c4 c5 N:Value} {x0:Ac jL} {x1:kg} {x2:Ac kI} {x3:Ac jK} {x4:Ac kz} {X:Ac kT} {o:Int} {S:Nat->Prop} (h0:(kD.slice 38 jF).ji w [c0] x0 S) (h1:kP.ji w [c1,c2] x1 S) (h2:(kD.slice 145 kJ).ji w [c3] x2 S) (h3:(kD.slice 102 jE).ji w [c4] x3 S) (h4:(kD.slice 131 kS).ji w [c5] x4 S) (h5:(kD.slice 149 kL).ji w [N] X S) (h6:Qi o) :
    je.ji w [c0,c1,c2,c3,c4,c5,N,Qn o] (x0,x1,x2,x3,x4,X,o) S :=
  kD.kAn (r:=(kD.slice 38 jF)) (q:=(kD.pair kP (kD.pair (kD.slice 145 kJ) (kD.pair (kD.slice 102 jE) (kD.pair (kD.slice 131 kS) (kD.pair (kD.slice 149 kL) kD.int)))))) (cs:=[c0]) (ds:=[c1,c2,c3,c4,c5,N,.int .i64 o]) (z:=(x0,x1,x2,x3,x4,X,o)) h0
  (kD.kAn (r:=kP) (q:=(kD.pair (kD.slice 145 kJ) (kD.pair (kD.slice 102 jE) (kD.pair (kD.slice 131 kS) (kD.pair (kD.slice 149 kL) kD.int))))) (cs:=[c1,c2]) (ds:=[c3,c4,c5,N,.int .i64 o]) (z:=(x1,x2,x3,x4,X,o)) h1
  (kD.kAn (r:=(kD.slice 145 kJ)) (q:=(kD.pair (kD.slice 102 jE) (kD.pair (kD.slice 131 kS) (kD.pair (kD.slice 149 kL) kD.int)))) (cs:=[c3]) (ds:=[c4,c5,N,.int .i64 o]) (z:=(x2,x3,x4,X,o)) h2
  (kD.kAn (r:=(kD.slice 102 jE)) (q:=(kD.pair (kD.slice 131 kS) (kD.pair (kD.slice 149 kL) kD.int))) (cs:=[c4]) (ds:=[c5,N,.int .i64 o]) (z:=(x3,x4,X,o)) h3
  (kD.kAn (r:=(kD.slice 131 kS)) (q:=(kD.pair (kD.slice 149 kL) kD.int)) (cs:=[c5]) (ds:=[N,.int .i64 o]) (z:=(x4,X,o)) h4
  (kD.kAn (r:=(kD.slice 149 kL)) (q:=kD.int) (cs:=[N]) (ds:=[.int .i64 o]) (z:=(X,o)) h5 (kD.flat.ji (kD.jG h6)))))))
theorem node_localO {w:Ab} {c0 c1 c2 c3 c4 c5 N D:Value} {x0:Ac jL} {x1:kg} {x2:Ac kI} {x3:Ac jK} {x4:Ac kz} {X:Ac kT} {o:Int} {S:Nat->Prop} (h:je.own w [c0,c1,c2,c3,c4,c5,N,D] (x0,x1,x2,x3,x4,X,o) S) :
    ∃ A B:Nat->Prop,(kD.slice 38 jF).own w [c0] x0 A/\(kD.pair kP (kD.pair (kD.slice 145 kJ) (kD.pair (kD.slice 102 jE) (kD.pair (kD.slice 131 kS) (kD.pair (kD.slice 149 kL) kD.int))))).own w [c1,c2,c3,c4,c5,N,D] (x1,x2,x3,x4,X,o) B/\(∀ k,A k->S k)/\(∀ k,B k->S k)/\(∀ k,A k->B k->False):=by
 obtain ⟨a,d,A,B,he,h1,h2,hA,hB,hd⟩:=kD.kEd (r:=(kD.slice 38 jF)) (q:=(kD.pair kP (kD.pair (kD.slice 145 kJ) (kD.pair (kD.slice 102 jE) (kD.pair (kD.slice 131 kS) (kD.pair (kD.slice 149 kL) kD.int)))))) h
 have l1:=(kD.slice 38 jF).len h1.1
 match a,l1 with
 | [u],_=>simp only [List.singleton_append,Ah] at he;obtain ⟨rfl,rfl⟩:=he;exact ⟨A,B,h1,h2,hA,hB,hd⟩
theorem node_ofL {w:Ab} {c0 c1 c2 c3 c4 c5 N D:Value} {x0:Ac jL} {x1:kg} {x2:Ac kI} {x3:Ac jK} {x4:Ac kz} {X:Ac kT} {o:Int} {S:Nat->Prop} (h0:(kD.slice 38 jF).ji w [c0] x0 S) (h1:(kD.pair kP (kD.pair (kD.slice 145 kJ) (kD.pair (kD.slice 102 jE) (kD.pair (kD.slice 131 kS) (kD.pair (kD.slice 149 kL) kD.int))))).ji w [c1,c2,c3,c4,c5,N,D] (x1,x2,x3,x4,X,o) S):je.ji w [c0,c1,c2,c3,c4,c5,N,D] (x0,x1,x2,x3,x4,X,o) S :=
  kD.kAn (r:=(kD.slice 38 jF)) (q:=(kD.pair kP (kD.pair (kD.slice 145 kJ) (kD.pair (kD.slice 102 jE) (kD.pair (kD.slice 131 kS) (kD.pair (kD.slice 149 kL) kD.int)))))) (cs:=[c0]) (ds:=[c1,c2,c3,c4,c5,N,D]) (z:=(x0,x1,x2,x3,x4,X,o)) h0 h1
def kFo (x:jq):Prop:=x.1.length<=10/\x.2.1.2.length<=9/\kAf x.2.2.1 14/\kFk x.2.2.2.1/\x.2.2.2.2.1.length<=48/\x.2.2.2.2.2.1.length<=48/\-1<=x.2.2.2.2.2.2/\x.2.2.2.2.2.2<=0
theorem tameN.kFo {x:jq} (h:tameN x):kFo x:=⟨by have:=h.1;omega,h.2⟩
def DrawnA (w0 w:Ab) (p:Nat) (e:Ag) (w':Ab):Prop:=∃ cs x ct t tb,e=.returned (.tuple #[.agg cs.toArray,.agg ct.toArray])/\je.ji w' cs x (jU tb w'.heap.size)/\kFo x/\kAy.ji w' ct t (jU w.heap.size tb)/\lenT t/\(w.heap.size<=tb/\tb<=w'.heap.size)/\yT w0 w' p/\Touch (λk=>k=p) w w'
theorem kOm {w0 w:Ab} {p:Nat} (hc:yT w0 w p) :
    Calls prog 45 #[.pointer (some ⟨p,0,none⟩)] w λe w'=>DrawnA w0 w p e w':=by
 go_enter func45,ntmps45
 obtain ⟨ay,bt⟩:=hc.lt
 go_upto_region 1 with fail
 generalize F:World.alloc (World.alloc w _) _=w1
 obtain ⟨hb,RN,RT,bf⟩:=CJ
 clear F
 replace hc:=hc.below hb
 have J:Touch (λk=>k=p) w w1:=Touch.of_below hb
 clear hb
 go_wp2_with fail
 refine (kXe hc).mono ?_
 rintro e V ⟨cs,x,ct,t,tb,rfl,hO,hx,N,hlt,⟨eq,er⟩,G,D⟩
 have bg:=D.size
 replace RN:=D.kC RN bD1
 replace RT:=D.kC RT bD1
 replace J:=J.trans D
 clear hc D
 have hc:=G
 clear G
 obtain ⟨a8,ce,bn,co,bb,cq,df,dg,rfl⟩:=kGf N.rd.1
 obtain ⟨a0,c0,a1,c1,a2,c2,a3,c3,a4,c4,a5,c5,rfl⟩:=yj hO.raw
 obtain ⟨x0,⟨kc,xe⟩,x2,x3,x4,X,o⟩:=x
 replace hO:je.own _ [Qs a0 x0 c0,Qn kc,Qs a1 xe c1,Qs a2 x2 c2,Qs a3 x3 c3,Qs a4 x4 c4,Qs a5 X c5,Qn o] (x0,(kc,xe),x2,x3,x4,X,o) _:=hO
 have L:=yD hO
 have U:=yD N
 have O:=yD hx
 have dn:=yD hlt
 clear hO N hx hlt
 go_upto_region 2 with fail
 generalize F:World.alloc (World.alloc V _) _=w3
 have hb:Qb V w3:=by rw [<- F];exact (bR.alloc nL _).alloc bD2 _
 have BN:Qr w3 V.heap.size #[Qs a0 x0 c0,Qn kc,Qs a1 xe c1,Qs a2 x2 c2,Qs a3 x3 c3,Qs a4 x4 c4,Qs a5 X c5,Qn o] 33:=sN
 have BT:Qr w3 (V.heap.size + 1) #[Qs a8 t.1 ce,Qs bn t.2.1 co,Qs bb t.2.2.1 cq,Qs df t.2.2.2 dg] 79:=by rw [<- F];exact kH bD2
 have bi:V.heap.size + 2<=w3.heap.size:=bB3
 clear F
 replace RN:=kC RN hb
 replace RT:=kC RT hb
 replace L:=yD (L.out.below hb)
 replace U:=yD (U.out.below hb)
 obtain ⟨hc,J⟩:=xE
 clear hb
 obtain ⟨R,eg⟩:∃ b_,b_=V.heap.size:=⟨_,rfl⟩
 rw [<- eg] at BN BT ⊢
 have fv:=Nat.le_of_eq eg
 have fr:=Nat.le_of_eq eg.symm
 clear eg
 go_wp2_with fail
 refine (ku (n:=14) hc bD0).mono ?_
 rintro e w4 ⟨m,bc,ad,c8,rfl,G,D⟩
 have bu:=D.size
 replace RN:=D.kC RN bD1
 replace RT:=D.kC RT bD1
 replace BN:=D.kC BN bD1
 replace BT:=D.kC BT bD1
 replace L:=yD (L.out.touch D pX)
 replace U:=yD (U.out.touch D pX)
 replace J:=J.trans D
 clear hc D
 have hc:=G
 clear G
 replace ad:=ad bD0
 clear c8
 obtain ⟨m,rfl⟩:=Int.eq_ofNat_of_zero_le bc
 have Z:Touch (λk=>k=p\/k=R\/(tb<=k/\k < V.heap.size)) w4 w4:=Touch.of_below bR
 have HR:=yD (L.out.ji.wide (T:=(λk=>tb<=k/\k < w4.heap.size/\k≠R/\k≠R + 1)) (λk q=>⟨q.1,by have:=q.2;omega,by have:=q.2;omega,by have:=q.2;omega⟩))
 go_upto_block 0 with fail
 go_cut [] from 11 to 44 (λwc=>∃ (a0:Ai Addr) (c0:Nat) (kc:Int) (a1:Ai Addr) (c1:Nat) (a2:Ai Addr) (c2:Nat) (a3:Ai Addr) (c3:Nat) (a4:Ai Addr) (c4:Nat) (a5:Ai Addr) (c5:Nat) (x0:Ac jL) (xe:Ac kZ) (x2:Ac kI) (x3:Ac jK) (x4:Ac kz) (X:Ac kT) (o:Int),Qr wc R #[Qs a0 x0 c0,Qn kc,Qs a1 xe c1,Qs a2 x2 c2,Qs a3 x3 c3,Qs a4 x4 c4,Qs a5 X c5,Qn o] 33/\Hid (je.ji wc [Qs a0 x0 c0,Qn kc,Qs a1 xe c1,Qs a2 x2 c2,Qs a3 x3 c3,Qs a4 x4 c4,Qs a5 X c5,Qn o] (x0,(kc,xe),x2,x3,x4,X,o) (λk=>tb<=k/\k < wc.heap.size/\k≠R/\k≠R + 1))/\Hid (kFo (x0,(kc,xe),x2,x3,x4,X,o))/\w4.heap.size<=wc.heap.size/\yT w0 wc p/\Touch (λk=>k=p\/k=R\/(tb<=k/\k < V.heap.size)) w4 wc)
 case first =>
  clear RN RT BT U J dn;by_cases bj:m=0
  · subst bj;clear L;go_wp2_with fail;refine (kZy hc).mono ?_;rintro e b8 ⟨va,vc,l,rfl,Y,hP,G,D⟩;obtain ⟨dr,Z,BN,HR⟩:=EZ;clear hc D;have hc:=G;clear G;have HP:=yD hP;clear hP;obtain ⟨ao,ar,ah,ab,ag,ap,aj,ai⟩:=yL BN;obtain ⟨az,bz,b1,a7,bw,a9,b0,bv⟩:=kCz BN;go_wp2;generalize F:World.setCell b8 _ _=a6;have N:Touch (λk=>k=R) b8 a6:=vR;replace BN:Qr a6 R #[Qs a0 x0 c0,Qn kc,Qs a1 xe c1,Qs va l vc,Qs a3 x3 c3,Qs a4 x4 c4,Qs a5 X c5,Qn o] 33:=by rw [<- F];exact kF (BN) 3
    have ee:=N.size;clear F;clear ao ar ah ab ag ap aj ai az bz b1 a7 bw a9 b0 bv;obtain ⟨HR,HP⟩:=GX;obtain ⟨hc,Z⟩:=BO;clear N;obtain ⟨k0,k1,k2,k3,k4,k5,_,k6⟩:=kFf (HR.out.wide (T:=(λk=>tb<=k/\k < a6.heap.size/\k≠R/\k≠R + 1)) pR);have kn:=HP.out.wide (T:=(λk=>tb<=k/\k < a6.heap.size/\k≠R/\k≠R + 1)) dC;go_meet;exact ⟨a0,c0,kc,a1,c1,va,vc,a3,c3,a4,c4,a5,c5,x0,xe,l,x3,x4,X,o,BN,yD (kKu k0 k1 kn k3 k4 k5 k6),yD (⟨O.out.kFo.1,O.out.2.1,Y,O.out.2.2.2⟩),by omega,hc,Z⟩
  have bo:¬ (m:Int)=0:=bD1;by_cases bx:m=1
  · subst bx;clear L;go_wp2_with fail;refine (kZw hc).mono ?_;rintro e b8 ⟨va,vc,l,rfl,hP,Y,G,D⟩;obtain ⟨dr,Z,BN,HR⟩:=EZ;clear hc D;have hc:=G;clear G;have HP:=yD hP.ji;clear hP;obtain ⟨ao,ar,ah,ab,ag,ap,aj,ai⟩:=yL BN;obtain ⟨az,bz,b1,a7,bw,a9,b0,bv⟩:=kCz BN;go_wp2;generalize F:World.setCell b8 _ _=a6;have N:Touch (λk=>k=R) b8 a6:=vR;replace BN:Qr a6 R #[Qs a0 x0 c0,Qn kc,Qs a1 xe c1,Qs a2 x2 c2,Qs a3 x3 c3,Qs va l vc,Qs a5 X c5,Qn o] 33:=by rw [<- F];exact kF (BN) 5
    have ee:=N.size;clear F;clear ao ar ah ab ag ap aj ai az bz b1 a7 bw a9 b0 bv;obtain ⟨HR,HP⟩:=GX;obtain ⟨hc,Z⟩:=BO;clear N;obtain ⟨k0,k1,k2,k3,k4,k5,_,k6⟩:=kFf (HR.out.wide (T:=(λk=>tb<=k/\k < a6.heap.size/\k≠R/\k≠R + 1)) pR);have kn:=HP.out.wide (T:=(λk=>tb<=k/\k < a6.heap.size/\k≠R/\k≠R + 1)) dC;go_meet;exact ⟨a0,c0,kc,a1,c1,a2,c2,a3,c3,va,vc,a5,c5,x0,xe,x2,x3,l,X,o,BN,yD (kKu k0 k1 k2 k3 kn k5 k6),yD (⟨O.out.kFo.1,O.out.2.1,O.out.2.2.1,O.out.2.2.2.1,Y.1,O.out.2.2.2.2.2⟩),by omega,hc,Z⟩
  have b2:¬ (m:Int)=1:=bD1;by_cases bq:m=2
  · subst bq;clear L;go_wp2_with fail;refine (kZt hc).mono ?_;rintro e b8 ⟨va,vc,l,rfl,hP,Y,G,D⟩;obtain ⟨dr,Z,BN,HR⟩:=EZ;clear hc D;have hc:=G;clear G;have HP:=yD hP.ji;clear hP;obtain ⟨ao,ar,ah,ab,ag,ap,aj,ai⟩:=yL BN;obtain ⟨az,bz,b1,a7,bw,a9,b0,bv⟩:=kCz BN;go_wp2;generalize F:World.setCell b8 _ _=a6;have N:Touch (λk=>k=R) b8 a6:=vR;replace BN:Qr a6 R #[Qs a0 x0 c0,Qn kc,Qs a1 xe c1,Qs a2 x2 c2,Qs a3 x3 c3,Qs a4 x4 c4,Qs va l vc,Qn o] 33:=by rw [<- F];exact kF (BN) 6
    have ee:=N.size;clear F;clear ao ar ah ab ag ap aj ai az bz b1 a7 bw a9 b0 bv;obtain ⟨HR,HP⟩:=GX;obtain ⟨hc,Z⟩:=BO;clear N;obtain ⟨k0,k1,k2,k3,k4,k5,_,k6⟩:=kFf (HR.out.wide (T:=(λk=>tb<=k/\k < a6.heap.size/\k≠R/\k≠R + 1)) pR);have kn:=HP.out.wide (T:=(λk=>tb<=k/\k < a6.heap.size/\k≠R/\k≠R + 1)) dC;go_meet;exact ⟨a0,c0,kc,a1,c1,a2,c2,a3,c3,a4,c4,va,vc,x0,xe,x2,x3,x4,l,o,BN,yD (kKu k0 k1 k2 k3 k4 kn k6),yD (⟨O.out.kFo.1,O.out.2.1,O.out.2.2.1,O.out.2.2.2.1,O.out.2.2.2.2.1,Y,O.out.2.2.2.2.2.2⟩),by omega,hc,Z⟩
  have db:¬ (m:Int)=2:=bD1;by_cases b6:m=3
  · subst b6;clear L;go_wp2_with fail;refine (kZz hc).mono ?_;rintro e b8 ⟨va,vc,vk,l,rfl,hP,Y,G,D⟩;obtain ⟨dr,Z,BN,HR⟩:=EZ;clear hc D;have hc:=G;clear G;have HP:=yD hP;clear hP;obtain ⟨ao,ar,ah,ab,ag,ap,aj,ai⟩:=yL BN;obtain ⟨az,bz,b1,a7,bw,a9,b0,bv⟩:=kCz BN;go_wp2;generalize F:World.setCell (World.setCell b8 _ _) _ _=a6;have N:Touch (λk=>k=R) b8 a6:=wF;replace BN:Qr a6 R #[Qs a0 x0 c0,Qn vk,Qs va l vc,Qs a2 x2 c2,Qs a3 x3 c3,Qs a4 x4 c4,Qs a5 X c5,Qn o] 33:=by rw [<- F];exact kF (kF (BN) 1) 2
    have ee:=N.size;clear F;clear ao ar ah ab ag ap aj ai az bz b1 a7 bw a9 b0 bv;obtain ⟨HR,HP⟩:=GX;obtain ⟨hc,Z⟩:=BO;clear N;obtain ⟨k0,k1,k2,k3,k4,k5,_,k6⟩:=kFf (HR.out.wide (T:=(λk=>tb<=k/\k < a6.heap.size/\k≠R/\k≠R + 1)) pR);have kn:=HP.out.wide (T:=(λk=>tb<=k/\k < a6.heap.size/\k≠R/\k≠R + 1)) dC;go_meet;exact ⟨a0,c0,vk,va,vc,a2,c2,a3,c3,a4,c4,a5,c5,x0,l,x2,x3,x4,X,o,BN,yD (kKu k0 kn k2 k3 k4 k5 k6),yD (⟨O.out.kFo.1,by show l.length<=9;omega,O.out.2.2⟩),by omega,hc,Z⟩
  have d5:¬ (m:Int)=3:=bD1;by_cases b4:m=4
  · subst b4;clear HR;obtain ⟨A_,B_,hA,hB,sA,sB,dp⟩:=node_localO L.out;have HA:=yD hA;have HB:=yD hB;clear hA hB L;go_upto_region 12 with fail;refine zZ (λW=>Touch (λk=>k=p) w4 W/\yT w0 W p) (λ_=>True) [] [(0,true),(1,true),(2,true),(3,false),(4,false)] [(5,false),(6,true),(7,false)] bC5 bC5 pY (⟨Touch.of_below bR.drew,hc.below bR.drew⟩) ?_;intro wS E;simp only [jB,zK,Ad,Ae,List.map_cons,List.map_nil];refine pre_nil ?_;refine jf (v:=?_) rfl (λW hW=>?_) ?_;rotate_left;(· go_simp;try with_reducible rfl);refine jD ?_;refine jf (v:=?_) rfl (λW hW=>?_) ?_;rotate_left;(· have dt:=kE (hW.1.kC BN bD1) (j:=0) (v:=.slice a0 x0.length c0) rfl;have d8:=kE (hW.1.kC BN bD1) (j:=1) (v:=.int .i64 kc) rfl;have eh:=kE (hW.1.kC BN bD1) (j:=2) (v:=.slice a1 xe.length c1) rfl;have ef:=kE (hW.1.kC BN bD1) (j:=3) (v:=.slice a2 x2.length c2) rfl;have ec:=kE (hW.1.kC BN bD1) (j:=4) (v:=.slice a3 x3.length c3) rfl;have et:=kE (hW.1.kC BN bD1) (j:=5) (v:=.slice a4 x4.length c4) rfl;have en:=kE (hW.1.kC BN bD1) (j:=6) (v:=.slice a5 X.length c5) rfl;have ep:=kE (hW.1.kC BN bD1) (j:=7) (v:=.int .i64 o) rfl;clear hW;go_simp;try with_reducible rfl);refine jD ?_;refine jf (v:=?_) rfl (λW hW=>?_) ?_;rotate_left;(· go_simp;try with_reducible rfl);refine jD ?_;refine zH rfl (λK H=>?_);go_simp;refine (kKk E.2).mono ?_;rintro e wS1 ⟨ds,x,rfl,hX,b5,au,aq⟩;obtain ⟨cl,cm,b3,cf,ch,cg,rfl⟩:=yS hX.raw;have HX:=yD hX;have e0:=E.1.size;replace E:=And.intro (E.1.trans aq) au;refine H _ _ E ?_;clear H K au aq hX;refine jD ?_;refine zH rfl (λK H=>?_);go_simp;have af:Touch (λk=>k=p) w4 (World.alloc wS1 (.cells #[.slice cl x.1.length cm,.slice b3 x.2.1.length cf,.slice ch x.2.2.1.length cg,.int .i64 x.2.2.2.1,.int .i64 x.2.2.2.2] 38))/\yT w0 (World.alloc wS1 (.cells #[.slice cl x.1.length cm,.slice b3 x.2.1.length cf,.slice ch x.2.2.1.length cg,.int .i64 x.2.2.2.1,.int .i64 x.2.2.2.2] 38)) p:=⟨E.1.trans (Touch.of_below (bR.alloc nL _)),E.2.below (bR.alloc nL _)⟩;refine H _ _ af ?_;clear H K af;refine jD ?_;have zS:=E.1.size;have B5:=E.1.kC BN bD1;have am:=E.2;have aa:=Z.ja E.1 (λk q=>.inl (.inl q));have an:=HA.out.touch E.1 bP;have al:=HB.out.touch E.1 bP;clear BN hc Z HA HB;obtain ⟨v3,u3,bd,ax,ba⟩:=kD.kJb (P:=prog) (t:=24) (ty:=24) (r:=jF) (e:=38) (c:=1) underlying24 kLr rfl bD0 bD0 an bR HX.out (λk q1 q2=>by have h1:=sA k q1;have h2:=h1.2;have h3:=q2.1;omega) (Nat.lt_of_le_of_lt O.out.1 bD0);have z3:=ba.size;have ae:Touch (λk=>tb<=k/\k < V.heap.size) wS1 u3:=ba.wide (λk q=>⟨(sA k q.1).1,(sA k q.1).2⟩);have bp:=al.touch ba (λk q h=>dp k h.1 q);have ca:(x0++[x]).length<=10:=by have h1:=O.out.1;have h2:x0.length<=9:=h1;simp;omega
    generalize x0++[x]=q at *;obtain ⟨ac,aw,av,_⟩:=kD.kAx ax.raw;obtain rfl:v3=_:=by simpa using av
    have BN:=ae.kC B5 bD1;have hc:=am.touch ae tY sM;have Z:=aa.ja ae (λk q=>.inl (.inr (.inr q)));obtain ⟨be,bh,d6,dc,dq,ed,eb,da⟩:=yL BN;obtain ⟨bk,bm,d4,d1,d7,d2,dy,d9⟩:=kCz BN;clear B5 am aa an al av ba ae E;refine zl trivial ?_;refine kY rfl (λK H=>?_);refine kD.kV _ _ _ rfl bD3 bD3 bd ?_;refine H _ _ trivial ?_;clear H K;refine jD ?_;refine kX ?_;refine kY rfl (λK H=>?_);go_simp;refine H _ _ trivial ?_;clear H K;refine jD ?_;refine kR ?_;generalize F:World.setCell u3 _ _=wQ;have N:Touch (λk=>k=R) u3 wQ:=vR;have BQ:Qr wQ R #[Qs ac q aw,Qn kc,Qs a1 xe c1,Qs a2 x2 c2,Qs a3 x3 c3,Qs a4 x4 c4,Qs a5 X c5,Qn o] 33:=by rw [<- F];exact kF BN 0
    have b7:=N.size;clear F;replace hc:=hc.touch N bD1 wW;replace Z:=Z.ja N (λk q=>.inl (.inr (.inl q)));have k0:=(ax.ji.touch N (λk q h=>by rcases q with q | q | q;(have h1:=(sA k q).2;omega);(have h1:=q.1;omega);(have h1:=q.1;omega))).wide (T:=(λk=>tb<=k/\k < wQ.heap.size/\k≠R/\k≠R + 1)) (λk q=>by rcases q with q | q | q;(have h1:=sA k q;have h2:=h1.2;exact ⟨h1.1,by omega,by omega,by omega⟩);exact ⟨by have:=q.1;omega,by have:=q.2;omega,by have:=q.1;omega,by have:=q.1;omega⟩;exact ⟨by have:=q.1;omega,by have:=q.2;omega,by have:=q.1;omega,by have:=q.1;omega⟩);have k1:=(bp.ji.touch N (λk q h=>by have h1:=(sB k q).2;omega)).wide (T:=(λk=>tb<=k/\k < wQ.heap.size/\k≠R/\k≠R + 1)) (λk q=>by have h1:=sB k q;have h2:=h1.2;exact ⟨h1.1,by omega,by omega,by omega⟩);go_wp2;go_meet;exact ⟨ac,aw,kc,a1,c1,a2,c2,a3,c3,a4,c4,a5,c5,q,xe,x2,x3,x4,X,o,BQ,yD (node_ofL k0 k1),yD ⟨ca,O.out.2⟩,by omega,hc,Z⟩
  have ea:¬ (m:Int)=4:=bD1;by_cases ak:m=5
  · subst ak;clear L;obtain ⟨ao,ar,ah,ab,ag,ap,aj,ai⟩:=yL BN;obtain ⟨az,bz,b1,a7,bw,a9,b0,bv⟩:=kCz BN;go_wp2;generalize F:World.setCell w4 _ _=b8;have N:Touch (λk=>k=R) w4 b8:=vR;replace BN:Qr b8 R #[Qs a0 x0 c0,Qn kc,Qs a1 xe c1,Qs a2 x2 c2,Qs a3 x3 c3,Qs a4 x4 c4,Qs a5 X c5,.int .i64 (-1)] 33:=by rw [<- F];exact kF (BN) 7
    have dr:=N.size;clear F;clear ao ar ah ab ag ap aj ai az bz b1 a7 bw a9 b0 bv;replace HR:=yD (HR.out.touch N nT);obtain ⟨hc,Z⟩:=BO;clear N;obtain ⟨k0,k1,k2,k3,k4,k5,_,k6⟩:=kFf (HR.out.wide (T:=(λk=>tb<=k/\k < b8.heap.size/\k≠R/\k≠R + 1)) pR);go_meet;exact ⟨a0,c0,kc,a1,c1,a2,c2,a3,c3,a4,c4,a5,c5,x0,xe,x2,x3,x4,X,(-1),BN,yD (kKu k0 k1 k2 k3 k4 k5 bD1),yD ⟨O.out.kFo.1,O.out.2.1,O.out.2.2.1,O.out.2.2.2.1,O.out.2.2.2.2.1,O.out.2.2.2.2.2.1,by show (-1:Int)<=-1;omega,by show (-1:Int)<=0;omega⟩,by omega,hc,Z⟩
  have dx:¬ (m:Int)=5:=bD1;go_wp2;go_meet;exact ⟨a0,c0,kc,a1,c1,a2,c2,a3,c3,a4,c4,a5,c5,x0,xe,x2,x3,x4,X,o,BN,HR,yD O.out.kFo,by omega,hc,Z⟩
 clear L HR O BN Z
 rename Ab=>wd
 obtain ⟨a0,c0,kc,a1,c1,a2,c2,a3,c3,a4,c4,a5,c5,x0,xe,x2,x3,x4,X,o,BN,HR,br,zd,cc,bl⟩:=hcut
 replace RN:=bl.kC RN bD1
 replace RT:=bl.kC RT bD1
 replace BT:=bl.kC BT bD1
 replace J:=J.ja bl wZ
 replace U:=yD (U.out.touch bl nT)
 clear hc
 have hc:=cc
 clear cc bl
 go_upto_region 15 with fail
 have FX:=yD (λ(W:Ab) (hW:Touch (λk=>k=w.heap.size\/k=w.heap.size + 1) wd W)=>And.intro (kE (hW.kC BN bD1) (j:=0) (v:=.slice a0 x0.length c0) rfl) (And.intro (kE (hW.kC BN bD1) (j:=1) (v:=.int .i64 kc) rfl) (And.intro (kE (hW.kC BN bD1) (j:=2) (v:=.slice a1 xe.length c1) rfl) (And.intro (kE (hW.kC BN bD1) (j:=3) (v:=.slice a2 x2.length c2) rfl) (And.intro (kE (hW.kC BN bD1) (j:=4) (v:=.slice a3 x3.length c3) rfl) (And.intro (kE (hW.kC BN bD1) (j:=5) (v:=.slice a4 x4.length c4) rfl) (And.intro (kE (hW.kC BN bD1) (j:=6) (v:=.slice a5 X.length c5) rfl) (And.intro (kE (hW.kC BN bD1) (j:=7) (v:=.int .i64 o) rfl) (And.intro (kE (hW.kC BT bD1) (j:=0) (v:=.slice a8 t.1.length ce) rfl) (And.intro (kE (hW.kC BT bD1) (j:=1) (v:=.slice bn t.2.1.length co) rfl) (And.intro (kE (hW.kC BT bD1) (j:=2) (v:=.slice bb t.2.2.1.length cq) rfl) (kE (hW.kC BT bD1) (j:=3) (v:=.slice df t.2.2.2.length dg) rfl))))))))))))
 refine zY (λW=>Touch (λk=>k=w.heap.size\/k=w.heap.size + 1) wd W) bC5 (Touch.of_below bR.drew) ?_
 intro t1 c9 E
 have bD:Qb wd t1:=(by rw [c9];exact bR.drew)
 replace RN:=kC RN bD
 replace RT:=kC RT bD
 clear bD c9
 have gb:=E.size
 refine kQ 0 ?_
 refine kQ 1 ?_
 refine kN (k:=2) rfl bC5 rfl (λK H=>?_)
 obtain ⟨b9,cz,ck,c6,de,dh,dk,dm⟩:=yL RN
 obtain ⟨cd,cv,cw,c7,dd,di,dl,dj⟩:=kCz RN
 go_simp
 generalize F:World.setCell (World.setCell (World.setCell (World.setCell (World.setCell (World.setCell (World.setCell (World.setCell t1 _ _) _ _) _ _) _ _) _ _) _ _) _ _) _ _=t2
 have N:Touch (λk=>k=w.heap.size) t1 t2:=(by rw [<- F];exact sT8)
 replace RN:Qr t2 w.heap.size #[Qs a0 x0 c0,Qn kc,Qs a1 xe c1,Qs a2 x2 c2,Qs a3 x3 c3,Qs a4 x4 c4,Qs a5 X c5,Qn o] 33:=(by rw [<- F];exact kF (kF (kF (kF (kF (kF (kF (kF (RN) 0) 1) 2) 3) 4) 5) 6) 7)
 have d0:=N.size
 clear F b9 cd cz cv ck cw c6 c7 de dd dh di dk dl dm dj
 replace RT:=N.kC RT bD1
 replace E:=E.trans (N.wide (λk q=>.inl q))
 clear N
 refine H _ _ E ?_
 clear H K
 refine jD ?_
 refine kN (k:=3) rfl bC5 rfl (λK H=>?_)
 obtain ⟨b9,cz,ck,c6⟩:=kKs RT
 obtain ⟨cd,cv,cw,c7⟩:=kVf RT
 go_simp
 generalize F:World.setCell (World.setCell (World.setCell (World.setCell t2 _ _) _ _) _ _) _ _=t3
 obtain ⟨N,RT,dw⟩:=EM
 clear F b9 cd cz cv ck cw c6 c7
 replace RN:=N.kC RN bD1
 replace E:=E.trans (N.wide (λk q=>.inr q))
 clear N
 refine H _ _ E ?_
 clear H K
 refine jD ?_
 refine jW bC5 ?_
 obtain ⟨ff,fj,e8,fd,e3,fe,e7,e9⟩:=yL RN
 obtain ⟨d3,du,dz,dv⟩:=kKs RT
 have zS:=E.size
 go_wp2
 refine bodyPost_ret (v:=.tuple #[.agg #[Qs a0 x0 c0,Qn kc,Qs a1 xe c1,Qs a2 x2 c2,Qs a3 x3 c3,Qs a4 x4 c4,Qs a5 X c5,Qn o],.agg #[Qs a8 t.1 ce,Qs bn t.2.1 co,Qs bb t.2.2.1 cq,Qs df t.2.2.2 dg]]) (by simp [results,results45,go_sem,ff,fj,e8,fd,e3,fe,e7,e9,d3,du,dz,dv]) rfl ⟨[Qs a0 x0 c0,Qn kc,Qs a1 xe c1,Qs a2 x2 c2,Qs a3 x3 c3,Qs a4 x4 c4,Qs a5 X c5,Qn o],(x0,(kc,xe),x2,x3,x4,X,o),[.slice a8 t.1.length ce,.slice bn t.2.1.length co,.slice bb t.2.2.1.length cq,.slice df t.2.2.2.length dg],t,tb,rfl,?_,br.out,?_,dn.out,⟨by omega,by omega⟩,hc.touch E bD1 wZ,J.ja E wZ⟩
 · exact (HR.out.touch E sK).wide (T:=jU tb _) (λj I=>⟨I.1,by have:=I.2.1;omega⟩)
 exact (U.out.touch E sK).wide (T:=jU w.heap.size tb) mU
def DrawnOne (w0 w:Ab) (e:Ag) (w':Ab):Prop:=∃ p cs x,e=.returned (.tuple #[.pointer (some ⟨p,0,none⟩),.agg cs.toArray])/\je.ji w' cs x (λk=>p < k/\k < w'.heap.size)/\kFo x/\w.heap.size<=p/\yT w0 w' p/\Qb w w'
theorem kDw {w0 w:Ab} {v:Value} {Z:Ac UInt8} (ad:(kD.slice 5 kD.byte).raw w0 [v] Z) (cf:Qb w0 w) :
    Calls prog 31 #[v] w λe w'=>DrawnOne w0 w e w':=by
 obtain ⟨ca,cc,rfl,_⟩:=kD.sl ad
 go_enter func31,ntmps31
 go_upto_region 1 with fail
 generalize F:World.alloc w _=w1
 obtain ⟨ag,R,bf⟩:=FU
 clear F
 have EE:=ag
 clear ag
 go_wp2_with fail
 refine (kRn ad (tQ cf EE)).mono ?_
 rintro e V ⟨p,rfl,hc,ay,O⟩
 have bg:=O.size
 have bt:=hc.lt.2
 have ai:=cf.size
 replace R:=kC R O
 have J:Touch (λk=>k=p) w V:=Touch.of_below (tQ EE O)
 clear O EE
 go_wp2_with fail
 refine (kOm hc).mono ?_
 rintro e w3 ⟨cs,x,ct,t,tb,rfl,hO,hx,N,hlt,⟨eq,er⟩,G,D⟩
 have bi:=D.size
 obtain ⟨R,J⟩:=DX
 clear hc D
 have hc:=G
 clear G
 obtain ⟨a8,ce,bn,co,bb,cq,df,dg,rfl⟩:=kGf N.rd.1
 obtain ⟨a0,c0,a1,c1,a2,c2,a3,c3,a4,c4,a5,c5,rfl⟩:=yj hO.rd.1
 obtain ⟨x0,⟨kc,xe⟩,x2,x3,x4,X,o⟩:=x
 obtain ⟨hO,L,HX⟩:=xM
 clear hO hx N hlt
 go_upto_region 3 with fail
 generalize F:World.alloc (World.alloc w3 _) _=w9
 have hb:Qb w3 w9:=by rw [<- F];exact (bR.alloc nL _).alloc bD2 _
 have BN:Qr w9 w3.heap.size #[Qs a0 x0 c0,Qn kc,Qs a1 xe c1,Qs a2 x2 c2,Qs a3 x3 c3,Qs a4 x4 c4,Qs a5 X c5,Qn o] 33:=sN
 have d4:w3.heap.size + 2<=w9.heap.size:=bB3
 clear F
 replace R:=kC R hb
 replace L:=yD (L.out.below hb)
 obtain ⟨hc,J⟩:=xE
 clear hb
 refine jo (SR w0 w9 p (w.heap.size) 33 8) [(0,true),(1,true),(2,true),(3,false)] bC5 bC5 pY (SR.start hc R rfl) ?_
 intro wS1 E
 simp only [jB,Ad,Ae,List.map_cons,List.map_nil]
 refine kw (v:=?_) rfl (λW hW=>?_) ?_;rotate_left;(· go_simp;try with_reducible rfl)
 try simp only [Aj,zA,zB,zC]
 refine kw (v:=?_) rfl (λW hW=>?_) ?_;rotate_left;(· have dt:=kE (hW.touch.kC BN bD1) (j:=0) (v:=.slice a0 x0.length c0) rfl;have d8:=kE (hW.touch.kC BN bD1) (j:=1) (v:=.int .i64 kc) rfl;have eh:=kE (hW.touch.kC BN bD1) (j:=2) (v:=.slice a1 xe.length c1) rfl;have ef:=kE (hW.touch.kC BN bD1) (j:=3) (v:=.slice a2 x2.length c2) rfl;have ec:=kE (hW.touch.kC BN bD1) (j:=4) (v:=.slice a3 x3.length c3) rfl;have et:=kE (hW.touch.kC BN bD1) (j:=5) (v:=.slice a4 x4.length c4) rfl;have en:=kE (hW.touch.kC BN bD1) (j:=6) (v:=.slice a5 X.length c5) rfl;have ep:=kE (hW.touch.kC BN bD1) (j:=7) (v:=.int .i64 o) rfl;clear hW;go_simp;try with_reducible rfl)
 try simp only [Aj,zA,zB,zC]
 refine kw (v:=?_) rfl (λW hW=>?_) ?_;rotate_left;(· go_simp;try with_reducible rfl)
 try simp only [Aj,zA,zB,zC]
 have cw:=E.touch.size
 obtain ⟨l_,U,RS⟩:=E.row
 obtain ⟨ah,am,Y,aj,ab,ae,aa,af,rfl⟩:=list8 U
 have ac:Qd wS1 w 0 ah:=kE RS rfl
 have ak:wS1.frozen? ⟨w.heap.size,0,none⟩=false:=Aa wS1 (w.heap.size) 0 _ _ RS
 have an:Qd wS1 w 1 am:=kE RS rfl
 have al:wS1.frozen? ⟨w.heap.size,1,none⟩=false:=Aa wS1 (w.heap.size) 1 _ _ RS
 have bd:Qd wS1 w 2 Y:=kE RS rfl
 have ax:wS1.frozen? ⟨w.heap.size,2,none⟩=false:=Aa wS1 (w.heap.size) 2 _ _ RS
 have bh:Qd wS1 w 3 aj:=kE RS rfl
 have be:wS1.frozen? ⟨w.heap.size,3,none⟩=false:=Aa wS1 (w.heap.size) 3 _ _ RS
 have bp:Qd wS1 w 4 ab:=kE RS rfl
 have bo:wS1.frozen? ⟨w.heap.size,4,none⟩=false:=Aa wS1 (w.heap.size) 4 _ _ RS
 have av:Qd wS1 w 5 ae:=kE RS rfl
 have d2:wS1.frozen? ⟨w.heap.size,5,none⟩=false:=Aa wS1 (w.heap.size) 5 _ _ RS
 have dx:Qd wS1 w 6 aa:=kE RS rfl
 have dy:wS1.frozen? ⟨w.heap.size,6,none⟩=false:=Aa wS1 (w.heap.size) 6 _ _ RS
 have d1:Qd wS1 w 7 af:=kE RS rfl
 have d5:wS1.frozen? ⟨w.heap.size,7,none⟩=false:=Aa wS1 (w.heap.size) 7 _ _ RS
 have bu:=yD (L.out.touch E.touch pX)
 have BS:=(J.below nL wW).trans (E.touch.below (B:=w.heap.size) bD1 wW)
 refine kY rfl (λK H=>?_);go_simp;refine H _ _ ((((((((E.set bD1 bD1 _ _).set bD1 bD1 _ _).set bD1 bD1 _ _).set bD1 bD1 _ _).set bD1 bD1 _ _).set bD1 bD1 _ _).set bD1 bD1 _ _).set bD1 bD1 _ _) ?_;clear H K
 try simp only [Aj,zA,zB,zC]
 refine kR ?_
 go_wp2
 refine bodyPost_ret (v:=.tuple #[.pointer (some ⟨p,0,none⟩),.agg #[Qs a0 x0 c0,Qn kc,Qs a1 xe c1,Qs a2 x2 c2,Qs a3 x3 c3,Qs a4 x4 c4,Qs a5 X c5,Qn o]]) (by simp [results,results31,go_sem,ac,ak,an,al,bd,ax,bh,be,bp,bo,av,d2,dx,dy,d1,d5]) rfl ⟨p,[.slice a0 x0.length c0,.int .i64 kc,.slice a1 xe.length c1,.slice a2 x2.length c2,.slice a3 x3.length c3,.slice a4 x4.length c4,.slice a5 X.length c5,.int .i64 o],(x0,(kc,xe),x2,x3,x4,X,o),rfl,?_,HX.out,by omega,E.cur.touch sT8 bD1 wW,?_⟩
 · exact (bu.out.touch sT8 sM).wide fF
 exact BS.trans ((sT8:Touch (λk=>k=w.heap.size) wS1 _).below (B:=w.heap.size) bD1 wW)
def DrawnNd (w:Ab) (e:Ag) (w':Ab):Prop:=∃ cs x,e=.returned (.agg cs.toArray)/\je.ji w' cs x (jU w.heap.size w'.heap.size)/\kFo x/\Qb w w'
def DrawnNI (w:Ab) (e:Ag) (w':Ab):Prop:=∃ cs x a c Y k,e=.returned (.tuple #[.agg cs.toArray,.agg #[Qs a Y c],.int .i64 k])/\je.ji w' cs x (jU w.heap.size w'.heap.size)/\kFo x/\kW.ji w' [Qs a Y c] Y (jU w.heap.size w'.heap.size)/\(0<=k/\k<=4001)/\Qb w w'
def DrawnND (w:Ab) (e:Ag) (w':Ab):Prop:=∃ cs x ds y,e=.returned (.tuple #[.agg cs.toArray,.agg ds.toArray])/\je.ji w' cs x (jU w.heap.size w'.heap.size)/\kFo x/\jF.ji w' ds y (jU w.heap.size w'.heap.size)/\Qb w w'
def DrawnN2 (w:Ab) (e:Ag) (w':Ab):Prop:=∃ cs x ds y,e=.returned (.tuple #[.agg cs.toArray,.agg ds.toArray])/\je.ji w' cs x (jU w.heap.size w'.heap.size)/\je.ji w' ds y (jU w.heap.size w'.heap.size)/\Qb w w'
def DrawnK (w:Ab) (e:Ag) (w':Ab):Prop:=∃ k,e=.returned (.int .i64 k)/\(-1<=k/\k<=9)/\Qb w w'
end Go.Proofs.YtjhfdpopkkmigaaGreat

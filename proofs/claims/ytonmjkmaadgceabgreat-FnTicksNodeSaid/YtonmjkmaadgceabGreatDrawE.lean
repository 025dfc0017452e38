/-
  A node drawn for the laws.
-/
import Derived.Test.YtonmjkmaadgceabGreatDrawZ
import Derived.Test.YtonmjkmaadgceabGreatDrawR
set_option linter.unusedVariables false
set_option linter.unusedSimpArgs false
set_option linter.unnecessarySimpa false
set_option maxRecDepth 100000
set_option maxHeartbeats 16000000
open List renaming getElem?_cons_succ->Aa,getElem?_cons_zero->Ab,map_cons->Ag,map_nil->Ah
open _root_ renaming List->Ac,Option->Ak
open Go.Act renaming put->Ad
open Go renaming World->Ae,bodyPost_ret->Ai
open List.cons renaming injEq->Aj
namespace Go.Proofs.YtonmjkmaadgceabGreat
open Go.RowKit _root_.Go.Proofs.Tryz
theorem kFg {w:Ae} {c0 c1 c2 c3 c4 c5 O o:Value} {x0:Ac jN} {x1:kg} {x2:Ac kF} {x3:Ac jH} {x4:Ac ky} {x5:Ac kJ} {x6:Int} {S:Nat->Prop} (h:jr.ji w [c0,c1,c2,c3,c4,c5,O,o] (x0,x1,x2,x3,x4,x5,x6) S) :
    (kD.slice 68 jJ).ji w [c0] x0 S/\kN.ji w [c1,c2] x1 S/\(kD.slice 43 kH).ji w [c3] x2 S/\(kD.slice 99 jG).ji w [c4] x3 S/\(kD.slice 77 kY).ji w [c5] x4 S/\(kD.slice 108 kL).ji w [O] x5 S/\o=.int .i64 x6/\Qi x6:=by
 obtain ⟨Y,e0,he,k0,h⟩:=kD.kGh (r:=(kD.slice 68 jJ)) (q:=(kD.pair kN (kD.pair (kD.slice 43 kH) (kD.pair (kD.slice 99 jG) (kD.pair (kD.slice 77 kY) (kD.pair (kD.slice 108 kL) kD.int)))))) (z:=(x0,x1,x2,x3,x4,x5,x6)) h
 obtain ⟨N,e1,rfl,k1,h⟩:=kD.kGh (r:=kN) (q:=(kD.pair (kD.slice 43 kH) (kD.pair (kD.slice 99 jG) (kD.pair (kD.slice 77 kY) (kD.pair (kD.slice 108 kL) kD.int))))) (z:=(x1,x2,x3,x4,x5,x6)) h
 obtain ⟨R,e2,rfl,k2,h⟩:=kD.kGh (r:=(kD.slice 43 kH)) (q:=(kD.pair (kD.slice 99 jG) (kD.pair (kD.slice 77 kY) (kD.pair (kD.slice 108 kL) kD.int)))) (z:=(x2,x3,x4,x5,x6)) h
 obtain ⟨V,e3,rfl,k3,h⟩:=kD.kGh (r:=(kD.slice 99 jG)) (q:=(kD.pair (kD.slice 77 kY) (kD.pair (kD.slice 108 kL) kD.int))) (z:=(x3,x4,x5,x6)) h
 obtain ⟨E,e4,rfl,k4,h⟩:=kD.kGh (r:=(kD.slice 77 kY)) (q:=(kD.pair (kD.slice 108 kL) kD.int)) (z:=(x4,x5,x6)) h
 obtain ⟨F,I,rfl,k5,k6⟩:=kD.kGh (r:=(kD.slice 108 kL)) (q:=kD.int) (z:=(x5,x6)) h
 have l0:=(kD.slice 68 jJ).len k0.1;have l1:=kN.len k1.1;have l2:=(kD.slice 43 kH).len k2.1;have l3:=(kD.slice 99 jG).len k3.1;have G:=(kD.slice 77 kY).len k4.1;have H:=(kD.slice 108 kL).len k5.1;have D:=kD.jY (w:=w) k6.1
 match Y,l0,N,l1,R,l2,V,l3,E,G,F,H with
 | [_],_,[_,_],_,[_],_,[_],_,[_],_,[_],_ =>
   simp only [List.cons_append,List.nil_append,Aj,D.1,and_true] at he;obtain ⟨rfl,rfl,rfl,rfl,rfl,rfl,rfl,rfl⟩:=he;exact ⟨k0,k1,k2,k3,k4,k5,rfl,D.2⟩
theorem kKq {w:Ae} {c0 c1 c2 c3 c4 c5 O:Value} {x0:Ac jN} {x1:kg} {x2:Ac kF} {x3:Ac jH} {x4:Ac ky} {x5:Ac kJ} {x6:Int} {S:Nat->Prop} (h0:(kD.slice 68 jJ).ji w [c0] x0 S) (h1:kN.ji w [c1,c2] x1 S) (h2:(kD.slice 43 kH).ji w [c3] x2 S) (h3:(kD.slice 99 jG).ji w [c4] x3 S) (h4:(kD.slice 77 kY).ji w [c5] x4 S) (h5:(kD.slice 108 kL).ji w [O] x5 S) (h6:Qi x6) :
    jr.ji w [c0,c1,c2,c3,c4,c5,O,Qn x6] (x0,x1,x2,x3,x4,x5,x6) S :=
  kD.kAp (r:=(kD.slice 68 jJ)) (q:=(kD.pair kN (kD.pair (kD.slice 43 kH) (kD.pair (kD.slice 99 jG) (kD.pair (kD.slice 77 kY) (kD.pair (kD.slice 108 kL) kD.int)))))) (cs:=[c0]) (ds:=[c1,c2,c3,c4,c5,O,.int .i64 x6]) (z:=(x0,x1,x2,x3,x4,x5,x6)) h0
  (kD.kAp (r:=kN) (q:=(kD.pair (kD.slice 43 kH) (kD.pair (kD.slice 99 jG) (kD.pair (kD.slice 77 kY) (kD.pair (kD.slice 108 kL) kD.int))))) (cs:=[c1,c2]) (ds:=[c3,c4,c5,O,.int .i64 x6]) (z:=(x1,x2,x3,x4,x5,x6)) h1
  (kD.kAp (r:=(kD.slice 43 kH)) (q:=(kD.pair (kD.slice 99 jG) (kD.pair (kD.slice 77 kY) (kD.pair (kD.slice 108 kL) kD.int)))) (cs:=[c3]) (ds:=[c4,c5,O,.int .i64 x6]) (z:=(x2,x3,x4,x5,x6)) h2
  (kD.kAp (r:=(kD.slice 99 jG)) (q:=(kD.pair (kD.slice 77 kY) (kD.pair (kD.slice 108 kL) kD.int))) (cs:=[c4]) (ds:=[c5,O,.int .i64 x6]) (z:=(x3,x4,x5,x6)) h3
  (kD.kAp (r:=(kD.slice 77 kY)) (q:=(kD.pair (kD.slice 108 kL) kD.int)) (cs:=[c5]) (ds:=[O,.int .i64 x6]) (z:=(x4,x5,x6)) h4
  (kD.kAp (r:=(kD.slice 108 kL)) (q:=kD.int) (cs:=[O]) (ds:=[.int .i64 x6]) (z:=(x5,x6)) h5 (kD.flat.ji (kD.jB h6)))))))
theorem node_localO {w:Ae} {c0 c1 c2 c3 c4 c5 O o:Value} {x0:Ac jN} {x1:kg} {x2:Ac kF} {x3:Ac jH} {x4:Ac ky} {x5:Ac kJ} {x6:Int} {S:Nat->Prop} (h:jr.own w [c0,c1,c2,c3,c4,c5,O,o] (x0,x1,x2,x3,x4,x5,x6) S) :
    ∃ A B:Nat->Prop,(kD.slice 68 jJ).own w [c0] x0 A/\(kD.pair kN (kD.pair (kD.slice 43 kH) (kD.pair (kD.slice 99 jG) (kD.pair (kD.slice 77 kY) (kD.pair (kD.slice 108 kL) kD.int))))).own w [c1,c2,c3,c4,c5,O,o] (x1,x2,x3,x4,x5,x6) B/\(∀ k,A k->S k)/\(∀ k,B k->S k)/\(∀ k,A k->B k->False):=by
 obtain ⟨a,d,A,B,he,h1,h2,hA,hB,hd⟩:=kD.kEe (r:=(kD.slice 68 jJ)) (q:=(kD.pair kN (kD.pair (kD.slice 43 kH) (kD.pair (kD.slice 99 jG) (kD.pair (kD.slice 77 kY) (kD.pair (kD.slice 108 kL) kD.int)))))) h
 have l1:=(kD.slice 68 jJ).len h1.1
 match a,l1 with
 | [u],_=>simp only [List.singleton_append,Aj] at he;obtain ⟨rfl,rfl⟩:=he;exact ⟨A,B,h1,h2,hA,hB,hd⟩
theorem node_ofL {w:Ae} {c0 c1 c2 c3 c4 c5 O o:Value} {x0:Ac jN} {x1:kg} {x2:Ac kF} {x3:Ac jH} {x4:Ac ky} {x5:Ac kJ} {x6:Int} {S:Nat->Prop} (h0:(kD.slice 68 jJ).ji w [c0] x0 S) (h1:(kD.pair kN (kD.pair (kD.slice 43 kH) (kD.pair (kD.slice 99 jG) (kD.pair (kD.slice 77 kY) (kD.pair (kD.slice 108 kL) kD.int))))).ji w [c1,c2,c3,c4,c5,O,o] (x1,x2,x3,x4,x5,x6) S):jr.ji w [c0,c1,c2,c3,c4,c5,O,o] (x0,x1,x2,x3,x4,x5,x6) S :=
  kD.kAp (r:=(kD.slice 68 jJ)) (q:=(kD.pair kN (kD.pair (kD.slice 43 kH) (kD.pair (kD.slice 99 jG) (kD.pair (kD.slice 77 kY) (kD.pair (kD.slice 108 kL) kD.int)))))) (cs:=[c0]) (ds:=[c1,c2,c3,c4,c5,O,o]) (z:=(x0,x1,x2,x3,x4,x5,x6)) h0 h1
def kGt (x:yB):Prop:=x.1.length<=10/\x.2.1.2.length<=9/\kAf x.2.2.1 14/\kFn x.2.2.2.1/\x.2.2.2.2.1.length<=48/\x.2.2.2.2.2.1.length<=48/\-1<=x.2.2.2.2.2.2/\x.2.2.2.2.2.2<=0
theorem tameN.kGt {x:yB} (h:tameN x):kGt x:=⟨by have:=h.1;omega,h.2⟩
def DrawnA (w0 w:Ae) (p:Nat) (e:Ending) (w':Ae):Prop:=∃ cs x ct t tb,e=.returned (.tuple #[.agg cs.toArray,.agg ct.toArray])/\jr.ji w' cs x (jX tb w'.heap.size)/\kGt x/\kAz.ji w' ct t (jX w.heap.size tb)/\lenT t/\(w.heap.size<=tb/\tb<=w'.heap.size)/\yU w0 w' p/\Touch (λk=>k=p) w w'
theorem kZh {w0 w:Ae} {p:Nat} (hc:yU w0 w p) :
    Calls prog 44 #[.pointer (some ⟨p,0,none⟩)] w λe w'=>DrawnA w0 w p e w':=by
 go_enter func44,ntmps44
 obtain ⟨bf,b4⟩:=hc.lt
 go_upto_region 1 with fail
 generalize F:World.alloc (World.alloc w _) _=Y
 obtain ⟨hb,RN,RT,bd⟩:=AY
 clear F
 replace hc:=hc.below hb
 have N:Touch (λk=>k=p) w Y:=Touch.of_below hb
 clear hb
 go_wp2_with fail
 refine (kWo hc).mono ?_
 rintro e V ⟨cs,x,ct,t,tb,rfl,hO,hx,hT,hlt,⟨en,ep⟩,G,D⟩
 have bk:=D.size
 replace RN:=D.kC RN bC9
 replace RT:=D.kC RT bC9
 replace N:=N.trans D
 clear hc D
 have hc:=G
 clear G
 obtain ⟨a7,b8,bx,cw,be,cz,cl,co,rfl⟩:=kIp hT.rd.1
 obtain ⟨a0,c0,a1,c1,a2,c2,a3,c3,a4,c4,a5,c5,rfl⟩:=kDt hO.raw
 obtain ⟨x0,⟨kc,xe⟩,x2,x3,x4,x5,x6⟩:=x
 replace hO:jr.own _ [Qs a0 x0 c0,Qn kc,Qs a1 xe c1,Qs a2 x2 c2,Qs a3 x3 c3,Qs a4 x4 c4,Qs a5 x5 c5,Qn x6] (x0,(kc,xe),x2,x3,x4,x5,x6) _:=hO
 have J:=yD hO
 have L:=yD hT
 have O:=yD hx
 have di:=yD hlt
 clear hO hT hx hlt
 go_upto_region 2 with fail
 generalize F:World.alloc (World.alloc V _) _=w3
 have hb:Qb V w3:=by rw [<- F];exact (bR.alloc nL _).alloc bD0 _
 have BN:Qr w3 V.heap.size #[Qs a0 x0 c0,Qn kc,Qs a1 xe c1,Qs a2 x2 c2,Qs a3 x3 c3,Qs a4 x4 c4,Qs a5 x5 c5,Qn x6] 33:=sI
 have BT:Qr w3 (V.heap.size + 1) #[Qs a7 t.1 b8,Qs bx t.2.1 cw,Qs be t.2.2.1 cz,Qs cl t.2.2.2 co] 84:=by rw [<- F];exact kG bD0
 have bl:V.heap.size + 2<=w3.heap.size:=bB1
 clear F
 replace RN:=kC RN hb
 replace RT:=kC RT hb
 replace J:=yD (J.out.below hb)
 replace L:=yD (L.out.below hb)
 obtain ⟨hc,N⟩:=xG
 clear hb
 obtain ⟨R,dl⟩:∃ b_,b_=V.heap.size:=⟨_,rfl⟩
 rw [<- dl] at BN BT ⊢
 have ft:=Nat.le_of_eq dl
 have fp:=Nat.le_of_eq dl.symm
 clear dl
 go_wp2_with fail
 refine (kr (n:=14) hc bC8).mono ?_
 rintro e w4 ⟨m,bt,ah,b1,rfl,G,D⟩
 have bw:=D.size
 replace RN:=D.kC RN bC9
 replace RT:=D.kC RT bC9
 replace BN:=D.kC BN bC9
 replace BT:=D.kC BT bC9
 replace J:=yD (J.out.touch D pJ)
 replace L:=yD (L.out.touch D pJ)
 replace N:=N.trans D
 clear hc D
 have hc:=G
 clear G
 replace ah:=ah bC8
 clear b1
 obtain ⟨m,rfl⟩:=Int.eq_ofNat_of_zero_le bt
 have Z:Touch (λk=>k=p\/k=R\/(tb<=k/\k < V.heap.size)) w4 w4:=Touch.of_below bR
 have HR:=yD (J.out.ji.wide (T:=(λk=>tb<=k/\k < w4.heap.size/\k≠R/\k≠R + 1)) (λk q=>⟨q.1,by have:=q.2;omega,by have:=q.2;omega,by have:=q.2;omega⟩))
 go_upto_block 0 with fail
 go_cut [] from 11 to 44 (λwc=>∃ (a0:Ak Addr) (c0:Nat) (kc:Int) (a1:Ak Addr) (c1:Nat) (a2:Ak Addr) (c2:Nat) (a3:Ak Addr) (c3:Nat) (a4:Ak Addr) (c4:Nat) (a5:Ak Addr) (c5:Nat) (x0:Ac jN) (xe:Ac kT) (x2:Ac kF) (x3:Ac jH) (x4:Ac ky) (x5:Ac kJ) (x6:Int),Qr wc R #[Qs a0 x0 c0,Qn kc,Qs a1 xe c1,Qs a2 x2 c2,Qs a3 x3 c3,Qs a4 x4 c4,Qs a5 x5 c5,Qn x6] 33/\Hid (jr.ji wc [Qs a0 x0 c0,Qn kc,Qs a1 xe c1,Qs a2 x2 c2,Qs a3 x3 c3,Qs a4 x4 c4,Qs a5 x5 c5,Qn x6] (x0,(kc,xe),x2,x3,x4,x5,x6) (λk=>tb<=k/\k < wc.heap.size/\k≠R/\k≠R + 1))/\Hid (kGt (x0,(kc,xe),x2,x3,x4,x5,x6))/\w4.heap.size<=wc.heap.size/\yU w0 wc p/\Touch (λk=>k=p\/k=R\/(tb<=k/\k < V.heap.size)) w4 wc)
 case first =>
  clear RN RT BT L N di;by_cases ay:m=0
  · subst ay;clear J;go_wp2_with fail;refine (kZn hc).mono ?_;rintro e b6 ⟨va,vc,l,rfl,X,hP,G,D⟩;obtain ⟨cv,Z,BN,HR⟩:=DU;clear hc D;have hc:=G;clear G;have HP:=yD hP;clear hP;obtain ⟨ao,ax,ai,o,U,aw,au,am⟩:=jR BN;obtain ⟨a6,bp,bz,ba,bo,bc,br,bj⟩:=kAw BN;go_wp2;generalize F:World.setCell b6 _ _=bi;have hT:Touch (λk=>k=R) b6 bi:=vO;replace BN:Qr bi R #[Qs a0 x0 c0,Qn kc,Qs a1 xe c1,Qs va l vc,Qs a3 x3 c3,Qs a4 x4 c4,Qs a5 x5 c5,Qn x6] 33:=by rw [<- F];exact kK (BN) 3
    have dc:=hT.size;clear F;clear ao ax ai o U aw au am a6 bp bz ba bo bc br bj;obtain ⟨HR,HP⟩:=FL;obtain ⟨hc,Z⟩:=A9;clear hT;obtain ⟨k0,k1,k2,k3,k4,k5,_,k6⟩:=kFg (HR.out.wide (T:=(λk=>tb<=k/\k < bi.heap.size/\k≠R/\k≠R + 1)) pF);have kn:=HP.out.wide (T:=(λk=>tb<=k/\k < bi.heap.size/\k≠R/\k≠R + 1)) dC;go_meet;exact ⟨a0,c0,kc,a1,c1,va,vc,a3,c3,a4,c4,a5,c5,x0,xe,l,x3,x4,x5,x6,BN,yD (kKq k0 k1 kn k3 k4 k5 k6),yD (⟨O.out.kGt.1,O.out.2.1,X,O.out.2.2.2⟩),by omega,hc,Z⟩
  have b2:¬ (m:Int)=0:=bC9;by_cases a9:m=1
  · subst a9;clear J;go_wp2_with fail;refine (kZl hc).mono ?_;rintro e b6 ⟨va,vc,l,rfl,hP,X,G,D⟩;obtain ⟨cv,Z,BN,HR⟩:=DU;clear hc D;have hc:=G;clear G;have HP:=yD hP.ji;clear hP;obtain ⟨ao,ax,ai,o,U,aw,au,am⟩:=jR BN;obtain ⟨a6,bp,bz,ba,bo,bc,br,bj⟩:=kAw BN;go_wp2;generalize F:World.setCell b6 _ _=bi;have hT:Touch (λk=>k=R) b6 bi:=vO;replace BN:Qr bi R #[Qs a0 x0 c0,Qn kc,Qs a1 xe c1,Qs a2 x2 c2,Qs a3 x3 c3,Qs va l vc,Qs a5 x5 c5,Qn x6] 33:=by rw [<- F];exact kK (BN) 5
    have dc:=hT.size;clear F;clear ao ax ai o U aw au am a6 bp bz ba bo bc br bj;obtain ⟨HR,HP⟩:=FL;obtain ⟨hc,Z⟩:=A9;clear hT;obtain ⟨k0,k1,k2,k3,k4,k5,_,k6⟩:=kFg (HR.out.wide (T:=(λk=>tb<=k/\k < bi.heap.size/\k≠R/\k≠R + 1)) pF);have kn:=HP.out.wide (T:=(λk=>tb<=k/\k < bi.heap.size/\k≠R/\k≠R + 1)) dC;go_meet;exact ⟨a0,c0,kc,a1,c1,a2,c2,a3,c3,va,vc,a5,c5,x0,xe,x2,x3,l,x5,x6,BN,yD (kKq k0 k1 k2 k3 kn k5 k6),yD (⟨O.out.kGt.1,O.out.2.1,O.out.2.2.1,O.out.2.2.2.1,X.1,O.out.2.2.2.2.2⟩),by omega,hc,Z⟩
  have b5:¬ (m:Int)=1:=bC9;by_cases a8:m=2
  · subst a8;clear J;go_wp2_with fail;refine (kZi hc).mono ?_;rintro e b6 ⟨va,vc,l,rfl,hP,X,G,D⟩;obtain ⟨cv,Z,BN,HR⟩:=DU;clear hc D;have hc:=G;clear G;have HP:=yD hP.ji;clear hP;obtain ⟨ao,ax,ai,o,U,aw,au,am⟩:=jR BN;obtain ⟨a6,bp,bz,ba,bo,bc,br,bj⟩:=kAw BN;go_wp2;generalize F:World.setCell b6 _ _=bi;have hT:Touch (λk=>k=R) b6 bi:=vO;replace BN:Qr bi R #[Qs a0 x0 c0,Qn kc,Qs a1 xe c1,Qs a2 x2 c2,Qs a3 x3 c3,Qs a4 x4 c4,Qs va l vc,Qn x6] 33:=by rw [<- F];exact kK (BN) 6
    have dc:=hT.size;clear F;clear ao ax ai o U aw au am a6 bp bz ba bo bc br bj;obtain ⟨HR,HP⟩:=FL;obtain ⟨hc,Z⟩:=A9;clear hT;obtain ⟨k0,k1,k2,k3,k4,k5,_,k6⟩:=kFg (HR.out.wide (T:=(λk=>tb<=k/\k < bi.heap.size/\k≠R/\k≠R + 1)) pF);have kn:=HP.out.wide (T:=(λk=>tb<=k/\k < bi.heap.size/\k≠R/\k≠R + 1)) dC;go_meet;exact ⟨a0,c0,kc,a1,c1,a2,c2,a3,c3,a4,c4,va,vc,x0,xe,x2,x3,x4,l,x6,BN,yD (kKq k0 k1 k2 k3 k4 kn k6),yD (⟨O.out.kGt.1,O.out.2.1,O.out.2.2.1,O.out.2.2.2.1,O.out.2.2.2.2.1,X,O.out.2.2.2.2.2.2⟩),by omega,hc,Z⟩
  have ck:¬ (m:Int)=2:=bC9;by_cases bu:m=3
  · subst bu;clear J;go_wp2_with fail;refine (kZo hc).mono ?_;rintro e b6 ⟨va,vc,vk,l,rfl,hP,X,G,D⟩;obtain ⟨cv,Z,BN,HR⟩:=DU;clear hc D;have hc:=G;clear G;have HP:=yD hP;clear hP;obtain ⟨ao,ax,ai,o,U,aw,au,am⟩:=jR BN;obtain ⟨a6,bp,bz,ba,bo,bc,br,bj⟩:=kAw BN;go_wp2;generalize F:World.setCell (World.setCell b6 _ _) _ _=bi;have hT:Touch (λk=>k=R) b6 bi:=vU;replace BN:Qr bi R #[Qs a0 x0 c0,Qn vk,Qs va l vc,Qs a2 x2 c2,Qs a3 x3 c3,Qs a4 x4 c4,Qs a5 x5 c5,Qn x6] 33:=by rw [<- F];exact kK (kK (BN) 1) 2
    have dc:=hT.size;clear F;clear ao ax ai o U aw au am a6 bp bz ba bo bc br bj;obtain ⟨HR,HP⟩:=FL;obtain ⟨hc,Z⟩:=A9;clear hT;obtain ⟨k0,k1,k2,k3,k4,k5,_,k6⟩:=kFg (HR.out.wide (T:=(λk=>tb<=k/\k < bi.heap.size/\k≠R/\k≠R + 1)) pF);have kn:=HP.out.wide (T:=(λk=>tb<=k/\k < bi.heap.size/\k≠R/\k≠R + 1)) dC;go_meet;exact ⟨a0,c0,vk,va,vc,a2,c2,a3,c3,a4,c4,a5,c5,x0,l,x2,x3,x4,x5,x6,BN,yD (kKq k0 kn k2 k3 k4 k5 k6),yD (⟨O.out.kGt.1,by show l.length<=9;omega,O.out.2.2⟩),by omega,hc,Z⟩
  have dk:¬ (m:Int)=3:=bC9;by_cases bq:m=4
  · subst bq;clear HR;obtain ⟨A_,B_,hA,hB,sA,sB,da⟩:=node_localO J.out;have HA:=yD hA;have HB:=yD hB;clear hA hB J;go_upto_region 12 with fail;refine zb (λW=>Touch (λk=>k=p) w4 W/\yU w0 W p) (λ_=>True) [] [(0,true),(1,true),(2,true),(3,false),(4,false)] [(5,false),(6,true),(7,false)] bC3 bC3 pK (⟨Touch.of_below bR.drew,hc.below bR.drew⟩) ?_;intro wS E;simp only [kz,zF,Aa,Ab,Ag,Ah];refine pre_nil ?_;refine jW (v:=?_) rfl (λW hW=>?_) ?_;rotate_left;(· go_simp;try with_reducible rfl);refine jF ?_;refine jW (v:=?_) rfl (λW hW=>?_) ?_;rotate_left;(· have c6:=kE (hW.1.kC BN bC9) (j:=0) (v:=.slice a0 x0.length c0) rfl;have dj:=kE (hW.1.kC BN bC9) (j:=1) (v:=.int .i64 kc) rfl;have du:=kE (hW.1.kC BN bC9) (j:=2) (v:=.slice a1 xe.length c1) rfl;have dq:=kE (hW.1.kC BN bC9) (j:=3) (v:=.slice a2 x2.length c2) rfl;have dn:=kE (hW.1.kC BN bC9) (j:=4) (v:=.slice a3 x3.length c3) rfl;have eb:=kE (hW.1.kC BN bC9) (j:=5) (v:=.slice a4 x4.length c4) rfl;have d3:=kE (hW.1.kC BN bC9) (j:=6) (v:=.slice a5 x5.length c5) rfl;have eg:=kE (hW.1.kC BN bC9) (j:=7) (v:=.int .i64 x6) rfl;clear hW;go_simp;try with_reducible rfl);refine jF ?_;refine jW (v:=?_) rfl (λW hW=>?_) ?_;rotate_left;(· go_simp;try with_reducible rfl);refine jF ?_;refine yx rfl (λK H=>?_);go_simp;refine (kRf E.2).mono ?_;rintro e wS1 ⟨ds,x,rfl,hX,b0,ar,ap⟩;obtain ⟨ch,cg,b3,b9,cd,ca,rfl⟩:=zZ hX.raw;have HX:=yD hX;have er:=E.1.size;replace E:=And.intro (E.1.trans ap) ar;refine H _ _ E ?_;clear H K ar ap hX;refine jF ?_;refine yx rfl (λK H=>?_);go_simp;have aa:Touch (λk=>k=p) w4 (World.alloc wS1 (.cells #[.slice ch x.1.length cg,.slice b3 x.2.1.length b9,.slice cd x.2.2.1.length ca,.int .i64 x.2.2.2.1,.int .i64 x.2.2.2.2] 68))/\yU w0 (World.alloc wS1 (.cells #[.slice ch x.1.length cg,.slice b3 x.2.1.length b9,.slice cd x.2.2.1.length ca,.int .i64 x.2.2.2.1,.int .i64 x.2.2.2.2] 68)) p:=⟨E.1.trans (Touch.of_below (bR.alloc nL _)),E.2.below (bR.alloc nL _)⟩;refine H _ _ aa ?_;clear H K aa;refine jF ?_;have zS:=E.1.size;have B5:=E.1.kC BN bC9;have af:=E.2;have ad:=Z.jh E.1 (λk q=>.inl (.inl q));have ak:=HA.out.touch E.1 bN;have al:=HB.out.touch E.1 bN;clear BN hc Z HA HB;obtain ⟨v3,u3,aq,ab,ag⟩:=kD.kGg (P:=prog) (t:=24) (ty:=24) (r:=jJ) (e:=68) (c:=1) underlying24 kOx rfl bC8 bC8 ak bR HX.out (λk q1 q2=>by have h1:=sA k q1;have h2:=h1.2;have h3:=q2.1;omega) (Nat.lt_of_le_of_lt O.out.1 bC8);have z3:=ag.size;have ae:Touch (λk=>tb<=k/\k < V.heap.size) wS1 u3:=ag.wide (λk q=>⟨(sA k q.1).1,(sA k q.1).2⟩);have bm:=al.touch ag (λk q h=>da k h.1 q);have b7:(x0++[x]).length<=10:=by have h1:=O.out.1;have h2:x0.length<=9:=h1;simp;omega
    generalize x0++[x]=q at *;obtain ⟨aj,bb,ac,_⟩:=kD.kAy ab.raw;obtain rfl:v3=_:=by simpa using ac
    have BN:=ae.kC B5 bC9;have hc:=af.touch ae tN sD;have Z:=ad.jh ae (λk q=>.inl (.inr (.inr q)));obtain ⟨av,az,dm,cf,cq,dw,dv,ce⟩:=jR BN;obtain ⟨bg,bh,dh,de,dp,df,c9,dr⟩:=kAw BN;clear B5 af ad ak al ac ag ae E;refine zk trivial ?_;refine kw rfl (λK H=>?_);refine kD.kV _ _ _ rfl bD1 bD1 aq ?_;refine H _ _ trivial ?_;clear H K;refine jF ?_;refine ku ?_;refine kw rfl (λK H=>?_);go_simp;refine H _ _ trivial ?_;clear H K;refine jF ?_;refine kS ?_;generalize F:World.setCell u3 _ _=wQ;have hT:Touch (λk=>k=R) u3 wQ:=vO;have BQ:Qr wQ R #[Qs aj q bb,Qn kc,Qs a1 xe c1,Qs a2 x2 c2,Qs a3 x3 c3,Qs a4 x4 c4,Qs a5 x5 c5,Qn x6] 33:=by rw [<- F];exact kK BN 0
    have bn:=hT.size;clear F;replace hc:=hc.touch hT bC9 wM;replace Z:=Z.jh hT (λk q=>.inl (.inr (.inl q)));have k0:=(ab.ji.touch hT (λk q h=>by rcases q with q | q | q;(have h1:=(sA k q).2;omega);(have h1:=q.1;omega);(have h1:=q.1;omega))).wide (T:=(λk=>tb<=k/\k < wQ.heap.size/\k≠R/\k≠R + 1)) (λk q=>by rcases q with q | q | q;(have h1:=sA k q;have h2:=h1.2;exact ⟨h1.1,by omega,by omega,by omega⟩);exact ⟨by have:=q.1;omega,by have:=q.2;omega,by have:=q.1;omega,by have:=q.1;omega⟩;exact ⟨by have:=q.1;omega,by have:=q.2;omega,by have:=q.1;omega,by have:=q.1;omega⟩);have k1:=(bm.ji.touch hT (λk q h=>by have h1:=(sB k q).2;omega)).wide (T:=(λk=>tb<=k/\k < wQ.heap.size/\k≠R/\k≠R + 1)) (λk q=>by have h1:=sB k q;have h2:=h1.2;exact ⟨h1.1,by omega,by omega,by omega⟩);go_wp2;go_meet;exact ⟨aj,bb,kc,a1,c1,a2,c2,a3,c3,a4,c4,a5,c5,q,xe,x2,x3,x4,x5,x6,BQ,yD (node_ofL k0 k1),yD ⟨b7,O.out.2⟩,by omega,hc,Z⟩
  have dt:¬ (m:Int)=4:=bC9;by_cases an:m=5
  · subst an;clear J;obtain ⟨ao,ax,ai,o,U,aw,au,am⟩:=jR BN;obtain ⟨a6,bp,bz,ba,bo,bc,br,bj⟩:=kAw BN;go_wp2;generalize F:World.setCell w4 _ _=b6;have hT:Touch (λk=>k=R) w4 b6:=vO;replace BN:Qr b6 R #[Qs a0 x0 c0,Qn kc,Qs a1 xe c1,Qs a2 x2 c2,Qs a3 x3 c3,Qs a4 x4 c4,Qs a5 x5 c5,.int .i64 (-1)] 33:=by rw [<- F];exact kK (BN) 7
    have cv:=hT.size;clear F;clear ao ax ai o U aw au am a6 bp bz ba bo bc br bj;replace HR:=yD (HR.out.touch hT nH);obtain ⟨hc,Z⟩:=A9;clear hT;obtain ⟨k0,k1,k2,k3,k4,k5,_,k6⟩:=kFg (HR.out.wide (T:=(λk=>tb<=k/\k < b6.heap.size/\k≠R/\k≠R + 1)) pF);go_meet;exact ⟨a0,c0,kc,a1,c1,a2,c2,a3,c3,a4,c4,a5,c5,x0,xe,x2,x3,x4,x5,(-1),BN,yD (kKq k0 k1 k2 k3 k4 k5 bC9),yD ⟨O.out.kGt.1,O.out.2.1,O.out.2.2.1,O.out.2.2.2.1,O.out.2.2.2.2.1,O.out.2.2.2.2.2.1,by show (-1:Int)<=-1;omega,by show (-1:Int)<=0;omega⟩,by omega,hc,Z⟩
  have c7:¬ (m:Int)=5:=bC9;go_wp2;go_meet;exact ⟨a0,c0,kc,a1,c1,a2,c2,a3,c3,a4,c4,a5,c5,x0,xe,x2,x3,x4,x5,x6,BN,HR,yD O.out.kGt,by omega,hc,Z⟩
 clear J HR O BN Z
 rename Ae=>wd
 obtain ⟨a0,c0,kc,a1,c1,a2,c2,a3,c3,a4,c4,a5,c5,x0,xe,x2,x3,x4,x5,x6,BN,HR,bv,zd,cm,cc⟩:=hcut
 replace RN:=cc.kC RN bC9
 replace RT:=cc.kC RT bC9
 replace BT:=cc.kC BT bC9
 replace N:=N.jh cc wP
 replace L:=yD (L.out.touch cc nH)
 clear hc
 have hc:=cm
 clear cm cc
 go_upto_region 15 with fail
 have FX:=yD (λ(W:Ae) (hW:Touch (λk=>k=w.heap.size\/k=w.heap.size + 1) wd W)=>And.intro (kE (hW.kC BN bC9) (j:=0) (v:=.slice a0 x0.length c0) rfl) (And.intro (kE (hW.kC BN bC9) (j:=1) (v:=.int .i64 kc) rfl) (And.intro (kE (hW.kC BN bC9) (j:=2) (v:=.slice a1 xe.length c1) rfl) (And.intro (kE (hW.kC BN bC9) (j:=3) (v:=.slice a2 x2.length c2) rfl) (And.intro (kE (hW.kC BN bC9) (j:=4) (v:=.slice a3 x3.length c3) rfl) (And.intro (kE (hW.kC BN bC9) (j:=5) (v:=.slice a4 x4.length c4) rfl) (And.intro (kE (hW.kC BN bC9) (j:=6) (v:=.slice a5 x5.length c5) rfl) (And.intro (kE (hW.kC BN bC9) (j:=7) (v:=.int .i64 x6) rfl) (And.intro (kE (hW.kC BT bC9) (j:=0) (v:=.slice a7 t.1.length b8) rfl) (And.intro (kE (hW.kC BT bC9) (j:=1) (v:=.slice bx t.2.1.length cw) rfl) (And.intro (kE (hW.kC BT bC9) (j:=2) (v:=.slice be t.2.2.1.length cz) rfl) (kE (hW.kC BT bC9) (j:=3) (v:=.slice cl t.2.2.2.length co) rfl))))))))))))
 refine kFl (λW=>Touch (λk=>k=w.heap.size\/k=w.heap.size + 1) wd W) bC3 (Touch.of_below bR.drew) ?_
 intro t1 dx E
 have bD:Qb wd t1:=(by rw [dx];exact bR.drew)
 replace RN:=kC RN bD
 replace RT:=kC RT bD
 clear bD dx
 have f9:=E.size
 refine kQ 0 ?_
 refine kQ 1 ?_
 refine kP (k:=2) rfl bC3 rfl (λK H=>?_)
 obtain ⟨dz,d5,d0,d7,fb,et,e5,fi⟩:=jR RN
 obtain ⟨d6,d2,d4,d9,e3,e0,fd,e1⟩:=kAw RN
 go_simp
 generalize F:World.setCell (World.setCell (World.setCell (World.setCell (World.setCell (World.setCell (World.setCell (World.setCell t1 _ _) _ _) _ _) _ _) _ _) _ _) _ _) _ _=t2
 have hT:Touch (λk=>k=w.heap.size) t1 t2:=(by rw [<- F];exact sT8)
 replace RN:Qr t2 w.heap.size #[Qs a0 x0 c0,Qn kc,Qs a1 xe c1,Qs a2 x2 c2,Qs a3 x3 c3,Qs a4 x4 c4,Qs a5 x5 c5,Qn x6] 33:=(by rw [<- F];exact kK (kK (kK (kK (kK (kK (kK (kK (RN) 0) 1) 2) 3) 4) 5) 6) 7)
 have fo:=hT.size
 clear F dz d6 d5 d2 d0 d4 d7 d9 fb e3 et e0 e5 fd fi e1
 replace RT:=hT.kC RT bC9
 replace E:=E.trans (hT.wide (λk q=>.inl q))
 clear hT
 refine H _ _ E ?_
 clear H K
 refine jF ?_
 refine kP (k:=3) rfl bC3 rfl (λK H=>?_)
 obtain ⟨dz,d5,d0,d7⟩:=kKm RT
 obtain ⟨d6,d2,d4,d9⟩:=kUm RT
 go_simp
 generalize F:World.setCell (World.setCell (World.setCell (World.setCell t2 _ _) _ _) _ _) _ _=t3
 obtain ⟨hT,RT,fj⟩:=DC
 clear F dz d6 d5 d2 d0 d4 d7 d9
 replace RN:=hT.kC RN bC9
 replace E:=E.trans (hT.wide (λk q=>.inr q))
 clear hT
 refine H _ _ E ?_
 clear H K
 refine jF ?_
 refine jf bC3 ?_
 obtain ⟨e9,ff,ey,eh,dy,e7,ei,ez⟩:=jR RN
 obtain ⟨dg,c8,dd,db⟩:=kKm RT
 have zS:=E.size
 go_wp2
 refine Ai (v:=.tuple #[.agg #[Qs a0 x0 c0,Qn kc,Qs a1 xe c1,Qs a2 x2 c2,Qs a3 x3 c3,Qs a4 x4 c4,Qs a5 x5 c5,Qn x6],.agg #[Qs a7 t.1 b8,Qs bx t.2.1 cw,Qs be t.2.2.1 cz,Qs cl t.2.2.2 co]]) (by simp [results,results44,go_sem,e9,ff,ey,eh,dy,e7,ei,ez,dg,c8,dd,db]) rfl ⟨[Qs a0 x0 c0,Qn kc,Qs a1 xe c1,Qs a2 x2 c2,Qs a3 x3 c3,Qs a4 x4 c4,Qs a5 x5 c5,Qn x6],(x0,(kc,xe),x2,x3,x4,x5,x6),[.slice a7 t.1.length b8,.slice bx t.2.1.length cw,.slice be t.2.2.1.length cz,.slice cl t.2.2.2.length co],t,tb,rfl,?_,bv.out,?_,di.out,⟨by omega,by omega⟩,hc.touch E bC9 wP,N.jh E wP⟩
 · exact (HR.out.touch E rZ).wide (T:=jX tb _) (λj I=>⟨I.1,by have:=I.2.1;omega⟩)
 exact (L.out.touch E rZ).wide (T:=jX w.heap.size tb) mH
def DrawnOne (w0 w:Ae) (e:Ending) (w':Ae):Prop:=∃ p cs x,e=.returned (.tuple #[.pointer (some ⟨p,0,none⟩),.agg cs.toArray])/\jr.ji w' cs x (λk=>p < k/\k < w'.heap.size)/\kGt x/\w.heap.size<=p/\yU w0 w' p/\Qb w w'
theorem kZg {w0 w:Ae} {v:Value} {O:Ac UInt8} (aw:(kD.slice 5 kD.byte).raw w0 [v] O) (cq:Qb w0 w) :
    Calls prog 13 #[v] w λe w'=>DrawnOne w0 w e w':=by
 obtain ⟨ca,cc,rfl,_⟩:=kD.sl aw
 go_enter func13,ntmps13
 go_upto_region 1 with fail
 generalize F:World.alloc w _=Y
 obtain ⟨X,R,bd⟩:=EU
 clear F
 have U:=X
 clear X
 go_wp2_with fail
 refine (specl1New_o aw (tQ cq U)).mono ?_
 rintro e V ⟨p,rfl,hc,bf,L⟩
 have bk:=L.size
 have b4:=hc.lt.2
 have ai:=cq.size
 replace R:=kC R L
 have N:Touch (λk=>k=p) w V:=Touch.of_below (tQ U L)
 clear L U
 go_wp2_with fail
 refine (kZh hc).mono ?_
 rintro e w3 ⟨cs,x,ct,t,tb,rfl,hO,hx,hT,hlt,⟨en,ep⟩,G,D⟩
 have bl:=D.size
 replace R:=D.kC R bC9
 replace N:=N.trans D
 clear hc D
 have hc:=G
 clear G
 obtain ⟨a7,b8,bx,cw,be,cz,cl,co,rfl⟩:=kIp hT.rd.1
 obtain ⟨a0,c0,a1,c1,a2,c2,a3,c3,a4,c4,a5,c5,rfl⟩:=kDt hO.rd.1
 obtain ⟨x0,⟨kc,xe⟩,x2,x3,x4,x5,x6⟩:=x
 obtain ⟨hO,J⟩:=GA
 have HX:=yD hx
 clear hO hx hT hlt
 go_upto_region 3 with fail
 generalize F:World.alloc (World.alloc w3 _) _=w9
 have hb:Qb w3 w9:=by rw [<- F];exact (bR.alloc nL _).alloc bD0 _
 have BN:Qr w9 w3.heap.size #[Qs a0 x0 c0,Qn kc,Qs a1 xe c1,Qs a2 x2 c2,Qs a3 x3 c3,Qs a4 x4 c4,Qs a5 x5 c5,Qn x6] 33:=sI
 have de:w3.heap.size + 2<=w9.heap.size:=bB1
 clear F
 replace R:=kC R hb
 replace J:=yD (J.out.below hb)
 obtain ⟨hc,N⟩:=xG
 clear hb
 refine jm (SR w0 w9 p (w.heap.size) 33 8) [(0,true),(1,true),(2,true),(3,false)] bC3 bC3 pK (SR.start hc R rfl) ?_
 intro wS1 E
 simp only [kz,Aa,Ab,Ag,Ah]
 refine jC (v:=?_) rfl (λW hW=>?_) ?_;rotate_left;(· go_simp;try with_reducible rfl)
 try simp only [Ad,zA,zB,zC]
 refine jC (v:=?_) rfl (λW hW=>?_) ?_;rotate_left;(· have c6:=kE (hW.touch.kC BN bC9) (j:=0) (v:=.slice a0 x0.length c0) rfl;have dj:=kE (hW.touch.kC BN bC9) (j:=1) (v:=.int .i64 kc) rfl;have du:=kE (hW.touch.kC BN bC9) (j:=2) (v:=.slice a1 xe.length c1) rfl;have dq:=kE (hW.touch.kC BN bC9) (j:=3) (v:=.slice a2 x2.length c2) rfl;have dn:=kE (hW.touch.kC BN bC9) (j:=4) (v:=.slice a3 x3.length c3) rfl;have eb:=kE (hW.touch.kC BN bC9) (j:=5) (v:=.slice a4 x4.length c4) rfl;have d3:=kE (hW.touch.kC BN bC9) (j:=6) (v:=.slice a5 x5.length c5) rfl;have eg:=kE (hW.touch.kC BN bC9) (j:=7) (v:=.int .i64 x6) rfl;clear hW;go_simp;try with_reducible rfl)
 try simp only [Ad,zA,zB,zC]
 refine jC (v:=?_) rfl (λW hW=>?_) ?_;rotate_left;(· go_simp;try with_reducible rfl)
 try simp only [Ad,zA,zB,zC]
 have cg:=E.touch.size
 obtain ⟨l_,o,RS⟩:=E.row
 obtain ⟨af,ah,Z,ag,ab,ac,aa,ae,rfl⟩:=list8 o
 obtain ⟨ad,aj,an⟩:=GU
 obtain ⟨al,bb,av,bh,bg,bm,bi,c7,df,c9,da,dc,dh,bw⟩:=xP
 have BS:=(N.below nL wM).trans (E.touch.below (B:=w.heap.size) bC9 wM)
 refine kw rfl (λK H=>?_);go_simp;refine H _ _ ((((((((E.set bC9 bC9 _ _).set bC9 bC9 _ _).set bC9 bC9 _ _).set bC9 bC9 _ _).set bC9 bC9 _ _).set bC9 bC9 _ _).set bC9 bC9 _ _).set bC9 bC9 _ _) ?_;clear H K
 try simp only [Ad,zA,zB,zC]
 refine kS ?_
 go_wp2
 refine Ai (v:=.tuple #[.pointer (some ⟨p,0,none⟩),.agg #[Qs a0 x0 c0,Qn kc,Qs a1 xe c1,Qs a2 x2 c2,Qs a3 x3 c3,Qs a4 x4 c4,Qs a5 x5 c5,Qn x6]]) (by simp [results,results13,go_sem,ad,aj,an,al,bb,av,bh,bg,bm,bi,c7,df,c9,da,dc,dh]) rfl ⟨p,[.slice a0 x0.length c0,.int .i64 kc,.slice a1 xe.length c1,.slice a2 x2.length c2,.slice a3 x3.length c3,.slice a4 x4.length c4,.slice a5 x5.length c5,.int .i64 x6],(x0,(kc,xe),x2,x3,x4,x5,x6),rfl,?_,HX.out,by omega,E.cur.touch sT8 bC9 wM,?_⟩
 · exact (bw.out.touch sT8 sD).wide fB
 exact BS.trans ((sT8:Touch (λk=>k=w.heap.size) wS1 _).below (B:=w.heap.size) bC9 wM)
def DrawnTk (w:Ae) (e:Ending) (w':Ae):Prop:=∃ cs x now,e=.returned (.tuple #[.agg cs.toArray,.int .i64 now])/\jr.ji w' cs x (jX w.heap.size w'.heap.size)/\kGt x/\(44<=now/\now<=57)/\Qb w w'
theorem kNb {w:Ae} {v:Value} {O:Ac UInt8} (aw:(kD.slice 5 kD.byte).raw w [v] O) :
    Calls prog 5 #[v] w λe w'=>DrawnTk w e w':=by
 obtain ⟨ca,cc,rfl,_⟩:=kD.sl aw
 go_enter func5,ntmps5
 go_upto_region 1 with fail
 generalize F:World.alloc w _=Y
 obtain ⟨X,R,bd⟩:=EU
 clear F
 have U:=X
 clear X
 go_wp2_with fail
 refine (kZg aw U).mono ?_
 rintro e V ⟨p,cs,x,rfl,hO,hx,bf,hc,L⟩
 have bk:=L.size
 have b4:=hc.lt.2
 replace R:=kC R L
 have N:Touch (λk=>k=p) w V:=Touch.of_below (tQ U L)
 clear L U
 obtain ⟨a0,c0,a1,c1,a2,c2,a3,c3,a4,c4,a5,c5,rfl⟩:=kDt hO.rd.1
 obtain ⟨x0,⟨kc,xe⟩,x2,x3,x4,x5,x6⟩:=x
 obtain ⟨hO,J⟩:=GA
 have HX:=yD hx
 clear hO hx
 go_upto_region 2 with fail
 generalize F:World.alloc V _=w3
 have ak:Qb V w3:=rM
 have BN:Qr w3 V.heap.size #[Qs a0 x0 c0,Qn kc,Qs a1 xe c1,Qs a2 x2 c2,Qs a3 x3 c3,Qs a4 x4 c4,Qs a5 x5 c5,Qn x6] 33:=vB
 have bl:V.heap.size + 1<=w3.heap.size:=bB1
 clear F
 obtain ⟨R,J,hc,N⟩:=z8
 clear ak
 refine jm (SR w w3 p (w.heap.size) 33 8) [(0,true),(1,true),(2,false),(3,true),(4,false),(5,true)] bC3 bC3 pK (SR.start hc R rfl) ?_
 intro wS1 E
 simp only [kz,Aa,Ab,Ag,Ah]
 refine jC (v:=?_) rfl (λW hW=>?_) ?_;rotate_left;(· have c6:=kE (hW.touch.kC BN bC9) (j:=0) (v:=.slice a0 x0.length c0) rfl;have dj:=kE (hW.touch.kC BN bC9) (j:=1) (v:=.int .i64 kc) rfl;have du:=kE (hW.touch.kC BN bC9) (j:=2) (v:=.slice a1 xe.length c1) rfl;have dq:=kE (hW.touch.kC BN bC9) (j:=3) (v:=.slice a2 x2.length c2) rfl;have dn:=kE (hW.touch.kC BN bC9) (j:=4) (v:=.slice a3 x3.length c3) rfl;have eb:=kE (hW.touch.kC BN bC9) (j:=5) (v:=.slice a4 x4.length c4) rfl;have d3:=kE (hW.touch.kC BN bC9) (j:=6) (v:=.slice a5 x5.length c5) rfl;have eg:=kE (hW.touch.kC BN bC9) (j:=7) (v:=.int .i64 x6) rfl;clear hW;go_simp;try with_reducible rfl)
 try simp only [Ad,zA,zB,zC]
 refine jC (v:=?_) rfl (λW hW=>?_) ?_;rotate_left;(· go_simp;try with_reducible rfl)
 try simp only [Ad,zA,zB,zC]
 refine kw rfl (λK H=>?_);go_simp;refine (kr (n:=14) E.2 bC8).mono ?_;rintro e wS1 ⟨y,b7,bn,bz,rfl,ar,ap⟩;replace bn:=bn bC8;clear bz;replace E:=E.go ap ar bC9;clear ar ap;have hw:IntKind.i64.wrap (44 + y)=44 + y:=IntWalk.i64_in _ bC9;refine H _ _ E ?_;clear H K
 try simp only [Ad,zA,zB,zC]
 refine jC (v:=?_) rfl (λW hW=>?_) ?_;rotate_left;(· go_simp;try with_reducible rfl)
 try simp only [Ad,zA,zB,zC]
 have cg:=E.touch.size
 obtain ⟨l_,o,RS⟩:=E.row
 obtain ⟨af,ah,Z,ag,ab,ac,aa,ae,rfl⟩:=list8 o
 obtain ⟨ad,aj,an⟩:=GU
 obtain ⟨al,bb,av,bh,bg,bm,bi,c7,df,c9,da,dc,dh,bw⟩:=xP
 have BS:=(N.below nL wM).trans (E.touch.below (B:=w.heap.size) bC9 wM)
 refine kw rfl (λK H=>?_);go_simp;refine H _ _ ((((((((E.set bC9 bC9 _ _).set bC9 bC9 _ _).set bC9 bC9 _ _).set bC9 bC9 _ _).set bC9 bC9 _ _).set bC9 bC9 _ _).set bC9 bC9 _ _).set bC9 bC9 _ _) ?_;clear H K
 try simp only [Ad,zA,zB,zC]
 refine jC (v:=?_) rfl (λW hW=>?_) ?_;rotate_left;(· go_simp;try with_reducible rfl)
 try simp only [Ad,zA,zB,zC]
 refine kS ?_
 go_wp2
 refine Ai (v:=.tuple #[.agg #[Qs a0 x0 c0,Qn kc,Qs a1 xe c1,Qs a2 x2 c2,Qs a3 x3 c3,Qs a4 x4 c4,Qs a5 x5 c5,Qn x6],.int .i64 (44 + y)]) (by simp [results,results5,go_sem,ad,aj,an,al,bb,av,bh,bg,bm,bi,c7,df,c9,da,dc,dh]) rfl ⟨[Qs a0 x0 c0,Qn kc,Qs a1 xe c1,Qs a2 x2 c2,Qs a3 x3 c3,Qs a4 x4 c4,Qs a5 x5 c5,Qn x6],(x0,(kc,xe),x2,x3,x4,x5,x6),44 + y,rfl,?_,HX.out,⟨by omega,by omega⟩,?_⟩
 · exact (bw.out.touch sT8 sD).wide fB
 exact BS.trans ((sT8:Touch (λk=>k=w.heap.size) wS1 _).below (B:=w.heap.size) bC9 wM)
end Go.Proofs.YtonmjkmaadgceabGreat

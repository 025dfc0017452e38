/-
  Data as the reference draws them.
-/
import Derived.Test.YtonmjkmaadgceaaGreatPat
set_option linter.unusedVariables false
set_option linter.unusedSimpArgs false
set_option linter.unnecessarySimpa false
set_option maxRecDepth 100000
set_option maxHeartbeats 8000000
namespace Go.Proofs.YtonmjkmaadgceaaGreat
open Go.RowKit _root_.Go.Proofs.Tryz
theorem kIp {w0 w:World} {p:Nat} (hc:yK w0 w p) :
    Calls prog 121 #[.pointer (some ⟨p,0,none⟩)] w fun e w'=>kXj 4 w0 w p e w':=by
 go_enter func121,ntmps121
 obtain ⟨b7,cj⟩:=hc.lt
 go_upto_region 1 with fail
 generalize F:World.alloc w _=w1
 obtain ⟨ak,R,bn⟩:=BS
 clear F
 obtain ⟨hc,H⟩:=q8
 clear ak
 go_wp2_with fail
 refine (kIq hc).mono ?_
 rintro e V ⟨a,n,c,ps,rfl,hO,cq,db,G,D⟩
 obtain ⟨bo,R,H⟩:=xE
 clear hc D
 have hc:=G
 clear G
 have L:=yD hO
 clear hO
 go_upto_region 2 with fail
 generalize F:World.alloc V _=w3
 obtain ⟨ap,B,bp⟩:=xW
 clear F
 obtain ⟨R,L,hc,H⟩:=x8
 clear ap
 have av:w3.cell? ⟨V.heap.size,0,none⟩=some (.slice a n c):=kF B rfl
 obtain ⟨_,_,_,a1,a7⟩:=L.out.parts
 simp only [Value.slice.injEq] at a1
 have bx:=yD (a1.2.1.trans a7.out)
 clear a1 a7
 go_upto_if 10 with fail
 go_cut [] from 7 to 13 (fun wc=>∃ (na:Option Addr) (nc:Nat) (qs:kQ),wc.heap[w.heap.size]?=some (.cells #[.slice none 0 0,.slice none 0 0,.slice none 0 0,.int .i64 0,.int .i64 0] 43 (0,0))∧wc.heap[V.heap.size]?=some (.cells #[.slice na qs.length nc] 41 (0,0))∧Hid (kM.own wc [.slice na qs.length nc] qs (fun k=>w.heap.size < k∧k < wc.heap.size∧k≠V.heap.size∧k≠p))∧0 < qs.length∧qs.length≤64∧w3.heap.size≤wc.heap.size∧yK w0 wc p∧Touch (fun k=>k=p) w wc)
 case first =>
  by_cases hz:n=0
  · subst hz
    obtain rfl:ps=[]:=List.eq_nil_of_length_eq_zero bx.out.symm
    clear av
    obtain ⟨av,ab,GB,HB⟩:=uS
    go_wp2
    clear GB HB
    have a2:=yD (kE.kGr (e:=9) w3 (kE.kCy (s:={ data:=#[97] }) bB8))
    generalize F:World.alloc w3 _=w4 at a2 ⊢
    have a3:Below w3.heap.size w3 w4:=rX
    have b9:w3.heap.size + 1≤w4.heap.size:=bA3
    clear F L
    replace R:=kD R a3
    replace B:=kD B a3
    replace hc:=hc.below a3
    replace H:=H.trans (Touch.of_below a3)
    clear av ab
    clear a3
    have L:=yD (kE.ku.wide (T:=fun j=>w1.heap.size≤j∧j < w4.heap.size∧j≠V.heap.size) a2.out qQ)
    clear a2
    generalize F:World.setCell w4 _ _=w5
    obtain ⟨cz,B,cd⟩:=DC
    clear F
    replace R:=cz.kD R bB9
    replace L:=yD (L.out.touch cz (fun k q=>q.2.2))
    replace hc:=hc.touch cz bB9 wB
    replace H:=H.jJ cz bB9
    clear cz
    go_meet
    exact ⟨_,_,[({ data:=#[97] }:ByteArray)],R,B,yD ((L.out.own bB8).wide (fun k q=>⟨by have:=q.1;omega,by have:=q.2.1;omega,q.2.2,by have:=q.1;omega⟩)),by decide,by decide,by omega,hc,H⟩
  have co:¬ (n:Int)=0:=bB9
  obtain rfl:=bx.out
  go_wp2
  go_meet
  exact ⟨a,c,ps,R,B,yD ((L.out.own vV).wide (fun k q=>⟨by have:=q.1;omega,by have:=q.2;omega,by have:=q.2;omega,by have:=q.1;omega⟩)),by omega,by omega,Nat.le_refl _,hc,H⟩
 rename World=>wb
 clear R L bx hc H B av
 obtain ⟨na,nc,qs,R,B,L,b5,c2,d3,hc,H⟩:=hcut
 have c1:=hc.lt.2
 go_upto_region 4 with fail
 go_cut [4] from 13 to 26 (fun s4 wd=>∃ (b:Nat) (ba:Option Addr) (bc:Nat) (U:List UInt8) (ka:Option Addr) (kc:Nat) (ks:kQ) (z:Int),s4=.pointer (some ⟨b,0,none⟩)∧wd.heap[b]?=some (.cells #[.slice na qs.length nc,.slice ba U.length bc,.slice ka ks.length kc,.int .i64 (40 + z),.int .i64 0] 43 (0,0))∧Hid ((kE.slice 5 kE.byte).jY wd [.slice ba U.length bc] U (fun k=>wb.heap.size≤k∧k≠b))∧U.length≤4∧Hid (kM.jY wd [.slice ka ks.length kc] ks (fun k=>wb.heap.size≤k∧k≠b))∧(0≤z∧z < 60)∧wb.heap.size≤b∧b < wd.heap.size∧yK w0 wd p∧Touch (fun k=>k=p) wb wd)
 case first =>
  have FX:=yD (fun (W:World) (hW:Touch (fun k=>k=p) wb W∧yK w0 W p)=>kF (hW.1.kD B bB9) (j:=0) (v:=.slice na qs.length nc) rfl)
  refine kAf (fun W=>Touch (fun k=>k=p) wb W∧yK w0 W p) bB4 (⟨Touch.of_below bR.drew,hc.below bR.drew⟩) ?_
  intro t E
  have eb:=E.1.size
  refine jB 0 ?_
  refine kX ?_
  refine jB 1 ?_
  refine kX ?_
  refine jB 2 ?_
  refine kX ?_
  refine jB 5 ?_
  refine kX ?_
  refine jB 9 ?_
  refine kX ?_
  refine kFp ?_
  intro T A Y hA
  have aw:∀ (x:Int),∀ (ba:Option Addr),∀ (bc:Nat),∀ (U:List UInt8),∀ (X:Nat),∀ (y:ByteArray),∀ (ka:Option Addr),∀ (kc:Nat),∀ (ks:kQ),∀ (z:Int),∀ (b:Nat),∀ (W:World),Touch (fun k=>k=p) wb W∧yK w0 W p→(0≤x)→(x < 5)→(U.length≤4)→(Hid ((kE.slice 5 kE.byte).jY W [.slice ba U.length bc] U (fun k=>wb.heap.size≤k∧k < W.heap.size∧k≠b)))→(y∈([{ data:=#[47,107,101,121,47,97] },{ data:=#[47,107,101,121,47,98] },{ data:=#[47,97,47,107,101,121] }]:List ByteArray))→(Hid (kM.jY W [.slice ka ks.length kc] ks (fun k=>wb.heap.size≤k∧k < W.heap.size∧k≠b)))→(0≤z)→(z < 60)→(IntKind.i64.wrap (40 + z)=40 + z)→(wb.heap.size≤b∧b < W.heap.size)→(W.heap[b]?=some (.cells #[.slice na qs.length nc,.slice ba U.length bc,.slice ka ks.length kc,.int .i64 (40 + z),.int .i64 0] 43 (0,0)))→T 0 [true,true,true,true,true,true,true,true,true,true,true,true,true,true,true] (Act.put (Act.put (Act.put (Act.put (Act.put (Act.put (Act.put (Act.put (Act.put A (some 16) (.int .i64 x)) (some 17) (.slice ba U.length bc)) (some 19) (.slice (some ⟨X,0,none⟩) 3 3)) (some 20) (.string y)) (some 21) (.agg #[.slice ka ks.length kc])) (some 23) (.int .i64 z)) (some 24) (.int .i64 (40 + z))) (some 25) (.agg #[.slice na qs.length nc,.slice ba U.length bc,.slice ka ks.length kc,.int .i64 (40 + z),.int .i64 0])) (some 4) (.pointer (some ⟨b,0,none⟩))) W:=by
   intro x ba bc U X y ka kc ks z b W E ax Z bk HB al HK bb az hw N BB
   have b6:=E.1.size
   subst Y
   subst hA
   simp only [Act.put,zA,zB,zC]
   refine yR bB4 ?_
   go_wp2
   go_meet
   exact ⟨b,ba,bc,U,ka,kc,ks,z,rfl,BB,yD (HB.out.wide (fun k q=>⟨q.1,q.2.2⟩)),bk,yD (HK.out.wide (fun k q=>⟨q.1,q.2.2⟩)),⟨bb,az⟩,N.1,N.2,E.2,E.1⟩
  have ag:∀ (x:Int),∀ (ba:Option Addr),∀ (bc:Nat),∀ (U:List UInt8),∀ (X:Nat),∀ (y:ByteArray),∀ (ka:Option Addr),∀ (kc:Nat),∀ (ks:kQ),∀ (z:Int),∀ (b:Nat),∀ (W:World),Touch (fun k=>k=p) wb W∧yK w0 W p→(0≤x)→(x < 5)→(U.length≤4)→(Hid ((kE.slice 5 kE.byte).jY W [.slice ba U.length bc] U (fun k=>wb.heap.size≤k∧k < W.heap.size∧k≠b)))→(y∈([{ data:=#[47,107,101,121,47,97] },{ data:=#[47,107,101,121,47,98] },{ data:=#[47,97,47,107,101,121] }]:List ByteArray))→(Hid (kM.jY W [.slice ka ks.length kc] ks (fun k=>wb.heap.size≤k∧k < W.heap.size∧k≠b)))→(0≤z)→(z < 60)→(IntKind.i64.wrap (40 + z)=40 + z)→(wb.heap.size≤b∧b < W.heap.size)→(W.heap[b]?=some (.cells #[.slice none 0 0,.slice none 0 0,.slice none 0 0,.int .i64 0,.int .i64 0] 43 (0,0)))→T 1 [true,true,true,true,true,true,true,true,true,true,true,true,true,true,false] (Act.put (Act.put (Act.put (Act.put (Act.put (Act.put (Act.put (Act.put (Act.put A (some 16) (.int .i64 x)) (some 17) (.slice ba U.length bc)) (some 19) (.slice (some ⟨X,0,none⟩) 3 3)) (some 20) (.string y)) (some 21) (.agg #[.slice ka ks.length kc])) (some 23) (.int .i64 z)) (some 24) (.int .i64 (40 + z))) (some 25) (.agg #[.slice na qs.length nc,.slice ba U.length bc,.slice ka ks.length kc,.int .i64 (40 + z),.int .i64 0])) (some 4) (.pointer (some ⟨b,0,none⟩))) W:=by
   intro x ba bc U X y ka kc ks z b W E ax Z bk HB al HK bb az hw N BB
   have b6:=E.1.size
   subst Y
   subst hA
   simp only [Act.put,zA,zB,zC]
   refine kY (k:=14) rfl bB4 rfl (fun K J=>?_)
   obtain ⟨dp,du,dx,dv,dj⟩:=jU BB
   obtain ⟨dq,c5,dl,dk,cu⟩:=zh BB
   go_simp
   generalize F:World.setCell (World.setCell (World.setCell (World.setCell (World.setCell W _ _) _ _) _ _) _ _) _ _=v
   have Y:Touch (fun k=>k=b) W v:=(by rw [← F];exact ((((kC _ _ _ _).trans (kC _ _ _ _)).trans (kC _ _ _ _)).trans (kC _ _ _ _)).trans (kC _ _ _ _))
   replace BB:v.heap[b]?=some (.cells #[.slice na qs.length nc,.slice ba U.length bc,.slice ka ks.length kc,.int .i64 (40 + z),.int .i64 0] 43 (0,0)):=(by rw [← F];exact kH (kH (kH (kH (kH (BB) 0) 1) 2) 3) 4)
   clear F dp du dx dv dj dq c5 dl dk cu
   have zv:=Y.size
   replace HB:Hid ((kE.slice 5 kE.byte).jY v [.slice ba U.length bc] U (fun k=>wb.heap.size≤k∧k < v.heap.size∧k≠b)):=yD ((HB.out.touch Y (fun k q h=>q.2.2 h)).wide (fun k q=>⟨q.1,Nat.lt_of_lt_of_le q.2.1 Y.size,q.2.2⟩))
   replace HK:Hid (kM.jY v [.slice ka ks.length kc] ks (fun k=>wb.heap.size≤k∧k < v.heap.size∧k≠b)):=yD ((HK.out.touch Y (fun k q h=>q.2.2 h)).wide (fun k q=>⟨q.1,Nat.lt_of_lt_of_le q.2.1 Y.size,q.2.2⟩))
   replace N:wb.heap.size≤b∧b < v.heap.size:=⟨N.1,Nat.lt_of_lt_of_le N.2 Y.size⟩
   replace E:=And.intro (E.1.jJ Y bB9) (E.2.touch Y bB9 qK)
   refine J _ _ E ?_
   clear J K
   refine kX ?_
   have h_:=aw x ba bc U X y ka kc ks z b v E ax Z bk HB al HK bb az hw N BB
   exact dD
  have bg:∀ (x:Int),∀ (ba:Option Addr),∀ (bc:Nat),∀ (U:List UInt8),∀ (X:Nat),∀ (y:ByteArray),∀ (ka:Option Addr),∀ (kc:Nat),∀ (ks:kQ),∀ (z:Int),∀ (W:World),Touch (fun k=>k=p) wb W∧yK w0 W p→(0≤x)→(x < 5)→(U.length≤4)→(Hid ((kE.slice 5 kE.byte).jY W [.slice ba U.length bc] U (fun k=>wb.heap.size≤k∧k < W.heap.size∧k≠p)))→(y∈([{ data:=#[47,107,101,121,47,97] },{ data:=#[47,107,101,121,47,98] },{ data:=#[47,97,47,107,101,121] }]:List ByteArray))→(Hid (kM.jY W [.slice ka ks.length kc] ks (fun k=>wb.heap.size≤k∧k < W.heap.size∧k≠p)))→(0≤z)→(z < 60)→(IntKind.i64.wrap (40 + z)=40 + z)→T 2 [true,true,true,true,true,true,true,true,true,true,true,true,true,false,false] (Act.put (Act.put (Act.put (Act.put (Act.put (Act.put (Act.put (Act.put A (some 16) (.int .i64 x)) (some 17) (.slice ba U.length bc)) (some 19) (.slice (some ⟨X,0,none⟩) 3 3)) (some 20) (.string y)) (some 21) (.agg #[.slice ka ks.length kc])) (some 23) (.int .i64 z)) (some 24) (.int .i64 (40 + z))) (some 25) (.agg #[.slice na qs.length nc,.slice ba U.length bc,.slice ka ks.length kc,.int .i64 (40 + z),.int .i64 0])) W:=by
   intro x ba bc U X y ka kc ks z W E ax Z bk HB al HK bb az hw
   have b6:=E.1.size
   subst Y
   subst hA
   simp only [Act.put,zA,zB,zC]
   refine kY (k:=13) rfl bB4 rfl (fun K J=>?_)
   go_simp
   generalize F:World.alloc W _=v
   obtain ⟨hb,BB,zv⟩:=oN
   clear F
   obtain ⟨b,ay⟩:∃ b_,b_=W.heap.size:=⟨_,rfl⟩
   rw [← ay] at BB ⊢
   obtain ⟨HB,HK⟩:=xO
   obtain ⟨N,E⟩:=uG
   refine J _ _ E ?_
   clear J K
   exact fB
  have a4:∀ (x:Int),∀ (ba:Option Addr),∀ (bc:Nat),∀ (U:List UInt8),∀ (X:Nat),∀ (y:ByteArray),∀ (ka:Option Addr),∀ (kc:Nat),∀ (ks:kQ),∀ (b:Nat),∀ (W:World),Touch (fun k=>k=p) wb W∧yK w0 W p→(0≤x)→(x < 5)→(U.length≤4)→(Hid ((kE.slice 5 kE.byte).jY W [.slice ba U.length bc] U (fun k=>wb.heap.size≤k∧k < W.heap.size∧k≠b)))→(y∈([{ data:=#[47,107,101,121,47,97] },{ data:=#[47,107,101,121,47,98] },{ data:=#[47,97,47,107,101,121] }]:List ByteArray))→(Hid (kM.jY W [.slice ka ks.length kc] ks (fun k=>wb.heap.size≤k∧k < W.heap.size∧k≠b)))→(wb.heap.size≤b∧b < W.heap.size)→(W.heap[b]?=some (.cells #[.slice none 0 0,.slice none 0 0,.slice none 0 0,.int .i64 0,.int .i64 0] 43 (0,0)))→T 4 [true,true,true,true,true,true,true,true,true,true,false,false,false,true,false] (Act.put (Act.put (Act.put (Act.put (Act.put (Act.put A (some 16) (.int .i64 x)) (some 17) (.slice ba U.length bc)) (some 19) (.slice (some ⟨X,0,none⟩) 3 3)) (some 20) (.string y)) (some 21) (.agg #[.slice ka ks.length kc])) (some 4) (.pointer (some ⟨b,0,none⟩))) W:=by
   intro x ba bc U X y ka kc ks b W E ax Z bk HB al HK N BB
   have b6:=E.1.size
   subst Y
   subst hA
   simp only [Act.put,zA,zB,zC]
   refine kY (k:=10) rfl bB4 rfl (fun K J=>?_)
   go_simp
   refine (kV (n:=60) E.2 bB8).mono ?_
   rintro e v ⟨z,bb,az,an,rfl,G,D⟩
   obtain ⟨zv,c6,HB⟩:=AV
   replace HK:Hid (kM.jY v [.slice ka ks.length kc] ks (fun k=>wb.heap.size≤k∧k < v.heap.size∧k≠b)):=yD ((HK.out.touch D sK).wide (fun k q=>⟨q.1,Nat.lt_of_lt_of_le q.2.1 D.size,q.2.2⟩))
   obtain ⟨BB,N⟩:=uK
   replace az:=az bB8
   clear an
   have hw:IntKind.i64.wrap (40 + z)=40 + z:=IntWalk.i64_in _ bB9
   replace E:=And.intro (E.1.trans D) G
   refine J _ _ E ?_
   clear J K
   refine kX ?_
   refine jB 11 ?_
   refine kX ?_
   refine jB 12 ?_
   exact fB
  have bt:∀ (x:Int),∀ (ba:Option Addr),∀ (bc:Nat),∀ (U:List UInt8),∀ (X:Nat),∀ (y:ByteArray),∀ (ka:Option Addr),∀ (kc:Nat),∀ (ks:kQ),∀ (W:World),Touch (fun k=>k=p) wb W∧yK w0 W p→(0≤x)→(x < 5)→(U.length≤4)→(Hid ((kE.slice 5 kE.byte).jY W [.slice ba U.length bc] U (fun k=>wb.heap.size≤k∧k < W.heap.size∧k≠p)))→(y∈([{ data:=#[47,107,101,121,47,97] },{ data:=#[47,107,101,121,47,98] },{ data:=#[47,97,47,107,101,121] }]:List ByteArray))→(Hid (kM.jY W [.slice ka ks.length kc] ks (fun k=>wb.heap.size≤k∧k < W.heap.size∧k≠p)))→T 5 [true,true,true,true,true,true,true,true,true,true,false,false,false,false,false] (Act.put (Act.put (Act.put (Act.put (Act.put A (some 16) (.int .i64 x)) (some 17) (.slice ba U.length bc)) (some 19) (.slice (some ⟨X,0,none⟩) 3 3)) (some 20) (.string y)) (some 21) (.agg #[.slice ka ks.length kc])) W:=by
   intro x ba bc U X y ka kc ks W E ax Z bk HB al HK
   have b6:=E.1.size
   subst Y
   subst hA
   simp only [Act.put,zA,zB,zC]
   refine yG (i:=10) (j:=13) rfl rfl bB4 rfl rfl (fun K J=>?_) (fun K J=>?_)
   · go_simp
     refine (kV (n:=60) E.2 bB8).mono ?_
     rintro e v ⟨z,bb,az,an,rfl,G,D⟩
     obtain ⟨zv,HB⟩:=AP
     replace HK:Hid (kM.jY v [.slice ka ks.length kc] ks (fun k=>wb.heap.size≤k∧k < v.heap.size∧k≠p)):=yD ((HK.out.touch D sK).wide (fun k q=>⟨q.1,Nat.lt_of_lt_of_le q.2.1 D.size,q.2.2⟩))
     replace az:=az bB8
     clear an
     have hw:IntKind.i64.wrap (40 + z)=40 + z:=IntWalk.i64_in _ bB9
     replace E:=And.intro (E.1.trans D) G
     refine J _ _ E ?_
     clear J K
     refine kX ?_
     refine jB 11 ?_
     refine kX ?_
     refine jB 12 ?_
     refine kX ?_
     have h_:=bg x ba bc U X y ka kc ks z v E ax Z bk HB al HK bb az hw
     exact dD
   go_simp
   generalize F:World.alloc W _=v
   obtain ⟨hb,BB,zv⟩:=oN
   clear F
   obtain ⟨b,ay⟩:∃ b_,b_=W.heap.size:=⟨_,rfl⟩
   rw [← ay] at BB ⊢
   obtain ⟨HB,HK⟩:=xO
   have N:wb.heap.size≤b∧b < v.heap.size:=⟨by omega,by omega⟩
   exact gB
  have a6:∀ (x:Int),∀ (ba:Option Addr),∀ (bc:Nat),∀ (U:List UInt8),∀ (X:Nat),∀ (y:ByteArray),∀ (b:Nat),∀ (W:World),Touch (fun k=>k=p) wb W∧yK w0 W p→(0≤x)→(x < 5)→(U.length≤4)→(Hid ((kE.slice 5 kE.byte).jY W [.slice ba U.length bc] U (fun k=>wb.heap.size≤k∧k < W.heap.size∧k≠b)))→(y∈([{ data:=#[47,107,101,121,47,97] },{ data:=#[47,107,101,121,47,98] },{ data:=#[47,97,47,107,101,121] }]:List ByteArray))→(wb.heap.size≤b∧b < W.heap.size)→(W.heap[b]?=some (.cells #[.slice none 0 0,.slice none 0 0,.slice none 0 0,.int .i64 0,.int .i64 0] 43 (0,0)))→T 5 [true,true,true,true,true,true,true,true,false,true,false,false,false,true,false] (Act.put (Act.put (Act.put (Act.put (Act.put A (some 16) (.int .i64 x)) (some 17) (.slice ba U.length bc)) (some 19) (.slice (some ⟨X,0,none⟩) 3 3)) (some 20) (.string y)) (some 4) (.pointer (some ⟨b,0,none⟩))) W:=by
   intro x ba bc U X y b W E ax Z bk HB al N BB
   have b6:=E.1.size
   subst Y
   subst hA
   simp only [Act.put,zA,zB,zC]
   refine kY (k:=8) rfl bB4 rfl (fun K J=>?_)
   go_simp
   refine (yP (kE.kBz bB8 al)).mono ?_
   rintro e v ⟨ka,kc,ks,rfl,hO,aa,ch,hb⟩
   have zv:=hb.size
   have c6:=N.2
   obtain ⟨HB,BB,N⟩:=xH
   have HK:Hid (kM.jY v [.slice ka ks.length kc] ks (fun k=>wb.heap.size≤k∧k < v.heap.size∧k≠b)):=yD (hO.jY.wide gU)
   exact gB
  have b0:∀ (x:Int),∀ (ba:Option Addr),∀ (bc:Nat),∀ (U:List UInt8),∀ (X:Nat),∀ (y:ByteArray),∀ (W:World),Touch (fun k=>k=p) wb W∧yK w0 W p→(0≤x)→(x < 5)→(U.length≤4)→(Hid ((kE.slice 5 kE.byte).jY W [.slice ba U.length bc] U (fun k=>wb.heap.size≤k∧k < W.heap.size∧k≠p)))→(y∈([{ data:=#[47,107,101,121,47,97] },{ data:=#[47,107,101,121,47,98] },{ data:=#[47,97,47,107,101,121] }]:List ByteArray))→T 6 [true,true,true,true,true,true,true,true,false,true,false,false,false,false,false] (Act.put (Act.put (Act.put (Act.put A (some 16) (.int .i64 x)) (some 17) (.slice ba U.length bc)) (some 19) (.slice (some ⟨X,0,none⟩) 3 3)) (some 20) (.string y)) W:=by
   intro x ba bc U X y W E ax Z bk HB al
   have b6:=E.1.size
   subst Y
   subst hA
   simp only [Act.put,zA,zB,zC]
   refine yG (i:=8) (j:=13) rfl rfl bB4 rfl rfl (fun K J=>?_) (fun K J=>?_)
   · go_simp
     refine (yP (kE.kBz bB8 al)).mono ?_
     rintro e v ⟨ka,kc,ks,rfl,hO,aa,ch,hb⟩
     have zv:=hb.size
     replace HB:Hid ((kE.slice 5 kE.byte).jY v [.slice ba U.length bc] U (fun k=>wb.heap.size≤k∧k < v.heap.size∧k≠p)):=yD ((HB.out.below hb).wide (fun k q=>⟨q.1,Nat.lt_of_lt_of_le q.2.1 hb.size,q.2.2⟩))
     have HK:Hid (kM.jY v [.slice ka ks.length kc] ks (fun k=>wb.heap.size≤k∧k < v.heap.size∧k≠p)):=yD (hO.jY.wide gU)
     replace E:=And.intro (E.1.trans (Touch.of_below hb)) (E.2.below hb)
     refine J _ _ E ?_
     clear J K
     refine kX ?_
     have h_:=bt x ba bc U X y ka kc ks v E ax Z bk HB al HK
     exact dD
   go_simp
   generalize F:World.alloc W _=v
   obtain ⟨hb,BB,zv⟩:=oN
   clear F
   obtain ⟨b,ay⟩:∃ b_,b_=W.heap.size:=⟨_,rfl⟩
   rw [← ay] at BB ⊢
   replace HB:Hid ((kE.slice 5 kE.byte).jY v [.slice ba U.length bc] U (fun k=>wb.heap.size≤k∧k < v.heap.size∧k≠b)):=yD ((HB.out.below hb).wide dK)
   obtain ⟨N,E⟩:=uG
   exact gL
  have a5:∀ (x:Int),∀ (ba:Option Addr),∀ (bc:Nat),∀ (U:List UInt8),∀ (X:Nat),∀ (b:Nat),∀ (W:World),Touch (fun k=>k=p) wb W∧yK w0 W p→(0≤x)→(x < 5)→(U.length≤4)→(Hid ((kE.slice 5 kE.byte).jY W [.slice ba U.length bc] U (fun k=>wb.heap.size≤k∧k < W.heap.size∧k≠b)))→(wb.heap.size≤X∧X < W.heap.size)→(Hid ((kE.slice 9 kE.str).own W [.slice (some ⟨X,0,none⟩) 3 3] [{ data:=#[47,107,101,121,47,97] },{ data:=#[47,107,101,121,47,98] },{ data:=#[47,97,47,107,101,121] }] (fun k=>k=X)))→(wb.heap.size≤b∧b < W.heap.size)→(W.heap[b]?=some (.cells #[.slice none 0 0,.slice none 0 0,.slice none 0 0,.int .i64 0,.int .i64 0] 43 (0,0)))→T 6 [true,true,true,true,true,true,true,false,false,true,false,false,false,true,false] (Act.put (Act.put (Act.put (Act.put A (some 16) (.int .i64 x)) (some 17) (.slice ba U.length bc)) (some 19) (.slice (some ⟨X,0,none⟩) 3 3)) (some 4) (.pointer (some ⟨b,0,none⟩))) W:=by
   intro x ba bc U X b W E ax Z bk HB h6 HL N BB
   have b6:=E.1.size
   subst Y
   subst hA
   simp only [Act.put,zA,zB,zC]
   refine kY (k:=7) rfl bB4 rfl (fun K J=>?_)
   go_simp
   refine (zo E.2 HL.out bB9 bB8 bB8).mono ?_
   rintro e v ⟨y,al,a8,rfl,G,D⟩
   obtain ⟨zv,c6,HB⟩:=AV
   obtain ⟨BB,N⟩:=uK
   replace E:=And.intro (E.1.trans D) G
   exact gL
  have bz:∀ (x:Int),∀ (ba:Option Addr),∀ (bc:Nat),∀ (U:List UInt8),∀ (X:Nat),∀ (W:World),Touch (fun k=>k=p) wb W∧yK w0 W p→(0≤x)→(x < 5)→(U.length≤4)→(Hid ((kE.slice 5 kE.byte).jY W [.slice ba U.length bc] U (fun k=>wb.heap.size≤k∧k < W.heap.size∧k≠p)))→(wb.heap.size≤X∧X < W.heap.size)→(Hid ((kE.slice 9 kE.str).own W [.slice (some ⟨X,0,none⟩) 3 3] [{ data:=#[47,107,101,121,47,97] },{ data:=#[47,107,101,121,47,98] },{ data:=#[47,97,47,107,101,121] }] (fun k=>k=X)))→T 7 [true,true,true,true,true,true,true,false,false,true,false,false,false,false,false] (Act.put (Act.put (Act.put A (some 16) (.int .i64 x)) (some 17) (.slice ba U.length bc)) (some 19) (.slice (some ⟨X,0,none⟩) 3 3)) W:=by
   intro x ba bc U X W E ax Z bk HB h6 HL
   have b6:=E.1.size
   subst Y
   subst hA
   simp only [Act.put,zA,zB,zC]
   refine yG (i:=7) (j:=13) rfl rfl bB4 rfl rfl (fun K J=>?_) (fun K J=>?_)
   · go_simp
     refine (zo E.2 HL.out bB9 bB8 bB8).mono ?_
     rintro e v ⟨y,al,a8,rfl,G,D⟩
     obtain ⟨zv,HB⟩:=AP
     replace E:=And.intro (E.1.trans D) G
     refine J _ _ E ?_
     clear J K
     refine kX ?_
     have h_:=b0 x ba bc U X y v E ax Z bk HB al
     exact dD
   go_simp
   generalize F:World.alloc W _=v
   obtain ⟨hb,BB,zv⟩:=oN
   clear F
   obtain ⟨b,ay⟩:∃ b_,b_=W.heap.size:=⟨_,rfl⟩
   rw [← ay] at BB ⊢
   replace HB:Hid ((kE.slice 5 kE.byte).jY v [.slice ba U.length bc] U (fun k=>wb.heap.size≤k∧k < v.heap.size∧k≠b)):=yD ((HB.out.below hb).wide dK)
   obtain ⟨HL,h6,N⟩:=p9
   exact gN
  have bq:∀ (x:Int),∀ (ba:Option Addr),∀ (bc:Nat),∀ (U:List UInt8),∀ (b:Nat),∀ (W:World),Touch (fun k=>k=p) wb W∧yK w0 W p→(0≤x)→(x < 5)→(U.length≤4)→(Hid ((kE.slice 5 kE.byte).jY W [.slice ba U.length bc] U (fun k=>wb.heap.size≤k∧k < W.heap.size∧k≠b)))→(wb.heap.size≤b∧b < W.heap.size)→(W.heap[b]?=some (.cells #[.slice none 0 0,.slice none 0 0,.slice none 0 0,.int .i64 0,.int .i64 0] 43 (0,0)))→T 7 [true,true,true,true,true,true,false,false,false,true,false,false,false,true,false] (Act.put (Act.put (Act.put A (some 16) (.int .i64 x)) (some 17) (.slice ba U.length bc)) (some 4) (.pointer (some ⟨b,0,none⟩))) W:=by
   intro x ba bc U b W E ax Z bk HB N BB
   have b6:=E.1.size
   subst Y
   subst hA
   simp only [Act.put,zA,zB,zC]
   refine kY (k:=6) rfl bB4 rfl (fun K J=>?_)
   go_simp
   have HL:Hid ((kE.slice 9 kE.str).own (World.alloc W (.cells #[.string { data:=#[47,107,101,121,47,97] },.string { data:=#[47,107,101,121,47,98] },.string { data:=#[47,97,47,107,101,121] }] 9)) [.slice (some ⟨W.heap.size,0,none⟩) 3 3] [{ data:=#[47,107,101,121,47,97] },{ data:=#[47,107,101,121,47,98] },{ data:=#[47,97,47,107,101,121] }] (fun k=>k=W.heap.size)):=yD (kE.kAw W [{ data:=#[47,107,101,121,47,97] },{ data:=#[47,107,101,121,47,98] },{ data:=#[47,97,47,107,101,121] }] bB8 bB8)
   generalize F:World.alloc W _=v at HL ⊢
   obtain ⟨hb,zv⟩:=uO
   clear F
   obtain ⟨HB,BB,N⟩:=xH
   obtain ⟨X,bd⟩:∃ b_,b_=W.heap.size:=⟨_,rfl⟩
   rw [← bd] at HL ⊢
   have h6:wb.heap.size≤X∧X < v.heap.size:=⟨by omega,by omega⟩
   exact gN
  have bf:∀ (x:Int),∀ (X:Nat),∀ (b:Nat),∀ (W:World),Touch (fun k=>k=p) wb W∧yK w0 W p→(0≤x)→(x < 5)→(wb.heap.size≤X∧X < W.heap.size)→(Hid ((kE.slice 9 kE.str).own W [.slice (some ⟨X,0,none⟩) 3 3] [{ data:=#[47,107,101,121,47,97] },{ data:=#[47,107,101,121,47,98] },{ data:=#[47,97,47,107,101,121] }] (fun k=>k=X)))→(wb.heap.size≤b∧b < W.heap.size)→(W.heap[b]?=some (.cells #[.slice none 0 0,.slice none 0 0,.slice none 0 0,.int .i64 0,.int .i64 0] 43 (0,0)))→T 7 [true,true,true,true,false,true,true,false,false,true,false,false,false,true,false] (Act.put (Act.put (Act.put A (some 16) (.int .i64 x)) (some 19) (.slice (some ⟨X,0,none⟩) 3 3)) (some 4) (.pointer (some ⟨b,0,none⟩))) W:=by
   intro x X b W E ax Z h6 HL N BB
   have b6:=E.1.size
   subst Y
   subst hA
   simp only [Act.put,zA,zB,zC]
   refine kY (k:=4) rfl bB4 rfl (fun K J=>?_)
   go_simp
   refine (kBs E.2 ax bB9).mono ?_
   rintro e v ⟨ba,bc,U,rfl,ck,hO,G,D⟩
   have zv:=D.size
   have c6:=N.2
   obtain ⟨HL,h6⟩:=oW
   obtain ⟨BB,N⟩:=uK
   obtain ⟨bk,HB,E⟩:=CG
   refine J _ _ E ?_
   clear J K
   refine kX ?_
   have h_:=a5 x ba bc U X b v E ax Z bk HB h6 HL N BB
   simp only [Act.put,zA,zB,zC] at h_
   exact h_
  have cv:∀ (x:Int),∀ (ba:Option Addr),∀ (bc:Nat),∀ (U:List UInt8),∀ (W:World),Touch (fun k=>k=p) wb W∧yK w0 W p→(0≤x)→(x < 5)→(U.length≤4)→(Hid ((kE.slice 5 kE.byte).jY W [.slice ba U.length bc] U (fun k=>wb.heap.size≤k∧k < W.heap.size∧k≠p)))→T 8 [true,true,true,true,true,true,false,false,false,true,false,false,false,false,false] (Act.put (Act.put A (some 16) (.int .i64 x)) (some 17) (.slice ba U.length bc)) W:=by
   intro x ba bc U W E ax Z bk HB
   have b6:=E.1.size
   subst Y
   subst hA
   simp only [Act.put,zA,zB,zC]
   refine yG (i:=6) (j:=13) rfl rfl bB4 rfl rfl (fun K J=>?_) (fun K J=>?_)
   · go_simp
     have HL:Hid ((kE.slice 9 kE.str).own (World.alloc W (.cells #[.string { data:=#[47,107,101,121,47,97] },.string { data:=#[47,107,101,121,47,98] },.string { data:=#[47,97,47,107,101,121] }] 9)) [.slice (some ⟨W.heap.size,0,none⟩) 3 3] [{ data:=#[47,107,101,121,47,97] },{ data:=#[47,107,101,121,47,98] },{ data:=#[47,97,47,107,101,121] }] (fun k=>k=W.heap.size)):=yD (kE.kAw W [{ data:=#[47,107,101,121,47,97] },{ data:=#[47,107,101,121,47,98] },{ data:=#[47,97,47,107,101,121] }] bB8 bB8)
     generalize F:World.alloc W _=v at HL ⊢
     obtain ⟨hb,zv⟩:=uO
     clear F
     replace HB:Hid ((kE.slice 5 kE.byte).jY v [.slice ba U.length bc] U (fun k=>wb.heap.size≤k∧k < v.heap.size∧k≠p)):=yD ((HB.out.below hb).wide (fun k q=>⟨q.1,Nat.lt_of_lt_of_le q.2.1 hb.size,q.2.2⟩))
     obtain ⟨X,bd⟩:∃ b_,b_=W.heap.size:=⟨_,rfl⟩
     rw [← bd] at HL ⊢
     obtain ⟨h6,E⟩:=y5
     exact gP
   go_simp
   generalize F:World.alloc W _=v
   obtain ⟨hb,BB,zv⟩:=oN
   clear F
   obtain ⟨b,ay⟩:∃ b_,b_=W.heap.size:=⟨_,rfl⟩
   rw [← ay] at BB ⊢
   replace HB:Hid ((kE.slice 5 kE.byte).jY v [.slice ba U.length bc] U (fun k=>wb.heap.size≤k∧k < v.heap.size∧k≠b)):=yD ((HB.out.below hb).wide dK)
   obtain ⟨N,E⟩:=uG
   exact iA
  have cc:∀ (x:Int),∀ (X:Nat),∀ (W:World),Touch (fun k=>k=p) wb W∧yK w0 W p→(0≤x)→(x < 5)→(wb.heap.size≤X∧X < W.heap.size)→(Hid ((kE.slice 9 kE.str).own W [.slice (some ⟨X,0,none⟩) 3 3] [{ data:=#[47,107,101,121,47,97] },{ data:=#[47,107,101,121,47,98] },{ data:=#[47,97,47,107,101,121] }] (fun k=>k=X)))→T 8 [true,true,true,true,false,true,true,false,false,true,false,false,false,false,false] (Act.put (Act.put A (some 16) (.int .i64 x)) (some 19) (.slice (some ⟨X,0,none⟩) 3 3)) W:=by
   intro x X W E ax Z h6 HL
   have b6:=E.1.size
   subst Y
   subst hA
   simp only [Act.put,zA,zB,zC]
   refine yG (i:=4) (j:=13) rfl rfl bB4 rfl rfl (fun K J=>?_) (fun K J=>?_)
   · go_simp
     refine (kBs E.2 ax bB9).mono ?_
     rintro e v ⟨ba,bc,U,rfl,ck,hO,G,D⟩
     have zv:=D.size
     obtain ⟨HL,h6⟩:=oW
     obtain ⟨bk,HB,E⟩:=CJ
     exact gP
   go_simp
   generalize F:World.alloc W _=v
   obtain ⟨hb,BB,zv⟩:=oN
   clear F
   obtain ⟨b,ay⟩:∃ b_,b_=W.heap.size:=⟨_,rfl⟩
   rw [← ay] at BB ⊢
   obtain ⟨HL,h6,N⟩:=p9
   exact iB
  have b1:∀ (x:Int),∀ (b:Nat),∀ (W:World),Touch (fun k=>k=p) wb W∧yK w0 W p→(0≤x)→(x < 5)→(wb.heap.size≤b∧b < W.heap.size)→(W.heap[b]?=some (.cells #[.slice none 0 0,.slice none 0 0,.slice none 0 0,.int .i64 0,.int .i64 0] 43 (0,0)))→T 8 [true,true,true,true,false,true,false,false,false,true,false,false,false,true,false] (Act.put (Act.put A (some 16) (.int .i64 x)) (some 4) (.pointer (some ⟨b,0,none⟩))) W:=by
   intro x b W E ax Z N BB
   have b6:=E.1.size
   subst Y
   subst hA
   simp only [Act.put,zA,zB,zC]
   refine yG (i:=4) (j:=6) rfl rfl bB4 rfl rfl (fun K J=>?_) (fun K J=>?_)
   · go_simp
     refine (kBs E.2 ax bB9).mono ?_
     rintro e v ⟨ba,bc,U,rfl,ck,hO,G,D⟩
     have zv:=D.size
     have c6:=N.2
     obtain ⟨BB,N⟩:=uK
     obtain ⟨bk,HB,E⟩:=CG
     exact iA
   go_simp
   have HL:Hid ((kE.slice 9 kE.str).own (World.alloc W (.cells #[.string { data:=#[47,107,101,121,47,97] },.string { data:=#[47,107,101,121,47,98] },.string { data:=#[47,97,47,107,101,121] }] 9)) [.slice (some ⟨W.heap.size,0,none⟩) 3 3] [{ data:=#[47,107,101,121,47,97] },{ data:=#[47,107,101,121,47,98] },{ data:=#[47,97,47,107,101,121] }] (fun k=>k=W.heap.size)):=yD (kE.kAw W [{ data:=#[47,107,101,121,47,97] },{ data:=#[47,107,101,121,47,98] },{ data:=#[47,97,47,107,101,121] }] bB8 bB8)
   generalize F:World.alloc W _=v at HL ⊢
   obtain ⟨hb,zv⟩:=uO
   clear F
   replace BB:=kD BB hb
   replace N:wb.heap.size≤b∧b < v.heap.size:=⟨N.1,Nat.lt_of_lt_of_le N.2 hb.size⟩
   obtain ⟨X,bd⟩:∃ b_,b_=W.heap.size:=⟨_,rfl⟩
   rw [← bd] at HL ⊢
   have h6:wb.heap.size≤X∧X < v.heap.size:=⟨by omega,by omega⟩
   exact iB
  have b2:∀ (X:Nat),∀ (b:Nat),∀ (W:World),Touch (fun k=>k=p) wb W∧yK w0 W p→(wb.heap.size≤X∧X < W.heap.size)→(Hid ((kE.slice 9 kE.str).own W [.slice (some ⟨X,0,none⟩) 3 3] [{ data:=#[47,107,101,121,47,97] },{ data:=#[47,107,101,121,47,98] },{ data:=#[47,97,47,107,101,121] }] (fun k=>k=X)))→(wb.heap.size≤b∧b < W.heap.size)→(W.heap[b]?=some (.cells #[.slice none 0 0,.slice none 0 0,.slice none 0 0,.int .i64 0,.int .i64 0] 43 (0,0)))→T 8 [true,true,true,false,false,true,true,false,false,true,false,false,false,true,false] (Act.put (Act.put A (some 19) (.slice (some ⟨X,0,none⟩) 3 3)) (some 4) (.pointer (some ⟨b,0,none⟩))) W:=by
   intro X b W E h6 HL N BB
   have b6:=E.1.size
   subst Y
   subst hA
   simp only [Act.put,zA,zB,zC]
   refine kY (k:=3) rfl bB4 rfl (fun K J=>?_)
   go_simp
   refine (kV (n:=5) E.2 bB8).mono ?_
   rintro e v ⟨x,ax,Z,b4,rfl,G,D⟩
   have zv:=D.size
   have c6:=N.2
   obtain ⟨HL,h6⟩:=oW
   obtain ⟨BB,N⟩:=uK
   replace Z:=Z bB8
   clear b4
   replace E:=And.intro (E.1.trans D) G
   refine J _ _ E ?_
   clear J K
   refine kX ?_
   have h_:=bf x X b v E ax Z h6 HL N BB
   simp only [Act.put,zA,zB,zC] at h_
   exact h_
  have T3:∀ (x:Int),∀ (W:World),Touch (fun k=>k=p) wb W∧yK w0 W p→(0≤x)→(x < 5)→T 9 [true,true,true,true,false,true,false,false,false,true,false,false,false,false,false] (Act.put A (some 16) (.int .i64 x)) W:=by
   intro x W E ax Z
   have b6:=E.1.size
   subst Y
   subst hA
   simp only [Act.put,zA,zB,zC]
   refine kSb (i:=4) (j:=6) (m:=13) rfl rfl rfl bB4 rfl rfl rfl (fun K J=>?_) (fun K J=>?_) (fun K J=>?_)
   · go_simp
     refine (kBs E.2 ax bB9).mono ?_
     rintro e v ⟨ba,bc,U,rfl,ck,hO,G,D⟩
     have zv:=D.size
     obtain ⟨bk,HB,E⟩:=CJ
     refine J _ _ E ?_
     clear J K
     refine kX ?_
     have h_:=cv x ba bc U v E ax Z bk HB
     exact dD
   · go_simp
     have HL:Hid ((kE.slice 9 kE.str).own (World.alloc W (.cells #[.string { data:=#[47,107,101,121,47,97] },.string { data:=#[47,107,101,121,47,98] },.string { data:=#[47,97,47,107,101,121] }] 9)) [.slice (some ⟨W.heap.size,0,none⟩) 3 3] [{ data:=#[47,107,101,121,47,97] },{ data:=#[47,107,101,121,47,98] },{ data:=#[47,97,47,107,101,121] }] (fun k=>k=W.heap.size)):=yD (kE.kAw W [{ data:=#[47,107,101,121,47,97] },{ data:=#[47,107,101,121,47,98] },{ data:=#[47,97,47,107,101,121] }] bB8 bB8)
     generalize F:World.alloc W _=v at HL ⊢
     obtain ⟨hb,zv⟩:=uO
     clear F
     obtain ⟨X,bd⟩:∃ b_,b_=W.heap.size:=⟨_,rfl⟩
     rw [← bd] at HL ⊢
     obtain ⟨h6,E⟩:=y5
     exact iC
   go_simp
   generalize F:World.alloc W _=v
   obtain ⟨hb,BB,zv⟩:=oN
   clear F
   obtain ⟨b,ay⟩:∃ b_,b_=W.heap.size:=⟨_,rfl⟩
   rw [← ay] at BB ⊢
   obtain ⟨N,E⟩:=uG
   exact iD
  have T6:∀ (X:Nat),∀ (W:World),Touch (fun k=>k=p) wb W∧yK w0 W p→(wb.heap.size≤X∧X < W.heap.size)→(Hid ((kE.slice 9 kE.str).own W [.slice (some ⟨X,0,none⟩) 3 3] [{ data:=#[47,107,101,121,47,97] },{ data:=#[47,107,101,121,47,98] },{ data:=#[47,97,47,107,101,121] }] (fun k=>k=X)))→T 9 [true,true,true,false,false,true,true,false,false,true,false,false,false,false,false] (Act.put A (some 19) (.slice (some ⟨X,0,none⟩) 3 3)) W:=by
   intro X W E h6 HL
   have b6:=E.1.size
   subst Y
   subst hA
   simp only [Act.put,zA,zB,zC]
   refine yG (i:=3) (j:=13) rfl rfl bB4 rfl rfl (fun K J=>?_) (fun K J=>?_)
   · go_simp
     refine (kV (n:=5) E.2 bB8).mono ?_
     rintro e v ⟨x,ax,Z,b4,rfl,G,D⟩
     have zv:=D.size
     obtain ⟨HL,h6⟩:=oW
     replace Z:=Z bB8
     clear b4
     replace E:=And.intro (E.1.trans D) G
     exact iC
   go_simp
   generalize F:World.alloc W _=v
   obtain ⟨hb,BB,zv⟩:=oN
   clear F
   obtain ⟨b,ay⟩:∃ b_,b_=W.heap.size:=⟨_,rfl⟩
   rw [← ay] at BB ⊢
   obtain ⟨HL,h6,N⟩:=p9
   exact iE
  have cl:∀ (b:Nat),∀ (W:World),Touch (fun k=>k=p) wb W∧yK w0 W p→(wb.heap.size≤b∧b < W.heap.size)→(W.heap[b]?=some (.cells #[.slice none 0 0,.slice none 0 0,.slice none 0 0,.int .i64 0,.int .i64 0] 43 (0,0)))→T 9 [true,true,true,false,false,true,false,false,false,true,false,false,false,true,false] (Act.put A (some 4) (.pointer (some ⟨b,0,none⟩))) W:=by
   intro b W E N BB
   have b6:=E.1.size
   subst Y
   subst hA
   simp only [Act.put,zA,zB,zC]
   refine yG (i:=3) (j:=6) rfl rfl bB4 rfl rfl (fun K J=>?_) (fun K J=>?_)
   · go_simp
     refine (kV (n:=5) E.2 bB8).mono ?_
     rintro e v ⟨x,ax,Z,b4,rfl,G,D⟩
     have zv:=D.size
     have c6:=N.2
     obtain ⟨BB,N⟩:=uK
     replace Z:=Z bB8
     clear b4
     replace E:=And.intro (E.1.trans D) G
     exact iD
   go_simp
   have HL:Hid ((kE.slice 9 kE.str).own (World.alloc W (.cells #[.string { data:=#[47,107,101,121,47,97] },.string { data:=#[47,107,101,121,47,98] },.string { data:=#[47,97,47,107,101,121] }] 9)) [.slice (some ⟨W.heap.size,0,none⟩) 3 3] [{ data:=#[47,107,101,121,47,97] },{ data:=#[47,107,101,121,47,98] },{ data:=#[47,97,47,107,101,121] }] (fun k=>k=W.heap.size)):=yD (kE.kAw W [{ data:=#[47,107,101,121,47,97] },{ data:=#[47,107,101,121,47,98] },{ data:=#[47,97,47,107,101,121] }] bB8 bB8)
   generalize F:World.alloc W _=v at HL ⊢
   obtain ⟨hb,zv⟩:=uO
   clear F
   replace BB:=kD BB hb
   replace N:wb.heap.size≤b∧b < v.heap.size:=⟨N.1,Nat.lt_of_lt_of_le N.2 hb.size⟩
   obtain ⟨X,bd⟩:∃ b_,b_=W.heap.size:=⟨_,rfl⟩
   rw [← bd] at HL ⊢
   have h6:wb.heap.size≤X∧X < v.heap.size:=⟨by omega,by omega⟩
   exact iE
  subst Y
  subst hA
  refine kSb (i:=3) (j:=6) (m:=13) rfl rfl rfl bB4 rfl rfl rfl (fun K J=>?_) (fun K J=>?_) (fun K J=>?_)
  · go_simp
    refine (kV (n:=5) E.2 bB8).mono ?_
    rintro e v ⟨x,ax,Z,b4,rfl,G,D⟩
    have zv:=D.size
    replace Z:=Z bB8
    clear b4
    replace E:=And.intro (E.1.trans D) G
    refine J _ _ E ?_
    clear J K
    refine kX ?_
    have h_:=T3 x v E ax Z
    exact dD
  · go_simp
    have HL:Hid ((kE.slice 9 kE.str).own (World.alloc t (.cells #[.string { data:=#[47,107,101,121,47,97] },.string { data:=#[47,107,101,121,47,98] },.string { data:=#[47,97,47,107,101,121] }] 9)) [.slice (some ⟨t.heap.size,0,none⟩) 3 3] [{ data:=#[47,107,101,121,47,97] },{ data:=#[47,107,101,121,47,98] },{ data:=#[47,97,47,107,101,121] }] (fun k=>k=t.heap.size)):=yD (kE.kAw t [{ data:=#[47,107,101,121,47,97] },{ data:=#[47,107,101,121,47,98] },{ data:=#[47,97,47,107,101,121] }] bB8 bB8)
    generalize F:World.alloc t _=v at HL ⊢
    have hb:Below t.heap.size t v:=(by rw [← F];exact bR.alloc nL _)
    have zv:t.heap.size + 1≤v.heap.size:=(by rw [← F];simp)
    clear F
    obtain ⟨X,bd⟩:∃ b_,b_=t.heap.size:=⟨_,rfl⟩
    rw [← bd] at HL ⊢
    obtain ⟨h6,E⟩:=y5
    refine J _ _ E ?_
    clear J K
    refine kX ?_
    have h_:=T6 X v E h6 HL
    exact dD
  go_simp
  generalize F:World.alloc t _=v
  obtain ⟨hb,BB,zv⟩:=p8
  clear F
  obtain ⟨b,ay⟩:∃ b_,b_=t.heap.size:=⟨_,rfl⟩
  rw [← ay] at BB ⊢
  obtain ⟨N,E⟩:=uG
  refine J _ _ E ?_
  clear J K
  refine kX ?_
  have h_:=cl b v E N BB
  exact dD
 rename World=>wd
 obtain ⟨b,ba,bc,U,ka,kc,ks,z,rfl,BX,HB,cf,HK,hz,dc,O,da,ce⟩:=hcut
 replace R:=ce.kD R bB9
 have br:=H.trans ce
 skip
 have zd:=ce.size
 skip
 clear hc H
 have hc:=da;clear da
 have H:=br;clear br
 have HX:=yD (kTq (S:=fun k=>k≠p) ((L.out.jY.touch ce vX).wide wG) (HB.out.wide sZ) (HK.out.wide sZ) (f:=40 + z) (s:=0) bB9 bB9)
 clear L HB HK ce B
 go_upto_region 5 with fail
 refine zT (fun W=>Touch (fun k=>k=p) wd W∧yK w0 W p) (fun _=>True) [] [(0,true),(2,true),(1,false),(3,false)] [(4,false)] bB4 bB4 qD (⟨Touch.of_below bR.drew,hc.below bR.drew⟩) ?_
 intro wS E
 simp only [jD,kAv,List.getElem?_cons_succ,List.getElem?_cons_zero,List.map_cons,List.map_nil]
 refine pre_nil ?_
 refine jX (v:=?_) rfl (fun W hW=>?_) ?_;rotate_left;(· go_simp;try with_reducible rfl)
 refine kX ?_
 refine jX (v:=?_) rfl (fun W hW=>?_) ?_;rotate_left;(· have cg:=kF (hW.1.kD BX bB9) (j:=0) (v:=.slice na qs.length nc) rfl;have c9:=kF (hW.1.kD BX bB9) (j:=1) (v:=.slice ba U.length bc) rfl;have di:=kF (hW.1.kD BX bB9) (j:=2) (v:=.slice ka ks.length kc) rfl;have df:=kF (hW.1.kD BX bB9) (j:=3) (v:=.int .i64 (40 + z)) rfl;have dd:=kF (hW.1.kD BX bB9) (j:=4) (v:=.int .i64 0) rfl;clear hW;go_simp;try with_reducible rfl)
 refine kX ?_
 refine yu rfl (fun K J=>?_);go_simp;refine (kSe E.2).mono ?_;rintro e wS1 ⟨s,rfl,dt,b3,be,a9⟩;replace E:=And.intro (E.1.trans a9) be;clear be a9;refine J _ _ E ?_;clear J K
 refine kX ?_
 refine yu rfl (fun K J=>?_);go_simp;refine (kFq (cx:=[.slice na qs.length nc,.slice ba U.length bc,.slice ka ks.length kc,.int .i64 (40 + z),.int .i64 0]) (x:=(qs,U,ks,40 + z,0)) bB9 (HX.out.touch E.1 (fun k q h=>q h)).rd (by show U.length≤_;omega)).mono ?_;rintro e bj ⟨sg,ds,rfl,hO,ci,af⟩;have d1:=E.1.size;have b8:=af.size;replace E:=And.intro (E.1.trans (Touch.of_below af)) (E.2.below af);have HQ:=yD hO;obtain ⟨ae,ah,ao,ai,am,aj,rfl⟩:=yN HQ.out.raw;refine J _ _ E ?_;clear J K af hO
 refine kX ?_
 have bw:=E.1.size
 have RS:=E.1.kD R bB9
 have cw:=H.trans E.1
 have ac:bj.cell? ⟨w.heap.size,0,none⟩=some (.slice none 0 0):=kF RS rfl
 have aq:bj.frozen? ⟨w.heap.size,0,none⟩=false:=frozen_of_row bj (w.heap.size) 0 _ _ RS
 have au:bj.cell? ⟨w.heap.size,1,none⟩=some (.slice none 0 0):=kF RS rfl
 have ar:bj.frozen? ⟨w.heap.size,1,none⟩=false:=frozen_of_row bj (w.heap.size) 1 _ _ RS
 have bi:bj.cell? ⟨w.heap.size,2,none⟩=some (.slice none 0 0):=kF RS rfl
 have bh:bj.frozen? ⟨w.heap.size,2,none⟩=false:=frozen_of_row bj (w.heap.size) 2 _ _ RS
 have bm:bj.cell? ⟨w.heap.size,3,none⟩=some (.int .i64 0):=kF RS rfl
 have bl:bj.frozen? ⟨w.heap.size,3,none⟩=false:=frozen_of_row bj (w.heap.size) 3 _ _ RS
 have bv:bj.cell? ⟨w.heap.size,4,none⟩=some (.int .i64 0):=kF RS rfl
 have bu:bj.frozen? ⟨w.heap.size,4,none⟩=false:=frozen_of_row bj (w.heap.size) 4 _ _ RS
 refine zl trivial ?_
 refine ko rfl (fun K J=>?_);go_simp;refine J _ _ trivial ?_;clear J K
 refine kX ?_
 refine kZ ?_
 go_wp2
 refine bodyPost_ret (v:=.agg #[.slice ae qs.length ah,.slice ao U.length ai,.slice am ks.length aj,.int .i64 (40 + z),.int .i64 sg]) (by simp [results,results121,go_sem,ac,aq,au,ar,bi,bh,bm,bl,bv,bu]) rfl ⟨_,(qs,U,ks,40 + z,sg),rfl,?_,cf,E.2.touch (((((kC _ _ _ _).trans (kC _ _ _ _)).trans (kC _ _ _ _)).trans (kC _ _ _ _)).trans (kC _ _ _ _)) bB9 wB,cw.jJ (((((kC _ _ _ _).trans (kC _ _ _ _)).trans (kC _ _ _ _)).trans (kC _ _ _ _)).trans (kC _ _ _ _)) bB9⟩
 exact (HQ.out.touch (((((kC _ _ _ _).trans (kC _ _ _ _)).trans (kC _ _ _ _)).trans (kC _ _ _ _)).trans (kC _ _ _ _)) sM).wide fK
theorem kQf {w0 w:World} {p:Nat} (hc:yK w0 w p) :
    Calls prog 81 #[.pointer (some ⟨p,0,none⟩)] w fun e w'=>kXj 64 w0 w p e w':=by
 go_enter func81,ntmps81
 obtain ⟨b7,cj⟩:=hc.lt
 go_upto_region 1 with fail
 generalize F:World.alloc w _=w1
 obtain ⟨ak,R,bn⟩:=BS
 clear F
 obtain ⟨hc,H⟩:=q8
 clear ak
 go_wp2_with fail
 refine (kIp hc).mono ?_
 rintro e V ⟨ds,x,rfl,hO,b8,G,D⟩
 obtain ⟨bo,R,H⟩:=xE
 clear hc D
 have hc:=G
 clear G
 obtain ⟨a0,c0,a1,c1,a2,c2,rfl⟩:=yN hO.raw
 have cw:=data_rng hO.raw
 obtain ⟨n,b,k,f,s⟩:=x
 simp only at b8 cw
 have L:=yD (hO.wide (T:=fun j=>w1.heap.size≤j∧j < V.heap.size) (fun _ h=>h))
 clear hO
 skip
 go_upto_region 2 with fail
 generalize F:World.alloc V _=w3
 have ap:Below V.heap.size V w3:=rX
 have B:w3.heap[V.heap.size]?=some (.cells #[.slice a0 n.length c0,.slice a1 b.length c1,.slice a2 k.length c2,.int .i64 f,.int .i64 s] 43 (0,0)):=tX
 have bp:V.heap.size + 1≤w3.heap.size:=bA3
 clear F
 obtain ⟨R,L,hc,H⟩:=x8
 clear ap
 go_wp2_with fail
 refine (kV (n:=12) hc bB8).mono ?_
 rintro e w4 ⟨m,bq,ao,ck,rfl,G,D⟩
 have b9:=D.size
 obtain ⟨R,B⟩:=BZ
 obtain ⟨L,H⟩:=oZ
 clear hc D
 have hc:=G
 clear G
 replace ao:=ao bB8
 clear ck
 obtain ⟨m,rfl⟩:=Int.eq_ofNat_of_zero_le bq
 by_cases az:m=0
 · subst az
   go_wp2_with fail
   refine (kEy hc).mono ?_
   rintro e w5 ⟨qa,qc,qs,rfl,hQ,bf,ag,G,D⟩
   have cd:=D.size
   obtain ⟨R,B⟩:=BZ
   obtain ⟨L,H⟩:=oZ
   clear hc D
   have hc:=G
   clear G
   have HQ:=yD (hQ)
   clear hQ
   obtain ⟨av,O,J,E,U⟩:=jU B
   obtain ⟨ab,W,X,Z,Y⟩:=zh B
   go_upto_region 13 with fail
   generalize F:World.setCell w5 _ _=w6
   have N:Touch (fun k=>k=V.heap.size) w5 w6:=pV
   replace B:w6.heap[V.heap.size]?=some (.cells #[.slice qa qs.length qc,.slice a1 b.length c1,.slice a2 k.length c2,.int .i64 f,.int .i64 s] 43 (0,0)):=vE
   have c8:=N.size
   clear F
   replace R:=N.kD R bB9
   replace L:=yD (L.out.touch N qB)
   replace HQ:=yD (HQ.out.touch N qB)
   replace hc:=hc.touch N bB9 wB
   replace H:=H.jJ N bB9
   clear av O J E U ab W X Z Y
   clear N
   replace L:=yD ((kWy L.out HQ.out nY).wide (T:=fun j=>w1.heap.size≤j∧j < w6.heap.size) bY)
   clear HQ
   go_upto_region 13 with fail
   obtain ⟨ac,au,bi,bm,bv⟩:=jU R
   obtain ⟨av,O,J,E,U⟩:=jU B
   obtain ⟨aq,ar,bh,bl,bu⟩:=zh R
   go_wp2
   refine bodyPost_ret (v:=.agg #[.slice qa qs.length qc,.slice a1 b.length c1,.slice a2 k.length c2,.int .i64 f,.int .i64 s]) fO rfl ⟨[.slice qa qs.length qc,.slice a1 b.length c1,.slice a2 k.length c2,.int .i64 f,.int .i64 s],(qs,b,k,f,s),rfl,?_,?_,hc.touch (((((kC _ _ _ _).trans (kC _ _ _ _)).trans (kC _ _ _ _)).trans (kC _ _ _ _)).trans (kC _ _ _ _)) bB9 wB,H.jJ (((((kC _ _ _ _).trans (kC _ _ _ _)).trans (kC _ _ _ _)).trans (kC _ _ _ _)).trans (kC _ _ _ _)) bB9⟩
   · exact (L.out.touch (((((kC _ _ _ _).trans (kC _ _ _ _)).trans (kC _ _ _ _)).trans (kC _ _ _ _)).trans (kC _ _ _ _)) tC).wide fK
   simp only;omega
 have bq:¬ (m:Int)=0:=bB9
 by_cases bj:m=1
 · subst bj
   go_wp2_with fail
   refine (kEy hc).mono ?_
   rintro e w5 ⟨qa,qc,qs,rfl,hQ,bf,ag,G,D⟩
   have cd:=D.size
   obtain ⟨R,B⟩:=BZ
   obtain ⟨L,H⟩:=oZ
   clear hc D
   have hc:=G
   clear G
   have HQ:=yD (hQ)
   clear hQ
   obtain ⟨av,O,J,E,U⟩:=jU B
   obtain ⟨ab,W,X,Z,Y⟩:=zh B
   go_upto_region 13 with fail
   generalize F:World.setCell w5 _ _=w6
   have N:Touch (fun k=>k=V.heap.size) w5 w6:=by rw [← F];exact kC w5 (V.heap.size) 2 _
   replace B:w6.heap[V.heap.size]?=some (.cells #[.slice a0 n.length c0,.slice a1 b.length c1,.slice qa qs.length qc,.int .i64 f,.int .i64 s] 43 (0,0)):=by rw [← F];exact kH B 2
   have c8:=N.size
   clear F
   replace R:=N.kD R bB9
   replace L:=yD (L.out.touch N qB)
   replace HQ:=yD (HQ.out.touch N qB)
   replace hc:=hc.touch N bB9 wB
   replace H:=H.jJ N bB9
   clear av O J E U ab W X Z Y
   clear N
   replace L:=yD ((data_setKey L.out HQ.out nY).wide (T:=fun j=>w1.heap.size≤j∧j < w6.heap.size) bY)
   clear HQ
   go_upto_region 13 with fail
   obtain ⟨ac,au,bi,bm,bv⟩:=jU R
   obtain ⟨av,O,J,E,U⟩:=jU B
   obtain ⟨aq,ar,bh,bl,bu⟩:=zh R
   go_wp2
   refine bodyPost_ret (v:=.agg #[.slice a0 n.length c0,.slice a1 b.length c1,.slice qa qs.length qc,.int .i64 f,.int .i64 s]) fO rfl ⟨[.slice a0 n.length c0,.slice a1 b.length c1,.slice qa qs.length qc,.int .i64 f,.int .i64 s],(n,b,qs,f,s),rfl,?_,?_,hc.touch (((((kC _ _ _ _).trans (kC _ _ _ _)).trans (kC _ _ _ _)).trans (kC _ _ _ _)).trans (kC _ _ _ _)) bB9 wB,H.jJ (((((kC _ _ _ _).trans (kC _ _ _ _)).trans (kC _ _ _ _)).trans (kC _ _ _ _)).trans (kC _ _ _ _)) bB9⟩
   · exact (L.out.touch (((((kC _ _ _ _).trans (kC _ _ _ _)).trans (kC _ _ _ _)).trans (kC _ _ _ _)).trans (kC _ _ _ _)) tC).wide fK
   simp only;omega
 have ao:¬ (m:Int)=1:=bB9
 by_cases a7:m=2
 · subst a7
   go_wp2_with fail
   refine (kBh (hc.below (bR.alloc nL _)) (kE.kGs _ [-1,100000,100001] bB8 bB8) bB9 bB8 bB8).mono ?_
   rintro e w5 ⟨y,al,a8,rfl,G,D⟩
   obtain ⟨D,cd⟩:=xQ
   obtain ⟨R,B⟩:=BZ
   obtain ⟨L,H⟩:=oZ
   clear hc D
   have hc:=G
   clear G
   have fk:=kE.kGq (lo:=-1) (hi:=100001) bB8 al
   clear al a8
   obtain ⟨av,O,J,E,U⟩:=jU B
   obtain ⟨ab,W,X,Z,Y⟩:=zh B
   go_upto_region 13 with fail
   generalize F:World.setCell w5 _ _=w6
   have N:Touch (fun k=>k=V.heap.size) w5 w6:=qA
   replace B:w6.heap[V.heap.size]?=some (.cells #[.slice a0 n.length c0,.slice a1 b.length c1,.slice a2 k.length c2,.int .i64 y,.int .i64 s] 43 (0,0)):=by rw [← F];exact kH B 3
   have c8:=N.size
   clear F
   replace R:=N.kD R bB9
   replace L:=yD (L.out.touch N qB)
   replace hc:=hc.touch N bB9 wB
   replace H:=H.jJ N bB9
   clear av O J E U ab W X Z Y
   clear N
   replace L:=yD (kWx L.out (v:=y) bB9)
   go_upto_region 13 with fail
   obtain ⟨ac,au,bi,bm,bv⟩:=jU R
   obtain ⟨av,O,J,E,U⟩:=jU B
   obtain ⟨aq,ar,bh,bl,bu⟩:=zh R
   go_wp2
   refine bodyPost_ret (v:=.agg #[.slice a0 n.length c0,.slice a1 b.length c1,.slice a2 k.length c2,.int .i64 y,.int .i64 s]) fO rfl ⟨[.slice a0 n.length c0,.slice a1 b.length c1,.slice a2 k.length c2,.int .i64 y,.int .i64 s],(n,b,k,y,s),rfl,?_,?_,hc.touch (((((kC _ _ _ _).trans (kC _ _ _ _)).trans (kC _ _ _ _)).trans (kC _ _ _ _)).trans (kC _ _ _ _)) bB9 wB,H.jJ (((((kC _ _ _ _).trans (kC _ _ _ _)).trans (kC _ _ _ _)).trans (kC _ _ _ _)).trans (kC _ _ _ _)) bB9⟩
   · exact (L.out.touch (((((kC _ _ _ _).trans (kC _ _ _ _)).trans (kC _ _ _ _)).trans (kC _ _ _ _)).trans (kC _ _ _ _)) tC).wide fK
   simp only;omega
 have ck:¬ (m:Int)=2:=bB9
 by_cases b5:m=3
 · subst b5
   go_wp2_with fail
   refine (kWf hc).mono ?_
   rintro e w5 ⟨y,rfl,b6,a4,G,D⟩
   have cd:=D.size
   obtain ⟨R,B⟩:=BZ
   obtain ⟨L,H⟩:=oZ
   clear hc D
   have hc:=G
   clear G
   obtain ⟨av,O,J,E,U⟩:=jU B
   obtain ⟨ab,W,X,Z,Y⟩:=zh B
   go_upto_region 13 with fail
   generalize F:World.setCell w5 _ _=w6
   have N:Touch (fun k=>k=V.heap.size) w5 w6:=pY
   replace B:w6.heap[V.heap.size]?=some (.cells #[.slice a0 n.length c0,.slice a1 b.length c1,.slice a2 k.length c2,.int .i64 f,.int .i64 y] 43 (0,0)):=by rw [← F];exact kH B 4
   have c8:=N.size
   clear F
   replace R:=N.kD R bB9
   replace L:=yD (L.out.touch N qB)
   replace hc:=hc.touch N bB9 wB
   replace H:=H.jJ N bB9
   clear av O J E U ab W X Z Y
   clear N
   replace L:=yD (kQs L.out (v:=y) bB9)
   go_upto_region 13 with fail
   obtain ⟨ac,au,bi,bm,bv⟩:=jU R
   obtain ⟨av,O,J,E,U⟩:=jU B
   obtain ⟨aq,ar,bh,bl,bu⟩:=zh R
   go_wp2
   refine bodyPost_ret (v:=.agg #[.slice a0 n.length c0,.slice a1 b.length c1,.slice a2 k.length c2,.int .i64 f,.int .i64 y]) fO rfl ⟨[.slice a0 n.length c0,.slice a1 b.length c1,.slice a2 k.length c2,.int .i64 f,.int .i64 y],(n,b,k,f,y),rfl,?_,?_,hc.touch (((((kC _ _ _ _).trans (kC _ _ _ _)).trans (kC _ _ _ _)).trans (kC _ _ _ _)).trans (kC _ _ _ _)) bB9 wB,H.jJ (((((kC _ _ _ _).trans (kC _ _ _ _)).trans (kC _ _ _ _)).trans (kC _ _ _ _)).trans (kC _ _ _ _)) bB9⟩
   · exact (L.out.touch (((((kC _ _ _ _).trans (kC _ _ _ _)).trans (kC _ _ _ _)).trans (kC _ _ _ _)).trans (kC _ _ _ _)) tC).wide fK
   simp only;omega
 have af:¬ (m:Int)=3:=bB9
 by_cases b1:m=4
 · subst b1
   go_wp2_with fail
   refine (kV (n:=3) hc bB8).mono ?_
   rintro e w5 ⟨y,b6,a4,a6,rfl,G,D⟩
   have cd:=D.size
   obtain ⟨R,B⟩:=BZ
   obtain ⟨L,H⟩:=oZ
   clear hc D
   have hc:=G
   clear G
   replace a4:=a4 bB8
   clear a6
   obtain ⟨z,hz⟩:∃ z:Nat,(59:Int) + y=z:=⟨(59 + y).toNat,by omega⟩
   have hw:IntKind.i64.wrap (59 + y)=(z:Int):=(IntWalk.i64_in _ bB9).trans hz
   have fb:=run_make_row' (P:=prog) 22 5 (.int .u8 0) 1 underlying22 kBl rfl .i64 .i64 z bB9 bB9
   obtain ⟨av,O,J,E,U⟩:=jU B
   obtain ⟨ab,W,X,Z,Y⟩:=zh B
   have GB:(World.alloc w5 (.cells (madeCells #[.int .u8 0] z) 5)).frozen? ⟨V.heap.size,1,none⟩=false:=(frozen?_alloc_cells _ _ _ _).trans W
   have aa:(World.alloc w5 (.cells (madeCells #[.int .u8 0] z) 5)).cell? ⟨V.heap.size,1,none⟩=some (.slice a1 b.length c1):=kF (kD B (bR.alloc nL _)) rfl
   go_upto_region 13 with fail
   have HM:=yD ((kE.own0_make (r:=kE.byte) (e:=5) (w:=w5) (zs:=#[.int .u8 0]) (n:=z) (S:=fun k=>k=w5.heap.size) rfl rfl bB8 vI rfl).own (by simp [Big];omega))
   simp only [show z * kE.byte.n=z from Nat.mul_one z] at HM
   clear GB aa fb
   generalize F:World.alloc w5 (.cells (madeCells #[.int .u8 0] z) 5)=w6 at HM ⊢
   have ba:Below w5.heap.size w5 w6:=rX
   have c8:w5.heap.size + 1≤w6.heap.size:=bA3
   clear F
   replace R:=kD R ba
   replace B:=kD B ba
   obtain ⟨L,hc,H⟩:=DD
   clear av O J E U ab W X Z Y
   clear ba
   replace HM:=yD (HM.out.wide (T:=fun k=>w5.heap.size≤k∧k < w6.heap.size) wG)
   generalize F:World.setCell w6 _ _=w7
   have a5:Touch (fun k=>k=V.heap.size) w6 w7:=by rw [← F];exact kC w6 (V.heap.size) 1 _
   replace B:w7.heap[V.heap.size]?=some (.cells #[.slice a0 n.length c0,.slice (some ⟨w5.heap.size,0,none⟩) z z,.slice a2 k.length c2,.int .i64 f,.int .i64 s] 43 (0,0)):=by rw [← F];exact kH B 1
   have dg:=a5.size
   clear F
   replace R:=a5.kD R bB9
   replace L:=yD (L.out.touch a5 qB)
   replace HM:=yD (HM.out.touch a5 qB)
   replace hc:=hc.touch a5 bB9 wB
   replace H:=H.jJ a5 bB9
   clear a5
   replace L:=yD ((kRi L.out HM.out nY).wide (T:=fun j=>w1.heap.size≤j∧j < w7.heap.size) bY)
   clear HM
   go_upto_region 13 with fail
   obtain ⟨ac,au,bi,bm,bv⟩:=jU R
   obtain ⟨av,O,J,E,U⟩:=jU B
   obtain ⟨aq,ar,bh,bl,bu⟩:=zh R
   go_wp2
   refine bodyPost_ret (v:=.agg #[.slice a0 n.length c0,.slice (some ⟨w5.heap.size,0,none⟩) z z,.slice a2 k.length c2,.int .i64 f,.int .i64 s]) fO rfl ⟨[.slice a0 n.length c0,.slice (some ⟨w5.heap.size,0,none⟩) z z,.slice a2 k.length c2,.int .i64 f,.int .i64 s],(n,List.replicate z 0,k,f,s),rfl,?_,?_,hc.touch (((((kC _ _ _ _).trans (kC _ _ _ _)).trans (kC _ _ _ _)).trans (kC _ _ _ _)).trans (kC _ _ _ _)) bB9 wB,H.jJ (((((kC _ _ _ _).trans (kC _ _ _ _)).trans (kC _ _ _ _)).trans (kC _ _ _ _)).trans (kC _ _ _ _)) bB9⟩
   · exact (L.out.touch (((((kC _ _ _ _).trans (kC _ _ _ _)).trans (kC _ _ _ _)).trans (kC _ _ _ _)).trans (kC _ _ _ _)) tC).wide fK
   simp;omega
 have ae:¬ (m:Int)=4:=bB9
 go_upto_region 13 with fail
 obtain ⟨ac,au,bi,bm,bv⟩:=jU R
 obtain ⟨av,O,J,E,U⟩:=jU B
 obtain ⟨aq,ar,bh,bl,bu⟩:=zh R
 go_wp2
 refine bodyPost_ret (v:=.agg #[.slice a0 n.length c0,.slice a1 b.length c1,.slice a2 k.length c2,.int .i64 f,.int .i64 s]) fO rfl ⟨[.slice a0 n.length c0,.slice a1 b.length c1,.slice a2 k.length c2,.int .i64 f,.int .i64 s],(n,b,k,f,s),rfl,?_,?_,hc.touch (((((kC _ _ _ _).trans (kC _ _ _ _)).trans (kC _ _ _ _)).trans (kC _ _ _ _)).trans (kC _ _ _ _)) bB9 wB,H.jJ (((((kC _ _ _ _).trans (kC _ _ _ _)).trans (kC _ _ _ _)).trans (kC _ _ _ _)).trans (kC _ _ _ _)) bB9⟩
 · exact (L.out.touch (((((kC _ _ _ _).trans (kC _ _ _ _)).trans (kC _ _ _ _)).trans (kC _ _ _ _)).trans (kC _ _ _ _)) tC).wide fK
 simp only;omega
end Go.Proofs.YtonmjkmaadgceaaGreat

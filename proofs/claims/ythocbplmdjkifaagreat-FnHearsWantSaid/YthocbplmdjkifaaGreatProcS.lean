/-
  What an interest brings about: spec.
-/
import Derived.Test.YthocbplmdjkifaaGreatOutF
set_option linter.unusedVariables false
set_option linter.defProp false
set_option linter.unusedSimpArgs false
set_option linter.unnecessarySimpa false
set_option maxRecDepth 100000
set_option maxHeartbeats 8000000
open Bool renaming true->Tt,false->Ff
open Go renaming bodyPost_ret->Aa,World->Aq,Value->Ar,Calls->Ay
open Bool renaming not_false->Ab,and_false->Ac,false_and->Ad,not_true->Ae,and_true->Ag,true_and->Ah,or_false->Ai,false_or->Aj,or_true->Al,true_or->Am,not_not->Ap
open Int renaming natCast_nonneg->Ak,ofNat_lt->Aw,toNat_natCast->Ba
open _root_ renaming List->Au
open Go.RowKit.Below renaming setCell->Av,mono->Az
namespace Go.Proofs.YthocbplmdjkifaaGreat
open Go.RowKit _root_.Go.Proofs.Tryz
def kQj (x:jE):jE:=if x.2.2.1 < 1 then x else kRf x (x.2.2.1 - 1)
def kJq (x:jE):Bool:=!decide (x.2.2.1 < 1)
def kRh {w:Aq} {c0 c1 c2 c3:Ar} {x0:ko} {x1 x2 x3 h:Int} {S:Nat->Prop} (k:jM.own w [c0,c1,c2,c3] (x0,x1,x2,x3) S) (hh:-9223372036854775808<=h/\h<=9223372036854775807):jM.own w [c0,c1,.int .i64 h,c3] (x0,x1,h,x3) S :=
  ⟨jBx h hh k.1,k.2⟩
def kQa {w:Aq} {cx:Au Ar} {x:jE} (hx:jM.rd w cx x) :
    Ay prog 59 #[.agg cx.toArray] w λe w'=>∃ ds,e=.returned (.tuple #[.agg ds.toArray,.bool (kJq x)])/\jM.own w' ds (kQj x) (jg w.heap.size w'.heap.size)/\Below w.heap.size w w':=by
 obtain ⟨x0,x1,x2,x3⟩:=x
 have HX:=yD hx
 obtain ⟨a1,rfl,ao,am,aq,ap,Y⟩:=jY hx.1
 obtain ⟨b9,ai,rfl,an⟩:=kD.sl am
 have ak:-9223372036854775808<=x2/\x2<=9223372036854775807:=ap
 clear hx ao am aq ap Y
 go_enter func59,ntmps59
 go_upto_region 1 with fail
 refine kAe ?_
 intro w1 U BX BR bj
 obtain ⟨aa,ac,ae,ad⟩:=jW BX
 go_wp2_with fail
 refine (kMc (HX.out.below U)).mono ?_
 rintro e w2 ⟨cs,rfl,O,hb⟩
 have bw:=hb.size
 replace BX:=kC BX hb
 obtain ⟨BR,U⟩:=CQ
 clear aa ac ae ad hb
 obtain ⟨hv,rfl,fl,e8,fy,fk,e1⟩:=jY O.raw
 obtain ⟨bt,bu,rfl,hu⟩:=kD.sl e8
 clear fl e8 fy fk e1
 have J:=yD (O.wide (T:=(λj=>w.heap.size + 2<=j/\j < w2.heap.size)) sO)
 clear O
 go_upto_region 2 with fail
 refine ja ?_
 intro w3 ah BO bz
 replace BX:=kC BX ah
 obtain ⟨BR,J,U⟩:=xZ
 clear ah
 by_cases hh:x2 < 1
 · have HD:=yD (show kQj (x0,x1,x2,x3)=(x0,x1,x2,x3) by unfold kQj;rw [if_pos hh]);have HK:=yD (show kJq (x0,x1,x2,x3)=false by unfold kJq;simp only;rw [decide_eq_true hh];rfl);obtain ⟨aa,ac,ae,ad⟩:=jW BX;go_upto_region 3 with fail;clear aa ac ae ad;obtain ⟨X,N,Z,R⟩:=jW BO;obtain ⟨ay,az,bf,be⟩:=jW BR;obtain ⟨al,aj,bb,bd⟩:=zy BR;go_wp2;refine Aa (v:=.tuple #[.agg #[.slice bt x0.length bu,.int .i64 x1,.int .i64 x2,.int .i64 x3],.bool false]) gQ rfl ⟨[.slice bt x0.length bu,.int .i64 x1,.int .i64 x2,.int .i64 x3],by rw [HK.out],?_,?_⟩
   · rw [HD.out];exact (J.out.touch sT4 sW).wide fU
   exact U.trans (Touch.below sT4 U.size bB6)
 obtain ⟨HD,HK⟩:=DR
 obtain ⟨aa,ac,ae,ad⟩:=jW BX
 go_upto_region 4 with fail
 clear aa ac ae ad
 obtain ⟨aa,ac,ae,ad⟩:=jW BX
 obtain ⟨X,N,Z,R⟩:=jW BO
 obtain ⟨I,a2,ba,bc⟩:=zy BO
 go_upto_region 5 with fail
 generalize o:World.setCell w3 _ _=w4
 obtain ⟨D,BO,b5⟩:=CV
 clear o
 obtain ⟨BR,J,U⟩:=EJ
 clear aa ac ae ad X N Z R I a2 ba bc D
 replace J:=yD (kRh J.out (h:=x2 - 1) bF2)
 obtain ⟨X,N,Z,R⟩:=jW BO
 obtain ⟨ay,az,bf,be⟩:=jW BR
 obtain ⟨al,aj,bb,bd⟩:=zy BR
 go_wp2
 refine Aa (v:=.tuple #[.agg #[.slice bt x0.length bu,.int .i64 x1,.int .i64 (x2 - 1),.int .i64 x3],.bool true]) gQ rfl ⟨[.slice bt x0.length bu,.int .i64 x1,.int .i64 (x2 - 1),.int .i64 x3],by rw [HK.out],?_,?_⟩
 · rw [HD.out];exact (J.out.touch sT4 sW).wide fU
 exact U.trans (Touch.below sT4 U.size bB6)
def kQg {w:Aq} {cx:Au Ar} {x:jE} (hx:jM.rd w cx x) :
    Ay prog 40 #[.agg cx.toArray] w λe w'=>∃ ds,e=.returned (.tuple #[.agg ds.toArray,.bool (kJq x)])/\jM.own w' ds (kQj x) (jg w.heap.size w'.heap.size)/\Below w.heap.size w w':=by
 obtain ⟨x0,x1,x2,x3⟩:=x
 have HX:=yD hx
 obtain ⟨a1,rfl,ao,am,aq,ap,Y⟩:=jY hx.1
 obtain ⟨b9,ai,rfl,an⟩:=kD.sl am
 have ak:-9223372036854775808<=x2/\x2<=9223372036854775807:=ap
 clear hx ao am aq ap Y
 go_enter func40,ntmps40
 go_upto_region 1 with fail
 refine kAe ?_
 intro w1 U BX BR bj
 obtain ⟨aa,ac,ae,ad⟩:=jW BX
 go_wp2_with fail
 refine (kEn (HX.out.below U)).mono ?_
 rintro e w2 ⟨cs,rfl,O,hb⟩
 have bw:=hb.size
 replace BX:=kC BX hb
 obtain ⟨BR,U⟩:=CQ
 clear aa ac ae ad hb
 obtain ⟨hv,rfl,fl,e8,fy,fk,e1⟩:=jY O.raw
 obtain ⟨bt,bu,rfl,hu⟩:=kD.sl e8
 clear fl e8 fy fk e1
 have J:=yD (O.wide (T:=(λj=>w.heap.size + 2<=j/\j < w2.heap.size)) sO)
 clear O
 go_upto_region 2 with fail
 refine ja ?_
 intro w3 ah BO bz
 replace BX:=kC BX ah
 obtain ⟨BR,J,U⟩:=xZ
 clear ah
 by_cases hh:x2 < 1
 · have HD:=yD (show kQj (x0,x1,x2,x3)=(x0,x1,x2,x3) by unfold kQj;rw [if_pos hh]);have HK:=yD (show kJq (x0,x1,x2,x3)=false by unfold kJq;simp only;rw [decide_eq_true hh];rfl);obtain ⟨aa,ac,ae,ad⟩:=jW BX;go_upto_region 3 with fail;clear aa ac ae ad;obtain ⟨X,N,Z,R⟩:=jW BO;obtain ⟨ay,az,bf,be⟩:=jW BR;obtain ⟨al,aj,bb,bd⟩:=zy BR;go_wp2;refine Aa (v:=.tuple #[.agg #[.slice bt x0.length bu,.int .i64 x1,.int .i64 x2,.int .i64 x3],.bool false]) gT rfl ⟨[.slice bt x0.length bu,.int .i64 x1,.int .i64 x2,.int .i64 x3],by rw [HK.out],?_,?_⟩
   · rw [HD.out];exact (J.out.touch sT4 sW).wide fU
   exact U.trans (Touch.below sT4 U.size bB6)
 obtain ⟨HD,HK⟩:=DR
 obtain ⟨aa,ac,ae,ad⟩:=jW BX
 go_upto_region 4 with fail
 clear aa ac ae ad
 obtain ⟨X,N,Z,R⟩:=jW BO
 obtain ⟨I,a2,ba,bc⟩:=zy BO
 go_upto_region 5 with fail
 generalize o:World.setCell w3 _ _=w4
 obtain ⟨D,BO,b5⟩:=CV
 clear o
 obtain ⟨BR,J,U⟩:=EJ
 clear X N Z R I a2 ba bc D
 replace J:=yD (kRh J.out (h:=x2 - 1) bF2)
 obtain ⟨X,N,Z,R⟩:=jW BO
 obtain ⟨ay,az,bf,be⟩:=jW BR
 obtain ⟨al,aj,bb,bd⟩:=zy BR
 go_wp2
 refine Aa (v:=.tuple #[.agg #[.slice bt x0.length bu,.int .i64 x1,.int .i64 (x2 - 1),.int .i64 x3],.bool true]) gT rfl ⟨[.slice bt x0.length bu,.int .i64 x1,.int .i64 (x2 - 1),.int .i64 x3],by rw [HK.out],?_,?_⟩
 · rw [HD.out];exact (J.out.touch sT4 sW).wide fU
 exact U.trans (Touch.below sT4 U.size bB6)
def fdD (n:ko) (t:Int) (x:jX):jQ:=if idxOf (isD n) x.1 < 0 then lkD n t x.2.1.2 else x.1.getD (idxOf (isD n) x.1).toNat kNa
def kNp (n:ko) (t:Int) (x:jX):Bool:=if idxOf (isD n) x.1 < 0 then lkOk n t x.2.1.2 else true
def fd_no {n:ko} {t:Int} {x:jX} (h:idxOf (isD n) x.1 < 0):kNp n t x=lkOk n t x.2.1.2/\fdD n t x=lkD n t x.2.1.2:=by simp [kNp,fdD,h]
def fd_yes {n:ko} {t:Int} {x:jX} {j:Nat} (I:j < x.1.length) (h:idxOf (isD n) x.1=j):kNp n t x=true/\fdD n t x=x.1[j]:=by
 unfold kNp fdD;rw [h,Ba,jb I,if_neg bF2,if_neg bF2];exact ⟨rfl,rfl⟩
def jEk {α:Type} {p:α->Bool} {x:Au α} (h:¬ idxOf p x < 0):∃ k:Nat,k < x.length/\idxOf p x=k:=by
 unfold idxOf at *;cases e:x.findIdx? p with
 | none=>rw [e] at h;simp at h
 | some i=>exact ⟨i,(List.findIdx?_eq_some_iff_getElem.1 e).1,rfl⟩
def kZn {w:Aq} {cx:Au Ar} {x:jX} (hx:jo.rd w cx x) {cn:Au Ar} {n:ko} (hn:kR.rd w cn n) {t:Int} (ht:Qi t) :
    Ay prog 55 #[.agg cx.toArray,.agg cn.toArray,.int .i64 t] w λe w'=>∃ ds,e=.returned (.tuple #[.agg ds.toArray,.bool (kNp n t x)])/\jF.own w' ds (fdD n t x) (jg w w')/\Qb w w':=by
 clear ht
 have Y:=yD hn
 obtain ⟨q1,q2,q3⟩:=hx.2
 obtain ⟨f6,f4,gp,gm,gj,gb,rfl,V,a9,bl,bi,bg,bo,b1,cf,du⟩:=yO hx.1
 obtain ⟨em,d7,rfl,_,dx,dw,rfl,_,e9,e6,rfl,_,e7,e4,rfl,_,e0,ey,rfl,_,en,ej,rfl,_⟩:=kD.sx V (kD.sx bi (kD.sx bg (kD.sx bo (kD.sx b1 (kD.sl cf)))))
 obtain ⟨E,F⟩:=FE
 clear hx q1 q2 q3 V a9 bl bi bg bo b1 cf du
 obtain ⟨nv,rfl,az⟩:=kw hn.1
 obtain ⟨an,a8,rfl,_⟩:=kD.sl az
 clear hn az
 go_enter func55,ntmps55
 go_upto_region 1 with fail
 generalize R:World.alloc (World.alloc (World.alloc w _) _) _=U
 obtain ⟨Z,be,K0,K1,K2,N0,XR⟩:=AY
 clear R
 go_wp2_with fail
 refine (kQw (E.out.1.below Z) (Y.out.1.below Z)).mono ?_
 rintro e w1 ⟨rfl,N⟩
 have E1:=(tQ Z N)
 have bn:=N.size
 obtain ⟨K0,K1,K2⟩:=DD
 replace N0:=cL N N0
 replace XR:=yD (kC XR.out N)
 clear N Z
 by_cases hk:idxOf (isD n) x.1 < 0
 · have L:=yD (fd_no (t:=t) hk);generalize hq:idxOf (isD n) x.1=q at *;clear hq;go_wp2_with fail;refine (kTa (F.out.below (E1.trans (Az bI E1.size))) (Y.out.below (E1.trans (Az bI E1.size))) (t:=t)).mono ?_;rintro e w2 ⟨cd,rfl,O2,ag⟩;generalize hD:lkD n t x.2.1.2=D at *;have HD:=yD (L.out.2);clear hD;obtain ⟨v0,v1,v2,rfl,fp,ef,ee,fv,eg,fu,fq⟩:=jf O2.raw;obtain ⟨a0,p0,rfl,_,a1,p1,rfl,_,a2,p2,rfl,_⟩:=kD.sx ef (kD.sx ee (kD.sl eg));clear fp ef ee fv eg fu fq;obtain ⟨EF,J,X⟩:=AC;clear O2 ag E1 K0 K1 K2 N0 XR;obtain ⟨R0,F0,R1,F1,R2,F2,R3,F3,R4,F4⟩:=uR;go_wp2;refine Aa (v:=.tuple #[.agg (Qf a0 p0 a1 p1 a2 p2 D),.bool (lkOk n t x.2.1.2)]) fZ rfl ⟨[_,_,_,_,_],by rw [L.out.1],?_,?_⟩
   · exact lC
   repeat (first|(with_reducible exact EF) | refine Av ?_ sK _)
 obtain ⟨k,hkl,ad⟩:=jEk hk
 have L:=yD (fd_yes (t:=t) hkl ad)
 rw [ad]
 clear hk ad
 have b9:=Ak k
 have dt:=Aw.2 hkl
 obtain ⟨qb,qo,rfl,ac,ae,af,bt,bu,qr,ap,aq,au,a7,ba⟩:=kD.kTr (E.out.1.below E1) hkl rfl
 have o:=kD.yx E.out hkl
 clear E
 generalize x.1[k]=D at *
 have HD:=yD L.out.2
 obtain ⟨rfl,rfl,ah,aj,ak,aw,bj,bd,bp⟩:=kAi qr
 have HR:=yD (show jF.rd w1 _ D from ⟨qr,o⟩)
 clear qr o ah aj ak aw bj bd bp
 go_wp2_with fail
 refine (kBb (HR.out.below bI)).mono ?_
 rintro e w2 ⟨cd,rfl,O2,ag⟩
 clear HR ap aq au a7 ba
 obtain ⟨v0,v1,v2,rfl,fp,ef,ee,fv,eg,fu,fq⟩:=jf O2.raw
 obtain ⟨a0,p0,rfl,_,a1,p1,rfl,_,a2,p2,rfl,_⟩:=kD.sx ef (kD.sx ee (kD.sl eg))
 clear fp ef ee fv eg fu fq
 obtain ⟨EF,J,X⟩:=AC
 clear O2 ag E1 K0 K1 K2 N0 XR
 obtain ⟨R0,F0,R1,F1,R2,F2,R3,F3,R4,F4⟩:=uR
 go_wp2
 refine Aa (v:=.tuple #[.agg (Qf a0 p0 a1 p1 a2 p2 D),.bool true]) fZ rfl ⟨[_,_,_,_,_],by rw [L.out.1],?_,?_⟩
 · exact lC
 repeat (first|(with_reducible exact EF) | refine Av ?_ sK _)
def jBd {w:Aq} {cx:Au Ar} {x:jX} (hx:jo.rd w cx x) {cn:Au Ar} {n:ko} (hn:kR.rd w cn n) {t:Int} (ht:Qi t) :
    Ay prog 36 #[.agg cx.toArray,.agg cn.toArray,.int .i64 t] w λe w'=>∃ ds,e=.returned (.tuple #[.agg ds.toArray,.bool (kNp n t x)])/\jF.own w' ds (fdD n t x) (jg w w')/\Qb w w':=by
 clear ht
 have Y:=yD hn
 obtain ⟨q1,q2,q3⟩:=hx.2
 obtain ⟨f6,f4,gp,gm,gj,gb,rfl,V,a9,bl,bi,bg,bo,b1,cf,du⟩:=yO hx.1
 obtain ⟨em,d7,rfl,_,dx,dw,rfl,_,e9,e6,rfl,_,e7,e4,rfl,_,e0,ey,rfl,_,en,ej,rfl,_⟩:=kD.sx V (kD.sx bi (kD.sx bg (kD.sx bo (kD.sx b1 (kD.sl cf)))))
 obtain ⟨E,F⟩:=FE
 clear hx q1 q2 q3 V a9 bl bi bg bo b1 cf du
 obtain ⟨nv,rfl,az⟩:=kw hn.1
 obtain ⟨an,a8,rfl,_⟩:=kD.sl az
 clear hn az
 go_enter func36,ntmps36
 go_upto_region 1 with fail
 generalize R:World.alloc (World.alloc (World.alloc w _) _) _=U
 obtain ⟨Z,be,K0,K1,K2,N0,XR⟩:=AY
 clear R
 go_wp2_with fail
 refine (kRi (E.out.1.below Z) (Y.out.1.below Z)).mono ?_
 rintro e w1 ⟨rfl,N⟩
 have E1:=(tQ Z N)
 have bn:=N.size
 obtain ⟨K0,K1,K2⟩:=DD
 replace N0:=cL N N0
 replace XR:=yD (kC XR.out N)
 clear N Z
 by_cases hk:idxOf (isD n) x.1 < 0
 · have L:=yD (fd_no (t:=t) hk);generalize hq:idxOf (isD n) x.1=q at *;clear hq;go_wp2_with fail;refine (kTq (F.out.below (E1.trans (Az bI E1.size))) (Y.out.below (E1.trans (Az bI E1.size))) (t:=t)).mono ?_;rintro e w2 ⟨cd,rfl,O2,ag⟩;generalize hD:lkD n t x.2.1.2=D at *;have HD:=yD (L.out.2);clear hD;obtain ⟨v0,v1,v2,rfl,fp,ef,ee,fv,eg,fu,fq⟩:=jf O2.raw;obtain ⟨a0,p0,rfl,_,a1,p1,rfl,_,a2,p2,rfl,_⟩:=kD.sx ef (kD.sx ee (kD.sl eg));clear fp ef ee fv eg fu fq;obtain ⟨EF,J,X⟩:=AC;clear O2 ag E1 K0 K1 K2 N0 XR;obtain ⟨R0,F0,R1,F1,R2,F2,R3,F3,R4,F4⟩:=uR;go_wp2;refine Aa (v:=.tuple #[.agg (Qf a0 p0 a1 p1 a2 p2 D),.bool (lkOk n t x.2.1.2)]) gB rfl ⟨[_,_,_,_,_],by rw [L.out.1],?_,?_⟩
   · exact lC
   repeat (first|(with_reducible exact EF) | refine Av ?_ sK _)
 obtain ⟨k,hkl,ad⟩:=jEk hk
 have L:=yD (fd_yes (t:=t) hkl ad)
 rw [ad]
 clear hk ad
 have b9:=Ak k
 have dt:=Aw.2 hkl
 obtain ⟨qb,qo,rfl,ac,ae,af,bt,bu,qr,ap,aq,au,a7,ba⟩:=kD.kTr (E.out.1.below E1) hkl rfl
 have o:=kD.yx E.out hkl
 clear E
 generalize x.1[k]=D at *
 have HD:=yD L.out.2
 obtain ⟨rfl,rfl,ah,aj,ak,aw,bj,bd,bp⟩:=kAi qr
 have HR:=yD (show jF.rd w1 _ D from ⟨qr,o⟩)
 clear qr o ah aj ak aw bj bd bp
 go_wp2_with fail
 refine (kDi (HR.out.below bI)).mono ?_
 rintro e w2 ⟨cd,rfl,O2,ag⟩
 clear HR ap aq au a7 ba
 obtain ⟨v0,v1,v2,rfl,fp,ef,ee,fv,eg,fu,fq⟩:=jf O2.raw
 obtain ⟨a0,p0,rfl,_,a1,p1,rfl,_,a2,p2,rfl,_⟩:=kD.sx ef (kD.sx ee (kD.sl eg))
 clear fp ef ee fv eg fu fq
 obtain ⟨EF,J,X⟩:=AC
 clear O2 ag E1 K0 K1 K2 N0 XR
 obtain ⟨R0,F0,R1,F1,R2,F2,R3,F3,R4,F4⟩:=uR
 go_wp2
 refine Aa (v:=.tuple #[.agg (Qf a0 p0 a1 p1 a2 p2 D),.bool true]) gB rfl ⟨[_,_,_,_,_],by rw [L.out.1],?_,?_⟩
 · exact lC
 repeat (first|(with_reducible exact EF) | refine Av ?_ sK _)
def kOs (f:Int) (r:kV):Bool:=r.1==f
def kTe (l:Au kF) (n:ko) (f:Int):Bool:=if idxOf (jV n) l < 0 then false else decide (0<=idxOf (kOs f) (l.getD (idxOf (jV n) l).toNat ([],[],0)).2.1)
def retr_no {l:List kF} {n:ko} {f:Int} (h:idxOf (jV n) l < 0):kTe l n f=false:=by unfold kTe;rw [if_pos h]
def retr_yes {l:Au kF} {n:ko} {f:Int} {k:Nat} (hk:k < l.length) (h:idxOf (jV n) l=k):kTe l n f=decide (0<=idxOf (kOs f) l[k].2.1):=by
 unfold kTe;rw [h,if_neg bF2,Ba,jb hk]
def kLi {w:Aq} {cr:Au Ar} {r:kV} (hr:kQ.raw w cr r) {f:Int} {N:Nat} (H:Qc w N 0 (Qn f)) :
    Ay prog 67 (#[.agg cr.toArray]++#[.pointer (some ⟨N,0,none⟩)]) w (bQ w (.bool (kOs f r))):=by
 have Hr:=yD hr
 obtain ⟨rfl,I,J,O⟩:=kAa hr
 show Ay prog 67 #[_,_] w _
 go_enter func67,ntmps67
 go_upto_region 1 with fail
 refine ja ?_
 intro U Z F _
 obtain ⟨X,o,R⟩:=kBd F
 clear F
 replace H:=cL Z H
 have FX:=yD (λ(W:Aq) (hW:Qb U W)=>kDk hW X o R H)
 refine kL (λW=>Qb U W) [Tt,Tt,Tt,Tt,Tt] bR ?_
 intro wS E
 all_goals ((iterate 4 refine kS ?_);refine jT λb a1=>?_;cases b <;> try simp only [jS] at a1)
 all_goals (refine kM ?_;have D:=(tQ Z E))
 all_goals first
   | (have L:=yD (show (kOs f r)=false by simp only [kOs,Ae,Ab,Ag,Ah,Ac,Ad,Al,Am,Ai,Aj,Ap,a1]);go_wp2;go_ret;exact ⟨kJ L.out.symm,D⟩)
   | (have L:=yD (show (kOs f r)=true by simp only [kOs,Ae,Ab,Ag,Ah,Ac,Ad,Al,Am,Ai,Aj,Ap,a1]);go_wp2;go_ret;exact ⟨kJ L.out.symm,D⟩)
def kFr:jL prog 67:=yM func67 bE5 bE5
def kFp {w:Aq} {vl:Ar} {l:Au kF} (hl:(kD.slice 107 kH).raw w [vl] l) {cn:Au Ar} {n:ko} (hn:kR.raw w cn n) {f:Int} :
    Ay prog 13 #[vl,.agg cn.toArray,.int .i64 f] w (bQ w (.bool (kTe l n f))):=by
 have Y:=yD hn
 have HL:=yD hl
 obtain ⟨av,rfl,_⟩:=kw hn
 obtain ⟨aa,al,rfl,la⟩:=kD.sl hl
 clear hn hl
 go_enter func13,ntmps13
 go_wp2_with fail
 refine (kBn (HL.out.below bI) (Y.out.below bI)).mono ?_
 rintro e w1 ⟨rfl,N⟩
 have EF:Qb w w1:=Below.trans bI (N.mono bB7)
 have K5:Qc w1 (w.heap.size + 1) 0 (Qn f):=(N.cell (p:=⟨w.heap.size + 1,0,none⟩) bF3).trans bD9
 clear N
 by_cases h:idxOf (jV n) l < 0
 · have L:=yD (retr_no (f:=f) h);have hd:decide (0<=idxOf (jV n) l)=false:=bD5;go_wp2;go_ret;exact ⟨kJ L.out.symm,EF⟩
 obtain ⟨k,hk,hi⟩:=zn h
 have L:=yD (retr_yes (f:=f) hk hi)
 rw [hi] at h ⊢
 clear hi
 obtain ⟨ba,X,rfl,c0,c1,c2,hr,A0,A1,A2⟩:=kD.zL (HL.out.below EF) hk rfl
 obtain ⟨rfl,p0,p1,p2,F⟩:=jP hr
 clear hr p0 p1 F
 generalize l[k]=y at *
 obtain ⟨ra,rc,rfl,o⟩:=kD.sl p2
 have dt:=Aw.2 hk
 have b9:=Ak k
 go_wp2_with fail
 refine (kEc (kOs f) kFr p2 ?_).mono ?_
 · intro wr hb i h cs hr;exact kLi hr (cL hb K5)
 rintro e w2 ⟨rfl,ag⟩
 have D:=(tQ EF ag)
 clear ag
 go_wp2
 go_ret
 exact ⟨kJ L.out.symm,D⟩
def kFe {w:Aq} {vl:Ar} {l:Au kF} (hl:(kD.slice 107 kH).raw w [vl] l) {cn:Au Ar} {n:ko} (hn:kR.raw w cn n) {f:Int} :
    Ay prog 14 #[vl,.agg cn.toArray,.int .i64 f] w (bQ w (.bool (kTe l n f))):=by
 have Y:=yD hn
 have HL:=yD hl
 obtain ⟨av,rfl,_⟩:=kw hn
 obtain ⟨aa,al,rfl,la⟩:=kD.sl hl
 clear hn hl
 go_enter func14,ntmps14
 go_wp2_with fail
 refine (kCt (HL.out.below bI) (Y.out.below bI)).mono ?_
 rintro e w1 ⟨rfl,N⟩
 have EF:Qb w w1:=Below.trans bI (N.mono bB7)
 clear N
 by_cases h:idxOf (jV n) l < 0
 · have L:=yD (retr_no (f:=f) h);have hd:decide (0<=idxOf (jV n) l)=false:=bD5;go_wp2;go_loop [8] (λi=>i=.int .i64 0) (λ_=>0);case atStart=>rfl
   obtain rfl:=hrel;go_wp2;go_ret;exact ⟨kJ L.out.symm,EF⟩
 obtain ⟨k,hk,hi⟩:=zn h
 have L:=yD (retr_yes (f:=f) hk hi)
 rw [hi] at h ⊢
 clear hi
 obtain ⟨ba,X,rfl,c0,c1,c2,hr,A0,A1,A2⟩:=kD.zL (HL.out.below EF) hk rfl
 obtain ⟨rfl,p0,p1,p2,F⟩:=jP hr
 clear hr p0 p1 F
 generalize l[k]=y at *
 obtain ⟨ra,rc,rfl,o⟩:=kD.sl p2
 have dt:=Aw.2 hk
 have b9:=Ak k
 generalize hR:y.2.1=R at *
 clear hR
 go_wp2
 go_loop [8] (λi=>∃ j:Nat,j<=R.length/\i=.int .i64 j/\Hid (∀ m,(h:m < j)->(h2:m < R.length)->kOs f R[m]=false)) (λi=>R.length - (intOf i).toNat)
 case atStart=>exact ⟨0,Nat.zero_le _,rfl,yD (λ_ h=>by omega)⟩
 obtain ⟨j,I,rfl,a7⟩:=hrel
 by_cases hlt:j < R.length
 · obtain ⟨bb,J,rfl,d0,d1,d2,hr,B0,B1,B2⟩:=kD.zL p2 hlt rfl;obtain ⟨rfl,rfl,rfl,_⟩:=yf hr;clear hr;have hh:=λq=>idxOf_hit hlt q a7.out;have hm:=λq=>kAv hlt q a7.out;generalize R[j]=z at *;have HH:=yD hh;have HM:=yD hm;clear hh hm;cases hq:(z.1==f)
   · have HU:=yD (HM.out hq);clear HH HM;go_wp2;go_round;case rel=>exact ⟨j + 1,by omega,by go_num,HU⟩
     simp [intOf];omega
   have HU:=yD (L.out.trans (show decide (0<=idxOf (kOs f) R)=true by rw [HH.out hq];simp));clear HH HM;go_wp2;go_ret;exact ⟨kJ HU.out.symm,EF⟩
 have HU:=yD (L.out.trans (show decide (0<=idxOf (kOs f) R)=false by rw [idxOf_miss hlt a7.out];simp))
 go_wp2
 go_ret
 exact ⟨kJ HU.out.symm,EF⟩
def kMf {w:Aq} {vl:Ar} {l:(Au kF)} (hl:(kD.slice 107 kH).rd w [vl] l) {cn:Au Ar} {n:ko} (hn:kR.rd w cn n) {f:Int} (hf:Qi f) :
    Ay prog 14 #[vl,.agg cn.toArray,.int .i64 f] w (bQ w (.bool (kTe l n f))):=kFe hl.1 hn.1
def kMo {w:Aq} {vl:Ar} {l:(Au kF)} (hl:(kD.slice 107 kH).rd w [vl] l) {cn:Au Ar} {n:ko} (hn:kR.rd w cn n) {f:Int} (hf:Qi f) :
    Ay prog 13 #[vl,.agg cn.toArray,.int .i64 f] w (bQ w (.bool (kTe l n f))):=kFp hl.1 hn.1
def kBc (x:jX) (f:Int) (q:jE):Bool:=(!kEl q || !inR f 0 6) || kHo q x.2.2.1 x.2.2.2.1
def zb (x:jX) (f:Int) (q:jE) (t:Int):Bool:=((decide (0<=idxOf (jV q.1) x.2.2.1) && decide (t<=kRw x.2.2.1 q.1)) || !kJq q) || (((kIp x q.1 f).length:Int)==0)
def kGf (x:jX) (f:Int) (q:jE):Au Int:=if kTe x.2.2.1 q.1 f then kIp x q.1 f else (kIp x q.1 f).take 1
def kJj (y:jE) (g:Int):ji:=(g,true,y,kNa)
def kCp (x:jX) (f:Int) (q:jE) (t:Int):kBx :=
  if kBc x f q then (kFy x,[]) else
  if kNp q.1 t x then ((x.1,kDs q.1 t x.2.1,x.2.2.1,zX x.2.2.2.1 q.1 q.2.1,x.2.2.2.2),[(f,false,zI,fdD q.1 t x)]) else
  if yY q f x.2.2.1 then
    if zb x f q t then ((x.1,x.2.1,kDv q f t x.2.2.1,x.2.2.2),[]) else
    ((x.1,x.2.1,kHm q.1 t (kDv q f t x.2.2.1),x.2.2.2),(kGf x f q).map (kJj (kQj q)))
  else (kFy x,[])
section
variable {x:jX} {f t:Int} {q:jE}
def kGt (h:kBc x f q=true):kCp x f q t=(kFy x,[]):=by unfold kCp;rw [h];rfl
def kGe (h:kBc x f q=false) (h2:kNp q.1 t x=true):kCp x f q t=((x.1,kDs q.1 t x.2.1,x.2.2.1,zX x.2.2.2.1 q.1 q.2.1,x.2.2.2.2),[(f,false,zI,fdD q.1 t x)]):=by unfold kCp;rw [h,h2];rfl
def kGd (h:kBc x f q=false) (h2:kNp q.1 t x=false) (h3:yY q f x.2.2.1=false):kCp x f q t=(kFy x,[]):=by unfold kCp;rw [h,h2,h3];rfl
def kGc (h:kBc x f q=false) (h2:kNp q.1 t x=false) (h3:yY q f x.2.2.1=true) (h4:zb x f q t=true):kCp x f q t=((x.1,x.2.1,kDv q f t x.2.2.1,x.2.2.2),[]):=by unfold kCp;rw [h,h2,h3,h4];rfl
def kIa (h:kBc x f q=false) (h2:kNp q.1 t x=false) (h3:yY q f x.2.2.1=true) (h4:zb x f q t=false):kCp x f q t=((x.1,x.2.1,kHm q.1 t (kDv q f t x.2.2.1),x.2.2.2),(kGf x f q).map (kJj (kQj q))):=by unfold kCp;rw [h,h2,h3,h4];rfl
end
def jDh {x:jX} {f t:Int} {q:jE} (h:zb x f q t=false):0 < (kIp x q.1 f).length:=by
 unfold zb at h;simp only [Bool.or_eq_false_iff,beq_eq_false_iff_ne] at h;omega
def faces_lt {F fs:Au Int} {kn:Bool} {k:Nat} (h:F=if kn then fs else fs.take 1):(decide (k < fs.length) && (kn || ((k:Int)==0)))=decide (k < F.length):=by
 subst h;cases kn
 · rw [Bool.eq_iff_iff];simp;omega
 rw [Bool.eq_iff_iff];simp
def jEo {w:Aq} {a:Option Addr} {c:Nat} {F fs:Au Int} {kn:Bool} (h:F=if kn then fs else fs.take 1) (hp:0 < fs.length) (r:(kD.slice 3 kD.int).raw w [Qs a fs c] fs):∃ m,(kD.slice 3 kD.int).raw w [.slice a m c] F:=by
 subst h;cases kn
 · exact ⟨1,kD.kBz r hp⟩
 exact ⟨_,r⟩
def jEq {F fs:Au Int} {kn:Bool} (h:F=if kn then fs else fs.take 1):F.length<=fs.length:=by
 subst h;cases kn
 · simp;omega
 simp
def jEp {F fs:List Int} (h:F=if false then fs else fs.take 1) (hp:0 < fs.length):F.length=1:=by subst h;simp;omega
def jAg {w:Aq} {g:Int} {c0 c1 c2 c3:Ar} {y:jE} {S:Nat->Prop} (hg:Qi g) (h:jM.own w [c0,c1,c2,c3] y S) :
    jO.own w [Qn g,.bool true,c0,c1,c2,c3,.slice none 0 0,.slice none 0 0,.slice none 0 0,Qn 0,Qn 0] (kJj y g) S :=
  kD.kBg (r:=kD.int) (q:=kD.pair kD.bool (kD.pair jM jF)) (cs:=[.int .i64 g]) (kD.ky hg) (kD.kBg (r:=kD.bool) (q:=kD.pair jM jF) (cs:=[.bool true]) (kD.kPp true)
    (kD.jq (r:=jM) (q:=jF) (cs:=[c0,c1,c2,c3]) (A:=S) (B:=λ_=>False) h kUj (λ_ h=>h) (λ_ h=>h.elim) (λ_ _ h=>h)))
def kFv {w:Aq} {cx:Au Ar} {x:jX} (hx:jo.rd w cx x) {f:Int} (hf:Qi f) {cq:Au Ar} {q:jE} (hq:jM.rd w cq q) {t:Int} (ht:Qi t) (hB:kOi 1048576 x) :
    Ay prog 12 #[.agg cx.toArray,.int .i64 f,.agg cq.toArray,.int .i64 t] w (kAb kDe (kCp x f q t) w):=by
 obtain ⟨x0,⟨xc,xe⟩,x2,x3,x4,x5,x6⟩:=x
 have HX:=yD hx
 obtain ⟨q0,q1,q2,q3⟩:=q
 have HI:=yD hq
 have HF:=yD hf
 have ew:=yD ht
 obtain ⟨f6,f4,gp,gm,gj,gb,rfl,V,a9,bl,bi,bg,bo,b1,cf,du⟩:=yO hx.1
 obtain ⟨em,d7,rfl,gi,dx,dw,rfl,gf,e9,e6,rfl,gx,e7,e4,rfl,gz,e0,ey,rfl,g3,en,ej,rfl,gv⟩:=kD.sx V (kD.sx bi (kD.sx bg (kD.sx bo (kD.sx b1 (kD.sl cf)))))
 obtain ⟨jp,rfl,ag,el,fn,gu,g6⟩:=jY hq.1
 obtain ⟨dv,ek,rfl,j6⟩:=kD.sl el
 obtain ⟨gq,h7,iz,fw,iy,cd,f8,il⟩:=xV
 clear hx hq hf ht hB ag el fn gu g6 V a9 bl bi bg bo b1 cf du
 go_enter func12,ntmps12
 go_upto_region 1 with fail
 generalize o:World.alloc (World.alloc (World.alloc w _) _) _=w1
 obtain ⟨U,BX,BQ,BR,bj⟩:=xW
 clear o
 obtain ⟨aa,ac,ae,ad,af,am,ao,ap⟩:=yu BX
 obtain ⟨aq,av,ax,aw⟩:=jW BQ
 go_upto_region 1 with fail
 have FX:=yD (λ(W:Aq) (hW:Qb w1 W)=>kJf hW ad af aq av ax aw)
 refine kL (λW=>Qb w1 W) [Tt,Ff,Tt,Tt,Tt,Ff,Tt,Tt,Tt,Tt,Tt,Tt,Tt,Tt,Ff,Tt] bR ?_
 intro wS E
 all_goals (refine kS ?_;(first | refine zi (kDt (HI.out.1.below (tQ U E))) (λwS1 E=>?_) | refine kS ?_);refine kS ?_;refine jT λb bh=>?_;cases b <;> try simp only [jS] at bh)
 all_goals (refine kS ?_;(first | refine wkC (yL) ?_ | refine kS ?_);refine kS ?_;refine kS ?_;refine jT λb b6=>?_;cases b <;> try simp only [jS] at b6)
 all_goals ((iterate 5 refine kS ?_);(first | refine zi (jFp (gq.out.below (tQ U E)) (h7.out.below (tQ U E)) (HI.out.below (tQ U E))) (λwS1 E=>?_) | refine kS ?_);refine jT λb co=>?_;cases b <;> try simp only [jS] at co)
 all_goals refine kM ?_
 all_goals rename Aq=>w2
 all_goals (have bw:=E.size;replace BX:=kC BX E;replace BQ:=kC BQ E;replace BR:=kC BR E;replace U:=(tQ U E);clear aa ac ae ad af am ao ap aq av ax aw;clear E)
 all_goals first
   | (have L := yD (kGt (t := t) (show kBc (x0, (xc, xe), x2, x3, x4, x5, x6) f (q0, q1, q2, q3) = true by simp only [kBc, Ae, Ab, Ag, Ah, Ac, Ad, Al, Am, Ai, Aj, Ap, bh, b6, co]))
      obtain ⟨aa,ac,ae,ad,af,am,ao,ap⟩:=yu BX
      go_wp2_with fail
      refine (kQu (HX.out.below U)).mono ?_
      rintro e w3 ⟨ds,rfl,Od,hb⟩
      have bz:=hb.size
      replace BX:=kC BX hb
      replace BQ:=kC BQ hb
      obtain ⟨BR,U⟩:=CQ
      clear aa ac ae ad af am ao ap hb
      obtain ⟨y6,ft⟩:∃ y,wrap64 (x6 + 1)=y:=⟨_,rfl⟩
      have cc:=yD (show kFy (x0,(xc,xe),x2,x3,x4,x5,x6)=(x0,(xc,xe),x2,x3,x4,x5,y6) by rw [kLn,ft])
      clear ft
      rw [cc.out] at Od
      obtain ⟨hv,ib,it,iq,io,ik,j2,rfl,fl,e8,fy,fk,e1,fz,f0,f5,gt,i3,g7⟩:=kEv Od.raw
      obtain ⟨bt,bu,rfl,hu,c5,de,rfl,ih,dz,d6,rfl,ip,dh,dg,rfl,iu,ch,ck,rfl,im,cl,cm,rfl,ij,h9,id,rfl,j1⟩:=kD.sx e8 (kD.sx e1 (kD.sx fz (kD.sx f0 (kD.sx f5 (kD.sx gt (kD.sl g7))))))
      clear fl e8 fy fk e1 fz f0 f5 gt i3 g7
      obtain ⟨ay,az,bf,be,b2,c8,c7,dc,c9⟩:=zM BR
      obtain ⟨al,aj,bb,bd,bx,cz,c3,c1,c4⟩:=kCb BR
      go_wp2
      refine Aa (v:=.agg #[Qs bt x0 bu,Qn xc,Qs c5 xe de,Qs dz x2 d6,Qs dh x3 dg,Qs ch x4 ck,Qs cl x5 cm,Qn y6,.slice h9 ([]:Au ji).length id]) dE rfl ⟨[Qs bt x0 bu,Qn xc,Qs c5 xe de,Qs dz x2 d6,Qs dh x3 dg,Qs ch x4 ck,Qs cl x5 cm,Qn y6,.slice h9 ([]:Au ji).length id],rfl,?_,?_⟩
      · rw [L.out,cc.out];exact (Od.touch sT9 sW).wide fU
      · exact U.trans (Touch.below sT9 U.size bB6))
   | skip
 have fh:=yD (show kBc (x0,(xc,xe),x2,x3,x4,x5,x6) f (q0,q1,q2,q3)=false by simp only [kBc,Ae,Ab,Ag,Ah,Ac,Ad,Al,Am,Ai,Aj,Ap,bh,b6,co])
 clear bh b6 co
 obtain ⟨aa,ac,ae,ad,af,am,ao,ap⟩:=yu BX
 go_wp2_with fail
 refine (kIk (HX.out.below U)).mono ?_
 rintro e w3 ⟨cs,rfl,O,hb⟩
 have bz:=hb.size
 replace BX:=kC BX hb
 replace BQ:=kC BQ hb
 obtain ⟨BR,U⟩:=CQ
 clear aa ac ae ad af am ao ap hb
 obtain ⟨hv,ib,it,iq,io,ik,rfl,fl,e8,fy,fk,e1,fz,f0,f5,gt⟩:=yO O.raw
 obtain ⟨bt,bu,rfl,hu,c5,de,rfl,ih,dz,d6,rfl,ip,dh,dg,rfl,iu,ch,ck,rfl,im,cl,cm,rfl,ij⟩:=kD.sx fl (kD.sx fk (kD.sx e1 (kD.sx fz (kD.sx f0 (kD.sl f5)))))
 clear fl e8 fy fk e1 fz f0 f5 gt
 go_upto_region 4 with fail
 have J:=yD O
 clear O
 replace J:=yD (J.out.wide (T:=(λj=>w.heap.size + 3<=j/\j < w3.heap.size/\j≠w3.heap.size + 1)) gH)
 refine kAe ?_
 intro w4 ce _ BO b5
 replace BX:=kC BX ce
 replace BQ:=kC BQ ce
 replace BR:=kC BR ce
 replace J:=yD (J.out.below ce)
 replace U:=(tQ U ce)
 clear ce
 obtain ⟨aa,ac,ae,ad,af,am,ao,ap⟩:=yu BX
 obtain ⟨aq,av,ax,aw⟩:=jW BQ
 go_wp2_with fail
 refine (kZn (HX.out.below U) (cn:=[.slice dv q0.length ek]) (fw.out.below U) ew.out).mono ?_
 rintro e w5 ⟨ds,rfl,Od,hb⟩
 have b4:=hb.size
 obtain ⟨BX,BQ,BR,BO⟩:=uU
 obtain ⟨J,U⟩:=wP
 clear aa ac ae ad af am ao ap aq av ax aw hb
 obtain ⟨D,hD⟩:∃ D,fdD q0 t (x0,(xc,xe),x2,x3,x4,x5,x6)=D:=⟨_,rfl⟩
 rw [hD] at Od
 have HD:=yD hD
 clear hD
 obtain ⟨d0,d1,d2,d3,d4⟩:=D
 obtain ⟨js,jj,jk,rfl,fp,ef,ee,fv,eg,fu,fq⟩:=jf Od.raw
 obtain ⟨g4,h8,rfl,i9,hj,ia,rfl,ju,hd,ic,rfl,jt⟩:=kD.sx ef (kD.sx ee (kD.sl eg))
 clear fp ef ee fv eg fu fq
 have ez:=yD (Od)
 clear Od
 go_upto_region 5 with fail
 refine ja ?_
 intro w6 au BF df
 replace BX:=kC BX au
 replace BQ:=kC BQ au
 replace BR:=kC BR au
 replace BO:=kC BO au
 replace J:=yD (J.out.below au)
 replace ez:=yD (ez.out.below au)
 replace U:=(tQ U au)
 clear au
 cases gy:kNp q0 t (x0,(xc,xe),x2,x3,x4,x5,x6)
 · clear ez BF;obtain ⟨aa,ac,ae,ad,af,am,ao,ap⟩:=yu BX;obtain ⟨aq,av,ax,aw⟩:=jW BQ;go_wp2_with fail;refine (kEk (gq.out.below U) cd.out (HI.out.below U) HF.out ew.out).mono ?_;rintro e w7 ⟨v4,rfl,O4,hb⟩;have eo:=hb.size;obtain ⟨BX,BQ,BR,BO⟩:=uU;obtain ⟨J,U⟩:=wP;clear aa ac ae ad af am ao ap aq av ax aw hb;obtain ⟨P,hP⟩:∃ P,kDv (q0,q1,q2,q3) f t x2=P:=⟨_,rfl⟩;rw [hP] at O4;have HP:=yD hP;clear hP;obtain ⟨pa,pc,rfl,_⟩:=kD.sl O4.raw;cases hz:yY (q0,q1,q2,q3) f x2
   · have L:=yD (kGd (t:=t) fh.out gy hz);obtain ⟨aa,ac,ae,ad,af,am,ao,ap⟩:=yu BX;go_wp2_with fail;refine (kQu (HX.out.below U)).mono ?_;rintro e w8 ⟨ds,rfl,Od,hb⟩;have d9:=hb.size;obtain ⟨BX,BQ,BR,BO⟩:=uU;obtain ⟨J,U⟩:=wP;clear aa ac ae ad af am ao ap hb;obtain ⟨y6,ft⟩:∃ y,wrap64 (x6 + 1)=y:=⟨_,rfl⟩;have cc:=yD (show kFy (x0,(xc,xe),x2,x3,x4,x5,x6)=(x0,(xc,xe),x2,x3,x4,x5,y6) by rw [kLn,ft]);clear ft;rw [cc.out] at Od;obtain ⟨hv,ib,it,iq,io,ik,j2,rfl,fl,e8,fy,fk,e1,fz,f0,f5,gt,i3,g7⟩:=kEv Od.raw;obtain ⟨bt,bu,rfl,hu,c5,de,rfl,ih,dz,d6,rfl,ip,dh,dg,rfl,iu,ch,ck,rfl,im,cl,cm,rfl,ij,h9,id,rfl,j1⟩:=kD.sx e8 (kD.sx e1 (kD.sx fz (kD.sx f0 (kD.sx f5 (kD.sx gt (kD.sl g7))))));clear fl e8 fy fk e1 fz f0 f5 gt i3 g7;obtain ⟨ay,az,bf,be,b2,c8,c7,dc,c9⟩:=zM BR;obtain ⟨al,aj,bb,bd,bx,cz,c3,c1,c4⟩:=kCb BR;go_wp2;refine Aa (v:=.agg #[Qs bt x0 bu,Qn xc,Qs c5 xe de,Qs dz x2 d6,Qs dh x3 dg,Qs ch x4 ck,Qs cl x5 cm,Qn y6,.slice h9 ([]:Au ji).length id]) dE rfl ⟨[Qs bt x0 bu,Qn xc,Qs c5 xe de,Qs dz x2 d6,Qs dh x3 dg,Qs ch x4 ck,Qs cl x5 cm,Qn y6,.slice h9 ([]:Au ji).length id],rfl,?_,?_⟩
     · rw [L.out,cc.out];exact (Od.touch sT9 sW).wide fU
     exact U.trans (Touch.below sT9 U.size bB6)
   have ab:=yD ((kFk J.out O4 pU).wide (T:=(λj=>w.heap.size + 3<=j/\j < w7.heap.size/\j≠w3.heap.size + 1)) dB);clear J O4;obtain ⟨X,N,Z,R,ak,a6,an,a7,a8⟩:=zM BO;obtain ⟨I,a2,ba,bc,bk,bq,bp,bn,bv⟩:=kCb BO;go_upto_region 14 with fail;generalize o:World.setCell w7 _ _=w8;have a4:Touch (λk=>k=w3.heap.size + 1) w7 w8:=wY;replace BO:Qr w8 (w3.heap.size + 1) #[Qs bt x0 bu,Qn xc,Qs c5 xe de,Qs pa P pc,Qs dh x3 dg,Qs ch x4 ck,Qs cl x5 cm,Qn x6,.slice (some ⟨w3,0,none⟩) 0 0] 43:=vW;have d9:=a4.size;clear o;obtain ⟨BX,BQ,BR⟩:=CL;obtain ⟨ab,U⟩:=FQ;clear X N Z R ak a6 an a7 a8 I a2 ba bc bk bq bp bn bv a4;have J:=yD (ab.out.wide (T:=(λj=>w.heap.size + 3<=j/\j < w8.heap.size/\j≠w3.heap.size + 1)) vE);clear ab;obtain ⟨aa,ac,ae,ad,af,am,ao,ap⟩:=yu BX;obtain ⟨aq,av,ax,aw⟩:=jW BQ;go_wp2_with fail;refine (kMf (gq.out.below U) (cn:=[.slice dv q0.length ek]) (fw.out.below U) HF.out).mono ?_;rintro e w9 ⟨rfl,hb⟩;have et:=hb.size;obtain ⟨BX,BQ,BR,BO⟩:=uU;obtain ⟨J,U⟩:=wP;clear aa ac ae ad af am ao ap aq av ax aw hb;obtain ⟨kn,dq⟩:∃ b,kTe x2 q0 f=b:=⟨_,rfl⟩;rw [dq];have eq:=yD dq;clear dq;obtain ⟨aq,av,ax,aw⟩:=jW BQ;go_wp2_with fail;refine (kQa (HI.out.below U)).mono ?_;rintro e cw ⟨yc,rfl,Oy,hb⟩;have d8:=hb.size;obtain ⟨BX,BQ,BR,BO⟩:=uU;obtain ⟨J,U⟩:=wP;clear aq av ax aw hb;obtain ⟨Y,hY⟩:∃ Y,kQj (q0,q1,q2,q3)=Y:=⟨_,rfl⟩;rw [hY] at Oy;have i6:=yD hY;clear hY;obtain ⟨y0,y1,y2,y3⟩:=Y;obtain ⟨jn,rfl,fe,er,fj,f1,h3⟩:=jY Oy.raw;obtain ⟨f7,f9,rfl,i5⟩:=kD.sl er;clear fe er fj f1 h3;have HY:=yD (Oy);clear Oy;go_upto_region 16 with fail;refine ja ?_;intro c6 b8 BY e5;replace BX:=kC BX b8;replace BQ:=kC BQ b8;replace BR:=kC BR b8;replace BO:=kC BO b8;replace J:=yD (J.out.below b8);replace HY:=yD (HY.out.below b8);replace U:=(tQ U b8);clear b8;obtain ⟨aa,ac,ae,ad,af,am,ao,ap⟩:=yu BX;obtain ⟨aq,av,ax,aw⟩:=jW BQ;go_wp2_with fail;refine (kPz (HX.out.below U) (cn:=[.slice dv q0.length ek]) (fw.out.below U) HF.out).mono ?_;rintro e dk ⟨vf,rfl,Of,hb⟩;have fg:=hb.size;obtain ⟨BX,BQ,BR,BO⟩:=uU;obtain ⟨BY,J,HY⟩:=CZ;replace U:=(tQ U hb);clear aa ac ae ad af am ao ap aq av ax aw hb;have gg:=outF_len (x:=(x0,(xc,xe),x2,x3,x4,x5,x6)) (n:=q0) (ex:=f);obtain ⟨fs,hm⟩:∃ fs,kIp (x0,(xc,xe),x2,x3,x4,x5,x6) q0 f=fs:=⟨_,rfl⟩;rw [hm] at Of gg;have es:=yD hm;clear hm;replace gg:fs.length<=x4.length:=gg;obtain ⟨fa,fc,rfl,_⟩:=kD.sl Of.raw;have eu:=yD (Of);clear Of;obtain ⟨aa,ac,ae,ad,af,am,ao,ap⟩:=yu BX;obtain ⟨aq,av,ax,aw⟩:=jW BQ;generalize fi:kJq (q0,q1,q2,q3)=ok;have g9:=yD fi;clear fi;go_upto_region 17 with fail;have FX:=yD (λ(W:Aq) (hW:Qb dk W)=>kQm hW ad aq);refine kL (λW=>Qb dk W) [Tt,Tt,Tt,Tt,Ff,Tt,Tt,Tt,Tt,Tt,Tt,Ff,Tt,Tt,Tt,Tt,Tt,Tt,Tt,Tt,Tt,Tt,Tt] bR ?_;intro wS E;all_goals ((iterate 4 refine kS ?_);(first | refine zi (kUo (gq.out.1.below (tQ U E)) (cn:=[.slice dv q0.length ek]) (fw.out.1.below (tQ U E))) (λwS1 E=>?_) | refine kS ?_);refine jT λb a3=>?_;cases b <;> try simp only [jS] at a3)
   all_goals ((iterate 5 refine kS ?_);(first | refine zi (kUn (gq.out.1.below (tQ U E)) (cn:=[.slice dv q0.length ek]) (fw.out.1.below (tQ U E))) (λwS1 E=>?_) | refine kS ?_);refine kS ?_;refine kS ?_;refine jT λb dp=>?_;cases b <;> try simp only [jS] at dp)
   all_goals ((iterate 3 refine kS ?_);refine jT λb dr=>?_;cases b <;> try simp only [jS] at dr)
   all_goals ((iterate 3 refine kS ?_);refine jT λb d5=>?_;cases b <;> try simp only [jS] at d5)
   all_goals refine kM ?_
   all_goals rename Aq=>f3
   all_goals (have gd:=E.size;replace BX:=kC BX E;replace BQ:=kC BQ E;replace BR:=kC BR E;replace BO:=kC BO E;replace BY:=kC BY E;replace J:=yD (J.out.below E);replace HY:=yD (HY.out.below E);replace eu:=yD (eu.out.below E);replace U:=(tQ U E);clear aa ac ae ad af am ao ap aq av ax aw;clear E)
   all_goals first
     | (have L := yD (kGc fh.out gy hz (show zb (x0, (xc, xe), x2, x3, x4, x5, x6) f (q0, q1, q2, q3) t = true by simp only [zb, g9.out, es.out, Ae, Ab, Ag, Ah, Ac, Ad, Al, Am, Ai, Aj, Ap, a3, dp, dr, d5]))
        obtain ⟨X,N,Z,R,ak,a6,an,a7,a8⟩:=zM BO
        obtain ⟨ay,az,bf,be,b2,c8,c7,dc,c9⟩:=zM BR
        obtain ⟨al,aj,bb,bd,bx,cz,c3,c1,c4⟩:=kCb BR
        go_wp2
        refine Aa (v:=.agg #[Qs bt x0 bu,Qn xc,Qs c5 xe de,Qs pa P pc,Qs dh x3 dg,Qs ch x4 ck,Qs cl x5 cm,Qn x6,.slice (some ⟨w3,0,none⟩) 0 0]) dE rfl ⟨[Qs bt x0 bu,Qn xc,Qs c5 xe de,Qs pa P pc,Qs dh x3 dg,Qs ch x4 ck,Qs cl x5 cm,Qn x6,.slice (some ⟨w3,0,none⟩) 0 0],rfl,?_,?_⟩
        · rw [L.out];simp only [HP.out];exact kMv (B:=λ_=>False) (J.out.touch sT9 sW) kD.yF fI (λ_ h=>h.elim) (λ_ _ h=>h)
        · exact U.trans (Touch.below sT9 U.size bB6))
     | skip
   all_goals
     (have hn:=yD (show zb (x0,(xc,xe),x2,x3,x4,x5,x6) f (q0,q1,q2,q3) t=false by simp only [zb,g9.out,es.out,Ae,Ab,Ag,Ah,Ac,Ad,Al,Am,Ai,Aj,Ap,a3,dp,dr,d5])
      have L:=yD (kIa fh.out gy hz hn.out)
      clear a3 dp dr d5
      obtain ⟨aq,av,ax,aw⟩:=jW BQ
      go_wp2_with fail
      refine (kNy (jAl J.out.rd) (cn:=[.slice dv q0.length ek]) (fw.out.below U) ew.out).mono ?_
      rintro e di ⟨v6,rfl,O6,hb⟩
      have h5:=hb.size
      obtain ⟨BX,BQ,BR,BO⟩:=uU
      obtain ⟨BY,J,HY⟩:=CZ
      replace eu:=yD (eu.out.below hb)
      replace U:=(tQ U hb)
      clear aq av ax aw hb
      obtain ⟨P2,h4⟩:∃ P2,kHm q0 t P=P2:=⟨_,rfl⟩
      rw [h4] at O6
      have hs:=yD h4
      clear h4
      obtain ⟨ra,rc,rfl,_⟩:=kD.sl O6.raw
      have ab:=yD ((kFk J.out O6 pU).wide (T:=(λj=>w.heap.size + 3<=j/\j < di.heap.size/\j≠w3.heap.size + 1)) dB)
      clear J O6
      obtain ⟨X,N,Z,R,ak,a6,an,a7,a8⟩:=zM BO
      obtain ⟨I,a2,ba,bc,bk,bq,bp,bn,bv⟩:=kCb BO
      go_upto_region 20 with fail
      generalize o:World.setCell di _ _=eb
      have ah:Touch (λk=>k=w3.heap.size + 1) di eb:=wY
      replace BO:Qr eb (w3.heap.size + 1) #[Qs bt x0 bu,Qn xc,Qs c5 xe de,Qs ra P2 rc,Qs dh x3 dg,Qs ch x4 ck,Qs cl x5 cm,Qn x6,.slice (some ⟨w3,0,none⟩) 0 0] 43:=vW
      have hl:=ah.size
      clear o
      replace BX:=ah.kC BX bF2
      replace BQ:=ah.kC BQ bF2
      replace BR:=ah.kC BR bF2
      replace BY:=ah.kC BY bF2
      replace HY:=yD (HY.out.touch ah qV)
      replace eu:=yD (eu.out.touch ah qV)
      replace ab:=yD (ab.out.touch ah qV)
      replace U:=U.trans (ah.below U.size bB6)
      clear X N Z R ak a6 an a7 a8 I a2 ba bc bk bq bp bn bv ah
      have J:=yD (ab.out.wide (T:=(λj=>w.heap.size + 3<=j/\j < eb.heap.size/\j≠w3.heap.size + 1)) vE)
      clear ab
      have hc:0 < fs.length:=cO
      obtain ⟨F,hF⟩:∃ F,kGf (x0,(xc,xe),x2,x3,x4,x5,x6) f (q0,q1,q2,q3)=F:=⟨_,rfl⟩
      have i0:=yD hF
      have gw:Hid (F=if kn then fs else fs.take 1):=yD bE
      clear hF
      have br:=(kD.kBj eu.out.raw).1
      have dj:1<=fc:=bF2
      have eh:(1:Int)<=fc:=bF2
      have ho:¬ fc < 1:=bF2
      have i2:¬ fc=0:=bF2
      clear br
      obtain ⟨fm,ig⟩:=jEo gw.out hc eu.out.raw
      have i7:=yD ig
      clear ig
      have j7:=jEq gw.out
      obtain ⟨_,fb,fo,rfl,gh,j0⟩:=kD.kGu eu.out hc
      have jx:=gh.1
      have jz:=gh.2
      clear gh
      replace J:=yD (J.out.wide (T:=(λj=>w.heap.size + 3<=j/\j < eb.heap.size/\j≠w3.heap.size + 1)) qP)
      replace HY:=yD (HY.out.wide (T:=(λj=>w.heap.size + 3<=j/\j < eb.heap.size/\j≠w3.heap.size + 1)) gJ)
      clear eu BX BQ
      go_wp2
      go_loopw [18] (λi wr=>∃ (k:Nat) (ga:Option Addr) (gn gc:Nat),i=.int .i64 k/\k<=F.length/\Hid (kD.kY 62 jO wr (.slice ga gn gc) ((F.take k).map (kJj (y0,y1,y2,y3))) (λj=>eb.heap.size<=j/\j < wr.heap.size))/\Hid (jo.own wr [Qs bt x0 bu,Qn xc,Qs c5 xe de,Qs ra P2 rc,Qs dh x3 dg,Qs ch x4 ck,Qs cl x5 cm,Qn x6] (x0,(xc,xe),P2,x3,x4,x5,x6) (λj=>w.heap.size + 3<=j/\j < eb.heap.size/\j≠w3.heap.size + 1))/\Hid (jM.own wr [Qs f7 y0 f9,Qn y1,Qn y2,Qn y3] (y0,y1,y2,y3) (λj=>w.heap.size + 3<=j/\j < eb.heap.size/\j≠w3.heap.size + 1))/\Qr wr (w.heap.size + 2) #[.slice none 0 0,Qn 0,.slice none 0 0,.slice none 0 0,.slice none 0 0,.slice none 0 0,.slice none 0 0,Qn 0,.slice none 0 0] 43/\Qr wr (w3.heap.size + 1) #[Qs bt x0 bu,Qn xc,Qs c5 xe de,Qs ra P2 rc,Qs dh x3 dg,Qs ch x4 ck,Qs cl x5 cm,Qn x6,.slice ga gn gc] 43/\Qr wr cw (Qk f7 y0 f9 y1 y2 y3) 38/\Touch (λj=>j=w3.heap.size + 1\/eb.heap.size<=j) eb wr/\Qb w wr) (λi _=>F.length - (intOf i).toNat)
      case atStart=>exact ⟨0,(some ⟨w3,0,none⟩),0,0,rfl,Nat.zero_le _,yD kD.kY.void,J,HY,BR,BO,BY,Touch.of_below bR,U⟩
      case round =>
        rename Aq=>wq;clear J HY BR BO BY U;obtain ⟨k,ga,gn,gc,rfl,hk,HQ,J,HY,BR,BO,BY,TL,U⟩:=hrel;have b9:=Ak k;have ir:=TL.size;have f2:((F.take k).map (kJj (y0,y1,y2,y3))).length<=k:=bE6;go_upto_region 21 with fail;refine kL (λW=>Qb wq W) [Tt,Tt,Tt,Tt,Tt,Tt,Tt,Tt,Tt,Tt,Tt] bR ?_;intro wS E;all_goals ((iterate 4 refine kS ?_);refine jT λb a1=>?_;cases b <;> try simp only [jS] at a1)
        all_goals (refine kS ?_;refine jT λb cg=>?_;cases b <;> try simp only [jS] at cg)
        all_goals ((iterate 3 refine kS ?_);refine jT λb ar=>?_;cases b <;> try simp only [jS] at ar)
        all_goals (refine kM ?_;replace TL:=TL.trans (Touch.of_below E))
        all_goals rename Aq=>gs
        all_goals (have i1:=E.size;replace BR:=kC BR E;replace BO:=kC BO E;replace BY:=kC BY E;replace HQ:=yD (HQ.out.below E);replace J:=yD (J.out.below E);replace HY:=yD (HY.out.below E);replace U:=(tQ U E);clear E)
        all_goals first
          | (have hlt : ¬ k < F.length := by have ha := faces_lt (k := k) gw.out; simp only [Ae, Ab, Ag, Ah, Ac, Ad, Al, Am, Ai, Aj, Ap, a1, cg, ar] at ha; simpa using ha
             obtain rfl:k=F.length:=bF2
             replace HQ:=yD (kD.kY.cast HQ.out (show _=F.map (kJj (y0,y1,y2,y3)) by rw [List.take_length]))
             have dt:¬ ((F.length:Int) < F.length):=bF2
             obtain ⟨X,N,Z,R,ak,a6,an,a7,a8⟩:=zM BO
             obtain ⟨ay,az,bf,be,b2,c8,c7,dc,c9⟩:=zM BR
             obtain ⟨al,aj,bb,bd,bx,cz,c3,c1,c4⟩:=kCb BR
             go_wp2
             refine Aa (v:=.agg #[Qs bt x0 bu,Qn xc,Qs c5 xe de,Qs ra P2 rc,Qs dh x3 dg,Qs ch x4 ck,Qs cl x5 cm,Qn x6,.slice ga gn gc]) dE rfl ⟨[Qs bt x0 bu,Qn xc,Qs c5 xe de,Qs ra P2 rc,Qs dh x3 dg,Qs ch x4 ck,Qs cl x5 cm,Qn x6,.slice ga gn gc],rfl,?_,?_⟩
             · rw [L.out];simp only [HP.out,hs.out,i0.out,i6.out];exact kMv (J.out.touch sT9 sW) ((HQ.out.touch sT9 sW).own wI) fI fU qU
             · exact U.trans (Touch.below sT9 U.size bB6))
          | skip
        all_goals
          (have hlt:k < F.length:=by have ha:=faces_lt (k:=k) gw.out;simp only [Ae,Ab,Ag,Ah,Ac,Ad,Al,Am,Ai,Aj,Ap,a1,cg,ar] at ha;simpa using ha
           try clear a1
           try clear cg
           try clear ar
           obtain ⟨j8,j3,g5,g0,gr,G0⟩:=kD.kCk i7.out hlt rfl
           simp only [Option.some.injEq,Addr.mk.injEq,and_true] at g5
           obtain ⟨rfl,rfl⟩:=g5
           obtain ⟨ge,ii⟩:=kD.yX gr
           obtain rfl:g0=_:=by simpa using ge
           have b3:=List.take_succ_eq_append_getElem hlt
           generalize F[k]=g at *
           have bm:=yD b3
           have iv:Hid (Qi g):=yD ii
           clear b3 ii ge gr
           have G1:=TL.kJr G0 bF2
           clear G0
           have dt:(k:Int) < fs.length:=bF2
           obtain ⟨X,N,Z,R,ak,a6,an,a7,a8⟩:=zM BO
           obtain ⟨cv,dm,dl,dn⟩:=jW BY
           go_upto_region 23 with fail
           have FX:=yD (λ(W:Aq) (hW:Qb gs W)=>kJf hW a8 cv dm dl dn G1)
           refine zZ (λW=>Qb gs W) [Tt,Tt,Tt,Tt,Tt,Tt,Tt,Ff,Tt,Ff] bE5 bE5 qW (bR.drew) ?_
           intro wS E
           all_goals ((iterate 7 refine kS ?_);(first|(refine kI rfl E ?_)|(refine ku rfl (λK H=>?_);go_simp;refine (kMc (HY.out.rd.below E)).mono ?_;rintro e wT ⟨tc,rfl,O,ai⟩;obtain ⟨fr,rfl,b7,dy,ed,e3,ei⟩:=jY O.raw;obtain ⟨b0,dd,rfl,g8⟩:=kD.sl dy;clear b7 dy ed e3 ei;have HC:=yD O;have i8:=ai.size;have fx:=E.size;replace E:=(tQ E ai);refine H _ _ E ?_;clear H K ai O));refine jH ?_;refine kS ?_;(first|(refine kI rfl E ?_)|(refine ku rfl (λK H=>?_);go_simp;refine H _ _ (E.alloc E.size _) ?_;clear H K));refine jH ?_;refine yt ?_)
           go_wp2_with (at_builtin;refine kD.kCh rfl _ _ 41 rfl (r:=jO) (e:=62) underlying41 kCg rfl bF1 bF1 (w:=wT) (HQ.out.below E) bF4 bF4 rfl (jAg iv.out HC.out) rfl qH bF2 ?_)
           intro v2 g1 hQ db
           have hT:Touch (λj=>eb.heap.size<=j) gs g1:=(Touch.of_below (E.alloc E.size _)).trans (db.wide (λj q=>by have:=q.2;omega))
           have i4:=hT.size
           have gl:=db.size
           have h6:wT.heap.size + 1<=g1.heap.size:=bD1
           clear db gl G1 E
           obtain ⟨g2,n2,c2,rfl⟩:∃ a n c,v2=.slice a n c:=pQ
           clear HQ
           have HQ:=yD ((kD.kY.cast hQ (show _=(F.take (k + 1)).map (kJj (y0,y1,y2,y3)) by rw [bm.out,List.map_append,List.map_take];rfl)).wide (T:=λj=>eb.heap.size<=j/\j < g1.heap.size) gK)
           clear hQ
           obtain ⟨TL,BR,BO,BY,J,HY,U⟩:=EI
           clear X N Z R ak a6 an a7 a8 cv dm dl dn hT HC
           obtain ⟨X,N,Z,R,ak,a6,an,a7,a8⟩:=zM BO
           obtain ⟨I,a2,ba,bc,bk,bq,bp,bn,bv⟩:=kCb BO
           go_wp2
           generalize o:World.setCell g1 _ _=iw
           have fd:Touch (λk=>k=w3.heap.size + 1) g1 iw:=wY
           replace BO:Qr iw (w3.heap.size + 1) #[Qs bt x0 bu,Qn xc,Qs c5 xe de,Qs ra P2 rc,Qs dh x3 dg,Qs ch x4 ck,Qs cl x5 cm,Qn x6,.slice g2 n2 c2] 43:=vX
           have j4:=fd.size
           clear o
           replace TL:=TL.trans (fd.wide (λj q=>.inl q))
           replace BR:=fd.kC BR bF2
           replace BY:=fd.kC BY bF2
           replace J:=yD (J.out.touch fd qV)
           replace HY:=yD (HY.out.touch fd qV)
           replace HQ:=yD (HQ.out.touch fd qV)
           replace U:=U.trans (fd.below U.size bB6)
           clear X N Z R ak a6 an a7 a8 I a2 ba bc bk bq bp bn bv fd
           replace HQ:=yD (HQ.out.wide (T:=λj=>eb.heap.size<=j/\j < iw.heap.size) (λj q=>⟨q.1,by omega⟩))
           go_wp2
           go_roundw
           case rel=>exact ⟨k + 1,g2,n2,c2,by go_num,by omega,HQ,J,HY,BR,BO,BY,TL,U⟩
           case measure=>simp [intOf];omega))
 have L:=yD (kGe (t:=t) fh.out gy)
 have j5:Hid (w4.heap.size<=w6.heap.size):=yD bF2
 obtain ⟨X,N,Z,R,ak,a6,an,a7,a8⟩:=zM BO
 obtain ⟨hp,hr,h0,hh,hw⟩:=yZ BF
 obtain ⟨I,a2,ba,bc,bk,bq,bp,bn,bv⟩:=kCb BO
 go_wp2_with (at_builtin;refine kD.kCh rfl _ _ 41 rfl (r:=jO) (e:=62) underlying41 kCg rfl bF1 bF1 (S:=λ_=>False) (w:=w6) kD.kY.void bF4 bF4 rfl (jAh HF.out ez.out) rfl (λ_ h=>h.elim) bF3 ?_)
 intro v5 w7 hQ db
 have hb:Qb w6 w7:=(bR.alloc nL _).trans (db.below bF3 (λk hk=>by simp at hk))
 clear db
 have eo:w6.heap.size<=w7.heap.size:=hb.size
 obtain ⟨ga,gc,rfl⟩:∃ a c,v5=.slice a 1 c:=by obtain ⟨a,c,h⟩:=kD.kY.zJ hQ;exact ⟨a,c,h⟩
 clear ez
 obtain ⟨BX,BQ,BR,BO⟩:=uU
 replace BF:=kC BF hb
 obtain ⟨J,U⟩:=wP
 clear X N Z R ak a6 an a7 a8 hp hr h0 hh hw I a2 ba bc bk bq bp bn bv hb
 have HQ:=yD (kD.kY.wide (T:=λj=>w4.heap.size<=j/\j < w7.heap.size) hQ (λj q=>by rcases q with q | q <;> (have:=q.1;have:=q.2;omega)))
 clear hQ
 obtain ⟨X,N,Z,R,ak,a6,an,a7,a8⟩:=zM BO
 obtain ⟨I,a2,ba,bc,bk,bq,bp,bn,bv⟩:=kCb BO
 go_upto_region 7 with fail
 generalize o:World.setCell w7 _ _=w8
 have a4:Touch (λk=>k=w3.heap.size + 1) w7 w8:=wY
 replace BO:Qr w8 (w3.heap.size + 1) #[Qs bt x0 bu,Qn xc,Qs c5 xe de,Qs dz x2 d6,Qs dh x3 dg,Qs ch x4 ck,Qs cl x5 cm,Qn x6,.slice ga 1 gc] 43:=vX
 have d9:=a4.size
 clear o
 obtain ⟨BX,BQ,BR⟩:=CL
 replace BF:=a4.kC BF bF2
 replace J:=yD (J.out.touch a4 qV)
 replace HQ:=yD (HQ.out.touch a4 qV)
 replace U:=U.trans (a4.below U.size bB6)
 clear X N Z R ak a6 an a7 a8 I a2 ba bc bk bq bp bn bv a4
 obtain ⟨aa,ac,ae,ad,af,am,ao,ap⟩:=yu BX
 obtain ⟨aq,av,ax,aw⟩:=jW BQ
 go_wp2_with fail
 refine (kWo (iz.out.below U) (cn:=[.slice dv q0.length ek]) (fw.out.below U) ew.out).mono ?_
 rintro e w9 ⟨ec,rfl,Oe,hb⟩
 have et:=hb.size
 obtain ⟨BX,BQ,BR,BO⟩:=uU
 replace BF:=kC BF hb
 replace J:=yD (J.out.below hb)
 replace HQ:=yD (HQ.out.below hb)
 replace U:=(tQ U hb)
 clear aa ac ae ad af am ao ap aq av ax aw hb
 obtain ⟨ev,he⟩:∃ ev,kDs q0 t (xc,xe)=(xc,ev):=⟨_,rfl⟩
 rw [he] at Oe
 have HE:=yD he
 clear he
 obtain ⟨sv,rfl,ff,ie⟩:=jN Oe.raw
 obtain ⟨ea,ep,rfl,_⟩:=kD.sl ie
 clear ff ie
 have ab:=yD ((kKh J.out Oe pU).wide (T:=(λj=>w.heap.size + 3<=j/\j < w9.heap.size/\j≠w3.heap.size + 1/\¬ (w4.heap.size<=j/\j < w7.heap.size))) bK)
 clear J Oe
 obtain ⟨X,N,Z,R,ak,a6,an,a7,a8⟩:=zM BO
 obtain ⟨I,a2,ba,bc,bk,bq,bp,bn,bv⟩:=kCb BO
 go_upto_region 8 with fail
 generalize o:World.setCell (World.setCell w9 _ _) _ _=cw
 have a5:Touch (λk=>k=w3.heap.size + 1) w9 cw:=bA3
 replace BO:Qr cw (w3.heap.size + 1) #[Qs bt x0 bu,Qn xc,Qs ea ev ep,Qs dz x2 d6,Qs dh x3 dg,Qs ch x4 ck,Qs cl x5 cm,Qn x6,.slice ga 1 gc] 43:=by rw [<- o];exact kG (kG (BO) 1) 2
 have d8:=a5.size
 clear o
 replace BX:=a5.kC BX bF2
 replace BQ:=a5.kC BQ bF2
 replace BR:=a5.kC BR bF2
 replace BF:=a5.kC BF bF2
 replace HQ:=yD (HQ.out.touch a5 qV)
 replace ab:=yD (ab.out.touch a5 qV)
 replace U:=U.trans (a5.below U.size bB6)
 clear X N Z R ak a6 an a7 a8 I a2 ba bc bk bq bp bn bv a5
 have J:=yD (ab.out.wide (T:=(λj=>w.heap.size + 3<=j/\j < cw.heap.size/\j≠w3.heap.size + 1/\¬ (w4.heap.size<=j/\j < w7.heap.size))) vE)
 clear ab
 obtain ⟨aa,ac,ae,ad,af,am,ao,ap⟩:=yu BX
 obtain ⟨aq,av,ax,aw⟩:=jW BQ
 go_wp2_with fail
 refine (kIl (h7.out.below U) f8 (cn:=[.slice dv q0.length ek]) (fw.out.below U) iy.out).mono ?_
 rintro e c6 ⟨v9,rfl,O9,hb⟩
 have e5:=hb.size
 obtain ⟨BX,BQ,BR,BO⟩:=uU
 replace BF:=kC BF hb
 replace HQ:=yD (HQ.out.below hb)
 obtain ⟨J,U⟩:=wP
 clear aa ac ae ad af am ao ap aq av ax aw hb
 obtain ⟨sn,b3⟩:∃ s,zX x3 q0 q1=s:=⟨_,rfl⟩
 rw [b3] at O9
 have bm:=yD b3
 clear b3
 obtain ⟨sa,sc,rfl,_⟩:=kD.sl O9.raw
 have ab:=yD ((kMj J.out O9 pU).wide (T:=(λj=>w.heap.size + 3<=j/\j < c6.heap.size/\j≠w3.heap.size + 1/\¬ (w4.heap.size<=j/\j < w7.heap.size))) bS)
 clear J O9
 obtain ⟨X,N,Z,R,ak,a6,an,a7,a8⟩:=zM BO
 obtain ⟨I,a2,ba,bc,bk,bq,bp,bn,bv⟩:=kCb BO
 go_upto_region 9 with fail
 generalize o:World.setCell c6 _ _=dk
 have da:Touch (λk=>k=w3.heap.size + 1) c6 dk:=wY
 replace BO:Qr dk (w3.heap.size + 1) #[Qs bt x0 bu,Qn xc,Qs ea ev ep,Qs dz x2 d6,Qs sa sn sc,Qs ch x4 ck,Qs cl x5 cm,Qn x6,.slice ga 1 gc] 43:=vZ
 have fg:=da.size
 clear o
 replace BX:=da.kC BX bF2
 replace BQ:=da.kC BQ bF2
 replace BR:=da.kC BR bF2
 replace BF:=da.kC BF bF2
 replace HQ:=yD (HQ.out.touch da qV)
 replace ab:=yD (ab.out.touch da qV)
 replace U:=U.trans (da.below U.size bB6)
 clear X N Z R ak a6 an a7 a8 I a2 ba bc bk bq bp bn bv da
 have J:=yD (ab.out.wide (T:=(λj=>w.heap.size + 3<=j/\j < dk.heap.size/\j≠w3.heap.size + 1/\¬ (w4.heap.size<=j/\j < w7.heap.size))) vE)
 clear ab
 obtain ⟨X,N,Z,R,ak,a6,an,a7,a8⟩:=zM BO
 obtain ⟨ay,az,bf,be,b2,c8,c7,dc,c9⟩:=zM BR
 obtain ⟨al,aj,bb,bd,bx,cz,c3,c1,c4⟩:=kCb BR
 go_wp2
 refine Aa (v:=.agg #[Qs bt x0 bu,Qn xc,Qs ea ev ep,Qs dz x2 d6,Qs sa sn sc,Qs ch x4 ck,Qs cl x5 cm,Qn x6,.slice ga 1 gc]) dE rfl ⟨[Qs bt x0 bu,Qn xc,Qs ea ev ep,Qs dz x2 d6,Qs sa sn sc,Qs ch x4 ck,Qs cl x5 cm,Qn x6,.slice ga 1 gc],rfl,?_,?_⟩
 · rw [L.out];simp only [HE.out,bm.out,HD.out];exact kMv (J.out.touch sT9 sW) ((HQ.out.touch sT9 (λj h1 h2=>by omega)).own (show 1<=Big by unfold Big;omega)) fI nJ gW
 exact U.trans (Touch.below sT9 U.size bB6)
end Go.Proofs.YthocbplmdjkifaaGreat

/-
  An element of an owned list appended to that list again: the list is read from then on. No program in sight.
-/
import Derived.Test.YtjhfdpopkkmigabGreatCacheD
set_option linter.unusedVariables false
set_option linter.defProp false
set_option linter.unusedSimpArgs false
set_option linter.unnecessarySimpa false
set_option maxRecDepth 100000
set_option maxHeartbeats 4000000
open Go renaming frozen_of_row->Aa,bodyPost_ret->Ab,Value->Ae,World->Ag
open List renaming length_append->Ac
open List.cons renaming injEq->Ad
open Go.Builtin renaming append_->Ah
open _root_ renaming List->Ai
open Option.some renaming injEq->Aj
open Go.Value.slice renaming injEq->Ak
open Go.Addr.mk renaming injEq->Al
namespace Go.Proofs.YtjhfdpopkkmigabGreat
open Go.RowKit _root_.Go.Proofs.Tryz
def kGl (n:kg) (t:Int) (x:kz):kz:=(x.1,if idxOf (isC n) x.2 < 0 then x.2 else x.2.modify (idxOf (isC n) x.2).toNat (λy=>kAk y t))
def kZc {n:kg} {t c:Int} {l:List jC} (h:idxOf (isC n) l < 0):kGl n t (c,l)=(c,l):=by unfold kGl;simp only;rw [if_pos h]
def kVr {n:kg} {t c:Int} {l:Ai jC} {k:Nat} (h:idxOf (isC n) l=k) (hk:k < l.length):kGl n t (c,l)=(c,l.set k (kAk l[k] t)):=by
 unfold kGl;simp only [h,Int.toNat_natCast];rw [if_neg bH3];congr 1;apply List.ext_getElem bH4;intro i h1 h2;rw [List.getElem_modify,List.getElem_set];by_cases e:k=i
 · subst e;simp
 simp [e]
def kRs {w:Ag} {c:Int} {v:Ae} {l:Ai jC} {S:Nat->Prop} (h:kT.own w [Qn c,v] (c,l) S):(kD.slice 127 jH).own w [v] l S:=by
 obtain ⟨a,d,A,B,he,h1,h2,hA,hB,hd⟩:=kD.kDq h;obtain ⟨rfl,_⟩:=kD.je h1.raw;simp only [List.singleton_append,Ad,true_and] at he;subst he;exact h2.wide hB
def kPy {w:Ag} {c:Int} {v:Ae} {l:Ai jC} {S:Nat->Prop} (hc:Qi c) (h:(kD.slice 127 jH).own w [v] l S):kT.own w [Qn c,v] (c,l) S :=
  kD.kDd (cs:=[.int .i64 c]) (kD.ku hc) h
def kTh {w:Ag} {cx:Ai Ae} {x:kz} (hx:kT.rd w cx x) {cn:Ai Ae} {n:kg} (hn:kN.rd w cn n) {t:Int} (ht:Qi t) :
    Calls prog 41 #[.agg cx.toArray,.agg cn.toArray,.int .i64 t] w (zo kT (kGl n t x) w):=by
 obtain ⟨xc,xe⟩:=x
 have HX:=yD hx
 have HN:=yD hn
 have HF:=yD ht
 obtain ⟨c7,rfl,ak,aj⟩:=jN hx.1
 obtain ⟨b2,am,rfl,xl⟩:=kD.sl aj
 obtain ⟨av,rfl,Z⟩:=kX hn.1
 obtain ⟨na,np,rfl,_⟩:=kD.sl Z
 have ae:Hid ((kD.slice 127 jH).raw w [Qs b2 xe am] xe):=yD aj
 have ag:Qi xc:=ak
 replace xl:xe.length<=9223372036854775807:=xl
 clear hx hn ht ak aj Z
 go_enter func41,ntmps41
 go_upto_region 1 with fail
 generalize G:World.alloc (World.alloc (World.alloc w _) _) _=w1
 obtain ⟨o,BX,BN,X,bo⟩:=DC
 clear G
 obtain ⟨aa,ab⟩:=yM BX
 go_wp2_with fail
 refine (kOq (HX.out.below o)).mono ?_
 rintro e V ⟨cs,rfl,O,hb⟩
 obtain ⟨bv,BX⟩:=J8
 replace BN:=kC BN hb
 obtain ⟨X,o⟩:=FH
 clear aa ab
 clear hb
 obtain ⟨a4,rfl,U,H⟩:=jN O.raw
 obtain ⟨oa,R,rfl,_⟩:=kD.sl H
 clear U H
 have I:=yD ((kRs O).wide (T:=(λj=>w.heap.size + 3<=j/\j < V.heap.size)) sS)
 clear O
 go_upto_region 2 with fail
 generalize G:World.alloc V _=w3
 have ad:Qb V w3:=tK
 have BO:Qr w3 V.heap.size #[Qn xc,Qs oa xe R] 27:=wW
 have bt:V.heap.size + 1<=w3.heap.size:=bF4
 clear G
 replace BX:=kC BX ad
 replace BN:=kC BN ad
 obtain ⟨X,I,o⟩:=BI
 clear ad
 obtain ⟨aa,ab⟩:=yM BX
 have aq:Qc w3 (w.heap.size + 1) 0 (.slice na n.length np):=kE BN rfl
 go_wp2_with fail
 refine (kFv (ae.out.below o) (cn:=[.slice na n.length np]) (HN.out.1.below o)).mono ?_
 rintro e w4 ⟨rfl,hb⟩
 have b5:=hb.size
 replace BX:=kC BX hb
 replace BN:=kC BN hb
 replace X:=kC X hb
 replace BO:=kC BO hb
 obtain ⟨I,o⟩:=xV
 clear aa ab aq
 clear hb
 by_cases hf:idxOf (isC n) xe < 0
 · have L:=yD (kZc (t:=t) (c:=xc) hf);have dx:¬ (0<=idxOf (isC n) xe):=bH3;generalize idxOf (isC n) xe=q at *;go_upto_region 5 with fail;obtain ⟨N,J⟩:=yM BO;obtain ⟨au,aw⟩:=yM X;obtain ⟨ao,an⟩:=kBw X;go_wp2;refine Ab (v:=.agg #[Qn xc,Qs oa xe R]) nA rfl ⟨[Qn xc,Qs oa xe R],rfl,?_,?_⟩
   · rw [L.out];exact kPy ag ((I.out.touch sT2 tC).wide fP)
   exact o.trans (Touch.below sT2 o.size bD5)
 obtain ⟨k,hlt,ac⟩:=kAz hf
 have L:=yD (kVr (t:=t) (c:=xc) ac hlt)
 rw [ac]
 clear hf ac
 obtain ⟨qb,qo,rfl,c0,c1,c2,c3,c4,c5,hr,A0,A1,A2,A3,A4,A5⟩:=kD.get6 I.out.raw hlt rfl
 obtain ⟨_,ap,al,E,a8,bk⟩:=kD.kGf I.out bH3
 simp only [Aj,Al,and_true] at E
 obtain ⟨rfl,rfl⟩:=E
 have ah:=kD.kWl I.out bH3 (qo + k * 6 + 5)
 clear hr A0 A1 A2 A3 A4
 have b4:(0:Int)<=k:=bH3
 have a2:(k:Int) < xe.length:=bH3
 obtain ⟨N,J⟩:=yM BO
 obtain ⟨O2,D⟩:(kD.slice 127 jH).own (World.setCell w4 ⟨qb,qo + k * 6 + 5,none⟩ (.int .i64 t)) [.slice (some ⟨qb,qo,none⟩) xe.length R] (xe.set k (kAk xe[k] t)) (λj=>w.heap.size + 3<=j/\j < V.heap.size)/\Touch (λj=>j=qb) w4 (World.setCell w4 ⟨qb,qo + k * 6 + 5,none⟩ (.int .i64 t)):=kD.kMi (i:=k) (j:=5) I.out hlt bH2 (λh=>kJv _ HF.out h) (show jH.bdd Big (kAk xe[k] t) from kD.yX I.out.rd hlt)
 go_upto_region 5 with fail
 generalize G:World.setCell w4 _ _=w5 at O2 D ⊢
 clear G
 clear I
 have I:=yD O2
 clear O2
 have b3:=D.size
 replace BX:=D.kC BX bH3
 replace BN:=D.kC BN bH3
 replace X:=D.kC X bH3
 replace BO:=D.kC BO bH3
 replace o:=o.trans (D.below o.size bD5)
 clear N J
 clear D
 obtain ⟨N,J⟩:=yM BO
 obtain ⟨au,aw⟩:=yM X
 obtain ⟨ao,an⟩:=kBw X
 go_wp2
 refine Ab (v:=.agg #[Qn xc,.slice (some ⟨qb,qo,none⟩) xe.length R]) nA rfl ⟨[Qn xc,.slice (some ⟨qb,qo,none⟩) xe.length R],rfl,?_,?_⟩
 · rw [L.out];exact kPy ag ((I.out.touch sT2 tC).wide fP)
 exact o.trans (Touch.below sT2 o.size bD5)
def implTouch_c {w:Ag} {cx:Ai Ae} {x:kz} (hx:kT.rd w cx x) {cn:Ai Ae} {n:kg} (hn:kN.rd w cn n) {t:Int} (ht:Qi t) :
    Calls prog 25 #[.agg cx.toArray,.agg cn.toArray,.int .i64 t] w (zo kT (kGl n t x) w):=by
 obtain ⟨xc,xe⟩:=x
 have HX:=yD hx
 have HN:=yD hn
 have HF:=yD ht
 obtain ⟨c7,rfl,ak,aj⟩:=jN hx.1
 obtain ⟨b2,am,rfl,xl⟩:=kD.sl aj
 obtain ⟨av,rfl,Z⟩:=kX hn.1
 obtain ⟨na,np,rfl,_⟩:=kD.sl Z
 have ae:Hid ((kD.slice 127 jH).raw w [Qs b2 xe am] xe):=yD aj
 have ag:Qi xc:=ak
 replace xl:xe.length<=9223372036854775807:=xl
 clear hx hn ht ak aj Z
 go_enter func25,ntmps25
 go_upto_region 1 with fail
 generalize G:World.alloc (World.alloc (World.alloc w _) _) _=w1
 obtain ⟨o,BX,BN,X,bo⟩:=DC
 clear G
 obtain ⟨aa,ab⟩:=yM BX
 go_wp2_with fail
 refine (kLh (HX.out.below o)).mono ?_
 rintro e V ⟨cs,rfl,O,hb⟩
 obtain ⟨bv,BX⟩:=J8
 replace BN:=kC BN hb
 obtain ⟨X,o⟩:=FH
 clear aa ab
 clear hb
 obtain ⟨a4,rfl,U,H⟩:=jN O.raw
 obtain ⟨oa,R,rfl,_⟩:=kD.sl H
 clear U H
 have I:=yD ((kRs O).wide (T:=(λj=>w.heap.size + 3<=j/\j < V.heap.size)) sS)
 clear O
 go_upto_region 2 with fail
 generalize G:World.alloc V _=w3
 have ad:Qb V w3:=tK
 have BO:Qr w3 V.heap.size #[Qn xc,Qs oa xe R] 27:=wW
 have bt:V.heap.size + 1<=w3.heap.size:=bF4
 clear G
 replace BX:=kC BX ad
 replace BN:=kC BN ad
 obtain ⟨X,I,o⟩:=BI
 clear ad
 obtain ⟨N,J⟩:=yM BO
 go_wp2
 go_loopw [15] (λi wr=>∃ k:Nat,i=.int .i64 k/\k<=xe.length/\Hid (∀ j,(h:j < k)->(h2:j < xe.length)->isC n xe[j]=false)/\Hid ((kD.slice 127 jH).own wr [Qs oa xe R] xe (λj=>w.heap.size + 3<=j/\j < V.heap.size))/\Qr wr (w.heap.size + 1) #[Qs na n np] 36/\Qr wr (w.heap.size + 2) #[Qn 0,.slice none 0 0] 27/\Qr wr V.heap.size #[Qn xc,Qs oa xe R] 27/\w3.heap.size<=wr.heap.size/\Qb w wr) (λi _=>xe.length - (intOf i).toNat)
 case atStart=>exact ⟨0,rfl,Nat.zero_le _,yD (λ_ h=>by omega),I,BN,X,BO,Nat.le_refl _,o⟩
 rename Ag=>wq
 clear o BX BN X BO I
 obtain ⟨k,rfl,hk,HA,I,BN,X,BO,iy,o⟩:=hrel
 have ce:=Int.natCast_nonneg k
 by_cases hlt:k < xe.length
 · have dl:=Int.ofNat_lt.2 hlt;obtain ⟨qb,qo,rfl,c0,c1,c2,c3,c4,c5,hr,A0,A1,A2,A3,A4,A5⟩:=kD.get6 I.out.raw hlt rfl;obtain ⟨_,ap,al,E,a8,bk⟩:=kD.kGf I.out bH3;simp only [Aj,Al,and_true] at E;obtain ⟨rfl,rfl⟩:=E;obtain ⟨y,hy⟩:∃ y,xe[k]=y:=⟨_,rfl⟩;rw [hy] at hr;have HY:=yD hy;clear hy;obtain ⟨u0,u1,u2,bm,az,ai,ay,bl,bw,F,W,ax,af⟩:=yO hr;simp only [Ad,and_true] at bm;obtain ⟨rfl,rfl,rfl,rfl,rfl,rfl⟩:=bm;obtain ⟨ma,mp,rfl,_⟩:=kD.sl ay;obtain ⟨sa,sp,rfl,_⟩:=kD.sl bl;obtain ⟨da,dp,rfl,_⟩:=kD.sl F;have HM:Hid (kN.raw wq [Qs ma y.1.1 mp] y.1.1):=yD ai;clear hr az ai ay bl bw F W ax af;go_upto_region 5 with fail;generalize G:World.alloc wq _=w5;have ar:Qb wq w5:=tK;have BT:Qr w5 wq.heap.size #[Qs ma y.1.1 mp,Qs sa y.1.2.1 sp,Qs da y.1.2.2.1 dp,Qn y.1.2.2.2.1,Qn y.1.2.2.2.2,Qn y.2] 127:=wW;have b3:wq.heap.size + 1<=w5.heap.size:=bF4;clear G;replace BN:=kC BN ar;replace X:=kC X ar;replace BO:=kC BO ar;replace A5:=cL ar A5;replace I:=yD (I.out.below ar);replace HM:=yD (HM.out.below ar);replace o:=(tQ o ar);clear ar;have aq:Qc w5 (w.heap.size + 1) 0 (.slice na n.length np):=kE BN rfl;obtain ⟨cg,b6,cf,cd,ac,Y⟩:=rowC6 BT;go_wp2_with fail;refine (ze HM.out (HN.out.1.below o)).mono ?_;rintro e w6 ⟨rfl,hb⟩;have dh:=hb.size;replace BN:=kC BN hb;replace X:=kC X hb;replace BO:=kC BO hb;replace BT:=kC BT hb;replace A5:=cL hb A5;replace I:=yD (I.out.below hb);replace HM:=yD (HM.out.below hb);replace o:=(tQ o hb);clear aq cg b6 cf cd ac Y;clear hb;cases he:eqN y.1.1 n
   · have HB:=yD (kAs (p:=isC n) hlt (by rw [HY.out];exact he) HA.out);go_wp2;go_roundw;case rel=>exact ⟨k + 1,by go_num,by omega,HB,I,BN,X,BO,by omega,o⟩
     simp [intOf];omega
   have L:=yD (kVr (t:=t) (c:=xc) (idxOf_hit (p:=isC n) hlt (by rw [HY.out];exact he) HA.out) hlt);have ah:=kD.kWl I.out bH3 (qo + k * 6 + 5);obtain ⟨N,J⟩:=yM BO;obtain ⟨O2,D⟩:(kD.slice 127 jH).own (World.setCell w6 ⟨qb,qo + k * 6 + 5,none⟩ (.int .i64 t)) [.slice (some ⟨qb,qo,none⟩) xe.length R] (xe.set k (kAk xe[k] t)) (λj=>w.heap.size + 3<=j/\j < V.heap.size)/\Touch (λj=>j=qb) w6 (World.setCell w6 ⟨qb,qo + k * 6 + 5,none⟩ (.int .i64 t)):=kD.kMi (i:=k) (j:=5) I.out hlt bH2 (λh=>kJv _ HF.out h) (show jH.bdd Big (kAk xe[k] t) from kD.yX I.out.rd hlt);go_upto_region 8 with fail;generalize G:World.setCell w6 _ _=w7 at O2 D ⊢;clear G;clear I;have I:=yD O2;clear O2;have et:=D.size;replace BN:=D.kC BN bH3;replace X:=D.kC X bH3;replace BO:=D.kC BO bH3;replace BT:=D.kC BT bH3;replace o:=o.trans (D.below o.size bD5);clear N J;clear D;obtain ⟨N,J⟩:=yM BO;obtain ⟨au,aw⟩:=yM X;obtain ⟨ao,an⟩:=kBw X;go_wp2;refine Ab (v:=.agg #[Qn xc,.slice (some ⟨qb,qo,none⟩) xe.length R]) nC rfl ⟨[Qn xc,.slice (some ⟨qb,qo,none⟩) xe.length R],rfl,?_,?_⟩
   · rw [L.out];exact kPy ag ((I.out.touch sT2 tC).wide fP)
   exact o.trans (Touch.below sT2 o.size bD5)
 have fe:¬ ((k:Int) < xe.length):=bH3
 have L:=yD (kZc (n:=n) (t:=t) (c:=xc) (by rw [idxOf_miss (p:=isC n) hlt HA.out];decide))
 go_upto_region 8 with fail
 obtain ⟨N,J⟩:=yM BO
 obtain ⟨au,aw⟩:=yM X
 obtain ⟨ao,an⟩:=kBw X
 go_wp2
 refine Ab (v:=.agg #[Qn xc,Qs oa xe R]) nC rfl ⟨[Qn xc,Qs oa xe R],rfl,?_,?_⟩
 · rw [L.out];exact kPy ag ((I.out.touch sT2 tC).wide fP)
 exact o.trans (Touch.below sT2 o.size bD5)
def capC (c:Int):Int:=if inR c 0 8 then c else 0
def newC (c:Int):kz:=(capC c,[])
def newN (c:Int):jd:=([],newC c,[],[],[],[],0)
def kRc {c:Int} (h:Qi c):-9223372036854775808<=capC c/\capC c<=9223372036854775807:=by unfold capC;split <;> omega
def newC_own {w:Ag} {c:Int} {S:Nat->Prop} (h:Qi c):kT.own w [Qn c,.slice none 0 0] (c,[]) S :=
  ⟨kPq (x:=kT.zero) c h kT.is_zero,(kT.bdd_zero:kT.bdd Big kT.zero)⟩
def kMh {α β:Type} {e:TypeId} {r:kD α} {q:kD β} {w:Ag} {ds:Ai Ae} {y:β} {S:Nat->Prop} (h:q.own w ds y S):(kD.pair (kD.slice e r) q).own w ([.slice none 0 0]++ds) ([],y) S :=
  kD.jh (A:=λ_=>False) (B:=S) kD.jm h (λ_ h=>h.elim) (λ_ h=>h) (λ_ h _=>h)
def own_store {β:Type} {q:kD β} {r:kD kz} {w:Ag} {cs ds:Ai Ae} {x:kz} {y:β} {S:Nat->Prop} (h:r.own w cs x S) (k:q.own w ds y (λ_=>False)):(kD.pair r q).own w (cs++ds) (x,y) S :=
  kD.jh (A:=S) (B:=λ_=>False) h k (λ_ h=>h) (λ_ h=>h.elim) (λ_ _ h=>h)
def kFi {w:Ag} {c:Int} (hc:Qi c):Calls prog 176 #[.int .i64 c] w (zo kT (newC c) w):=by
 have HC:=yD (kRc hc);go_enter func176,ntmps176;go_wp2_with fail;generalize J:World.alloc w _=N;have EB:Qb w N:=tO;have M0:Qd N w 0 (.int .i64 0):=wF;have M1:Qd N w 1 (.slice none 0 0):=wF;have F0:N.frozen? ⟨w.heap.size,0,none⟩=false:=wF;have F1:N.frozen? ⟨w.heap.size,1,none⟩=false:=wF;clear J;refine yA.mono ?_;rintro e u ⟨rfl,hu⟩;obtain rfl:=hu.symm;clear hu;cases hi:inR c 0 8
 · have L:=yD (show capC c=0 by unfold capC;rw [hi];rfl);go_wp2;refine Ab (v:=.agg #[Qn 0,.slice none 0 0]) mU rfl ⟨[_,_],rfl,?_,?_⟩
   · unfold newC;rw [L.out];exact newC_own bH3
   exact (EB.setCell bH4 _).setCell bH4 _
 have L:=yD (show capC c=c by unfold capC;rw [hi];rfl);go_wp2;refine Ab (v:=.agg #[Qn c,.slice none 0 0]) mU rfl ⟨[_,_],rfl,?_,?_⟩
 · unfold newC;rw [L.out];exact newC_own (by have:=HC.out;rwa [L.out] at this)
 exact (EB.setCell bH4 _).setCell bH4 _
def kYk {w:Ag} {c:Int} (hc:Qi c):Calls prog 130 #[.int .i64 c] w (zo yB (newN c) w):=by
 have HC:=yD (kRc hc);go_enter func130,ntmps130;go_wp2_with fail;generalize J:World.alloc w _=N;have EB:Qb w N:=tO;have XB:Qr N w.heap.size #[.slice none 0 0,Qn 0,.slice none 0 0,.slice none 0 0,.slice none 0 0,.slice none 0 0,.slice none 0 0,Qn 0] 33:=by rw [<- J];exact kG rfl
 have bk:N.heap.size=w.heap.size + 1:=bF5;clear J;refine (kFi hc).mono ?_;rintro e w1 ⟨cs,rfl,O1,O⟩;obtain ⟨cv,rfl,ag,af⟩:=jN O1.raw;have F:=kC XB O;have E1:=(tQ EB O);have dp:(newC c).2=[]:=rfl;have fj:(newC c).1=capC c:=rfl;obtain ⟨ca,cp,rfl,_⟩:=kD.sl af;have I:=yD O1;clear O1 ag af O XB;have M0:=kE (b:=w.heap.size) F (j:=0) rfl;have F0:=Aa w1 w.heap.size 0 _ _ F;have M1:=kE (b:=w.heap.size) F (j:=1) rfl;have F1:=Aa w1 w.heap.size 1 _ _ F;have M2:=kE (b:=w.heap.size) F (j:=2) rfl;have F2:=Aa w1 w.heap.size 2 _ _ F;have M3:=kE (b:=w.heap.size) F (j:=3) rfl;have F3:=Aa w1 w.heap.size 3 _ _ F;have M4:=kE (b:=w.heap.size) F (j:=4) rfl;have F4:=Aa w1 w.heap.size 4 _ _ F;have M5:=kE (b:=w.heap.size) F (j:=5) rfl;have F5:=Aa w1 w.heap.size 5 _ _ F;have M6:=kE (b:=w.heap.size) F (j:=6) rfl;have F6:=Aa w1 w.heap.size 6 _ _ F;have M7:=kE (b:=w.heap.size) F (j:=7) rfl;have F7:=Aa w1 w.heap.size 7 _ _ F;go_wp2;refine Ab (v:=.agg #[.slice none 0 0,.int .i64 (capC c),.slice ca 0 cp,.slice none 0 0,.slice none 0 0,.slice none 0 0,.slice none 0 0,Qn 0]) (by simp [results,results130,go_sem,M0,F0,M1,F1,M2,F2,M3,F3,M4,F4,M5,F5,M6,F6,M7,F7,newC]) rfl ⟨[_,_,_,_,_,_,_,_],rfl,?_,?_⟩
 · refine kD.own.wide (S:=jb N.heap.size w1.heap.size) ?_ fE;exact kMh (own_store (kD.own.out I.out fC) (kMh (kMh (kMh (kMh (kD.flat.own (kD.ku (n:=0) bH3)))))))
 repeat (first|(with_reducible exact E1) | refine Below.setCell ?_ bH4 _)
namespace kD
section
variable {α β:Type} {r:kD α} {q:kD β} {e:TypeId} {w w' W W':Ag} {v:Ae} {cs ds:Ai Ae} {x:α} {xs ys:Ai α} {S T F G:Nat->Prop}
def run_pushD {P:Program} {t ty:TypeId} {z:Ae} {bytes:Nat} (ht:P.underlying t=some (.slice e)) (hinf:(P.info? e).map (λi=>(i.zero,i.size,i.bytes))=some (some z,r.n,bytes)) (hzs:z.cells.size=r.n) (hn:0 < r.n) (hby:bytes<=1000)
    {a:Option Addr} {len cap:Nat} (hown:(slice e r).own w [.slice a len cap] xs S) {sv:Ae} {m:Nat} {cells:Ai Ae} (hsrc:Src w sv m cells) (hrow:row r false w cells ys T) (hm:ys.length=m) (hb:∀ y∈ys,r.bdd Big y) (hd:∀ b off,a=some ⟨b,off,none⟩->¬ T b) (hne:0 < xs.length) (hlen:xs.length + ys.length<=16777216) :
    ∃ v' w',(Ah #[t,t] ty #[.slice a len cap,sv]).run P w=.ok v' w'/\(slice e r).jo w' [v'] (xs++ys) (λk=>S k\/T k\/(w.heap.size<=k/\k < w'.heap.size))/\Touch S w w':=by
 obtain ⟨i,hi,hz,hsize,D⟩:=info_parts hinf
 have U:∀ n,n<=16777216->n<=Big:=λn h=>by unfold Big;omega
 obtain ⟨⟨a',E,cap',h0,h1,h2,h3,h4⟩,bi,b7⟩:=hown
 simp only [Ad,Ak,and_true] at h0
 obtain ⟨rfl,rfl,rfl⟩:=h0
 subst h1
 have bk:∀ y∈xs++ys,r.bdd Big y:=by
  intro y hy;rcases List.mem_append.1 hy with q | q
  · exact b7 y q
  exact hb y q
 rcases h4 with ⟨rfl,hc0⟩|⟨b,off,rfl,cur,e',fr,p,cs,tl,g1,g2,g3,g4,g5,g6,g7⟩
 · simp at hne
 obtain ⟨he,R⟩:=g5 rfl
 rw [he,R] at g1
 have F:=zH g7
 have W:=zH hrow
 by_cases bc:m=0
 · have ch:ys=[]:=List.eq_nil_of_length_eq_zero bH3;subst ch;have hc:cells=[]:=hrow;subst hc;obtain ⟨a1,c1,rfl⟩:∃ a c,sv=.slice a 0 c:=by
    rcases hsrc with ⟨_,h⟩|⟨ad,c,h,_⟩
    · exact h
    exact ⟨_,_,by rw [h,bc]⟩
   refine ⟨.slice (some ⟨b,off,none⟩) xs.length cap,w,?_,?_,Touch.refl _ _⟩
   · cases a1 <;> simp [Ah,run_underlying ht,sizeOf,typeInfo,hi,Builtin.lenOf,h2,Builtin.firstCells,loadCells,loadCellsFrom,storeCells]
   rw [List.append_nil];refine ⟨⟨_,_,cap,rfl,rfl,h2,h3,.inr ⟨b,off,rfl,cur,e,(0,0),p,cs,tl,g1,g2,g3,g4,λ_=>⟨rfl,rfl⟩,.inl g6,yL (kMd g7) qZ⟩⟩,bi,b7⟩
 obtain ⟨ad,c,rfl,Y⟩:∃ ad c,sv=.slice (some ad) m c/\∀ j u,cells[j]?=some u->w.cell? (ad.add j)=some u:=by
  rcases hsrc with ⟨h,_⟩ | h
  · exact absurd h bc
  exact h
 obtain ⟨I,N,V⟩:=FE
 by_cases o:xs.length + m<=cap
 · have X:(xs.length + m) * r.n<=cap * r.n:=Nat.mul_le_mul_right _ o;rw [Nat.add_mul] at X;obtain ⟨d1,J⟩:=J9;have hr:=run_append_room_cells (P:=P) (w:=w) t ty e i ht hi b off xs.length cap ad m c cells I Y (row_one hrow) o
     (λj hj=>by
       rw [cell_of_row w b _ cur e (0,0) g1];have:off + xs.length * i.size + j < cur.size:=by rw [J,Ac];omega
       simp [this])
     (λj _=>Aa w b _ _ _ g1)
   rw [kIs] at hr;have O:=kAb (e:=e) cells (tl.take cells.length) (p++cs) (tl.drop cells.length) w b (off + xs.length * i.size) mH J.symm tZ;refine ⟨_,_,hr,?_,(zR cells w b _).wide (λk hk=>by rw [hk];exact g6)⟩;have Z:∀ k,k≠b->(setCells w b (off + xs.length * i.size) cells).heap[k]?=w.heap[k]?:=λk hk=>kAf cells w b _ k hk;refine ⟨⟨_,_,cap,rfl,by rw [Ac,hm],o,h3,.inr ⟨b,off,rfl,_,e,(0,0),p,cs++cells,tl.drop cells.length,O,by simp,g3,?_,λ_=>⟨rfl,rfl⟩,.inl g6,?_⟩⟩,U _ rO,bk⟩
   · simp only [List.size_toArray,Ac,List.length_drop];omega
   have a1:=yI (w':=setCells w b (off + xs.length * i.size) cells) g7 (λk hk=>Z k (hk.2 rfl));have a2:=yI (w':=setCells w b (off + xs.length * i.size) cells) hrow (λk hk=>Z k (λq=>hd b off rfl (q ▸ hk)));exact zx (kMd a1) a2 qZ (λk hk=>⟨.inr (.inl hk),λh=>by cases h⟩) (λh=>by cases h)
 have H:∀ j u,cs[j]?=some u->w.cell? ((⟨b,off,none⟩:Addr).add j)=some u:=by
  exact aY
 have L:(xs.length + m) * i.bytes<=140737488355328:=by
  have:(xs.length + m) * i.bytes<=16777216 * 1000:=Nat.mul_le_mul bH3 bH3;omega
 have hr:=run_append_grow (P:=P) w t ty e i z ht hi hz ⟨b,off,none⟩ xs.length cap cs (by rw [hsize];exact F) H ad m c cells I Y bH3 bH3 (growslice_fits bH3 L)
 refine ⟨_,_,hr,?_,⟨rfl,rfl,rfl,by simp,λk hk _=>heap_alloc_old w.drew _ hk⟩⟩
 have a4:=grownCap_ge w (xs.length + m) cap e
 have ai:=grownCap_le_maxLen w (xs.length + m) cap e bA9
 refine ⟨⟨_,_,_,rfl,by rw [Ac,hm],a4,ai,.inr ⟨w.heap.size,0,rfl,_,e,(0,0),[],cs++cells,(Builtin.zeroCells z.cells (grownCap w (xs.length + m) cap e - (xs.length + m))).toList,heap_alloc_new w.drew _,by simp,rfl,?_,λ_=>⟨rfl,rfl⟩,.inr (.inr ⟨Nat.le_refl _,by simp⟩),?_⟩⟩,U _ rO,bk⟩
 · exact aZ
 obtain ⟨a1,a2⟩:=y7
 exact zx (kMd a1) a2 qZ (λk hk=>⟨.inr (.inl hk.1),λh=>by cases h⟩) (λh=>by cases h)
def jo.live (h:r.jo w cs x S):r.jo w cs x (λk=>S k/\k < w.heap.size):=⟨r.live h.1,h.2⟩
def rdB_get {a:Option Addr} {len cap:Nat} (h:(slice e r).jo w [.slice a len cap] xs S) {i:Nat} (hi:i < xs.length) :
    ∃ b off,a=some ⟨b,off,none⟩/\∃ cs,r.jo w cs xs[i] S/\∀ j c,cs[j]?=some c->w.cell? ⟨b,off + i * r.n + j,none⟩=some c:=by
 obtain ⟨⟨a',E,cap',h0,h1,h2,h3,h4⟩,cw,O⟩:=h
 simp only [Ad,Ak,and_true] at h0
 obtain ⟨rfl,rfl,rfl⟩:=h0
 rcases h4 with ⟨rfl,_⟩|⟨b,off,ha,cur,e',fr,p,c,q,hb,hc,hp,hl,hf,hS,hx⟩
 · simp at hi
 obtain ⟨D,c',F,A,B,C,rfl,o,_,hr,_,_,hB,_⟩:=kPb hx hi
 refine ⟨b,off,ha,c',⟨r.wide hr (λk hk=>(hB k hk).1),O _ (List.getElem_mem hi)⟩,?_⟩
 exact aH
def kWd {P:Program} {t ty:TypeId} {z:Ae} {bytes:Nat} (ht:P.underlying t=some (.slice e)) (hinf:(P.info? e).map (λi=>(i.zero,i.size,i.bytes))=some (some z,r.n,bytes)) (hzs:z.cells.size=r.n) (hn:0 < r.n) (hby:bytes<=1000)
    {a:Option Addr} {len cap:Nat} (hown:(slice e r).own w [.slice a len cap] xs S) {u:Ag} (hu:Qb w u) {cx:Ai Ae} {x:α} (hx:r.jo u cx x T) (hd:∀ b off,a=some ⟨b,off,none⟩->¬ T b) (hne:0 < xs.length) (hlen:xs.length < 16777216) {c:Nat} :
    ∃ v' w',(Ah #[t,t] ty #[.slice a len cap,.slice (some ⟨u.heap.size,0,none⟩) 1 c]).run P (u.alloc (.cells cx.toArray e))=.ok v' w'/\(slice e r).jo w' [v'] (xs++[x]) (λk=>S k\/T k\/(u.heap.size<=k/\k < w'.heap.size))/\Touch (λk=>S k/\k < w.heap.size) u w':=by
 obtain ⟨E,hS⟩:=DV
 have hrow:row r false (u.alloc (.cells cx.toArray e)) cx [x] (λk=>T k/\k < u.heap.size):=kCx (r.mono (r.live hx.1) (λk hk=>E.block k hk.2))
 have hsrc:Src (u.alloc (.cells cx.toArray e)) (.slice (some ⟨u.heap.size,0,none⟩) 1 c) 1 cx:=by
  exact bC
 obtain ⟨v',w',hr,ho,o⟩:=run_pushD (ty:=ty) ht hinf hzs hn hby (hS.below E) hsrc hrow rfl mR (λb off q h2=>hd b off q h2.1) hne bG7
 exact bE
def kXz {P:Program} {ops:Array Oper} {rest:Ai Oper} {o:Oper} {D:Act} {Q:Exit->Act->Ag->Prop} (E:o.guard=none) (s x:Operand) (t:TypeId)
    (ho:o.op=.call { callee:=.builtin .append,args:=#[s,x],argTypes:=#[t,t] })
    {z:Ae} {bytes:Nat} (ht:P.underlying t=some (.slice e)) (hinf:(P.info? e).map (λi=>(i.zero,i.size,i.bytes))=some (some z,r.n,bytes)) (hzs:z.cells.size=r.n) (hn:0 < r.n) (hby:bytes<=1000)
    {a:Option Addr} {len cap:Nat} (hown:(slice e r).own w [.slice a len cap] xs S) {u:Ag} (hu:Qb w u) {cx:Ai Ae} {y:α} (hy:r.jo u cx y T) {c:Nat} (hs:D.eval s=.slice a len cap) (hx:D.eval x=.slice (some ⟨u.heap.size,0,none⟩) 1 c) (hd:∀ b off,a=some ⟨b,off,none⟩->¬ T b) (hne:0 < xs.length) (hlen:xs.length < 16777216)
    (h:∀ v' w',(slice e r).jo w' [v'] (xs++[y]) (λk=>S k\/T k\/(u.heap.size<=k/\k < w'.heap.size))->Touch (λk=>S k/\k < w.heap.size) u w'->wpList P ops Q rest (D.put o.dst v') w'):wpList P ops Q (o :: rest) D (u.alloc (.cells cx.toArray e)):=by
 refine wpList_plain E λ_ H=>?_
 obtain ⟨v',w',hr,h1,h2⟩:=kWd (ty:=o.type) (c:=c) ht hinf hzs hn hby hown hu hy hd hne hlen
 exact kV s x t ho hs hx hr (H _ _ (h v' w' h1 h2))
end
end kD
end Go.Proofs.YtjhfdpopkkmigabGreat

/-
  Content stores as the reference draws them.
-/
import Derived.Test.YthocbplmdjkifaaGreatCacheD
import Derived.Test.YthocbplmdjkifaaGreatDrawY
import Derived.Test.YthocbplmdjkifaaGreatDrawK
set_option linter.unusedVariables false
set_option linter.defProp false
set_option linter.unusedSimpArgs false
set_option linter.unnecessarySimpa false
set_option maxRecDepth 100000
set_option maxHeartbeats 8000000
open Go renaming frozen_of_row->Aa,bodyPost_ret->Ab,World->Ae,Value->Ah
open List renaming getElem?_cons_succ->Ac,getElem?_cons_zero->Ad,length_append->Ag,map_cons->Al,map_nil->Ap,singleton_append->Ar
open List.cons renaming injEq->Ai
open Option.some renaming injEq->Aj
open _root_ renaming List->Ak
open Int renaming eq_ofNat_of_zero_le->Am
open Go.Builtin renaming append_->Aq
open Go.Addr.mk renaming injEq->Au
open Go.Value.slice renaming injEq->Av
namespace Go.Proofs.YthocbplmdjkifaaGreat
open Go.RowKit _root_.Go.Proofs.Tryz
def kDs (n:ko) (t:Int) (x:kg):kg:=(x.1,if idxOf (isC n) x.2 < 0 then x.2 else x.2.modify (idxOf (isC n) x.2).toNat (λy=>kAx y t))
def kPe {n:ko} {t c:Int} {l:List kr} (h:idxOf (isC n) l < 0):kDs n t (c,l)=(c,l):=by unfold kDs;simp only;rw [if_pos h]
def kLz {n:ko} {t c:Int} {l:Ak kr} {k:Nat} (h:idxOf (isC n) l=k) (hk:k < l.length):kDs n t (c,l)=(c,l.set k (kAx l[k] t)):=by
 unfold kDs;simp only [h,Int.toNat_natCast];rw [if_neg bF2];congr 1;apply List.ext_getElem bF3;intro i h1 h2;rw [List.getElem_modify,List.getElem_set];by_cases e:k=i
 · subst e;simp
 simp [e]
def kUm {w:Ae} {c:Int} {v:Ah} {l:Ak kr} {S:Nat->Prop} (h:kP.own w [Qn c,v] (c,l) S):(kD.slice 144 jB).own w [v] l S:=by
 obtain ⟨a,d,A,B,he,h1,h2,hA,hB,hd⟩:=kD.kDy h;obtain ⟨rfl,_⟩:=kD.yX h1.raw;simp only [Ar,Ai,true_and] at he;subst he;exact h2.wide hB
def kSv {w:Ae} {c:Int} {v:Ah} {l:Ak kr} {S:Nat->Prop} (hc:Qi c) (h:(kD.slice 144 jB).own w [v] l S):kP.own w [Qn c,v] (c,l) S :=
  kD.kBg (cs:=[.int .i64 c]) (kD.ky hc) h
def kWo {w:Ae} {cx:Ak Ah} {x:kg} (hx:kP.rd w cx x) {cn:Ak Ah} {n:ko} (hn:kR.rd w cn n) {t:Int} (ht:Qi t) :
    Calls prog 56 #[.agg cx.toArray,.agg cn.toArray,.int .i64 t] w (kAb kP (kDs n t x) w):=by
 obtain ⟨xc,xe⟩:=x
 have HX:=yD hx
 have Y:=yD hn
 have HF:=yD ht
 obtain ⟨c8,rfl,ao,am⟩:=jN hx.1
 obtain ⟨b1,aw,rfl,xl⟩:=kD.sl am
 obtain ⟨av,rfl,V⟩:=kw hn.1
 obtain ⟨na,np,rfl,_⟩:=kD.sl V
 have I:Hid ((kD.slice 144 jB).raw w [Qs b1 xe aw] xe):=yD am
 have ak:Qi xc:=ao
 replace xl:xe.length<=9223372036854775807:=xl
 clear hx hn ht ao am V
 go_enter func56,ntmps56
 go_upto_region 1 with fail
 generalize o:World.alloc (World.alloc (World.alloc w _) _) _=w1
 obtain ⟨U,BX,BN,BR,bj⟩:=BH
 clear o
 obtain ⟨aa,ac⟩:=yN BX
 go_wp2_with fail
 refine (kRc (HX.out.below U)).mono ?_
 rintro e w2 ⟨cs,rfl,O,hb⟩
 replace BX:=kC BX hb
 replace BN:=kC BN hb
 obtain ⟨BR,U⟩:=CQ
 clear aa ac hb
 obtain ⟨ax,rfl,W,H⟩:=jN O.raw
 obtain ⟨oa,E,rfl,_⟩:=kD.sl H
 clear W H
 have J:=yD ((kUm O).wide (T:=(λj=>w.heap.size + 3<=j/\j < w2.heap.size)) sO)
 clear O
 go_upto_region 2 with fail
 refine ja ?_
 intro w3 ah BO bz
 replace BX:=kC BX ah
 replace BN:=kC BN ah
 obtain ⟨BR,J,U⟩:=xZ
 clear ah
 obtain ⟨aa,ac⟩:=yN BX
 have R:Qc w3 (w.heap.size + 1) 0 (Qs na n np):=kE BN rfl
 go_wp2_with fail
 refine (kGl (I.out.below U) (cn:=[.slice na n.length np]) (Y.out.1.below U)).mono ?_
 rintro e w4 ⟨rfl,hb⟩
 have b5:=hb.size
 obtain ⟨BR,BO⟩:=CX
 obtain ⟨J,U⟩:=wP
 clear aa ac R hb
 by_cases hf:idxOf (isC n) xe < 0
 · have L:=yD (kPe (t:=t) (c:=xc) hf);generalize idxOf (isC n) xe=q at *;go_upto_region 5 with fail;obtain ⟨X,N⟩:=yN BO;obtain ⟨ay,az⟩:=yN BR;obtain ⟨al,aj⟩:=kCf BR;go_wp2;refine Ab (v:=.agg #[Qn xc,Qs oa xe E]) mZ rfl ⟨[Qn xc,Qs oa xe E],rfl,?_,?_⟩
   · rw [L.out];exact kSv ak ((J.out.touch sT2 sW).wide fU)
   exact U.trans (Touch.below sT2 U.size bB6)
 obtain ⟨k,hlt,ad⟩:=zn hf
 have L:=yD (kLz (t:=t) (c:=xc) ad hlt)
 rw [ad]
 clear hf ad
 obtain ⟨qb,qo,rfl,c0,c1,c2,c3,c4,c5,hr,A0,A1,A2,A3,A4,A5⟩:=kD.kOr J.out.raw hlt rfl
 obtain ⟨_,an,ai,F,ae,b8⟩:=kD.kGu J.out bF2
 simp only [Aj,Au,and_true] at F
 obtain ⟨rfl,rfl⟩:=F
 have af:=kD.jAb J.out bF2 (qo + k * 6 + 5)
 clear hr A0 A1 A2 A3 A4
 have be:(0:Int)<=k:=bF2
 have a2:(k:Int) < xe.length:=bF2
 obtain ⟨X,N⟩:=yN BO
 obtain ⟨O2,D⟩:(kD.slice 144 jB).own (World.setCell w4 ⟨qb,qo + k * 6 + 5,none⟩ (Qn t)) [.slice (some ⟨qb,qo,none⟩) xe.length E] (xe.set k (kAx xe[k] t)) (λj=>w.heap.size + 3<=j/\j < w2.heap.size)/\Touch (λj=>j=qb) w4 (World.setCell w4 ⟨qb,qo + k * 6 + 5,none⟩ (Qn t)):=kD.kOf (i:=k) (j:=5) J.out hlt bF1 (λh=>kLt _ HF.out h) (show jB.bdd Big (kAx xe[k] t) from kD.yx J.out.rd hlt)
 go_upto_region 5 with fail
 generalize o:World.setCell w4 _ _=w5 at O2 D ⊢
 clear o J
 have J:=yD O2
 clear O2
 have b4:=D.size
 replace BR:=D.kC BR bF2
 replace BO:=D.kC BO bF2
 replace U:=U.trans (D.below U.size bB6)
 clear X N D
 obtain ⟨X,N⟩:=yN BO
 obtain ⟨ay,az⟩:=yN BR
 obtain ⟨al,aj⟩:=kCf BR
 go_wp2
 refine Ab (v:=.agg #[Qn xc,.slice (some ⟨qb,qo,none⟩) xe.length E]) mZ rfl ⟨[Qn xc,.slice (some ⟨qb,qo,none⟩) xe.length E],rfl,?_,?_⟩
 · rw [L.out];exact kSv ak ((J.out.touch sT2 sW).wide fU)
 exact U.trans (Touch.below sT2 U.size bB6)
def implTouch_c {w:Ae} {cx:Ak Ah} {x:kg} (hx:kP.rd w cx x) {cn:Ak Ah} {n:ko} (hn:kR.rd w cn n) {t:Int} (ht:Qi t) :
    Calls prog 37 #[.agg cx.toArray,.agg cn.toArray,.int .i64 t] w (kAb kP (kDs n t x) w):=by
 obtain ⟨xc,xe⟩:=x
 have HX:=yD hx
 have Y:=yD hn
 have HF:=yD ht
 obtain ⟨c8,rfl,ao,am⟩:=jN hx.1
 obtain ⟨b1,aw,rfl,xl⟩:=kD.sl am
 obtain ⟨av,rfl,V⟩:=kw hn.1
 obtain ⟨na,np,rfl,_⟩:=kD.sl V
 have ak:Qi xc:=ao
 replace xl:xe.length<=9223372036854775807:=xl
 clear hx hn ht ao am V
 go_enter func37,ntmps37
 go_upto_region 1 with fail
 generalize o:World.alloc (World.alloc (World.alloc w _) _) _=w1
 obtain ⟨U,BX,BN,BR,bj⟩:=BH
 clear o
 obtain ⟨aa,ac⟩:=yN BX
 go_wp2_with fail
 refine (kNj (HX.out.below U)).mono ?_
 rintro e w2 ⟨cs,rfl,O,hb⟩
 replace BN:=kC BN hb
 obtain ⟨BR,U⟩:=CQ
 clear aa ac hb
 obtain ⟨ax,rfl,W,H⟩:=jN O.raw
 obtain ⟨oa,E,rfl,_⟩:=kD.sl H
 clear W H
 have J:=yD ((kUm O).wide (T:=(λj=>w.heap.size + 3<=j/\j < w2.heap.size)) sO)
 clear O
 go_upto_region 2 with fail
 refine ja ?_
 intro w3 ah BO bz
 replace BN:=kC BN ah
 obtain ⟨BR,J,U⟩:=xZ
 clear ah
 obtain ⟨X,N⟩:=yN BO
 go_wp2
 go_loopw [15] (λi wr=>∃ k:Nat,i=.int .i64 k/\k<=xe.length/\Hid (∀ j,(h:j < k)->(h2:j < xe.length)->isC n xe[j]=false)/\Hid ((kD.slice 144 jB).own wr [Qs oa xe E] xe (λj=>w.heap.size + 3<=j/\j < w2.heap.size))/\Qr wr (w.heap.size + 1) #[Qs na n np] 36/\Qr wr (w.heap.size + 2) #[Qn 0,.slice none 0 0] 27/\Qr wr w2 #[Qn xc,Qs oa xe E] 27/\w3.heap.size<=wr.heap.size/\Qb w wr) (λi _=>xe.length - (intOf i).toNat)
 case atStart=>exact ⟨0,rfl,Nat.zero_le _,yD (λ_ h=>by omega),J,BN,BR,BO,Nat.le_refl _,U⟩
 rename Ae=>wq
 clear U BX BN BR BO J
 obtain ⟨k,rfl,hk,HA,J,BN,BR,BO,ir,U⟩:=hrel
 have b9:=Int.natCast_nonneg k
 by_cases hlt:k < xe.length
 · have dt:=Int.ofNat_lt.2 hlt;obtain ⟨qb,qo,rfl,c0,c1,c2,c3,c4,c5,hr,A0,A1,A2,A3,A4,A5⟩:=kD.kOr J.out.raw hlt rfl;obtain ⟨_,an,ai,F,ae,b8⟩:=kD.kGu J.out bF2;simp only [Aj,Au,and_true] at F;obtain ⟨rfl,rfl⟩:=F;obtain ⟨y,hy⟩:∃ y,xe[k]=y:=⟨_,rfl⟩;rw [hy] at hr;have HY:=yD hy;clear hy;obtain ⟨rfl,rfl,rfl,bd,aq,a8,bk,br,I,Z,ad,ab⟩:=jy hr;obtain ⟨ma,mp,rfl,_,sa,sp,rfl,_,da,dp,rfl,_⟩:=kD.sx a8 (kD.sx bk (kD.sl I));have HM:Hid (kR.raw wq [Qs ma y.1.1 mp] y.1.1):=yD aq;clear hr bd aq a8 bk br I Z ad ab;go_upto_region 5 with fail;refine ja ?_;intro w5 ag BT b4;replace BN:=kC BN ag;replace BR:=kC BR ag;replace BO:=kC BO ag;replace A5:=cL ag A5;replace J:=yD (J.out.below ag);replace HM:=yD (HM.out.below ag);replace U:=(tQ U ag);clear ag;have R:Qc w5 (w.heap.size + 1) 0 (Qs na n np):=kE BN rfl;obtain ⟨b7,bo,b2,bv,dx,db⟩:=kZv BT;go_wp2_with fail;refine (jw HM.out (Y.out.1.below U)).mono ?_;rintro e w6 ⟨rfl,hb⟩;have df:=hb.size;replace BN:=kC BN hb;obtain ⟨BR,BO⟩:=CX;replace A5:=cL hb A5;obtain ⟨J,U⟩:=wP;clear R b7 bo b2 bv dx db hb;cases he:eqN y.1.1 n
   · have HB:=yD (kAv (p:=isC n) hlt (by rw [HY.out];exact he) HA.out);refine Qg ?_;exact ⟨k + 1,by go_num,by omega,HB,J,BN,BR,BO,by omega,U⟩
   have L:=yD (kLz (t:=t) (c:=xc) (idxOf_hit (p:=isC n) hlt (by rw [HY.out];exact he) HA.out) hlt);have af:=kD.jAb J.out bF2 (qo + k * 6 + 5);obtain ⟨X,N⟩:=yN BO;obtain ⟨O2,D⟩:(kD.slice 144 jB).own (World.setCell w6 ⟨qb,qo + k * 6 + 5,none⟩ (Qn t)) [.slice (some ⟨qb,qo,none⟩) xe.length E] (xe.set k (kAx xe[k] t)) (λj=>w.heap.size + 3<=j/\j < w2.heap.size)/\Touch (λj=>j=qb) w6 (World.setCell w6 ⟨qb,qo + k * 6 + 5,none⟩ (Qn t)):=kD.kOf (i:=k) (j:=5) J.out hlt bF1 (λh=>kLt _ HF.out h) (show jB.bdd Big (kAx xe[k] t) from kD.yx J.out.rd hlt);go_upto_region 8 with fail;generalize o:World.setCell w6 _ _=w7 at O2 D ⊢;clear o J;have J:=yD O2;clear O2;have eo:=D.size;replace BR:=D.kC BR bF2;replace BO:=D.kC BO bF2;replace U:=U.trans (D.below U.size bB6);clear X N D;obtain ⟨X,N⟩:=yN BO;obtain ⟨ay,az⟩:=yN BR;obtain ⟨al,aj⟩:=kCf BR;go_wp2;refine Ab (v:=.agg #[Qn xc,.slice (some ⟨qb,qo,none⟩) xe.length E]) nA rfl ⟨[Qn xc,.slice (some ⟨qb,qo,none⟩) xe.length E],rfl,?_,?_⟩
   · rw [L.out];exact kSv ak ((J.out.touch sT2 sW).wide fU)
   exact U.trans (Touch.below sT2 U.size bB6)
 have fd:¬ ((k:Int) < xe.length):=bF2
 have L:=yD (kPe (n:=n) (t:=t) (c:=xc) (by rw [idxOf_miss (p:=isC n) hlt HA.out];decide))
 go_upto_region 8 with fail
 obtain ⟨X,N⟩:=yN BO
 obtain ⟨ay,az⟩:=yN BR
 obtain ⟨al,aj⟩:=kCf BR
 go_wp2
 refine Ab (v:=.agg #[Qn xc,Qs oa xe E]) nA rfl ⟨[Qn xc,Qs oa xe E],rfl,?_,?_⟩
 · rw [L.out];exact kSv ak ((J.out.touch sT2 sW).wide fU)
 exact U.trans (Touch.below sT2 U.size bB6)
def capC (c:Int):Int:=if inR c 0 8 then c else 0
def newC (c:Int):kg:=(capC c,[])
def newN (c:Int):jX:=([],newC c,[],[],[],[],0)
def jBp {c:Int} (h:Qi c):-9223372036854775808<=capC c/\capC c<=9223372036854775807:=by unfold capC;split <;> omega
def newC_own {w:Ae} {c:Int} {S:Nat->Prop} (h:Qi c):kP.own w [Qn c,.slice none 0 0] (c,[]) S :=
  ⟨kSn (x:=kP.zero) c h kP.is_zero,(kP.bdd_zero:kP.bdd Big kP.zero)⟩
def kOe {α β:Type} {e:TypeId} {r:kD α} {q:kD β} {w:Ae} {ds:Ak Ah} {y:β} {S:Nat->Prop} (h:q.own w ds y S):(kD.pair (kD.slice e r) q).own w ([.slice none 0 0]++ds) ([],y) S :=
  kD.jq (A:=λ_=>False) (B:=S) kD.yF h (λ_ h=>h.elim) (λ_ h=>h) (λ_ h _=>h)
def own_store {β:Type} {q:kD β} {r:kD kg} {w:Ae} {cs ds:Ak Ah} {x:kg} {y:β} {S:Nat->Prop} (h:r.own w cs x S) (k:q.own w ds y (λ_=>False)):(kD.pair r q).own w (cs++ds) (x,y) S :=
  kD.jq (A:=S) (B:=λ_=>False) h k (λ_ h=>h) (λ_ h=>h.elim) (λ_ _ h=>h)
def kFw {w:Ae} {c:Int} (hc:Qi c):Calls prog 233 #[.int .i64 c] w (kAb kP (newC c) w):=by
 have HC:=yD (jBp hc);go_enter func233,ntmps233;go_wp2_with fail;generalize R:World.alloc w _=U;have Z:Qb w U:=tH;have M0:Qd U w 0 (Qn 0):=vS;have M1:Qd U w 1 (.slice none 0 0):=vS;have F0:U.frozen? ⟨w,0,none⟩=false:=vS;have F1:U.frozen? ⟨w,1,none⟩=false:=vS;clear R;refine yL.mono ?_;rintro e u ⟨rfl,hu⟩;obtain rfl:=hu.symm;clear hu;cases hi:inR c 0 8
 · have L:=yD (show capC c=0 by unfold capC;rw [hi];rfl);go_wp2;refine Ab (v:=.agg #[Qn 0,.slice none 0 0]) mV rfl ⟨[_,_],rfl,?_,?_⟩
   · unfold newC;rw [L.out];exact newC_own bF2
   exact (Z.setCell bF3 _).setCell bF3 _
 have L:=yD (show capC c=c by unfold capC;rw [hi];rfl);go_wp2;refine Ab (v:=.agg #[Qn c,.slice none 0 0]) mV rfl ⟨[_,_],rfl,?_,?_⟩
 · unfold newC;rw [L.out];exact newC_own (by have:=HC.out;rwa [L.out] at this)
 exact (Z.setCell bF3 _).setCell bF3 _
def jCk {w:Ae} {c:Int} (hc:Qi c):Calls prog 171 #[.int .i64 c] w (kAb jo (newN c) w):=by
 go_enter func171,ntmps171;go_wp2_with fail;generalize R:World.alloc w _=U;have Z:Qb w U:=tH;have XB:Qr U w #[.slice none 0 0,Qn 0,.slice none 0 0,.slice none 0 0,.slice none 0 0,.slice none 0 0,.slice none 0 0,Qn 0] 33:=by rw [<- R];exact jD rfl
 have bx:U.heap.size=w.heap.size + 1:=bD4;clear R;refine (kFw hc).mono ?_;rintro e w1 ⟨cs,rfl,O1,N⟩;obtain ⟨cv,rfl,af,ah⟩:=jN O1.raw;have X:=kC XB N;have E1:=(tQ Z N);have dj:(newC c).2=[]:=rfl;have eh:(newC c).1=capC c:=rfl;obtain ⟨ca,cp,rfl,_⟩:=kD.sl ah;have J:=yD O1;clear O1 af ah N XB;have M0:=kE (b:=w.heap.size) X (j:=0) rfl;have F0:=Aa w1 w 0 _ _ X;have M1:=kE (b:=w.heap.size) X (j:=1) rfl;have F1:=Aa w1 w 1 _ _ X;have M2:=kE (b:=w.heap.size) X (j:=2) rfl;have F2:=Aa w1 w 2 _ _ X;have M3:=kE (b:=w.heap.size) X (j:=3) rfl;have F3:=Aa w1 w 3 _ _ X;have M4:=kE (b:=w.heap.size) X (j:=4) rfl;have F4:=Aa w1 w 4 _ _ X;have M5:=kE (b:=w.heap.size) X (j:=5) rfl;have F5:=Aa w1 w 5 _ _ X;have M6:=kE (b:=w.heap.size) X (j:=6) rfl;have F6:=Aa w1 w 6 _ _ X;have M7:=kE (b:=w.heap.size) X (j:=7) rfl;have F7:=Aa w1 w 7 _ _ X;go_wp2;refine Ab (v:=.agg #[.slice none 0 0,.int .i64 (capC c),.slice ca 0 cp,.slice none 0 0,.slice none 0 0,.slice none 0 0,.slice none 0 0,Qn 0]) (by simp [results,results171,go_sem,M0,F0,M1,F1,M2,F2,M3,F3,M4,F4,M5,F5,M6,F6,M7,F7,newC]) rfl ⟨[_,_,_,_,_,_,_,_],rfl,?_,?_⟩
 · refine kD.own.wide (S:=jg U w1) ?_ fT;exact kOe (own_store (kD.own.out J.out fE) (kOe (kOe (kOe (kOe (kD.flat.own (kD.ky (n:=0) bF2)))))))
 repeat (first|(with_reducible exact E1) | refine Below.setCell ?_ bF3 _)
namespace kD
section
variable {α β:Type} {r:kD α} {q:kD β} {e:TypeId} {w w' W W':Ae} {v:Ah} {cs ds:Ak Ah} {x:α} {xs ys:Ak α} {S T F G:Nat->Prop}
def run_pushD {P:Program} {t ty:TypeId} {z:Ah} {bytes:Nat} (ht:P.underlying t=some (.slice e)) (hinf:(P.info? e).map (λi=>(i.zero,i.size,i.bytes))=some (some z,r.n,bytes)) (hzs:z.cells.size=r.n) (hn:0 < r.n) (hby:bytes<=1000)
    {a:Option Addr} {len cap:Nat} (hown:(slice e r).own w [.slice a len cap] xs S) {sv:Ah} {m:Nat} {cells:Ak Ah} (hsrc:Src w sv m cells) (hrow:row r false w cells ys T) (hm:ys.length=m) (hb:∀ y∈ys,r.bdd Big y) (hd:∀ b off,a=some ⟨b,off,none⟩->¬ T b) (hne:0 < xs.length) (hlen:xs.length + ys.length<=16777216) :
    ∃ v' w',(Aq #[t,t] ty #[.slice a len cap,sv]).run P w=.ok v' w'/\(slice e r).jr w' [v'] (xs++ys) (λk=>S k\/T k\/(w.heap.size<=k/\k < w'.heap.size))/\Touch S w w':=by
 obtain ⟨i,hi,hz,hsize,L⟩:=info_parts hinf
 have X:∀ n,n<=16777216->n<=Big:=λn h=>by unfold Big;omega
 obtain ⟨⟨a',E,cap',h0,h1,h2,h3,h4⟩,bl,cd⟩:=hown
 simp only [Ai,Av,and_true] at h0
 obtain ⟨rfl,rfl,rfl⟩:=h0
 subst h1
 have bm:∀ y∈xs++ys,r.bdd Big y:=by
  intro y hy;rcases List.mem_append.1 hy with q | q
  · exact cd y q
  exact hb y q
 rcases h4 with ⟨rfl,hc0⟩|⟨b,off,rfl,cur,e',fr,p,cs,tl,g1,g2,g3,g4,g5,g6,g7⟩
 · simp at hne
 obtain ⟨he,o⟩:=g5 rfl
 rw [he,o] at g1
 have an:=zR g7
 have W:=zR hrow
 by_cases bc:m=0
 · have ao:ys=[]:=List.eq_nil_of_length_eq_zero bF2;subst ao;have hc:cells=[]:=hrow;subst hc;obtain ⟨a1,c1,rfl⟩:∃ a c,sv=.slice a 0 c:=by
    rcases hsrc with ⟨_,h⟩|⟨ad,c,h,_⟩
    · exact h
    exact ⟨_,_,by rw [h,bc]⟩
   refine ⟨.slice (some ⟨b,off,none⟩) xs.length cap,w,?_,?_,Touch.refl _ _⟩
   · cases a1 <;> simp [Aq,run_underlying ht,sizeOf,typeInfo,hi,Builtin.lenOf,h2,Builtin.firstCells,loadCells,loadCellsFrom,storeCells]
   rw [List.append_nil];refine ⟨⟨_,_,cap,rfl,rfl,h2,h3,.inr ⟨b,off,rfl,cur,e,(0,0),p,cs,tl,g1,g2,g3,g4,λ_=>⟨rfl,rfl⟩,.inl g6,yU (kOc g7) qX⟩⟩,bl,cd⟩
 obtain ⟨ad,c,rfl,U⟩:∃ ad c,sv=.slice (some ad) m c/\∀ j u,cells[j]?=some u->w.cell? (ad.add j)=some u:=by
  rcases hsrc with ⟨h,_⟩ | h
  · exact absurd h bc
  exact h
 obtain ⟨J,R,ab⟩:=CW
 by_cases D:xs.length + m<=cap
 · have Y:(xs.length + m) * r.n<=cap * r.n:=Nat.mul_le_mul_right _ D;rw [Nat.add_mul] at Y;obtain ⟨ej,O⟩:=FO
   have hr:=run_append_room_cells (P:=P) (w:=w) t ty e i ht hi b off xs.length cap ad m c cells J U (row_one hrow) D
     (λj I=>by
       rw [cell_of_row w b _ cur e (0,0) g1];have:off + xs.length * i.size + j < cur.size:=by rw [O,Ag];omega
       simp [this])
     (λj _=>Aa w b _ _ _ g1)
   rw [kKe] at hr;have V:=kAl (e:=e) cells (tl.take cells.length) (p++cs) (tl.drop cells.length) w b (off + xs.length * i.size) mH O.symm tV;refine ⟨_,_,hr,?_,(ze cells w b _).wide (λk hk=>by rw [hk];exact g6)⟩;have Z:∀ k,k≠b->(setCells w b (off + xs.length * i.size) cells).heap[k]?=w.heap[k]?:=λk hk=>kAp cells w b _ k hk;refine ⟨⟨_,_,cap,rfl,by rw [Ag,hm],D,h3,.inr ⟨b,off,rfl,_,e,(0,0),p,cs++cells,tl.drop cells.length,V,by simp,g3,?_,λ_=>⟨rfl,rfl⟩,.inl g6,?_⟩⟩,X _ rJ,bm⟩
   · simp only [List.size_toArray,Ag,List.length_drop];omega
   have a1:=yV (w':=setCells w b (off + xs.length * i.size) cells) g7 (λk hk=>Z k (hk.2 rfl));have a2:=yV (w':=setCells w b (off + xs.length * i.size) cells) hrow (λk hk=>Z k (λq=>hd b off rfl (q ▸ hk)));exact kAh (kOc a1) a2 qX (λk hk=>⟨.inr (.inl hk),λh=>by cases h⟩) bD0
 have H:∀ j u,cs[j]?=some u->w.cell? ((⟨b,off,none⟩:Addr).add j)=some u:=by
  exact aZ
 have N:(xs.length + m) * i.bytes<=140737488355328:=by
  have:(xs.length + m) * i.bytes<=16777216 * 1000:=Nat.mul_le_mul bF2 bF2;omega
 have hr:=run_append_grow (P:=P) w t ty e i z ht hi hz ⟨b,off,none⟩ xs.length cap cs (by rw [hsize];exact an) H ad m c cells J U bF2 bF2 (growslice_fits bF2 N)
 refine ⟨_,_,hr,?_,⟨rfl,rfl,rfl,by simp,λk hk _=>heap_alloc_old w.drew _ hk⟩⟩
 have az:=grownCap_ge w (xs.length + m) cap e
 have af:=grownCap_le_maxLen w (xs.length + m) cap e wR
 refine ⟨⟨_,_,_,rfl,by rw [Ag,hm],az,af,.inr ⟨w.heap.size,0,rfl,_,e,(0,0),[],cs++cells,(Builtin.zeroCells z.cells (grownCap w (xs.length + m) cap e - (xs.length + m))).toList,heap_alloc_new w.drew _,by simp,rfl,?_,λ_=>⟨rfl,rfl⟩,.inr (.inr ⟨Nat.le_refl _,by simp⟩),?_⟩⟩,X _ rJ,bm⟩
 · exact bB
 obtain ⟨a1,a2⟩:=xD
 exact kAh (kOc a1) a2 qX (λk hk=>⟨.inr (.inl hk.1),λh=>by cases h⟩) bD0
def jr.live (h:r.jr w cs x S):r.jr w cs x (λk=>S k/\k < w.heap.size):=⟨r.live h.1,h.2⟩
def kYg {a:Option Addr} {len cap:Nat} (h:(slice e r).jr w [.slice a len cap] xs S) {i:Nat} (hi:i < xs.length) :
    ∃ b off,a=some ⟨b,off,none⟩/\∃ cs,r.jr w cs xs[i] S/\∀ j c,cs[j]?=some c->w.cell? ⟨b,off + i * r.n + j,none⟩=some c:=by
 obtain ⟨⟨a',E,cap',h0,h1,h2,h3,h4⟩,cv,N⟩:=h
 simp only [Ai,Av,and_true] at h0
 obtain ⟨rfl,rfl,rfl⟩:=h0
 rcases h4 with ⟨rfl,_⟩|⟨b,off,ha,cur,e',fr,p,c,q,hb,hc,hp,hl,hf,hS,hx⟩
 · simp at hi
 obtain ⟨D,c',F,A,B,C,rfl,o,_,hr,_,_,hB,_⟩:=kRt hx hi
 refine ⟨b,off,ha,c',⟨r.wide hr (λk hk=>(hB k hk).1),N _ (List.getElem_mem hi)⟩,?_⟩
 exact aH
def kZu {P:Program} {t ty:TypeId} {z:Ah} {bytes:Nat} (ht:P.underlying t=some (.slice e)) (hinf:(P.info? e).map (λi=>(i.zero,i.size,i.bytes))=some (some z,r.n,bytes)) (hzs:z.cells.size=r.n) (hn:0 < r.n) (hby:bytes<=1000)
    {a:Option Addr} {len cap:Nat} (hown:(slice e r).own w [.slice a len cap] xs S) {u:Ae} (hu:Qb w u) {cx:Ak Ah} {x:α} (hx:r.jr u cx x T) (hd:∀ b off,a=some ⟨b,off,none⟩->¬ T b) (hne:0 < xs.length) (hlen:xs.length < 16777216) {c:Nat} :
    ∃ v' w',(Aq #[t,t] ty #[.slice a len cap,.slice (some ⟨u,0,none⟩) 1 c]).run P (u.alloc (.cells cx.toArray e))=.ok v' w'/\(slice e r).jr w' [v'] (xs++[x]) (λk=>S k\/T k\/(u.heap.size<=k/\k < w'.heap.size))/\Touch (λk=>S k/\k < w.heap.size) u w':=by
 obtain ⟨E,hS⟩:=BZ
 have hrow:row r false (u.alloc (.cells cx.toArray e)) cx [x] (λk=>T k/\k < u.heap.size):=kDh (r.mono (r.live hx.1) (λk hk=>E.block k hk.2))
 have hsrc:Src (u.alloc (.cells cx.toArray e)) (.slice (some ⟨u,0,none⟩) 1 c) 1 cx:=by
  exact bC
 obtain ⟨v',w',hr,ho,o⟩:=run_pushD (ty:=ty) ht hinf hzs hn hby (hS.below E) hsrc hrow rfl mQ (λb off q h2=>hd b off q h2.1) hne bE6
 exact bF
def jBz {P:Program} {ops:Array Oper} {rest:Ak Oper} {o:Oper} {E:Act} {Q:Exit->Act->Ae->Prop} (D:o.guard=none) (s x:Operand) (t:TypeId)
    (ho:o.op=.call { callee:=.builtin .append,args:=#[s,x],argTypes:=#[t,t] })
    {z:Ah} {bytes:Nat} (ht:P.underlying t=some (.slice e)) (hinf:(P.info? e).map (λi=>(i.zero,i.size,i.bytes))=some (some z,r.n,bytes)) (hzs:z.cells.size=r.n) (hn:0 < r.n) (hby:bytes<=1000)
    {a:Option Addr} {len cap:Nat} (hown:(slice e r).own w [.slice a len cap] xs S) {u:Ae} (hu:Qb w u) {cx:Ak Ah} {y:α} (hy:r.jr u cx y T) {c:Nat} (hs:E.eval s=.slice a len cap) (hx:E.eval x=.slice (some ⟨u,0,none⟩) 1 c) (hd:∀ b off,a=some ⟨b,off,none⟩->¬ T b) (hne:0 < xs.length) (hlen:xs.length < 16777216)
    (h:∀ v' w',(slice e r).jr w' [v'] (xs++[y]) (λk=>S k\/T k\/(u.heap.size<=k/\k < w'.heap.size))->Touch (λk=>S k/\k < w.heap.size) u w'->wpList P ops Q rest (E.put o.dst v') w'):wpList P ops Q (o :: rest) E (u.alloc (.cells cx.toArray e)):=by
 refine wpList_plain D λ_ H=>?_
 obtain ⟨v',w',hr,h1,h2⟩:=kZu (ty:=o.type) (c:=c) ht hinf hzs hn hby hown hu hy hd hne hlen
 exact kX s x t ho hs hx hr (H _ _ (h v' w' h1 h2))
end
end kD
def kMb {w:Ae} {cs:Ak Ah} {x:kg} (h:kP.raw w cs x):∃ a c,cs=[.int .i64 x.1,.slice a x.2.length c]:=by
 obtain ⟨v0,rfl,ao,am⟩:=jN h;obtain ⟨a0,c0,rfl,_⟩:=kD.sl am;exact ⟨_,_,rfl⟩
def kTw (y:jQ) (t:Int) (c:Int) (l:Ak kr):∃ k,kFs y t (c,l)=(c,k)/\k.length<=l.length + 1:=by
 unfold kFs;split
 · exact ⟨_,rfl,by omega⟩
 refine ⟨_,rfl,?_⟩;have h1:=jDt c (kFj y.1 l);have h2:=otherC_len y.1 l;simp only [Ag,List.length_cons,List.length_nil];show (kNf c (kFj y.1 l)).length + 1<=l.length + 1;omega
def touchS_len (n:ko) (t:Int) (c:Int) (l:Ak kr):∃ k,kDs n t (c,l)=(c,k)/\k.length=l.length:=by
 unfold kDs;refine ⟨_,rfl,?_⟩;simp only;split <;> simp
def DrawnS (m:Nat) (w0 w:Ae) (p:Nat) (e:Ending) (w':Ae):Prop:=∃ a c kc l,e=.returned (.agg #[Qn kc,Qs a l c])/\kP.own w' [Qn kc,Qs a l c] (kc,l) (jg w w')/\l.length<=m/\ym w0 w' p/\Touch (λk=>k=p) w w'
def data_parts9 {w:Ae} {c0 c1 c2 c3 c4:Ah} {x:jQ} {S:Nat->Prop} (h:jF.own w [c0,c1,c2,c3,c4] x S):kR.rd w [c0] x.1:=by
 obtain ⟨a,d,A,T,he,h1,h2,hA,hT,hd⟩:=kD.kDy (r:=kR) h;have R:=kR.len h1.1
 match a,R with
 | [u],_=>simp only [Ar,Ai] at he;obtain ⟨rfl,_⟩:=he;exact h1.rd
def jCj {w0 w:Ae} {p:Nat} (hc:ym w0 w p) :
    Calls prog 178 #[.pointer (some ⟨p,0,none⟩)] w λe w'=>DrawnS 7 w0 w p e w':=by
 go_enter func178,ntmps178
 obtain ⟨bh,br⟩:=hc.lt
 go_upto_region 1 with fail
 refine ja ?_
 intro w1 ar R bj
 obtain ⟨hc,O⟩:=uZ
 clear ar
 go_wp2_with fail
 refine (kZ (n:=5) hc bF1).mono ?_
 rintro e w2 ⟨x,ai,L,bf,rfl,F,D⟩
 obtain ⟨bw,R,O⟩:=y8
 clear hc D
 have hc:=F
 clear F
 replace L:=L bF1
 clear bf
 go_wp2_with fail
 refine (kFw (c:=x) bF2).mono ?_
 rintro e w3 ⟨cs,rfl,hO,hb⟩
 have bz:=hb.size
 replace R:=kC R hb
 obtain ⟨hc,O⟩:=uT
 clear hb
 obtain ⟨ka,kp,rfl⟩:=kMb hO.raw
 simp only [newC,List.length_nil] at hO ⊢
 have f6:=jBp (c:=x) bF2
 generalize capC x=kc at *
 have J:=yD (hO)
 clear hO
 go_upto_region 2 with fail
 refine ja ?_
 intro w4 ce BK b5
 replace R:=kC R ce
 replace J:=yD (J.out.below ce)
 replace hc:=hc.below ce
 replace O:=O.trans (Touch.of_below ce)
 clear ce
 obtain ⟨kb,co⟩:∃ b_,b_=w3.heap.size:=⟨_,rfl⟩
 rw [<- co] at BK ⊢
 have ay:=Nat.le_of_eq co
 have a1:=Nat.le_of_eq co.symm
 clear co
 go_wp2_with fail
 refine (kZ (n:=8) hc bF1).mono ?_
 rintro e w5 ⟨m,bc,bk,bq,rfl,F,D⟩
 have b4:=D.size
 replace R:=D.kC R bF2
 replace BK:=D.kC BK bF2
 obtain ⟨J,O⟩:=uS
 clear hc D
 have hc:=F
 clear F
 replace bk:=bk bF1
 clear bq
 obtain ⟨m,rfl⟩:=Am bc
 go_wp2
 go_loopw [4] (λi wr=>∃ (j:Nat) (ka:Option Addr) (kp:Nat) (l:Ak kr),i=.int .i64 j/\j<=7/\Hid (l.length + j<=7)/\Qr wr kb #[Qn kc,Qs ka l kp] 27/\Hid (kP.own wr [Qn kc,Qs ka l kp] (kc,l) (λk=>w.heap.size < k/\k < wr.heap.size/\k≠kb))/\w5.heap.size<=wr.heap.size/\ym w0 wr p/\Touch (λk=>k=p\/k=kb) w5 wr) (λi _=>(intOf i).toNat)
 case atStart=>exact ⟨m,ka,kp,[],rfl,by omega,yD bE6,BK,yD (J.out.wide gG),Nat.le_refl _,hc,Touch.of_below bR⟩
 clear BK hc
 obtain ⟨j,ka,kp,l,rfl,I,HL,BK,J,ch,hc,ag⟩:=hrel
 have fq:=ag.size
 cases j with
 | zero =>
   have ef:¬ (0:Int) < (0:Nat):=bF2;replace R:=ag.kC R bF2;replace O:=O.yB ag bB8;obtain ⟨aj,an⟩:=yN R;obtain ⟨N,aa⟩:=yN BK;obtain ⟨ak,al⟩:=kCf R;go_wp2;refine Ab (v:=.agg #[Qn kc,Qs ka l kp]) (by simp [results,results178,go_sem,aj,an,ak,al]) rfl ⟨ka,kp,kc,l,rfl,?_,by have:=HL.out;omega,hc.touch sT2 bF2 bB6,O.jJ sT2 bF2⟩;exact (J.out.touch (T:=λk=>k=w.heap.size) sT2 tZ).wide fH
 | succ j =>
   have c9:(0:Int) < (j:Int) + 1:=bF2;go_wp2_with fail;refine (kHr hc).mono ?_;rintro e b8 ⟨ds,x,rfl,hX,bi,F,D⟩;have cg:=D.size;replace ag:=ag.yB D nD;replace BK:=D.kC BK bF2;replace J:=yD (J.out.touch D pR);clear hc D;have hc:=F;clear F;obtain ⟨b9,cf,b1,cc,cl,cd,rfl⟩:=zo hX.raw;have HX:=yD hX;clear hX;go_upto_region 6 with fail;refine ja ?_;intro be hb BX du;have cm:=hb.size;replace ag:=ag.trans (Touch.of_below hb);replace BK:=kC BK hb;replace J:=yD (J.out.below hb);replace HX:=yD (HX.out.below hb);replace hc:=hc.below hb;clear hb;refine kAc (λW=>Touch (λk=>k=p) be W/\ym w0 W p) (λ_=>True) [] [(0,true),(1,true),(2,true),(3,false),(4,true),(5,false)] [(6,false)] bE5 bE5 qW (⟨Touch.of_below bR.drew,hc.below bR.drew⟩) ?_;intro wS E;simp only [jG,kAu,Ac,Ad,Al,Ap];refine pre_nil ?_;iterate 2
    refine yA (v:=?_) rfl (λW hW=>?_) ?_;rotate_left;(· have cv:=kE (hW.1.kC BK bF2) (j:=0) (v:=.int .i64 kc) rfl;have dk:=kE (hW.1.kC BK bF2) (j:=1) (v:=Qs ka l kp) rfl;have dz:=kE (hW.1.kC BX bF2) (j:=0) (v:=Qs b9 x.1 cf) rfl;have d5:=kE (hW.1.kC BX bF2) (j:=1) (v:=Qs b1 x.2.1 cc) rfl;have d4:=kE (hW.1.kC BX bF2) (j:=2) (v:=Qs cl x.2.2.1 cd) rfl;have el:=kE (hW.1.kC BX bF2) (j:=3) (v:=.int .i64 x.2.2.2.1) rfl;have eh:=kE (hW.1.kC BX bF2) (j:=4) (v:=.int .i64 x.2.2.2.2) rfl;clear hW;go_simp;try with_reducible rfl)
    refine jH ?_
   refine yA (v:=?_) rfl (λW hW=>?_) ?_;rotate_left;(· go_simp;try with_reducible rfl);refine jH ?_;refine zY rfl (λK H=>?_);go_simp;refine (kZ (n:=20) E.2 bF1).mono ?_;rintro e wS1 ⟨y,ao,a4,b7,rfl,av,ap⟩;replace a4:=a4 bF1;clear b7;replace E:=And.intro (E.1.trans ap) av;clear av ap;have hw:IntKind.i64.wrap (40 + y)=40 + y:=IntWalk.i64_in _ bF2;refine H _ _ E ?_;clear H K;refine jH ?_;refine yA (v:=?_) rfl (λW hW=>?_) ?_;rotate_left;(· go_simp;try with_reducible rfl);refine jH ?_;refine zY rfl (λK H=>?_);go_simp;refine (kNd (cx:=[.int .i64 kc,.slice ka l.length kp]) (x:=(kc,l)) (J.out.touch E.1 pR).rd (cy:=[.slice b9 x.1.length cf,.slice b1 x.2.1.length cc,.slice cl x.2.2.1.length cd,.int .i64 x.2.2.2.1,.int .i64 x.2.2.2.2]) (HX.out.touch E.1 pR).rd (t:=40 + y) bF2 (by have:=HL.out;show l.length<=_;omega)).mono ?_;rintro e am ⟨cs,rfl,hO,V⟩;have d1:=E.1.size;have bx:=V.size;replace E:=And.intro (E.1.trans (Touch.of_below V)) (E.2.below V);obtain ⟨l2,bg,er⟩:=kTw x (40 + y) kc l;rw [bg] at hO;obtain ⟨na,np,rfl⟩:=kMb hO.raw;clear bg;have Y:=yD hO;refine H _ _ E ?_;clear H K V hO;refine jH ?_;have fl:=E.1.size;have RS:=E.1.kC BK bF2;have aj:Qc am kb 0 (Qn kc):=kE RS rfl;have ak:am.frozen? ⟨kb,0,none⟩=false:=Aa am (kb) 0 _ _ RS;have an:Qc am kb 1 (Qs ka l kp):=kE RS rfl;have al:am.frozen? ⟨kb,1,none⟩=false:=Aa am (kb) 1 _ _ RS;refine kAk trivial ?_;refine ku rfl (λK H=>?_);go_simp;refine H _ _ trivial ?_;clear H K;refine jH ?_;refine kM ?_;replace ag:=ag.yB E.1 nD;replace BX:=E.1.kC BX bF2;replace J:=yD (J.out.touch E.1 pR);replace HX:=yD (HX.out.touch E.1 pR);replace hc:=E.2;clear E BK;have BK:=RS;clear RS aj ak an al J HX BX;generalize o:World.setCell (World.setCell am _ _) _ _=dh;have hT:Touch (λk=>k=kb) am dh:=bA3;replace BK:Qr dh kb #[Qn kc,Qs na l2 np] 27:=by rw [<- o];exact kG (kG (BK) 0) 1
   have d8:=hT.size;clear o;replace Y:=yD (Y.out.touch hT pR);obtain ⟨hc,ag⟩:=xG;clear hT;have Z:=yD (show l2.length + j<=7 by have:=HL.out;omega);clear HL er;go_wp2_with fail;refine (yw (n:=3) hc bF1).mono ?_;rintro e ah ⟨b,rfl,F,D⟩;have aq:=D.size;replace ag:=ag.yB D nD;replace BK:=D.kC BK bF2;replace Y:=yD (Y.out.touch D pR);clear hc D;have hc:=F;clear F;cases b
   · go_wp2;go_roundw;case rel=>exact ⟨j,na,np,l2,by go_num,by omega,Z,BK,yD (Y.out.wide gF),by omega,hc,ag⟩
     case measure=>simp [intOf]
   · go_upto_region 8 with fail;refine kAc (λW=>Touch (λk=>k=p) ah W/\ym w0 W p) (λ_=>True) [] [(0,true),(1,true),(2,false),(3,true),(4,false)] [(5,false)] bE5 bE5 qW (⟨Touch.of_below bR.drew,hc.below bR.drew⟩) ?_;intro wS E;simp only [jG,kAu,Ac,Ad,Al,Ap];refine pre_nil ?_;refine yA (v:=?_) rfl (λW hW=>?_) ?_;rotate_left;(· have cv:=kE (hW.1.kC BK bF2) (j:=0) (v:=.int .i64 kc) rfl;have dk:=kE (hW.1.kC BK bF2) (j:=1) (v:=Qs na l2 np) rfl;clear hW;go_simp;try with_reducible rfl);refine jH ?_;refine yA (v:=?_) rfl (λW hW=>?_) ?_;rotate_left;(· go_simp;try with_reducible rfl);refine jH ?_;refine zY rfl (λK H=>?_);go_simp;refine (kHr E.2).mono ?_;rintro e wS1 ⟨ds,v,rfl,hV,d2,av,ap⟩;obtain ⟨U,ab,au,aw,a8,bl,rfl⟩:=zo hV.raw;have X:=yD hV;have az:=E.1.size;have a2:=ap.size;replace E:=And.intro (E.1.trans ap) av;have ad:∀ W:Ae,Sem.run prog (Instr.field 60 (.agg (Qf U ab au aw a8 bl v)) 0) W=.ok (.agg #[Qs U v.1 ab]) W:=λW=>bE5;refine H _ _ E ?_;clear H K av ap hV;refine jH ?_;refine yA (v:=.agg #[Qs U v.1 ab]) rfl (λW hW=>?_) ?_;(· go_simp;(try simp only [ad]);try rfl);refine jH ?_;refine zY rfl (λK H=>?_);go_simp;refine (kWo (cx:=[.int .i64 kc,.slice na l2.length np]) (x:=(kc,l2)) (Y.out.touch E.1 pR).rd (cn:=[.slice U v.1.length ab]) (n:=v.1) (data_parts9 X.out) (t:=60) bF2).mono ?_;rintro e am ⟨cs,rfl,hO,V⟩;have d1:=E.1.size;have bx:=V.size;replace E:=And.intro (E.1.trans (Touch.of_below V)) (E.2.below V);obtain ⟨l3,f8,ac⟩:=touchS_len v.1 60 kc l2;rw [f8] at hO;obtain ⟨ma,mp,rfl⟩:=kMb hO.raw;have af:=yD ac;clear f8 ac;have HM:=yD hO;refine H _ _ E ?_;clear H K V hO;refine jH ?_;have fl:=E.1.size;have RS:=E.1.kC BK bF2;have aj:Qc am kb 0 (Qn kc):=kE RS rfl;have ak:am.frozen? ⟨kb,0,none⟩=false:=Aa am (kb) 0 _ _ RS;have an:Qc am kb 1 (Qs na l2 np):=kE RS rfl;have al:am.frozen? ⟨kb,1,none⟩=false:=Aa am (kb) 1 _ _ RS;refine kAk trivial ?_;refine ku rfl (λK H=>?_);go_simp;refine H _ _ trivial ?_;clear H K;refine jH ?_;refine kM ?_;replace ag:=ag.yB E.1 nD;replace Y:=yD (Y.out.touch E.1 pR);replace hc:=E.2;clear E BK;have BK:=RS;clear RS aj ak an al Y;generalize o:World.setCell (World.setCell am _ _) _ _=ae;have hT:Touch (λk=>k=kb) am ae:=bA3;replace BK:Qr ae kb #[Qn kc,Qs ma l3 mp] 27:=by rw [<- o];exact kG (kG (BK) 0) 1
     have ax:=hT.size;clear o;replace HM:=yD (HM.out.touch hT pR);obtain ⟨hc,ag⟩:=xG;clear hT;go_wp2;go_roundw;case rel=>exact ⟨j,ma,mp,l3,by go_num,by omega,yD (by have:=Z.out;have:=af.out;omega),BK,yD (HM.out.wide gF),by omega,hc,ag⟩
     case measure=>simp [intOf]
def entry_own {w:Ae} {c0 c1 c2 c3 c4:Ah} {x:jQ} {u:Int} {S:Nat->Prop} (h:jF.own w [c0,c1,c2,c3,c4] x S) (hu:Qi u):jB.own w [c0,c1,c2,c3,c4,Qn u] (x,u) S :=
  kD.yQ (r:=jF) (q:=.int) (cs:=[c0,c1,c2,c3,c4]) (ds:=[.int .i64 u]) h (kD.ky hu)
def kKs {w:Ae} {v:Ah} {c:Int} {l:Ak kr} {S:Nat->Prop} (h:(kD.slice 144 jB).jr w [v] l S) (hc:Qi c):kP.jr w [Qn c,v] (c,l) S :=
  kD.kBa (r:=.int) (q:=(kD.slice 144 jB)) (z:=(c,l)) (kD.flat.jr (kD.ky hc)) h
def store_int {w:Ae} {c:Int} {v:Ah} {l:Ak kr} {x:Int} {S:Nat->Prop} (h:kP.own w [Qn x,v] (c,l) S):Qi c:=by
 obtain ⟨a,d,A,B,he,h1,h2,hA,hB,hd⟩:=kD.kDy h;exact (kD.yX h1.raw).2
def DrawnSR (m:Nat) (w0 w:Ae) (p:Nat) (e:Ending) (w':Ae):Prop:=∃ a c kc l,e=.returned (.agg #[Qn kc,Qs a l c])/\kP.jr w' [Qn kc,Qs a l c] (kc,l) (jg w w')/\l.length<=m/\ym w0 w' p/\Touch (λk=>k=p) w w'
def entry_form {w:Ae} {cs:Ak Ah} {y:kr} (h:jB.raw w cs y):∃ a0 c0 a1 c1 a2 c2,cs=[.slice a0 y.1.1.length c0,.slice a1 y.1.2.1.length c1,.slice a2 y.1.2.2.1.length c2,.int .i64 y.1.2.2.2.1,.int .i64 y.1.2.2.2.2,.int .i64 y.2]:=by
 obtain ⟨v0,v1,v2,rfl,ao,_⟩:=kBq h;obtain ⟨a0,c0,a1,c1,a2,c2,e⟩:=zo ao;simp only [Ai,and_true] at e;obtain ⟨rfl,rfl,rfl⟩:=e;exact ⟨_,_,_,_,_,_,rfl⟩
def jFm {w0 w:Ae} {p:Nat} (hc:ym w0 w p) :
    Calls prog 89 #[.pointer (some ⟨p,0,none⟩)] w λe w'=>DrawnSR 8 w0 w p e w':=by
 go_enter func89,ntmps89
 obtain ⟨bh,br⟩:=hc.lt
 go_upto_region 1 with fail
 refine ja ?_
 intro w1 ar R bj
 obtain ⟨hc,O⟩:=uZ
 clear ar
 go_wp2_with fail
 refine (jCj hc).mono ?_
 rintro e w2 ⟨ka,kp,kc,l,rfl,hO,aq,F,D⟩
 obtain ⟨bw,R,O⟩:=y8
 clear hc D
 have hc:=F
 clear F
 have f6:=store_int hO
 have J:=yD (kUm hO)
 clear hO
 go_upto_region 2 with fail
 refine ja ?_
 intro w3 ah BK bz
 replace R:=kC R ah
 obtain ⟨J,hc,O⟩:=xC
 clear ah
 go_wp2_with fail
 refine (kZ (n:=10) hc bF1).mono ?_
 rintro e w4 ⟨m,bc,bk,bq,rfl,F,D⟩
 have b5:=D.size
 replace R:=D.kC R bF2
 replace BK:=D.kC BK bF2
 obtain ⟨J,O⟩:=uS
 clear hc D
 have hc:=F
 clear F
 replace bk:=bk bF1
 clear bq
 obtain ⟨m,rfl⟩:=Am bc
 by_cases bp:m=0
 · subst bp;go_wp2_with fail;refine (kAd (hc.below (bR.alloc nL _)) (kD.kEh _ [-1,0,8,9] bF1 bF1) bF2 bF1 bF1).mono ?_;rintro e w5 ⟨y,bd,bv,rfl,F,D⟩;obtain ⟨D,b4⟩:=xO;replace R:=D.kC R bF2;replace BK:=D.kC BK bF2;obtain ⟨J,O⟩:=uS;clear hc D;have hc:=F;clear F;have ab:=kD.kJo (lo:=-1) (hi:=9) bF1 bd;clear bd bv;obtain ⟨N,aa⟩:=yN BK;obtain ⟨ag,Y⟩:=kCf BK;go_upto_region 10 with fail;generalize o:World.setCell w5 _ _=w6;have L:Touch (λk=>k=w2.heap.size) w5 w6:=wY;replace BK:Qr w6 w2 #[Qn y,Qs ka l kp] 27:=by rw [<- o];exact kG BK 0
   have df:=L.size;clear o N aa ag Y;replace R:=L.kC R bF2;replace J:=yD (J.out.touch L qV);replace hc:=hc.touch L bF2 bB6;replace O:=O.jJ L bF2;clear L;obtain ⟨aj,an⟩:=yN R;obtain ⟨N,aa⟩:=yN BK;obtain ⟨ak,al⟩:=kCf R;go_wp2;refine Ab (v:=.agg #[Qn y,Qs ka l kp]) mW rfl ⟨ka,kp,y,l,rfl,?_,by omega,hc.touch sT2 bF2 bB6,O.jJ sT2 bF2⟩;exact ((kKs (J.out.jr.wide (T:=λk=>w.heap.size < k/\k < w6.heap.size/\k≠w2.heap.size) gG) bF2).touch (T:=λk=>k=w.heap.size) sT2 tZ).wide fH
 have bt:¬ (m:Int)=0:=bF2
 by_cases bo:m=1
 · subst bo;go_upto_region 6 with fail;refine kAc (λW=>Touch (λk=>k=p) w4 W/\ym w0 W p) (λ_=>True) [] [(0,true),(1,true),(2,true),(3,false),(4,true),(5,false)] [(6,false),(7,true),(8,false)] bE5 bE5 qW (⟨Touch.of_below bR.drew,hc.below bR.drew⟩) ?_;intro wS E;simp only [jG,kAu,Ac,Ad,Al,Ap];refine pre_nil ?_;refine yA (v:=?_) rfl (λW hW=>?_) ?_;rotate_left;(· go_simp;try with_reducible rfl);refine jH ?_;refine yA (v:=?_) rfl (λW hW=>?_) ?_;rotate_left;(· have cv:=kE (hW.1.kC BK bF2) (j:=0) (v:=.int .i64 kc) rfl;have dk:=kE (hW.1.kC BK bF2) (j:=1) (v:=Qs ka l kp) rfl;clear hW;go_simp;try with_reducible rfl);refine jH ?_;refine yA (v:=?_) rfl (λW hW=>?_) ?_;rotate_left;(· go_simp;try with_reducible rfl);refine jH ?_;refine zY rfl (λK H=>?_);go_simp;refine (kWl E.2).mono ?_;rintro e wS1 ⟨ds,x,rfl,hX,bi,av,ap⟩;obtain ⟨b9,cf,b1,cc,cl,cd,rfl⟩:=zo hX.raw;have HX:=yD hX;have fh:=E.1.size;replace E:=And.intro (E.1.trans ap) av;refine H _ _ E ?_;clear H K av ap hX;refine jH ?_;refine yA (v:=?_) rfl (λW hW=>?_) ?_;rotate_left;(· go_simp;try with_reducible rfl);refine jH ?_;refine zY rfl (λK H=>?_);go_simp;have V:Touch (λk=>k=p) w4 (World.alloc wS1 (.cells #[.slice b9 x.1.length cf,.slice b1 x.2.1.length cc,.slice cl x.2.2.1.length cd,.int .i64 x.2.2.2.1,.int .i64 x.2.2.2.2,.int .i64 0] 144))/\ym w0 (World.alloc wS1 (.cells #[.slice b9 x.1.length cf,.slice b1 x.2.1.length cc,.slice cl x.2.2.1.length cd,.int .i64 x.2.2.2.1,.int .i64 x.2.2.2.2,.int .i64 0] 144)) p:=⟨E.1.trans (Touch.of_below (bR.alloc nL _)),E.2.below (bR.alloc nL _)⟩;refine H _ _ V ?_;clear H K V;refine jH ?_;have zS:=E.1.size;have R5:=E.1.kC R bF2;have B5:=E.1.kC BK bF2;have Z:=O.trans E.1;have ac:=E.2;have am:=J.out.touch E.1 qV;clear R BK O hc J;obtain ⟨v3,u3,a7,ad,af⟩:=kD.kIn (P:=prog) (t:=25) (ty:=25) (r:=jB) (e:=144) (c:=1) underlying25 kBe rfl bF1 bF1 am bR (entry_own HX.out (u:=0) bF2) qD bF2;have z3:=af.size;have ae:Touch (λk=>w.heap.size < k/\k < w2.heap.size/\k≠p) wS1 u3:=af.wide fF;have b2:(l++[(x,(0:Int))]).length<=8:=bE6;generalize l++[(x,(0:Int))]=q at *;obtain ⟨a3,c3,rfl,_⟩:=kD.sl ad.raw;have R:=ae.kC R5 bF2;have BK:=ae.kC B5 bF2;have O:=Z.kBr ae vB;have hc:=ac.touch ae bE2 vB;obtain ⟨ay,az⟩:=yN BK;obtain ⟨a8,bm⟩:=kCf BK;clear R5 B5 Z ac am af ae E;refine kAk trivial ?_;refine ku rfl (λK H=>?_);refine kD.kX _ _ _ rfl bF4 bF4 a7 ?_;refine H _ _ trivial ?_;clear H K;refine jH ?_;refine kS ?_;refine ku rfl (λK H=>?_);go_simp;refine H _ _ trivial ?_;clear H K;refine jH ?_;refine kM ?_;generalize o:World.setCell u3 _ _=wQ;have L:Touch (λk=>k=w2.heap.size) u3 wQ:=wY;have BQ:Qr wQ w2 #[Qn kc,Qs a3 q c3] 27:=by rw [<- o];exact kG BK 1
   have b3:=L.size;clear o ay az a8 bm BK;have BK:=BQ;clear BQ;replace R:=L.kC R bF2;replace hc:=hc.touch L bF2 bB6;replace O:=O.jJ L bF2;have HQ:=yD ((ad.jr.touch L (λk q h=>by rcases q with q | q | q;(have:=q.2;omega);(have:=q.1;omega);(have:=q.1;omega))).wide (T:=λk=>w.heap.size < k/\k < wQ.heap.size/\k≠w2.heap.size) (λk q=>by rcases q with q | q | q;exact ⟨by have:=q.1;omega,by have:=q.2;omega,by have:=q.2;omega⟩;exact ⟨by have:=q.1;omega,by have:=q.2;omega,by have:=q.1;omega⟩;exact ⟨by have:=q.1;omega,by have:=q.2;omega,by have:=q.1;omega⟩));exact bX
 have bx:¬ (m:Int)=1:=bF2
 by_cases bn:m=2
 · subst bn;by_cases bl:0 < l.length
   · have b0:(0:Int) < l.length:=bF2;obtain ⟨_,bb,off,rfl,_,au⟩:=kD.kGu J.out bl;obtain ⟨ce,B_,ai,hB,ck,U,_,_⟩:=kD.own_get J.out (i:=0) bl;obtain ⟨b9,cf,b1,cc,cl,cd,rfl⟩:=entry_form ai.raw;have A0:=U 0 _ rfl;have A1:=U 1 _ rfl;have A2:=U 2 _ rfl;have A3:=U 3 _ rfl;have A4:=U 4 _ rfl;have A5:=U 5 _ rfl;simp only [Nat.zero_mul,Nat.add_zero] at A0 A1 A2 A3 A4 A5;have HE:=yD ai;have ao:w1.heap.size<=bb:=ck.1;clear U ai;generalize aw:l[0]=y at *;clear aw;obtain ⟨N,aa⟩:=yN BK;go_upto_region 9 with fail;clear N aa;refine kAc (λW=>Touch (λk=>k=p) w4 W/\ym w0 W p) (λ_=>True) [] [(0,true),(1,true),(2,true),(3,true),(4,true),(5,true),(6,false)] [(7,false),(8,true),(9,false)] bE5 bE5 qW (⟨Touch.of_below bR.drew,hc.below bR.drew⟩) ?_;intro wS E;simp only [jG,kAu,Ac,Ad,Al,Ap];refine pre_nil ?_;iterate 3
      refine yA (v:=?_) rfl (λW hW=>?_) ?_;rotate_left;(· go_simp;try with_reducible rfl)
      refine jH ?_
      refine yA (v:=?_) rfl (λW hW=>?_) ?_;rotate_left;(· have cv:=kE (hW.1.kC BK bF2) (j:=0) (v:=.int .i64 kc) rfl;have dk:=kE (hW.1.kC BK bF2) (j:=1) (v:=.slice (some ⟨bb,off,none⟩) l.length kp) rfl;have dz:=hW.1.kJr A0 bF2;have d5:=hW.1.kJr A1 bF2;have d4:=hW.1.kJr A2 bF2;have el:=hW.1.kJr A3 bF2;have eh:=hW.1.kJr A4 bF2;have em:=hW.1.kJr A5 bF2;clear hW;go_simp;try with_reducible rfl)
      refine jH ?_
     refine zY rfl (λK H=>?_);go_simp;have V:Touch (λk=>k=p) w4 (World.alloc wS (.cells #[.slice b9 y.1.1.length cf,.slice b1 y.1.2.1.length cc,.slice cl y.1.2.2.1.length cd,.int .i64 y.1.2.2.2.1,.int .i64 y.1.2.2.2.2,.int .i64 y.2] 144))/\ym w0 (World.alloc wS (.cells #[.slice b9 y.1.1.length cf,.slice b1 y.1.2.1.length cc,.slice cl y.1.2.2.1.length cd,.int .i64 y.1.2.2.2.1,.int .i64 y.1.2.2.2.2,.int .i64 y.2] 144)) p:=⟨E.1.trans (Touch.of_below (bR.alloc nL _)),E.2.below (bR.alloc nL _)⟩;refine H _ _ V ?_;clear H K V;refine jH ?_;have X:=yD E.1;have zS:=E.1.size;have R5:=E.1.kC R bF2;have B5:=E.1.kC BK bF2;have Z:=O.trans E.1;have ac:=E.2;have am:=J.out.touch E.1 qV;clear R BK O hc J;obtain ⟨v3,u3,a7,ad,af⟩:=kD.kZu (P:=prog) (t:=25) (ty:=25) (r:=jB) (e:=144) (c:=1) underlying25 kBe rfl bF1 bF1 am bR (HE.out.touch X.out (λk q=>by have h1:=(hB k q).1;have h2:=h1.1;have h3:=h1.2;omega)).jr (λb_ o_ q_ h_=>by simp only [Aj,Au,and_true] at q_;have:=(hB _ h_).2;omega) bl bF2;have z3:=af.size;have ae:Touch (λk=>w.heap.size < k/\k < w2.heap.size/\k≠p) wS u3:=af.wide fF;have b2:(l++[y]).length<=8:=bE6;generalize l++[y]=q at *;obtain ⟨a3,c3,rfl,_⟩:=kD.sl ad.rd.1;have R:=ae.kC R5 bF2;have BK:=ae.kC B5 bF2;have O:=Z.kBr ae vB;have hc:=ac.touch ae bE2 vB;obtain ⟨ay,az⟩:=yN BK;obtain ⟨a8,bm⟩:=kCf BK;clear R5 B5 Z ac am af ae E;refine kAk trivial ?_;refine ku rfl (λK H=>?_);refine kD.kX _ _ _ rfl bF4 bF4 a7 ?_;refine H _ _ trivial ?_;clear H K;refine jH ?_;refine kS ?_;refine ku rfl (λK H=>?_);go_simp;refine H _ _ trivial ?_;clear H K;refine jH ?_;refine kM ?_;generalize o:World.setCell u3 _ _=wQ;have L:Touch (λk=>k=w2.heap.size) u3 wQ:=wY;have BQ:Qr wQ w2 #[Qn kc,Qs a3 q c3] 27:=by rw [<- o];exact kG BK 1
     have b3:=L.size;clear o ay az a8 bm BK;have BK:=BQ;clear BQ;replace R:=L.kC R bF2;replace hc:=hc.touch L bF2 bB6;replace O:=O.jJ L bF2;have HQ:=yD ((ad.touch L (λk q h=>by rcases q with q | q | q;(have:=q.2;omega);(have h1:=(hB k q).1;have h2:=h1.2;omega);(have:=q.1;omega))).wide (T:=λk=>w.heap.size < k/\k < wQ.heap.size/\k≠w2.heap.size) (λk q=>by rcases q with q | q | q;exact ⟨by have:=q.1;omega,by have:=q.2;omega,by have:=q.2;omega⟩;exact ⟨by have:=(hB k q).1.1;omega,by have:=(hB k q).1.2;omega,by have:=(hB k q).1.2;omega⟩;exact ⟨by have:=q.1;omega,by have:=q.2;omega,by have:=q.1;omega⟩));exact bX
   have b0:¬ (0:Int) < l.length:=bF2;obtain ⟨N,aa⟩:=yN BK;go_upto_region 10 with fail;clear N aa;exact dU
 have b7:¬ (m:Int)=2:=bF2
 go_upto_region 10 with fail
 exact dU
end Go.Proofs.YthocbplmdjkifaaGreat

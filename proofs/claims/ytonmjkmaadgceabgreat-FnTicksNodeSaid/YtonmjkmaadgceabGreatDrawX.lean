/-
  Bytes, words and data as the reference draws them.
-/
import Derived.Test.YtonmjkmaadgceabGreatSig
set_option linter.unusedVariables false
set_option linter.defProp false
set_option linter.unusedSimpArgs false
set_option linter.unnecessarySimpa false
set_option maxRecDepth 100000
set_option maxHeartbeats 4000000
open Go renaming frozen_of_row->Aa,heap_setCell_other->Ab,heap_setCell_same->Ac,World->Ad,Value->Ah,bodyPost_ret->Aj
open Go.IntWalk renaming i64_in->Ae
open Go.IntKind renaming i64->Ag
open Go.Region renaming wanted->Ai
open _root_ renaming List->Ak
namespace Go.Proofs.YtonmjkmaadgceabGreat
open Go.RowKit _root_.Go.Proofs.Tryz
def kKv {w:Ad} {cx:Ak Ah} {x:jN} (hx:jJ.rd w cx x):Calls prog 98 #[.agg cx.toArray] w (kAe jJ x w):=by
 obtain ⟨hx,av⟩:=hx;obtain ⟨v0,v1,v2,rfl,ad,a3,bi,a9,az,ba,bm⟩:=jb hx;obtain ⟨x0,x1,x2,x3,x4⟩:=x;obtain ⟨a0,Z,rfl,_⟩:=kD.sl a3;obtain ⟨a1,L,rfl,_⟩:=kD.sl bi;obtain ⟨a2,p2,rfl,_⟩:=kD.sl az;have r0:kU.rd w _ x0:=⟨ad,av.1⟩;have r1:(kD.slice 5 kD.byte).rd w _ x1:=⟨bi,av.2.1⟩;have r2:kU.rd w _ x2:=⟨a9,av.2.2.1⟩;have N3:=yD ba;have N4:=yD bm;clear av hx ad a3 bi a9 az ba bm;go_enter func98,ntmps98;go_upto_region 1 with fail;generalize D:World.alloc (World.alloc w _) _=v0;have E0:Qb w v0:=by rw [<- D];exact bF
 have bx:v0.heap.size=w.heap.size + 2:=bB2;have W:Hid (Qr v0 w.heap.size #[.slice a0 (x0).length Z,Qs a1 x1 L,.slice a2 (x2).length p2,Qn x3,Qn x4] 68):=yD (by rw [<- D];exact jV (kG rfl));have XR:Hid (Qr v0 (w.heap.size + 1) #[.slice none 0 0,.slice none 0 0,.slice none 0 0,Qn 0,Qn 0] 68):=yD rU;clear D;have ap:=kE (b:=w.heap.size) W.out (j:=0) (v:=.slice a0 (x0).length Z) rfl;go_wp2_with fail;refine (zI (r0.below E0)).mono ?_;rintro e Y ⟨tc,rfl,O1,O⟩;obtain ⟨ay,rfl,ae⟩:=kZ O1.raw;obtain ⟨N,G,rfl,ax⟩:=kD.sl ae;clear ae;have F:=yD O1;clear O1;have bq:=O.size;have F1:=(tQ E0 O);replace W:=yD (kC W.out O);replace XR:=yD (kC XR.out O);clear O ap;have aj:=kE (b:=w.heap.size) W.out (j:=0) (v:=.slice a0 (x0).length Z) rfl;have ah:=Aa Y (w.heap.size) 0 _ _ W.out;go_upto_region 2 with fail;generalize E:(Y.setCell ⟨w.heap.size,0,none⟩ (.slice N x0.length G))=v1;have X:Qr v1 w.heap.size #[Qs N x0 G,Qs a1 x1 L,.slice a2 (x2).length p2,Qn x3,Qn x4] 68:=by
  rw [<- E];have y0:=Ac _ (w.heap.size) 0 _ 68 (.slice N x0.length G) W.out;exact y0
 replace XR:=yD (show Qr v1 (w.heap.size + 1) #[.slice none 0 0,.slice none 0 0,.slice none 0 0,Qn 0,Qn 0] 68 from by rw [<- E];exact ((Ab _ ⟨w.heap.size,0,none⟩ (w.heap.size + 1) _ (show w.heap.size + 1≠w.heap.size by omega)).trans XR.out));replace W:=yD X;clear X;obtain ⟨E1,aa,F⟩:=I8;clear E F1 aj ah;have af:=kE (b:=w.heap.size) W.out (j:=1) (v:=.slice a1 x1.length L) rfl;go_wp2_with fail;refine (jAj (r1.below E1)).mono ?_;rintro e V ⟨tv,rfl,O2,ak⟩;obtain ⟨be,a8,rfl,_⟩:=kD.sl O2.raw;have R:=yD O2;clear O2;have a6:=ak.size;have F2:=(tQ E1 ak);replace W:=yD (kC W.out ak);replace XR:=yD (kC XR.out ak);replace F:=yD (F.out.below ak);clear ak af;have ag:=kE (b:=w.heap.size) W.out (j:=1) (v:=.slice a1 x1.length L) rfl;have ao:=Aa V (w.heap.size) 1 _ _ W.out;go_upto_region 3 with fail;generalize E:(V.setCell ⟨w.heap.size,1,none⟩ (.slice be x1.length a8))=v2;have X:Qr v2 w.heap.size #[Qs N x0 G,Qs be x1 a8,.slice a2 (x2).length p2,Qn x3,Qn x4] 68:=by
  rw [<- E];have y0:=Ac _ (w.heap.size) 1 _ 68 (.slice be x1.length a8) W.out;exact y0
 replace XR:=yD (show Qr v2 (w.heap.size + 1) #[.slice none 0 0,.slice none 0 0,.slice none 0 0,Qn 0,Qn 0] 68 from by rw [<- E];exact ((Ab _ ⟨w.heap.size,1,none⟩ (w.heap.size + 1) _ (show w.heap.size + 1≠w.heap.size by omega)).trans XR.out));replace W:=yD X;clear X;obtain ⟨E2,ab,F,R⟩:=FU;clear E F2 ag ao;have J:=kE (b:=w.heap.size) W.out (j:=2) (v:=.slice a2 (x2).length p2) rfl;go_wp2_with fail;refine (zI (r2.below E2)).mono ?_;rintro e w3 ⟨tc,rfl,O3,ar⟩;obtain ⟨au,rfl,ac⟩:=kZ O3.raw;obtain ⟨U,H,rfl,aw⟩:=kD.sl ac;clear ac;have ai:=yD O3;clear O3;have bk:=ar.size;have F3:=(tQ E2 ar);replace W:=yD (kC W.out ar);replace XR:=yD (kC XR.out ar);replace F:=yD (F.out.below ar);replace R:=yD (R.out.below ar);clear ar J;have al:=kE (b:=w.heap.size) W.out (j:=2) (v:=.slice a2 (x2).length p2) rfl;have an:=Aa w3 (w.heap.size) 2 _ _ W.out;go_upto_region 4 with fail;generalize E:(w3.setCell ⟨w.heap.size,2,none⟩ (.slice U x2.length H))=v3;have X:Qr v3 w.heap.size #[Qs N x0 G,Qs be x1 a8,Qs U x2 H,Qn x3,Qn x4] 68:=by
  rw [<- E];have y0:=Ac _ (w.heap.size) 2 _ 68 (.slice U x2.length H) W.out;exact y0
 replace XR:=yD (show Qr v3 (w.heap.size + 1) #[.slice none 0 0,.slice none 0 0,.slice none 0 0,Qn 0,Qn 0] 68 from by rw [<- E];exact ((Ab _ ⟨w.heap.size,2,none⟩ (w.heap.size + 1) _ (show w.heap.size + 1≠w.heap.size by omega)).trans XR.out));replace W:=yD X;clear X;obtain ⟨E3,aq,F,R,ai⟩:=EK;clear E F3 al an;have K0:=kE (b:=w.heap.size) W.out (j:=0) (v:=.slice N x0.length G) rfl;have R0:=kE (b:=w.heap.size + 1) XR.out (j:=0) rfl;have Z0:=Aa v3 (w.heap.size + 1) 0 _ _ XR.out;have K1:=kE (b:=w.heap.size) W.out (j:=1) (v:=.slice be x1.length a8) rfl;have R1:=kE (b:=w.heap.size + 1) XR.out (j:=1) rfl;have Z1:=Aa v3 (w.heap.size + 1) 1 _ _ XR.out;have K2:=kE (b:=w.heap.size) W.out (j:=2) (v:=.slice U x2.length H) rfl;have R2:=kE (b:=w.heap.size + 1) XR.out (j:=2) rfl;have Z2:=Aa v3 (w.heap.size + 1) 2 _ _ XR.out;have K3:=kE (b:=w.heap.size) W.out (j:=3) (v:=.int .i64 x3) rfl;have R3:=kE (b:=w.heap.size + 1) XR.out (j:=3) rfl;have Z3:=Aa v3 (w.heap.size + 1) 3 _ _ XR.out;have K4:=kE (b:=w.heap.size) W.out (j:=4) (v:=.int .i64 x4) rfl;have R4:=kE (b:=w.heap.size + 1) XR.out (j:=4) rfl;have Z4:=Aa v3 (w.heap.size + 1) 4 _ _ XR.out;go_wp2;have bn:=aa.out;have bz:=ab.out;have am:=aq.out;refine Aj (v:=.agg #[Qs N x0 G,Qs be x1 a8,Qs U x2 H,Qn x3,Qn x4]) (by simp [results,results98,go_sem,R0,Z0,R1,Z1,R2,Z2,R3,Z3,R4,Z4]) rfl ⟨[_,_,_,_,_],rfl,?_,?_⟩
 · exact aH
 repeat (first|(with_reducible exact E3) | refine Below.setCell ?_ qX _)
def kBw {w:Ad} {cx:Ak Ah} {x:jN} (hx:jJ.rd w cx x):Calls prog 83 #[.agg cx.toArray] w (kAe jJ x w):=by
 obtain ⟨hx,av⟩:=hx;obtain ⟨v0,v1,v2,rfl,ad,a3,bi,a9,az,ba,bm⟩:=jb hx;obtain ⟨x0,x1,x2,x3,x4⟩:=x;obtain ⟨a0,Z,rfl,_⟩:=kD.sl a3;obtain ⟨a1,L,rfl,_⟩:=kD.sl bi;obtain ⟨a2,p2,rfl,_⟩:=kD.sl az;have r0:kU.rd w _ x0:=⟨ad,av.1⟩;have r1:(kD.slice 5 kD.byte).rd w _ x1:=⟨bi,av.2.1⟩;have r2:kU.rd w _ x2:=⟨a9,av.2.2.1⟩;have N3:=yD ba;have N4:=yD bm;clear av hx ad a3 bi a9 az ba bm;go_enter func83,ntmps83;go_upto_region 2 with fail;generalize D:World.alloc (World.alloc (World.alloc w _) _) _=v0;have E0:Qb w v0:=by rw [<- D];exact bF
 have bx:v0.heap.size=w.heap.size + 3:=bB2;have XB:Hid (Qr v0 w.heap.size #[.slice a0 (x0).length Z,Qs a1 x1 L,.slice a2 (x2).length p2,Qn x3,Qn x4] 68):=yD (by rw [<- D];exact jV (jV (kG rfl)));have XR:Hid (Qr v0 (w.heap.size + 1) #[.slice none 0 0,.slice none 0 0,.slice none 0 0,Qn 0,Qn 0] 68):=yD (by rw [<- D];exact jV (kG bD0));have W:Hid (Qr v0 (w.heap.size + 1 + 1) #[.slice a0 (x0).length Z,Qs a1 x1 L,.slice a2 (x2).length p2,Qn x3,Qn x4] 68):=yD rU;clear D;have ap:=kE (b:=w.heap.size) XB.out (j:=0) (v:=.slice a0 (x0).length Z) rfl;go_wp2_with fail;refine (zJ (r0.below E0)).mono ?_;rintro e Y ⟨tc,rfl,O1,O⟩;obtain ⟨ay,rfl,ae⟩:=kZ O1.raw;obtain ⟨N,G,rfl,ax⟩:=kD.sl ae;clear ae;have F:=yD O1;clear O1;have bq:=O.size;have F1:=(tQ E0 O);replace XB:=yD (kC XB.out O);replace W:=yD (kC W.out O);replace XR:=yD (kC XR.out O);clear O ap;have aj:=kE (b:=w.heap.size + 1 + 1) W.out (j:=0) (v:=.slice a0 (x0).length Z) rfl;have ah:=Aa Y (w.heap.size + 1 + 1) 0 _ _ W.out;go_upto_region 3 with fail;generalize E:(Y.setCell ⟨w.heap.size + 1 + 1,0,none⟩ (.slice N x0.length G))=v1;have X:Qr v1 (w.heap.size + 1 + 1) #[Qs N x0 G,Qs a1 x1 L,.slice a2 (x2).length p2,Qn x3,Qn x4] 68:=by
  rw [<- E];have y0:=Ac _ (w.heap.size + 1 + 1) 0 _ 68 (.slice N x0.length G) W.out;exact y0
 replace XB:=yD (show Qr v1 w.heap.size #[.slice a0 (x0).length Z,Qs a1 x1 L,.slice a2 (x2).length p2,Qn x3,Qn x4] 68 from by rw [<- E];exact ((Ab _ ⟨w.heap.size + 1 + 1,0,none⟩ (w.heap.size) _ (show w.heap.size≠w.heap.size + 1 + 1 by omega)).trans XB.out));replace XR:=yD (show Qr v1 (w.heap.size + 1) #[.slice none 0 0,.slice none 0 0,.slice none 0 0,Qn 0,Qn 0] 68 from by rw [<- E];exact ((Ab _ ⟨w.heap.size + 1 + 1,0,none⟩ (w.heap.size + 1) _ (show w.heap.size + 1≠w.heap.size + 1 + 1 by omega)).trans XR.out));replace W:=yD X;clear X;obtain ⟨E1,aa,F⟩:=I8;clear E F1 aj ah;have af:=kE (b:=w.heap.size) XB.out (j:=1) (v:=.slice a1 x1.length L) rfl;replace af:=cL (kD.zG v1 (.cells #[] 5)) af;go_wp2_with (at_builtin;refine kD.yQ rfl _ _ 22 rfl (r:=kD.byte) (e:=5) underlying22 kEj rfl bC8 bC8 flatbyte (B:=v1.heap.size) (kD.kR.void (S:=λ_=>False)) bD1 bD1 ((r1.below E1).alloc _) (λ_ h=>h.elim) bD0 (by have:=r1.2.1;simp;unfold Big at this;omega) ?_);intro tv V hown o hz;have ak:Qb v1 V:=(bR.alloc nL _).trans o;obtain ⟨be,a8,a4⟩:=hown.zP;obtain rfl:=a4;have R:=yD (hown.own r1.2.1);try simp only [List.nil_append] at R
 clear hown o hz;have a6:=ak.size;have F2:=(tQ E1 ak);replace XB:=yD (kC XB.out ak);replace W:=yD (kC W.out ak);replace XR:=yD (kC XR.out ak);replace F:=yD (F.out.below ak);clear ak af;have ag:=kE (b:=w.heap.size + 1 + 1) W.out (j:=1) (v:=.slice a1 x1.length L) rfl;have ao:=Aa V (w.heap.size + 1 + 1) 1 _ _ W.out;go_upto_region 4 with fail;generalize E:(V.setCell ⟨w.heap.size + 1 + 1,1,none⟩ (.slice be x1.length a8))=v2;have X:Qr v2 (w.heap.size + 1 + 1) #[Qs N x0 G,Qs be x1 a8,.slice a2 (x2).length p2,Qn x3,Qn x4] 68:=by
  rw [<- E];have y0:=Ac _ (w.heap.size + 1 + 1) 1 _ 68 (.slice be x1.length a8) W.out;exact y0
 replace XB:=yD (show Qr v2 w.heap.size #[.slice a0 (x0).length Z,Qs a1 x1 L,.slice a2 (x2).length p2,Qn x3,Qn x4] 68 from by rw [<- E];exact ((Ab _ ⟨w.heap.size + 1 + 1,1,none⟩ (w.heap.size) _ (show w.heap.size≠w.heap.size + 1 + 1 by omega)).trans XB.out));replace XR:=yD (show Qr v2 (w.heap.size + 1) #[.slice none 0 0,.slice none 0 0,.slice none 0 0,Qn 0,Qn 0] 68 from by rw [<- E];exact ((Ab _ ⟨w.heap.size + 1 + 1,1,none⟩ (w.heap.size + 1) _ (show w.heap.size + 1≠w.heap.size + 1 + 1 by omega)).trans XR.out));replace W:=yD X;clear X;obtain ⟨E2,ab,F,R⟩:=FU;clear E F2 ag ao;have J:=kE (b:=w.heap.size) XB.out (j:=2) (v:=.slice a2 (x2).length p2) rfl;go_wp2_with fail;refine (zJ (r2.below E2)).mono ?_;rintro e w3 ⟨tc,rfl,O3,ar⟩;obtain ⟨au,rfl,ac⟩:=kZ O3.raw;obtain ⟨U,H,rfl,aw⟩:=kD.sl ac;clear ac;have ai:=yD O3;clear O3;have bk:=ar.size;have F3:=(tQ E2 ar);replace XB:=yD (kC XB.out ar);replace W:=yD (kC W.out ar);replace XR:=yD (kC XR.out ar);replace F:=yD (F.out.below ar);replace R:=yD (R.out.below ar);clear ar J;have al:=kE (b:=w.heap.size + 1 + 1) W.out (j:=2) (v:=.slice a2 (x2).length p2) rfl;have an:=Aa w3 (w.heap.size + 1 + 1) 2 _ _ W.out;go_upto_region 5 with fail;generalize E:(w3.setCell ⟨w.heap.size + 1 + 1,2,none⟩ (.slice U x2.length H))=v3;have X:Qr v3 (w.heap.size + 1 + 1) #[Qs N x0 G,Qs be x1 a8,Qs U x2 H,Qn x3,Qn x4] 68:=by
  rw [<- E];have y0:=Ac _ (w.heap.size + 1 + 1) 2 _ 68 (.slice U x2.length H) W.out;exact y0
 replace XB:=yD (show Qr v3 w.heap.size #[.slice a0 (x0).length Z,Qs a1 x1 L,.slice a2 (x2).length p2,Qn x3,Qn x4] 68 from by rw [<- E];exact ((Ab _ ⟨w.heap.size + 1 + 1,2,none⟩ (w.heap.size) _ (show w.heap.size≠w.heap.size + 1 + 1 by omega)).trans XB.out));replace XR:=yD (show Qr v3 (w.heap.size + 1) #[.slice none 0 0,.slice none 0 0,.slice none 0 0,Qn 0,Qn 0] 68 from by rw [<- E];exact ((Ab _ ⟨w.heap.size + 1 + 1,2,none⟩ (w.heap.size + 1) _ (show w.heap.size + 1≠w.heap.size + 1 + 1 by omega)).trans XR.out));replace W:=yD X;clear X;obtain ⟨E3,aq,F,R,ai⟩:=EK;clear E F3 al an;have K0:=kE (b:=w.heap.size + 1 + 1) W.out (j:=0) (v:=.slice N x0.length G) rfl;have R0:=kE (b:=w.heap.size + 1) XR.out (j:=0) rfl;have Z0:=Aa v3 (w.heap.size + 1) 0 _ _ XR.out;have K1:=kE (b:=w.heap.size + 1 + 1) W.out (j:=1) (v:=.slice be x1.length a8) rfl;have R1:=kE (b:=w.heap.size + 1) XR.out (j:=1) rfl;have Z1:=Aa v3 (w.heap.size + 1) 1 _ _ XR.out;have K2:=kE (b:=w.heap.size + 1 + 1) W.out (j:=2) (v:=.slice U x2.length H) rfl;have R2:=kE (b:=w.heap.size + 1) XR.out (j:=2) rfl;have Z2:=Aa v3 (w.heap.size + 1) 2 _ _ XR.out;have K3:=kE (b:=w.heap.size + 1 + 1) W.out (j:=3) (v:=.int .i64 x3) rfl;have R3:=kE (b:=w.heap.size + 1) XR.out (j:=3) rfl;have Z3:=Aa v3 (w.heap.size + 1) 3 _ _ XR.out;have K4:=kE (b:=w.heap.size + 1 + 1) W.out (j:=4) (v:=.int .i64 x4) rfl;have R4:=kE (b:=w.heap.size + 1) XR.out (j:=4) rfl;have Z4:=Aa v3 (w.heap.size + 1) 4 _ _ XR.out;go_wp2;have bn:=aa.out;have bz:=ab.out;have am:=aq.out;refine Aj (v:=.agg #[Qs N x0 G,Qs be x1 a8,Qs U x2 H,Qn x3,Qn x4]) (by simp [results,results83,go_sem,R0,Z0,R1,Z1,R2,Z2,R3,Z3,R4,Z4]) rfl ⟨[_,_,_,_,_],rfl,?_,?_⟩
 · exact aH
 repeat (first|(with_reducible exact E3) | refine Below.setCell ?_ qX _)
end Go.Proofs.YtonmjkmaadgceabGreat
namespace Go.Proofs.YtonmjkmaadgceabGreat
open Go _root_.Go.Proofs.Tryz
section
variable {P:Program} {l:Ak Oper} {S:Ad->Prop} {Q:Exit->Act->Ad->Prop} {fuel:Nat} {listed:Ak Bool} {a:Act} {w:Ad}
def kTw {i j m:Nat} {V J E:Oper} (hi:l[i]?=some V) (I:l[j]?=some J) (hm:l[m]?=some E) (hr:(Region.ready .any l.toArray listed.toArray==[i,j,m])=true) (D:Ai V (yielded l.toArray a.tmps)=true) (o:Ai J (yielded l.toArray a.tmps)=true) (F:Ai E (yielded l.toArray a.tmps)=true)
    (h1:∀ K:Act->Ad->Prop,(∀ a' w',S w'->tree P l S Q fuel (listed.set i true) a' w'->K a' w')->V.wp P a w K Q)
    (h2:∀ K:Act->Ad->Prop,(∀ a' w',S w'->tree P l S Q fuel (listed.set j true) a' w'->K a' w')->J.wp P a w K Q)
    (h3:∀ K:Act->Ad->Prop,(∀ a' w',S w'->tree P l S Q fuel (listed.set m true) a' w'->K a' w')->E.wp P a w K Q):tree P l S Q (fuel + 1) listed a w:=by
 unfold tree
 refine wpAnyH_all bA6 bD0 ?_
 intro k hk
 rcases List.mem_cons.1 hk with rfl | hk
 · exact kLg hi D h1
 rcases List.mem_cons.1 hk with rfl | hk
 · exact kLg I o h2
 obtain rfl:k=m:=bA0
 exact kLg hm F h3
def kIq (h:∀ (T:Nat->Ak Bool->Act->Ad->Prop) (A:Act),T=tree P l S Q->A=a->T fuel listed A w):tree P l S Q fuel listed a w:=h _ _ rfl rfl
end
end Go.Proofs.YtonmjkmaadgceabGreat
namespace Go.Proofs.YtonmjkmaadgceabGreat
open Go.RowKit _root_.Go.Proofs.Tryz
def kMk {w0 w:Ad} {p:Nat} (hc:yU w0 w p) {n:Int} (hn:256 < n) (o:n<=16777216) :
    Calls prog 14 #[.pointer (some ⟨p,0,none⟩),.int .i64 n] w λe w'=>∃ x:Int,0<=x/\x < n/\e=.returned (.int .i64 x)/\yU w0 w' p/\Touch (λk=>k=p) w w':=by
 go_enter func14,ntmps14
 obtain ⟨bf,b4⟩:=hc.lt
 have hne:¬ n=0:=bC9
 have E:¬ n < 0:=bC9
 have ck:¬ n<=0:=bC9
 have dh:¬ n<=256:=bC9
 go_wp2_with fail
 refine (kDy hc).mono ?_
 rintro e Y ⟨x,ao,L,rfl,G,D⟩
 have bd:=D.size
 have N:=D
 clear hc D
 have hc:=G
 clear G
 go_wp2_with fail
 refine (kDy hc).mono ?_
 rintro e V ⟨y,b7,bn,rfl,G,D⟩
 have bk:=D.size
 replace N:=N.trans D
 clear hc D
 have hc:=G
 clear G
 go_wp2_with fail
 refine (kDy hc).mono ?_
 rintro e w3 ⟨z,bx,bq,rfl,G,D⟩
 have bl:=D.size
 replace N:=N.trans D
 clear hc D
 have hc:=G
 clear G
 have b9:Ag.wrap (x * 65536)=x * 65536:=Ae _ bC9
 have az:Ag.wrap (y * 256)=y * 256:=Ae _ bC9
 have H:Ag.wrap (x * 65536 + y * 256)=x * 65536 + y * 256:=Ae _ bC9
 have I:Ag.wrap (x * 65536 + y * 256 + z)=x * 65536 + y * 256 + z:=Ae _ bC9
 have bt:=Int.emod_nonneg (x * 65536 + y * 256 + z) hne
 have ah:=Int.emod_lt_of_pos (x * 65536 + y * 256 + z) (show 0 < n by omega)
 go_wp2
 go_ret
 exact ⟨_,bt,ah,rfl,hc,N⟩
def kWm {w0 w:World} {p:Nat} (hc:yU w0 w p) {n:Nat} (hn:n<=256) :
    Calls prog 163 #[.pointer (some ⟨p,0,none⟩),.int .i64 n] w λe w'=>∃ a c l,e=.returned (.slice a l.length c)/\l.length=n/\(kD.slice 5 kD.byte).own w' [Qs a l c] l (jX w.heap.size w'.heap.size)/\yU w0 w' p/\Touch (λk=>k=p) w w':=by
 go_enter func163,ntmps163
 obtain ⟨bf,b4⟩:=hc.lt
 go_upto_region 2 with fail
 generalize F:World.alloc w _=Y
 have X:Qb w Y:=rM
 have bd:w.heap.size + 1<=Y.heap.size:=bB1
 clear F
 obtain ⟨hc,N⟩:=xQ
 clear X
 go_wp2
 go_loopw [5,6] (λv i wr=>∃ (j:Nat) (a:Option Addr) (c:Nat) (l:List UInt8),v=.slice a l.length c/\i=.int .i64 j/\Hid (l.length=j)/\j<=n/\Hid ((kD.slice 5 kD.byte).own wr [Qs a l c] l (jX w.heap.size wr.heap.size))/\Y.heap.size<=wr.heap.size/\yU w0 wr p/\Touch (λk=>k=p) w wr) (λ_ i _=>n - (intOf i).toNat)
 case atStart=>exact ⟨0,_,0,[],rfl,rfl,yD rfl,Nat.zero_le _,yD kD.jd,Nat.le_refl _,hc,N⟩
 clear hc N
 obtain ⟨j,a,c,l,rfl,rfl,HN,I,J,dt,hc,N⟩:=hrel
 have bq:=N.size
 by_cases hlt:j < n
 · replace J:=yD (J.out.wide (T:=jX w.heap.size wr.heap.size) (λ_ h=>h));have a6:(j:Int) < (n:Int):=bC9;go_wp2_with fail;refine (kDy hc).mono ?_;rintro e w4 ⟨x,ao,L,rfl,G,D⟩;have bw:=D.size;obtain ⟨J,N⟩:=xM;clear hc D;have hc:=G;clear G;have hw:IntKind.u8.wrap x=x:=IntWalk.u8_in _ bC9;obtain ⟨m,rfl⟩:=Int.eq_ofNat_of_zero_le ao;have H:(m:Int)=((UInt8.ofNat m).toNat:Int):=by rw [UInt8.toNat_ofNat'];omega
   have R:=yD H;clear H;go_wp2_with (at_builtin;refine kD.yZ rfl _ _ 22 rfl (r:=kD.byte) (e:=5) underlying22 kEj rfl bC8 bC8 J.out bR (kPk (x:=UInt8.ofNat m) R.out) bD1 bD1 (λ_ _ h=>h) vW ?_);intro v9 w9 bp ap;have Z:=ap.size;have O:=yD (show (l++[UInt8.ofNat m]).length=j + 1 by simp [HN.out]);generalize l++[UInt8.ofNat m]=q at *;obtain ⟨a9,c9,b7,_⟩:=kD.kAy bp.raw;obtain rfl:v9=_:=by simpa using b7
   have b5:=yD (bp.wide (T:=jX w.heap.size w9.heap.size) (λk q=>by rcases q with q | q;exact ⟨q.1,by have:=q.2;omega⟩;exact ⟨by have:=q.1;omega,q.2⟩));have E:=hc.touch ap sZ sK;have o:=N.kBv ap (λk q=>q.1.1);clear bp ap b7 J HN;go_wp2;go_roundw;case rel=>exact ⟨j + 1,a9,c9,q,rfl,by go_num,O,by omega,b5,by omega,E,o⟩
   simp [intOf];omega
 have a6:¬ (j:Int) < (n:Int):=bC9
 go_wp2
 go_ret
 exact ⟨a,c,l,rfl,by have:=HN.out;omega,J.out,hc,N⟩
def kCe {w0 w:Ad} {p:Nat} (hc:yU w0 w p) {x:Int} (h0:0<=x) (h1:x<=256) :
    Calls prog 163 #[.pointer (some ⟨p,0,none⟩),.int .i64 x] w λe w'=>∃ a c l,e=.returned (.slice a l.length c)/\(l.length:Int)=x/\(kD.slice 5 kD.byte).own w' [Qs a l c] l (jX w.heap.size w'.heap.size)/\yU w0 w' p/\Touch (λk=>k=p) w w':=by
 obtain ⟨n,rfl⟩:=Int.eq_ofNat_of_zero_le h0
 refine (kWm hc (n:=n) bC9).mono ?_
 rintro e Y ⟨a,c,l,rfl,hl,hO,h2,h3⟩
 exact ⟨a,c,l,rfl,by omega,hO,h2,h3⟩
def kZf {w0 w:Ad} {p:Nat} (hc:yU w0 w p) :
    Calls prog 148 #[.pointer (some ⟨p,0,none⟩)] w λe w'=>∃ x:Int,e=.returned (.int .i64 x)/\-1<=x/\x<=2147483648/\yU w0 w' p/\Touch (λk=>k=p) w w':=by
 go_enter func148,ntmps148
 obtain ⟨bf,b4⟩:=hc.lt
 go_wp2_with fail
 refine (kAk (n:=10) hc bC8).mono ?_
 rintro e Y ⟨b,rfl,G,D⟩
 have bd:=D.size
 have N:=D
 clear hc D
 have hc:=G
 clear G
 cases b
 · go_wp2_with fail;refine (kAk (n:=4) hc bC8).mono ?_;rintro e V ⟨b2,rfl,G,D⟩;have bk:=D.size;replace N:=N.trans D;clear hc D;have hc:=G;clear G;cases b2
   · go_wp2_with fail;refine (kMk (n:=1000000) hc bC8 bC8).mono ?_;rintro e w3 ⟨x,ao,L,rfl,G,D⟩;have bl:=D.size;replace N:=N.trans D;clear hc D;have hc:=G;clear G;go_wp2_with fail;refine (kMk (n:=2000) hc bC8 bC8).mono ?_;rintro e w4 ⟨y,b7,bn,rfl,G,D⟩;have bw:=D.size;replace N:=N.trans D;clear hc D;have hc:=G;clear G;have h0:0<=x * y:=Int.mul_nonneg ao b7;have h1:x * y<=1000000 * 2000:=Int.mul_le_mul bC9 bC9 b7 bC9;have hw:Ag.wrap (x * y)=x * y:=Ae _ bC9;exact eU
   go_wp2_with fail;refine (kBp (hc.below (bR.alloc nL _)) (kD.kGy _ [0,1,2147483646] bC8 bC8) bC9 bC8 bC8).mono ?_;rintro e w3 ⟨y,au,a5,rfl,G,D⟩;replace D:=(Touch.of_below (S:=λk=>k=p) (bR.alloc nL _)).trans D;have bl:=D.size;replace N:=N.trans D;clear hc D;have hc:=G;clear G;have hy:=kD.kGx (lo:=0) (hi:=2147483646) bC8 au;clear au;exact eU
 go_wp2_with fail
 refine (kBp (hc.below (bR.alloc nL _)) (kD.kGy _ [-1,2147483647,2147483648] bC8 bC8) bC9 bC8 bC8).mono ?_
 rintro e V ⟨y,au,a5,rfl,G,D⟩
 replace D:=(Touch.of_below (S:=λk=>k=p) (bR.alloc nL _)).trans D
 have bk:=D.size
 replace N:=N.trans D
 clear hc D
 have hc:=G
 clear G
 have hy:=kD.kGx (lo:=-1) (hi:=2147483648) bC8 au
 clear au
 exact eU
def kVx {w:Ad} {v0 v1 v2:Ah} {n k:ko} {b:Ak UInt8} {f s:Int} {S:Nat->Prop} (h0:kU.ji w [v0] n S) (h1:(kD.slice 5 kD.byte).ji w [v1] b S) (h2:kU.ji w [v2] k S) (hf:Qi f) (hs:Qi s):jJ.ji w [v0,v1,v2,Qn f,Qn s] (n,b,k,f,s) S :=
  kD.kAp (r:=kU) (q:=.pair (kD.slice 5 kD.byte) (.pair kU (.pair .int .int))) (z:=(n,b,k,f,s)) h0 (kD.kAp (r:=(kD.slice 5 kD.byte)) (q:=.pair kU (.pair .int .int)) (z:=(b,k,f,s)) h1 (kD.kAp (r:=kU) (q:=.pair .int .int) (z:=(k,f,s)) h2 (kD.flat.ji (kD.yC (cs:=[.int .i64 f]) (kD.jB hf) (kD.jB hs)))))
def zZ {w:Ad} {cs:Ak Ah} {x:jN} (h:jJ.raw w cs x):∃ a0 c0 a1 c1 a2 c2,cs=[.slice a0 x.1.length c0,.slice a1 x.2.1.length c1,.slice a2 x.2.2.1.length c2,.int .i64 x.2.2.2.1,.int .i64 x.2.2.2.2]:=by
 obtain ⟨v0,v1,v2,rfl,ab,Z,ai,ah,I,R,L⟩:=jb h;obtain ⟨a0,c0,rfl,_⟩:=kD.sl Z;obtain ⟨a1,c1,rfl,_⟩:=kD.sl ai;obtain ⟨a2,c2,rfl,_⟩:=kD.sl I;exact ⟨_,_,_,_,_,_,rfl⟩
def data_rng {w:Ad} {cs:Ak Ah} {x:jN} (h:jJ.raw w cs x):Qi x.2.2.2.1/\Qi x.2.2.2.2:=by
 obtain ⟨v0,v1,v2,rfl,ab,Z,ai,ah,I,R,L⟩:=jb h;exact ⟨R,L⟩
def DrawnD (m:Nat) (w0 w:Ad) (p:Nat) (e:Ending) (w':Ad):Prop:=∃ ds x,e=.returned (.agg ds.toArray)/\jJ.own w' ds x (jX w.heap.size w'.heap.size)/\x.2.1.length<=m/\yU w0 w' p/\Touch (λk=>k=p) w w'
def jAb {w:Ad} {c0 c1 c2 c3 c4 v:Ah} {x0 y:ko} {x1:Ak UInt8} {x2:ko} {x3 x4:Int} {S T:Nat->Prop} (h:jJ.own w [c0,c1,c2,c3,c4] (x0,x1,x2,x3,x4) S) (hv:kU.own w [v] y T) (hd:∀ k,S k->T k->False):jJ.own w [v,c1,c2,c3,c4] (y,x1,x2,x3,x4) (λk=>S k\/T k) :=
  kD.set_left (r:=kU) (q:=.pair (kD.slice 5 kD.byte) (.pair kU (.pair .int .int))) (c:=[c0]) (c':=[v]) (d:=[c1,c2,c3,c4]) h rfl hv hd
def kSw {w:Ad} {c0 c1 c2 c3 c4 v:Ah} {x0:ko} {x1 y:Ak UInt8} {x2:ko} {x3 x4:Int} {S T:Nat->Prop} (h:jJ.own w [c0,c1,c2,c3,c4] (x0,x1,x2,x3,x4) S) (hv:(kD.slice 5 kD.byte).own w [v] y T) (hd:∀ k,S k->T k->False):jJ.own w [c0,v,c2,c3,c4] (x0,y,x2,x3,x4) (λk=>S k\/T k) :=
  kD.set_right (r:=kU) (q:=.pair (kD.slice 5 kD.byte) (.pair kU (.pair .int .int))) (c:=[c0]) (d:=[c1,c2,c3,c4]) (d':=[v,c2,c3,c4]) h rfl (λB hB hq=>kD.set_left (r:=(kD.slice 5 kD.byte)) (q:=.pair kU (.pair .int .int)) (c:=[c1]) (c':=[v]) (d:=[c2,c3,c4]) hq rfl hv (λk a b=>hd k (hB k a) b)) hd
def data_setKey {w:Ad} {c0 c1 c2 c3 c4 v:Ah} {x0:ko} {x1:Ak UInt8} {x2 y:ko} {x3 x4:Int} {S T:Nat->Prop} (h:jJ.own w [c0,c1,c2,c3,c4] (x0,x1,x2,x3,x4) S) (hv:kU.own w [v] y T) (hd:∀ k,S k->T k->False):jJ.own w [c0,c1,v,c3,c4] (x0,x1,y,x3,x4) (λk=>S k\/T k) :=
  kD.set_right (r:=kU) (q:=.pair (kD.slice 5 kD.byte) (.pair kU (.pair .int .int))) (c:=[c0]) (d:=[c1,c2,c3,c4]) (d':=[c1,v,c3,c4]) h rfl (λB hB hq=>kD.set_right (r:=(kD.slice 5 kD.byte)) (q:=.pair kU (.pair .int .int)) (c:=[c1]) (d:=[c2,c3,c4]) (d':=[v,c3,c4]) hq rfl (λU E az=>kD.set_left (r:=kU) (q:=.pair .int .int) (c:=[c2]) (c':=[v]) (d:=[c3,c4]) az rfl hv (λk a b=>hd k (hB k (E k a)) b)) (λk a b=>hd k (hB k a) b)) hd
def jAa {w:Ad} {c0 c1 c2 c3 c4:Ah} {x0:ko} {x1:Ak UInt8} {x2:ko} {x3 x4 v:Int} {S:Nat->Prop} (h:jJ.own w [c0,c1,c2,c3,c4] (x0,x1,x2,x3,x4) S) (hv:Qi v):jJ.own w [c0,c1,c2,Qn v,c4] (x0,x1,x2,v,x4) S:=⟨RData_set3 v hv h.1,h.2⟩
def kRu {w:Ad} {c0 c1 c2 c3 c4:Ah} {x0:ko} {x1:Ak UInt8} {x2:ko} {x3 x4 v:Int} {S:Nat->Prop} (h:jJ.own w [c0,c1,c2,c3,c4] (x0,x1,x2,x3,x4) S) (hv:Qi v):jJ.own w [c0,c1,c2,c3,Qn v] (x0,x1,x2,x3,v) S:=⟨RData_set4 v hv h.1,h.2⟩
def kGb {w:Ad} {s:Int} (hs:Qi s) {cx:Ak Ah} {x:jN} (hx:jJ.rd w cx x) (cq:x.2.1.length<=2000000) :
    Calls prog 178 #[.int .i64 s,.agg cx.toArray] w λe w'=>∃ sg ds,e=.returned (.agg ds.toArray)/\jJ.own w' ds (x.1,x.2.1,x.2.2.1,x.2.2.2.1,sg) (jX w.heap.size w'.heap.size)/\(0<=sg/\sg < 2147483647)/\Qb w w':=by
 obtain ⟨x0,x1,x2,x3,x4⟩:=x
 have HX:=yD hx
 have aj:=yD cq
 have d9:=signed_len (x0,x1,x2,x3,x4)
 simp only at d9 cq
 obtain ⟨a7,eh,az,rfl,ab,Z,ai,ah,I,R,L⟩:=jb hx.1
 obtain ⟨ch,am,rfl,a3⟩:=kD.sl Z
 obtain ⟨b3,co,rfl,av⟩:=kD.sl ai
 obtain ⟨cd,an,rfl,a6⟩:=kD.sl I
 clear hx ab Z ai ah I R L
 go_enter func178,ntmps178
 go_upto_region 1 with fail
 generalize F:World.alloc (World.alloc w _) _=Y
 have U:Qb w Y:=by rw [<- F];exact bF
 have BX:Qr Y w.heap.size #[Qs ch x0 am,Qs b3 x1 co,Qs cd x2 an,Qn x3,Qn x4] 68:=sI
 have BR:Qr Y (w.heap.size + 1) #[.slice none 0 0,.slice none 0 0,.slice none 0 0,Qn 0,Qn 0] 68:=by rw [<- F];exact kG bD0
 have bd:w.heap.size + 2<=Y.heap.size:=bB1
 clear F
 obtain ⟨X,aa,af,ac,ae⟩:=yt BX
 go_wp2_with fail
 refine (kBw (HX.out.below U)).mono ?_
 rintro e V ⟨cs,rfl,O,hb⟩
 have bk:=hb.size
 replace BX:=kC BX hb
 replace BR:=kC BR hb
 replace U:=(tQ U hb)
 clear X aa af ac ae
 clear hb
 obtain ⟨gd,aq,gf,rfl,e1,fe,fd,ey,es,e4,e5⟩:=jb O.raw
 obtain ⟨cc,ck,rfl,gc⟩:=kD.sl fe
 obtain ⟨ad,W,rfl,ay⟩:=kD.sl fd
 obtain ⟨c9,dh,rfl,gg⟩:=kD.sl es
 clear e1 fe fd ey es e4 e5
 have J:=yD (O.wide (T:=λj=>w.heap.size + 2<=j/\j < V.heap.size) qY)
 clear O
 go_upto_region 2 with fail
 generalize F:World.alloc V _=w3
 have ak:Qb V w3:=rM
 have BO:Qr w3 V.heap.size #[Qs cc x0 ck,Qs ad x1 W,Qs c9 x2 dh,Qn x3,Qn x4] 68:=vB
 have bl:V.heap.size + 1<=w3.heap.size:=bB1
 clear F
 replace BX:=kC BX ak
 obtain ⟨BR,J,U⟩:=DJ
 clear ak
 obtain ⟨X,aa,af,ac,ae⟩:=yt BX
 go_wp2_with fail
 refine (kLu (HX.out.below U) aj.out).mono ?_
 rintro e w4 ⟨vg,rfl,OG,hb⟩
 have bw:=hb.size
 replace BX:=kC BX hb
 obtain ⟨BR,BO,J,U⟩:=xN
 clear X aa af ac ae
 clear hb
 obtain ⟨ag,ng,cg,ap,au⟩:=OG.parts
 obtain rfl:=ap
 have RG:=yD ((OG.own wH).rd)
 clear OG
 obtain ⟨G,o,H,D,N⟩:=yt BO
 obtain ⟨ar,ax,aw,a1,a2⟩:=kBr BO
 go_wp2_with fail
 refine (kPr hs RG.out bC9).mono ?_
 rintro e w5 ⟨rfl,hb⟩
 have bv:=hb.size
 replace BX:=kC BX hb
 obtain ⟨BR,BO,J,U⟩:=xN
 clear G o H D N ar ax aw a1 a2
 clear hb
 have al:=kVw ([s]++signed (x0,x1,x2,x3,x4)++[s])
 have ao:0<=macOf s (signed (x0,x1,x2,x3,x4))/\macOf s (signed (x0,x1,x2,x3,x4)) < 2147483647:=al
 generalize macOf s (signed (x0,x1,x2,x3,x4))=sg at *
 clear al d9 RG au aj cq
 obtain ⟨G,o,H,D,N⟩:=yt BO
 obtain ⟨ar,ax,aw,a1,a2⟩:=kBr BO
 go_upto_region 3 with fail
 clear G o H D N ar ax aw a1 a2
 generalize F:World.setCell w5 _ _=w6
 have E:Touch (λk=>k=V.heap.size) w5 w6:=vO
 replace BO:Qr w6 V.heap.size #[Qs cc x0 ck,Qs ad x1 W,Qs c9 x2 dh,Qn x3,Qn sg] 68:=tZ
 have cf:=E.size
 clear F
 replace BX:=E.kC BX bC9
 replace BR:=E.kC BR bC9
 replace J:=yD (J.out.touch E pJ)
 replace U:=U.trans (E.below U.size wM)
 clear E
 replace J:=yD (kRu J.out (v:=sg) bC9)
 obtain ⟨G,o,H,D,N⟩:=yt BO
 obtain ⟨a4,a5,b8,b5,ca⟩:=yt BR
 obtain ⟨bh,bf,b4,b7,b9⟩:=kBr BR
 go_wp2
 refine Aj (v:=.agg #[Qs cc x0 ck,Qs ad x1 W,Qs c9 x2 dh,Qn x3,Qn sg]) (by simp [results,results178,go_sem,a4,bh,a5,bf,b8,b4,b5,b7,ca,b9]) rfl ⟨sg,[.slice cc x0.length ck,.slice ad x1.length W,.slice c9 x2.length dh,.int .i64 x3,.int .i64 sg],rfl,?_,ao,?_⟩
 · exact (J.out.touch sT5 rF).wide fC
 exact U.trans (Touch.below sT5 U.size wM)
def kTz {w0 w:Ad} {p:Nat} (hc:yU w0 w p) :
    Calls prog 179 #[.pointer (some ⟨p,0,none⟩)] w λe w'=>∃ s:Int,e=.returned (.int .i64 s)/\100<=s/\s<=104/\yU w0 w' p/\Touch (λk=>k=p) w w':=by
 go_enter func179,ntmps179
 obtain ⟨bf,b4⟩:=hc.lt
 go_wp2_with fail
 refine (kr (n:=5) hc bC8).mono ?_
 rintro e Y ⟨x,ao,L,a1,rfl,G,D⟩
 have bd:=D.size
 have N:=D
 clear hc D
 have hc:=G
 clear G
 replace L:=L bC8
 have hw:Ag.wrap (100 + x)=100 + x:=Ae _ bC9
 exact eU
end Go.Proofs.YtonmjkmaadgceabGreat

/-
  Patterns that are valid.
-/
import Derived.Test.YthocbplmdjkifabGreatSig
set_option linter.unusedVariables false
set_option linter.defProp false
set_option linter.unusedSimpArgs false
set_option linter.unnecessarySimpa false
set_option maxRecDepth 100000
set_option maxHeartbeats 4000000
open Go renaming frozen_of_row->Aa,heap_setCell_other->Ab,heap_setCell_same->Ad,World->Ae,Value->Aj,Calls->Ak,bodyPost_ret->Aq
open Go.IntWalk renaming i64_in->Ac
open ByteArray renaming empty->Ag
open Go.IntKind renaming i64->Ah
open _root_ renaming ByteArray->Ai,List->Am,decide_not->Ap
open Go.Region renaming wanted->Al
namespace Go.Proofs.YthocbplmdjkifabGreat
open Go.RowKit _root_.Go.Proofs.Tryz
variable {cx:Am Aj} {w:Ae} {x:jK}
def kCy (hx:jC.rd w cx x):Ak prog 35 #[.agg cx.toArray] w (kAm jC x w):=by
 obtain ⟨hx,a3⟩:=hx;obtain ⟨v0,v1,v2,rfl,ac,bc,bl,bj,bf,bp,bt⟩:=jT hx;obtain ⟨x0,x1,x2,x3,x4⟩:=x;obtain ⟨a0,p0,rfl,_,a1,p1,rfl,_,a2,p2,rfl,_⟩:=kD.sx bc (kD.sx bl (kD.sl bf));have r0:kQ.rd w _ x0:=⟨ac,a3.1⟩;have r1:Cc.rd w _ x1:=⟨bl,a3.2.1⟩;have r2:kQ.rd w _ x2:=⟨bj,a3.2.2.1⟩;refine aN bp bt λN3 N4=>?_;clear a3 hx ac bc bl bj bf bp bt;go_enter func35,ntmps35;go_upto_region 1 with fail;refine fK λv0 U E0=>?_;have a7:v0.heap.size=w.heap.size + 2:=bH6;have N:Hid (Qr v0 w (Qj a0 x0 p0 a1 x1 p1 a2 x2 p2 x3 x4) 43):=yD wP;have H:Hid (Qr v0 (w.heap.size + 1) #[.slice none 0 0,.slice none 0 0,.slice none 0 0,Qn 0,Qn 0] 43):=yD vZ;clear U;have au:=kE (b:=w.heap.size) N.out (j:=0) (v:=Qs a0 x0 p0) rfl;go_wp2_with fail;refine (zl (r0.below E0)).mono ?_;refine eD λw1 tc O1 O=>?_;obtain ⟨az,rfl,ai⟩:=kT O1.raw;obtain ⟨I,F,rfl,ay⟩:=kD.sl ai;clear ai;refine xV O1 O E0 N H λR a4 F1 N H=>?_;clear O1;clear O au;have an:=kE (b:=w.heap.size) N.out (j:=0) (v:=Qs a0 x0 p0) rfl;have al:=Aa w1 (w.heap.size) 0 _ _ N.out;go_upto_region 2 with fail;generalize E:(w1.setCell ⟨w,0,none⟩ (Qs I x0 F))=v1;have W:Qr v1 w (Qj I x0 F a1 x1 p1 a2 x2 p2 x3 x4) 43:=by
  rw [<- E];have y0:=Ad _ (w.heap.size) 0 _ 43 (Qs I x0 F) N.out;exact y0
 replace H:=yD (show Qr v1 (w.heap.size + 1) #[.slice none 0 0,.slice none 0 0,.slice none 0 0,Qn 0,Qn 0] 43 from by rw [<- E];exact ((Ab _ ⟨w,0,none⟩ (w.heap.size + 1) _ (show w.heap.size + 1≠w.heap.size by omega)).trans H.out));replace N:=yD W;refine FM N λE1 aa R Z=>?_;clear W F1 an al E;go_wp2_with fail;refine (jJb (r1.below E1)).mono ?_;refine eD λw2 tv O2 V=>?_;obtain ⟨a8,cl,rfl,_⟩:=kD.sl O2.raw;refine xV O2 V E1 N H λae am F2 N H=>?_;clear O2;replace R:=yD (R.below V);clear V Z;have ak:=kE (b:=w.heap.size) N.out (j:=1) (v:=Qs a1 x1 p1) rfl;have ar:=Aa w2 (w.heap.size) 1 _ _ N.out;go_upto_region 3 with fail;generalize E:(w2.setCell ⟨w,1,none⟩ (Qs a8 x1 cl))=v2;have W:Qr v2 w (Qj I x0 F a8 x1 cl a2 x2 p2 x3 x4) 43:=by
  rw [<- E];have y0:=Ad _ (w.heap.size) 1 _ 43 (Qs a8 x1 cl) N.out;exact y0
 replace H:=yD (show Qr v2 (w.heap.size + 1) #[.slice none 0 0,.slice none 0 0,.slice none 0 0,Qn 0,Qn 0] 43 from by rw [<- E];exact ((Ab _ ⟨w,1,none⟩ (w.heap.size + 1) _ (show w.heap.size + 1≠w.heap.size by omega)).trans H.out));replace N:=yD W;refine DX N λE2 X R ae ah=>?_;clear W F2 ak ar E;go_wp2_with fail;refine (zl (r2.below E2)).mono ?_;refine eD λw3 tc O3 ag=>?_;obtain ⟨aw,rfl,af⟩:=kT O3.raw;obtain ⟨L,G,rfl,ax⟩:=kD.sl af;clear af;refine xV O3 ag E2 N H λap bq F3 N H=>?_;clear O3;refine aD R ag ae λR ae=>?_;clear ag ah;have ao:=kE (b:=w.heap.size) N.out (j:=2) (v:=Qs a2 x2 p2) rfl;have aq:=Aa w3 (w.heap.size) 2 _ _ N.out;go_upto_region 4 with fail;generalize E:(w3.setCell ⟨w,2,none⟩ (Qs L x2 G))=v3;have W:Qr v3 w (Qj I x0 F a8 x1 cl L x2 G x3 x4) 43:=by
  rw [<- E];have y0:=Ad _ (w.heap.size) 2 _ 43 (Qs L x2 G) N.out;exact y0
 replace H:=yD (show Qr v3 (w.heap.size + 1) #[.slice none 0 0,.slice none 0 0,.slice none 0 0,Qn 0,Qn 0] 43 from by rw [<- E];exact ((Ab _ ⟨w,2,none⟩ (w.heap.size + 1) _ (show w.heap.size + 1≠w.heap.size by omega)).trans H.out));refine DW λN E3 av R ae ap=>?_;clear W F3 ao aq E;have Y:=kE (b:=w.heap.size) N.out (j:=0) (v:=Qs I x0 F) rfl;have R0:=kE (b:=w.heap.size + 1) H.out (j:=0) rfl;have Z0:=Aa v3 (w.heap.size + 1) 0 _ _ H.out;have K1:=kE (b:=w.heap.size) N.out (j:=1) (v:=Qs a8 x1 cl) rfl;have R1:=kE (b:=w.heap.size + 1) H.out (j:=1) rfl;have Z1:=Aa v3 (w.heap.size + 1) 1 _ _ H.out;have K2:=kE (b:=w.heap.size) N.out (j:=2) (v:=Qs L x2 G) rfl;have R2:=kE (b:=w.heap.size + 1) H.out (j:=2) rfl;have Z2:=Aa v3 (w.heap.size + 1) 2 _ _ H.out;have K3:=kE (b:=w.heap.size) N.out (j:=3) (v:=.int .i64 x3) rfl;have R3:=kE (b:=w.heap.size + 1) H.out (j:=3) rfl;have Z3:=Aa v3 (w.heap.size + 1) 3 _ _ H.out;have K4:=kE (b:=w.heap.size) N.out (j:=4) (v:=.int .i64 x4) rfl;have R4:=kE (b:=w.heap.size + 1) H.out (j:=4) rfl;have Z4:=Aa v3 (w.heap.size + 1) 4 _ _ H.out;go_wp2;have ab:=aa.out;have cz:=X.out;have aj:=av.out;refine Aq (v:=.agg (Qj I x0 F a8 x1 cl L x2 G x3 x4)) (by simp [results,results35,go_sem,R0,Z0,R1,Z1,R2,Z2,R3,Z3,R4,Z4]) rfl ⟨[_,_,_,_,_],rfl,?_,?_⟩;exact lX;exact IZ E3
def kBv (hx:jC.rd w cx x):Ak prog 49 #[.agg cx.toArray] w (kAm jC x w):=by
 obtain ⟨hx,a3⟩:=hx;obtain ⟨v0,v1,v2,rfl,ac,bc,bl,bj,bf,bp,bt⟩:=jT hx;obtain ⟨x0,x1,x2,x3,x4⟩:=x;obtain ⟨a0,p0,rfl,_,a1,p1,rfl,_,a2,p2,rfl,_⟩:=kD.sx bc (kD.sx bl (kD.sl bf));have r0:kQ.rd w _ x0:=⟨ac,a3.1⟩;have r1:Cc.rd w _ x1:=⟨bl,a3.2.1⟩;have r2:kQ.rd w _ x2:=⟨bj,a3.2.2.1⟩;refine aN bp bt λN3 N4=>?_;clear a3 hx ac bc bl bj bf bp bt;go_enter func49,ntmps49;go_upto_region 2 with fail;refine l9 λv0 U E0=>?_;have a7:v0.heap.size=w.heap.size + 3:=bH6;have XB:Hid (Qr v0 w (Qj a0 x0 p0 a1 x1 p1 a2 x2 p2 x3 x4) 43):=yD tZ;have H:Hid (Qr v0 (w.heap.size + 1) #[.slice none 0 0,.slice none 0 0,.slice none 0 0,Qn 0,Qn 0] 43):=yD tL;have N:Hid (Qr v0 (w.heap.size + 1 + 1) (Qj a0 x0 p0 a1 x1 p1 a2 x2 p2 x3 x4) 43):=yD vZ;clear U;have au:=kE (b:=w.heap.size) XB.out (j:=0) (v:=Qs a0 x0 p0) rfl;go_wp2_with fail;refine (zo (r0.below E0)).mono ?_;refine eD λw1 tc O1 O=>?_;obtain ⟨az,rfl,ai⟩:=kT O1.raw;obtain ⟨I,F,rfl,ay⟩:=kD.sl ai;clear ai;refine xV O1 O E0 XB N λR a4 F1 XB N=>?_;clear O1;replace H:=yD (kC H.out O);clear O au;have an:=kE (b:=w.heap.size + 1 + 1) N.out (j:=0) (v:=Qs a0 x0 p0) rfl;have al:=Aa w1 (w.heap.size + 1 + 1) 0 _ _ N.out;go_upto_region 3 with fail;generalize E:(w1.setCell ⟨w.heap.size + 1 + 1,0,none⟩ (Qs I x0 F))=v1;have W:Qr v1 (w.heap.size + 1 + 1) (Qj I x0 F a1 x1 p1 a2 x2 p2 x3 x4) 43:=by
  rw [<- E];have y0:=Ad _ (w.heap.size + 1 + 1) 0 _ 43 (Qs I x0 F) N.out;exact y0
 replace XB:=yD (show Qr v1 w (Qj a0 x0 p0 a1 x1 p1 a2 x2 p2 x3 x4) 43 from by rw [<- E];exact ((Ab _ ⟨w.heap.size + 1 + 1,0,none⟩ (w.heap.size) _ (show w.heap.size≠w.heap.size + 1 + 1 by omega)).trans XB.out));replace H:=yD (show Qr v1 (w.heap.size + 1) #[.slice none 0 0,.slice none 0 0,.slice none 0 0,Qn 0,Qn 0] 43 from by rw [<- E];exact ((Ab _ ⟨w.heap.size + 1 + 1,0,none⟩ (w.heap.size + 1) _ (show w.heap.size + 1≠w.heap.size + 1 + 1 by omega)).trans H.out));replace N:=yD W;refine FM XB λE1 aa R Z=>?_;clear W F1 an al E;replace Z:=cL (kD.kAb v1 (.cells #[] 5)) Z;go_wp2_with (at_builtin;refine kD.yH rfl _ _ 22 rfl (r:=kD.byte) (e:=5) underlying22 kDm rfl bJ4 bJ4 flatbyte (B:=v1.heap.size) (kD.ko.void (S:=λ_=>False)) bJ7 bJ7 ((r1.below E1).alloc _) (λ_ h=>h.elim) bJ6 (by have:=r1.2.1;simp;unfold Big at this;omega) ?_);intro tv w2 hown D hz;have V:Qb v1 w2:=(bR.alloc nL _).trans D;obtain ⟨a8,cl,a5⟩:=hown.zK;obtain rfl:=a5;have ae:=yD (hown.own r1.2.1);try simp only [List.nil_append] at ae
 clear hown D hz;have am:=V.size;have F2:=(tQ E1 V);replace XB:=yD (kC XB.out V);replace N:=yD (kC N.out V);replace H:=yD (kC H.out V);replace R:=yD (R.below V);clear V Z;have ak:=kE (b:=w.heap.size + 1 + 1) N.out (j:=1) (v:=Qs a1 x1 p1) rfl;have ar:=Aa w2 (w.heap.size + 1 + 1) 1 _ _ N.out;go_upto_region 4 with fail;generalize E:(w2.setCell ⟨w.heap.size + 1 + 1,1,none⟩ (Qs a8 x1 cl))=v2;have W:Qr v2 (w.heap.size + 1 + 1) (Qj I x0 F a8 x1 cl a2 x2 p2 x3 x4) 43:=by
  rw [<- E];have y0:=Ad _ (w.heap.size + 1 + 1) 1 _ 43 (Qs a8 x1 cl) N.out;exact y0
 replace XB:=yD (show Qr v2 w (Qj a0 x0 p0 a1 x1 p1 a2 x2 p2 x3 x4) 43 from by rw [<- E];exact ((Ab _ ⟨w.heap.size + 1 + 1,1,none⟩ (w.heap.size) _ (show w.heap.size≠w.heap.size + 1 + 1 by omega)).trans XB.out));replace H:=yD (show Qr v2 (w.heap.size + 1) #[.slice none 0 0,.slice none 0 0,.slice none 0 0,Qn 0,Qn 0] 43 from by rw [<- E];exact ((Ab _ ⟨w.heap.size + 1 + 1,1,none⟩ (w.heap.size + 1) _ (show w.heap.size + 1≠w.heap.size + 1 + 1 by omega)).trans H.out));replace N:=yD W;refine DX XB λE2 X R ae ah=>?_;clear W F2 ak ar E;go_wp2_with fail;refine (zo (r2.below E2)).mono ?_;refine eD λw3 tc O3 ag=>?_;obtain ⟨aw,rfl,af⟩:=kT O3.raw;obtain ⟨L,G,rfl,ax⟩:=kD.sl af;clear af;refine xV O3 ag E2 N H λap bq F3 N H=>?_;clear O3;refine aD R ag ae λR ae=>?_;clear ag ah;have ao:=kE (b:=w.heap.size + 1 + 1) N.out (j:=2) (v:=Qs a2 x2 p2) rfl;have aq:=Aa w3 (w.heap.size + 1 + 1) 2 _ _ N.out;go_upto_region 5 with fail;generalize E:(w3.setCell ⟨w.heap.size + 1 + 1,2,none⟩ (Qs L x2 G))=v3;have W:Qr v3 (w.heap.size + 1 + 1) (Qj I x0 F a8 x1 cl L x2 G x3 x4) 43:=by
  rw [<- E];have y0:=Ad _ (w.heap.size + 1 + 1) 2 _ 43 (Qs L x2 G) N.out;exact y0
 replace H:=yD (show Qr v3 (w.heap.size + 1) #[.slice none 0 0,.slice none 0 0,.slice none 0 0,Qn 0,Qn 0] 43 from by rw [<- E];exact ((Ab _ ⟨w.heap.size + 1 + 1,2,none⟩ (w.heap.size + 1) _ (show w.heap.size + 1≠w.heap.size + 1 + 1 by omega)).trans H.out));refine DW λN E3 av R ae ap=>?_;clear W F3 ao aq E;have Y:=kE (b:=w.heap.size + 1 + 1) N.out (j:=0) (v:=Qs I x0 F) rfl;have R0:=kE (b:=w.heap.size + 1) H.out (j:=0) rfl;have Z0:=Aa v3 (w.heap.size + 1) 0 _ _ H.out;have K1:=kE (b:=w.heap.size + 1 + 1) N.out (j:=1) (v:=Qs a8 x1 cl) rfl;have R1:=kE (b:=w.heap.size + 1) H.out (j:=1) rfl;have Z1:=Aa v3 (w.heap.size + 1) 1 _ _ H.out;have K2:=kE (b:=w.heap.size + 1 + 1) N.out (j:=2) (v:=Qs L x2 G) rfl;have R2:=kE (b:=w.heap.size + 1) H.out (j:=2) rfl;have Z2:=Aa v3 (w.heap.size + 1) 2 _ _ H.out;have K3:=kE (b:=w.heap.size + 1 + 1) N.out (j:=3) (v:=.int .i64 x3) rfl;have R3:=kE (b:=w.heap.size + 1) H.out (j:=3) rfl;have Z3:=Aa v3 (w.heap.size + 1) 3 _ _ H.out;have K4:=kE (b:=w.heap.size + 1 + 1) N.out (j:=4) (v:=.int .i64 x4) rfl;have R4:=kE (b:=w.heap.size + 1) H.out (j:=4) rfl;have Z4:=Aa v3 (w.heap.size + 1) 4 _ _ H.out;go_wp2;have ab:=aa.out;have cz:=X.out;have aj:=av.out;refine Aq (v:=.agg (Qj I x0 F a8 x1 cl L x2 G x3 x4)) (by simp [results,results49,go_sem,R0,Z0,R1,Z1,R2,Z2,R3,Z3,R4,Z4]) rfl ⟨[_,_,_,_,_],rfl,?_,?_⟩;exact lX;exact IZ E3
end Go.Proofs.YthocbplmdjkifabGreat
namespace Go.Proofs.YthocbplmdjkifabGreat
open Go _root_.Go.Proofs.Tryz
section
variable {P:Program} {l:Am Oper} {S:Ae->Prop} {Q:Exit->Act->Ae->Prop} {fuel:Nat} {listed:Am Bool} {a:Act} {w:Ae}
def jBa {i j m:Nat} {U oj G:Oper} (hi:l[i]?=some U) (J:l[j]?=some oj) (hm:l[m]?=some G) (hr:(Region.ready .any l.toArray listed.toArray==[i,j,m])=true) (F:Al U (yielded l.toArray a.tmps)=true) (E:Al oj (yielded l.toArray a.tmps)=true) (D:Al G (yielded l.toArray a.tmps)=true)
    (h1:∀ K:Act->Ae->Prop,(∀ a' w',S w'->tree P l S Q fuel (listed.set i true) a' w'->K a' w')->U.wp P a w K Q)
    (h2:∀ K:Act->Ae->Prop,(∀ a' w',S w'->tree P l S Q fuel (listed.set j true) a' w'->K a' w')->oj.wp P a w K Q)
    (h3:∀ K:Act->Ae->Prop,(∀ a' w',S w'->tree P l S Q fuel (listed.set m true) a' w'->K a' w')->G.wp P a w K Q):tree P l S Q (fuel + 1) listed a w:=by
 unfold tree;refine wpAnyH_all bG9 bJ6 ?_;intro k hk;rcases List.mem_cons.1 hk with rfl | hk;exact kQg hi F h1;rcases List.mem_cons.1 hk with rfl | hk;exact kQg J E h2;obtain rfl:k=m:=bG3;exact kQg hm D h3
def kHo (h:∀ (T:Nat->Am Bool->Act->Ae->Prop) (A:Act),T=tree P l S Q->A=a->T fuel listed A w):tree P l S Q fuel listed a w:=h _ _ rfl rfl
end
end Go.Proofs.YthocbplmdjkifabGreat
namespace Go.Proofs.YthocbplmdjkifabGreat
open Go.RowKit _root_.Go.Proofs.Tryz
variable {w w0:Ae} {x1:Am UInt8} {S:Nat->Prop} {s:ByteArray} {p k:Nat} {x0 x2:kU} {cs cp:Am Aj} {x:jK} {c0 c1 c2 c3 c4:Aj} {x3 x4:Int}
def kRo (hc:yz w0 w p) {n:Int} (hn:256 < n) (F:n<=16777216) :
    Ak prog 32 #[.pointer (Qa p),.int .i64 n] w λe w'=>∃ x:Int,0<=x/\x < n/\e=.returned (.int .i64 x)/\yz w0 w' p/\Touch (λk=>k=p) w w':=by
 go_enter func32,ntmps32;have hne:¬ n=0:=bJ5;have V:¬ n<=0:=bJ5;have W:¬ n<=256:=bJ5;go_wp2_with fail;refine (kGt hc).mono ?_;rintro e w1 ⟨x,bd,H,rfl,N,D⟩;have TE:=D;clear hc D;have hc:=N;clear N;go_wp2_with fail;refine (kGt hc).mono ?_;rintro e w2 ⟨y,cw,ab,rfl,N,D⟩;refine eO λTE hc=>?_;clear D N;go_wp2_with fail;refine (kGt hc).mono ?_;rintro e w3 ⟨z,a7,a4,rfl,N,D⟩;refine eO λTE hc=>?_;clear D N;have R:Ah.wrap (x * 65536)=x * 65536:=Ac _ bJ5;have E:Ah.wrap (y * 256)=y * 256:=Ac _ bJ5;have I:Ah.wrap (x * 65536 + y * 256)=x * 65536 + y * 256:=Ac _ bJ5;have J:Ah.wrap (x * 65536 + y * 256 + z)=x * 65536 + y * 256 + z:=Ac _ bJ5;have b1:=Int.emod_nonneg (x * 65536 + y * 256 + z) hne;have b3:=Int.emod_lt_of_pos (x * 65536 + y * 256 + z) (show 0 < n by omega);go_wp2;go_ret;exact ⟨_,b1,b3,rfl,hc,TE⟩
def jEj {w0 w:World} (hc:yz w0 w p) {n:Nat} (hn:n<=256) :
    Calls prog 168 #[.pointer (Qa p),.int .i64 n] w λe w'=>∃ a c l,e=.returned (.slice a l.length c)/\l.length=n/\Cc.own w' [Qs a l c] l (jW w w')/\yz w0 w' p/\Touch (λk=>k=p) w w':=by
 go_enter func168,ntmps168;obtain ⟨bx,b5⟩:=hc.lt;go_upto_region 2 with fail;refine PP λw1 br hc TE=>?_;go_wp2;go_loopw [5,6] (λv i wr=>∃ (j:Nat) (a:Option Addr) (c:Nat) (l:List UInt8),v=.slice a l.length c/\i=.int .i64 j/\Hid (l.length=j)/\j<=n/\Hid (Cc.own wr [Qs a l c] l (jW w wr))/\w1.heap.size<=wr.heap.size/\yz w0 wr p/\Touch (λk=>k=p) w wr) (λ_ i _=>n - (intOf i).toNat);case atStart=>exact ⟨0,_,0,[],rfl,rfl,yD rfl,Nat.zero_le _,yD kD.jr,Nat.le_refl _,hc,TE⟩
 clear hc TE;obtain ⟨j,a,c,l,rfl,rfl,HN,J,F,dn,hc,TE⟩:=hrel;by_cases hlt:j < n
 · replace F:=yD (F.wide (T:=jW w wr) (λ_ h=>h));have ce:(j:Int) < (n:Int):=bJ5;go_wp2_with fail;refine (kGt hc).mono ?_;rintro e w4 ⟨x,bd,H,rfl,N,D⟩;have de:=D.size;refine ME λF TE hc=>?_;clear D N;have hw:IntKind.u8.wrap x=x:=IntWalk.u8_in _ bJ5;obtain ⟨m,rfl⟩:=Int.eq_ofNat_of_zero_le bd;have L:(m:Int)=((UInt8.ofNat m).toNat:Int):=by rw [UInt8.toNat_ofNat'];omega
   have R:=yD L;clear L;go_wp2_with (at_builtin;refine kD.zG rfl _ _ 22 rfl (r:=kD.byte) (e:=5) underlying22 kDm rfl bJ4 bJ4 F.out bR (kNc (x:=UInt8.ofNat m) R.out) bJ7 bJ7 (λ_ _ h=>h) bE0 ?_);intro v9 w9 ak aa;have O:=aa.size;have I:=yD (show (l++[UInt8.ofNat m]).length=j + 1 by simp [HN.out]);generalize l++[UInt8.ofNat m]=q at *;obtain ⟨a9,c9,bb,_⟩:=kD.kBw ak.raw;obtain rfl:v9=_:=by simpa using bb
   have bo:=yD (ak.wide (T:=jW w w9) (λk q=>by rcases q with q | q;exact ⟨q.1,by have:=q.2;omega⟩;exact ⟨by have:=q.1;omega,q.2⟩));have G:=hc.touch aa bA4 wV;have E:=TE.kCk aa (λk q=>q.1.1);clear ak aa bb F HN;refine Qg ?_;exact ⟨j + 1,a9,c9,q,rfl,by go_num,I,by omega,bo,by omega,G,E⟩
 have ce:¬ (j:Int) < (n:Int):=bJ5;go_wp2;go_ret;exact ⟨a,c,l,rfl,by have:=HN.out;omega,F.out,hc,TE⟩
def kEc (hc:yz w0 w p) {x:Int} (h0:0<=x) (h1:x<=256) :
    Ak prog 168 #[.pointer (Qa p),.int .i64 x] w λe w'=>∃ a c l,e=.returned (.slice a l.length c)/\(l.length:Int)=x/\Cc.own w' [Qs a l c] l (jW w w')/\yz w0 w' p/\Touch (λk=>k=p) w w':=by
 obtain ⟨n,rfl⟩:=Int.eq_ofNat_of_zero_le h0;refine (jEj hc (n:=n) bJ5).mono ?_;rintro e w1 ⟨a,c,l,rfl,hl,hO,h2,h3⟩;exact ⟨a,c,l,rfl,by omega,hO,h2,h3⟩
def jHu (hc:yz w0 w p) :
    Ak prog 226 #[.pointer (Qa p)] w λe w'=>∃ x:Int,e=.returned (.int .i64 x)/\-1<=x/\x<=2147483648/\yz w0 w' p/\Touch (λk=>k=p) w w':=by
 go_enter func226,ntmps226;obtain ⟨bx,b5⟩:=hc.lt;go_wp2_with fail;refine (kAf (n:=10) hc bJ4).mono ?_;refine eD λw1 b N D=>?_;have br:=D.size;have TE:=D;clear hc D;have hc:=N;clear N;cases b
 · go_wp2_with fail;refine (kAf (n:=4) hc bJ4).mono ?_;refine eD λw2 b2 N D=>?_;have b8:=D.size;replace TE:=TE.trans D;clear hc D;have hc:=N;clear N;cases b2
   · go_wp2_with fail;refine (kRo (n:=1000000) hc bJ4 bJ4).mono ?_;rintro e w3 ⟨x,bd,H,rfl,N,D⟩;replace TE:=TE.trans D;clear hc D;have hc:=N;clear N;go_wp2_with fail;refine (kRo (n:=2000) hc bJ4 bJ4).mono ?_;rintro e w4 ⟨y,cw,ab,rfl,N,D⟩;replace TE:=TE.trans D;clear hc D;have hc:=N;clear N;have h0:0<=x * y:=Int.mul_nonneg bd cw;have h1:x * y<=1000000 * 2000:=Int.mul_le_mul bJ5 bJ5 cw bJ5;have hw:Ah.wrap (x * y)=x * y:=Ac _ bJ5;exact UX
   go_wp2_with fail;refine (kDd (hc.below (bR.alloc nL _)) (kD.kKv _ [0,1,2147483646] bJ4 bJ4) bJ5 bJ4 bJ4).mono ?_;rintro e w3 ⟨y,Y,a5,rfl,N,D⟩;replace D:=(Touch.of_below (S:=λk=>k=p) (bR.alloc nL _)).trans D;replace TE:=TE.trans D;clear hc D;have hc:=N;clear N;have hy:=kD.kKt (lo:=0) (hi:=2147483646) bJ4 Y;clear Y;exact UX
 go_wp2_with fail;refine (kDd (hc.below (bR.alloc nL _)) (kD.kKv _ [-1,2147483647,2147483648] bJ4 bJ4) bJ5 bJ4 bJ4).mono ?_;rintro e w2 ⟨y,Y,a5,rfl,N,D⟩;replace D:=(Touch.of_below (S:=λk=>k=p) (bR.alloc nL _)).trans D;refine eO λTE hc=>?_;clear D N;have hy:=kD.kKt (lo:=-1) (hi:=2147483648) bJ4 Y;clear Y;exact UX
def jDx {v0 v1 v2:Aj} {n k:kU} {b:Am UInt8} {f s:Int} (h0:kQ.jv w [v0] n S) (h1:Cc.jv w [v1] b S) (h2:kQ.jv w [v2] k S) (hf:Qi f) (hs:Qi s):jC.jv w [v0,v1,v2,Qn f,Qn s] (n,b,k,f,s) S :=
  kD.kCc (r:=kQ) (q:=.pair Cc (.pair kQ (.pair .int .int))) (z:=(n,b,k,f,s)) h0 (kD.kCc (r:=Cc) (q:=.pair kQ (.pair .int .int)) (z:=(b,k,f,s)) h1 (kD.kCc (r:=kQ) (q:=.pair .int .int) (z:=(k,f,s)) h2 (kD.flat.jv (kD.yh (cs:=[.int .i64 f]) (kD.jB hf) (kD.jB hs)))))
def zO (h:jC.raw w cs x):∃ a0 c0 a1 c1 a2 c2,cs=[.slice a0 x.1.length c0,.slice a1 x.2.1.length c1,.slice a2 x.2.2.1.length c2,.int .i64 x.2.2.2.1,.int .i64 x.2.2.2.2]:=by
 obtain ⟨v0,v1,v2,rfl,al,ae,bz,b1,W,cz,ck⟩:=jT h;obtain ⟨a0,c0,rfl,_,a1,c1,rfl,_,a2,c2,rfl,_⟩:=kD.sx ae (kD.sx bz (kD.sl W));exact ⟨_,_,_,_,_,_,rfl⟩
def data_rng (h:jC.raw w cs x):Qi x.2.2.2.1/\Qi x.2.2.2.2:=by
 obtain ⟨v0,v1,v2,rfl,al,ae,bz,b1,W,cz,ck⟩:=jT h;exact ⟨cz,ck⟩
def jIz (m:Nat) (w0 w:Ae) (p:Nat) (e:Ending) (w':Ae):Prop:=∃ ds x,e=.returned (.agg ds.toArray)/\jC.own w' ds x (jW w w')/\x.2.1.length<=m/\yz w0 w' p/\Touch (λk=>k=p) w w'
def jIs {v:Aj} {y:kU} {T:Nat->Prop} (h:jC.own w [c0,c1,c2,c3,c4] (x0,x1,x2,x3,x4) S) (hv:kQ.own w [v] y T) (hd:∀ k,S k->T k->False):jC.own w [v,c1,c2,c3,c4] (y,x1,x2,x3,x4) (λk=>S k\/T k) :=
  kD.set_left (r:=kQ) (q:=.pair Cc (.pair kQ (.pair .int .int))) (c:=[c0]) (c':=[v]) (d:=[c1,c2,c3,c4]) h rfl hv hd
def kZs {v:Aj} {y:Am UInt8} {T:Nat->Prop} (h:jC.own w [c0,c1,c2,c3,c4] (x0,x1,x2,x3,x4) S) (hv:Cc.own w [v] y T) (hd:∀ k,S k->T k->False):jC.own w [c0,v,c2,c3,c4] (x0,y,x2,x3,x4) (λk=>S k\/T k) :=
  kD.set_right (r:=kQ) (q:=.pair Cc (.pair kQ (.pair .int .int))) (c:=[c0]) (d:=[c1,c2,c3,c4]) (d':=[v,c2,c3,c4]) h rfl (λB hB hq=>kD.set_left (r:=Cc) (q:=.pair kQ (.pair .int .int)) (c:=[c1]) (c':=[v]) (d:=[c2,c3,c4]) hq rfl hv (λk a b=>hd k (hB k a) b)) hd
def data_setKey {v:Aj} {y:kU} {T:Nat->Prop} (h:jC.own w [c0,c1,c2,c3,c4] (x0,x1,x2,x3,x4) S) (hv:kQ.own w [v] y T) (hd:∀ k,S k->T k->False):jC.own w [c0,c1,v,c3,c4] (x0,x1,y,x3,x4) (λk=>S k\/T k) :=
  kD.set_right (r:=kQ) (q:=.pair Cc (.pair kQ (.pair .int .int))) (c:=[c0]) (d:=[c1,c2,c3,c4]) (d':=[c1,v,c3,c4]) h rfl (λB hB hq=>kD.set_right (r:=Cc) (q:=.pair kQ (.pair .int .int)) (c:=[c1]) (d:=[c2,c3,c4]) (d':=[v,c3,c4]) hq rfl (λB2 F E=>kD.set_left (r:=kQ) (q:=.pair .int .int) (c:=[c2]) (c':=[v]) (d:=[c3,c4]) E rfl hv (λk a b=>hd k (hB k (F k a)) b)) (λk a b=>hd k (hB k a) b)) hd
def jIr {v:Int} (h:jC.own w [c0,c1,c2,c3,c4] (x0,x1,x2,x3,x4) S) (hv:Qi v):jC.own w [c0,c1,c2,Qn v,c4] (x0,x1,x2,v,x4) S:=⟨RData_set3 v hv h.1,h.2⟩
def kYp {v:Int} (h:jC.own w [c0,c1,c2,c3,c4] (x0,x1,x2,x3,x4) S) (hv:Qi v):jC.own w [c0,c1,c2,c3,Qn v] (x0,x1,x2,x3,v) S:=⟨RData_set4 v hv h.1,h.2⟩
def kJp {s:Int} (hs:Qi s) {cx:Am Aj} (hx:jC.rd w cx x) (cq:x.2.1.length<=2000000) :
    Ak prog 170 #[.int .i64 s,.agg cx.toArray] w λe w'=>∃ sg ds,e=.returned (.agg ds.toArray)/\jC.own w' ds (x.1,x.2.1,x.2.2.1,x.2.2.2.1,sg) (jW w w')/\(0<=sg/\sg < 2147483647)/\Qb w w':=by
 obtain ⟨x0,x1,x2,x3,x4⟩:=x;refine aN hx cq λHX ac=>?_;have e5:=kSq (x0,x1,x2,x3,x4);simp only at e5 cq;obtain ⟨di,dl,dk,rfl,al,ae,bz,b1,W,cz,ck⟩:=jT hx.1;obtain ⟨bc,I,rfl,dn,bf,bt,rfl,dv,ba,E,rfl,dp⟩:=kD.sx ae (kD.sx bz (kD.sl W));clear hx al ae bz b1 W cz ck;go_enter func170,ntmps170;go_upto_region 1 with fail;refine kBz ?_;intro w1 H BX BR br;obtain ⟨V,Y,ab,Z,aa⟩:=jP BX;go_wp2_with fail;refine (kBv (HX.below H)).mono ?_;refine eD λw2 cs O hb=>?_;have b8:=hb.size;refine aA BX hb BR λBX BR=>?_;replace H:=(tQ H hb);clear V Y ab Z aa hb;obtain ⟨h3,au,h4,rfl,es,f2,f8,fk,fd,fg,fh⟩:=jT O.raw;obtain ⟨b9,cc,rfl,h0,L,J,rfl,aj,da,dc,rfl,h6⟩:=kD.sx f2 (kD.sx f8 (kD.sl fd));clear es f2 f8 fk fd fg fh;have F:=yD (O.wide (T:=λj=>w.heap.size + 2<=j/\j < w2.heap.size) vH);clear O;go_upto_region 2 with fail;refine SQ λw3 BO cv BX BR F H=>?_;obtain ⟨V,Y,ab,Z,aa⟩:=jP BX;go_wp2_with fail;refine (kIw (HX.below H) ac.out).mono ?_;refine eD λw4 vg OG hb=>?_;have de:=hb.size;refine aA BR hb BO λBR BO=>?_;refine MH hb λF H=>?_;clear V Y ab Z aa hb;refine aH OG λag ng cg R ak=>?_;obtain rfl:=R;have RG:=yD ((OG.own bE7).rd);clear OG;go_wp2_with fail;refine (kMj hs RG.out bJ5).mono ?_;refine fO λw5 hb=>?_;have df:=hb.size;refine aA BR hb BO λBR BO=>?_;refine MH hb λF H=>?_;clear hb;have ah:=kTb ([s]++signed (x0,x1,x2,x3,x4)++[s]);have ai:0<=kYk s (signed (x0,x1,x2,x3,x4))/\kYk s (signed (x0,x1,x2,x3,x4)) < 2147483647:=ah;generalize kYk s (signed (x0,x1,x2,x3,x4))=sg at *;clear ah e5 RG ak ac cq;refine lF BO λU N af X D ao ar ax a1 a2=>?_;go_upto_region 3 with fail;clear U N af X D ao ar ax a1 a2;refine uS λw6 G az=>?_;replace BO:Qr w6 w2 (Qj b9 x0 cc L x1 J da x2 dc x3 sg) 43:=bB3;have dq:=az.size;clear G;refine eH az BR F λBR F=>?_;refine lY az λH=>?_;clear az;replace F:=yD (kYp F.out (v:=sg) bJ5);obtain ⟨U,N,af,X,D⟩:=jP BO;refine lF BR λa9 bb b4 b3 b5 be bd bv bx b0=>?_;go_wp2;refine Aq (v:=.agg (Qj b9 x0 cc L x1 J da x2 dc x3 sg)) (by simp [results,results170,go_sem,a9,be,bb,bd,b4,bv,b3,bx,b5,b0]) rfl ⟨sg,[.slice b9 x0.length cc,.slice L x1.length J,.slice da x2.length dc,.int .i64 x3,.int .i64 sg],rfl,?_,ai,?_⟩;exact (F.touch sT5 vN).wide gW;exact H.trans (Touch.below sT5 H.size bF2)
def jBh (hc:yz w0 w p) :
    Ak prog 171 #[.pointer (Qa p)] w λe w'=>∃ s:Int,e=.returned (.int .i64 s)/\100<=s/\s<=104/\yz w0 w' p/\Touch (λk=>k=p) w w':=by
 go_enter func171,ntmps171;go_wp2_with fail;refine (kw (n:=5) hc bJ4).mono ?_;rintro e w1 ⟨x,bd,H,bu,rfl,N,D⟩;have TE:=D;clear hc D;have hc:=N;clear N;replace H:=H bJ4;have hw:Ah.wrap (100 + x)=100 + x:=Ac _ bJ5;exact UX
def isLet (s:Ai):Bool:=decide (s.size=2) && (decide (kDb s 0=63) && inR (kDb s 1) 97 122)
def isLet_no (h:¬ s.size=2):isLet s=false:=by unfold isLet;rw [decide_eq_false h];rfl
def jGr (h:¬ kDb s 0=63):isLet s=false:=by unfold isLet;rw [decide_eq_false h];simp
def jGq (h:s.size=2) (h0:kDb s 0=63):isLet s=inR (kDb s 1) 97 122:=by unfold isLet;rw [decide_eq_true h,decide_eq_true h0];rfl
def kJo {s:Ai} (hs:s.size<=maxLen):Ak prog 299 #[.string s] w λe w'=>e=.returned (.bool (isLet s))/\w'=w:=by
 go_enter func299,ntmps299;by_cases h2:s.size=2;case neg =>
  have L:=yD (isLet_no h2);have hz:((s.size:Int)==2)=false:=bJ0;exact FL L
 have hz:((s.size:Int)==2)=true:=bJ0;have g0:=kHt (s:=s) (k:=0) bJ5;have g1:=kHt (s:=s) (k:=1) bJ5;have dc:0 < s.size:=bJ5;have gf:1 < s.size:=bJ5;by_cases h0:kDb s 0=63;case neg =>
  have L:=yD (jGr h0);have D:¬ ((s[0].toNat:Int)=63):=bE1;have aa:((s[0].toNat:Int)==63)=false:=bI5;clear g1;exact FL L
 have L:=yD (jGq h2 h0);have D:((s[0].toNat:Int)=63):=bE1;have HG:=yD g1;clear g1 g0 h0;go_wp2_with fail;refine yQ.mono ?_;refine OW λhw=>?_;go_wp2;go_ret;exact ⟨kJ (by rw [L.out,HG.out,show wrap64 (s[1].toNat:Int)=s[1].toNat from (by have:=s[1].toNat_lt;unfold wrap64;omega)]),rfl⟩
def kHr {s:Ai} (hs:s.size<=maxLen):Ak prog 308 #[.string s] w λe w'=>e=.returned (.bool (isLet s))/\w'=w:=by
 go_enter func308,ntmps308;by_cases h2:s.size=2;case neg =>
  have L:=yD (isLet_no h2);have hz:((s.size:Int)==2)=false:=bJ0;exact FL L
 have hz:((s.size:Int)==2)=true:=bJ0;have g0:=kHt (s:=s) (k:=0) bJ5;have g1:=kHt (s:=s) (k:=1) bJ5;have r1:=kTf s 1;have dc:0 < s.size:=bJ5;have gf:1 < s.size:=bJ5;by_cases h0:kDb s 0=63;case neg =>
  have L:=yD (jGr h0);have D:¬ ((s[0].toNat:Int)=63):=bE1;have aa:((s[0].toNat:Int)==63)=false:=bI5;clear g1 r1;exact FL L
 have L:=yD (jGq h2 h0);have D:((s[0].toNat:Int)=63):=bE1;have aa:((s[0].toNat:Int)==63)=true:=bI5;have HG:=yD g1;clear g1 g0 h0;have HV:=yD (show inR (kDb s 1) 97 122=(decide ((s[1].toNat:Int) ≥ 97) && decide ((s[1].toNat:Int)<=122)) by rw [<- HG.out];rfl);go_wp2;all_goals
   go_ret
   refine ⟨kJ ?_,rfl⟩
   rw [L.out,HV.out,Bool.eq_iff_iff]
   simp
   try omega
def kJn (s:Ai):Bool:=s.toList==[42]
def kId (s:Ai):Bool:=s.toList==[42,42]
def kHa (n k:Nat) (s:Ai):Bool:=((!kEj s && !kJn s) && !isLet s) && (!kId s || decide ((k:Int) < (n:Int) - 1))
def kQn (n k:Nat) (s:Ai):Bool:=((!kEj s && !kJn s) && !isLet s) && (!kId s || ((k:Int) != (n:Int) - 1))
def kFj (p:kAk):Bool:=zf (λj=>!kHa p.length j (p.getD j Ag)) p.length && decide (p.length<=6)
def patBadI_eq {n:Nat} (h:k < n) (s:ByteArray):kQn n k s=kHa n k s:=by
 unfold kQn kHa;have:((k:Int) != (n:Int) - 1)=decide ((k:Int) < (n:Int) - 1):=by rw [Bool.eq_iff_iff];simp;omega
 rw [this]
def vPat_bad {p:kAk} (h:k < p.length) (q:kHa p.length k p[k]=true):kFj p=false:=by
 unfold kFj;rw [kEw h tX];rfl
def jFf {p:kAk} (h:k < p.length) (q:kHa p.length k p[k]=false) (a:zf (λj=>!kHa p.length j (p.getD j Ag)) k=true):zf (λj=>!kHa p.length j (p.getD j Ag)) (k + 1)=true :=
  kCi a tX
def jFg {p:kAk} (q:zf (λj=>!kHa p.length j (p.getD j Ag)) k=true) (h:¬ k < p.length) (hk:k<=p.length):kFj p=decide (p.length<=6):=by
 obtain rfl:k=p.length:=bJ5;unfold kFj;rw [q];rfl
def kDg {p:kAk} (hp:zZ.raw w cp p):Ak prog 298 #[.agg cp.toArray] w (bQ w (.bool (kFj p))):=by
 obtain ⟨av,rfl,ac⟩:=kDt hp;obtain ⟨aa,H,rfl,la⟩:=kD.sl ac;clear hp;go_enter func298,ntmps298;go_wp2;refine MJ λX U EB=>?_;have Y:Qd X w 0 (Qs aa p H):=bA9;clear U;replace ac:=ac.below EB;go_loopw [3] (λi wr=>∃ k:Nat,k<=p.length/\i=.int .i64 k/\Hid (zf (λj=>!kHa p.length j (p.getD j Ag)) k=true)/\Qb X wr) (λi _=>p.length - (intOf i).toNat);case atStart=>exact ⟨0,Nat.zero_le _,rfl,yD rfl,bR⟩
 obtain ⟨k,hk,rfl,HN,D⟩:=hrel;refine lC D EB λY E=>?_;by_cases hlt:k < p.length
 · obtain ⟨ba,ah,rfl,c0,hr,A0⟩:=kD.kAu (ac.below D) hlt rfl;obtain ⟨he,bn⟩:=kD.zQ hr;obtain rfl:c0=_:=by simpa using he
   clear he hr;have hb:=λq=>vPat_bad hlt q;have hx:=λq=>jFf hlt q HN.out;generalize p[k]=s at *;refine aN hb hx λHB HX=>?_;have R:=yD bn;clear hb hx bn;have bh:Ah.wrap ((p.length:Int) - 1)=(p.length:Int) - 1:=Ac _ bJ5;go_upto_region 5 with fail;refine GD λFX wS I=>?_;all_goals (refine kZ ?_;(first | refine wkC (kOc R.out) ?_ | refine kZ ?_);refine kZ ?_;refine jo λb a1=>?_;cases b <;> try simp only [jm] at a1)
   all_goals ((iterate 3 refine kZ ?_);refine jo λb af=>?_;cases b <;> try simp only [jm] at af)
   all_goals (refine kZ ?_;(first | refine wkC (kJo R.out) ?_ | refine kZ ?_);refine kZ ?_;refine kZ ?_;refine jo λb ab=>?_;cases b <;> try simp only [jm] at ab)
   all_goals (refine kZ ?_;refine kZ ?_;refine jo λb F=>?_;cases b <;> try simp only [jm] at F)
   all_goals ((iterate 7 refine kZ ?_);refine jo λb O=>?_;cases b <;> try simp only [jm] at O)
   all_goals (refine kR ?_;have G:=(tQ E I);have ER:=(tQ D I))
   all_goals first|(have L:=yD (HB.out (show kHa p.length k s=true by simp only [kHa,kJn,kId,Ap,Q0,a1,af,ab,F,O]));clear HB HX;go_wp2;go_ret;exact ⟨kJ L.symm,G⟩)|(have L:=yD (HX.out (show kHa p.length k s=false by simp only [kHa,kJn,kId,Ap,Q0,a1,af,ab,F,O]));clear HB HX;refine Qg ?_;exact ⟨k + 1,by omega,by go_num,L,ER⟩)
 have L:=yD (jFg HN.out hlt hk);go_wp2;go_ret;exact ⟨kJ wZ,E⟩
def kGe {p:kAk} (hp:zZ.raw w cp p):Ak prog 305 #[.agg cp.toArray] w (bQ w (.bool (kFj p))):=by
 obtain ⟨av,rfl,ac⟩:=kDt hp;obtain ⟨aa,H,rfl,la⟩:=kD.sl ac;clear hp;go_enter func305,ntmps305;go_wp2;refine MJ λX U EB=>?_;have Y:Qd X w 0 (Qs aa p H):=bA9;clear U;replace ac:=ac.below EB;go_loopw [8] (λi wr=>∃ k:Nat,k<=p.length/\i=.int .i64 k/\Hid (zf (λj=>!kHa p.length j (p.getD j Ag)) k=true)/\Qb X wr) (λi _=>p.length - (intOf i).toNat);case atStart=>exact ⟨0,Nat.zero_le _,rfl,yD rfl,bR⟩
 obtain ⟨k,hk,rfl,HN,D⟩:=hrel;refine lC D EB λY E=>?_;by_cases hlt:k < p.length
 · obtain ⟨ba,ah,rfl,c0,hr,A0⟩:=kD.kAu (ac.below D) hlt rfl;obtain ⟨he,bn⟩:=kD.zQ hr;obtain rfl:c0=_:=by simpa using he
   clear he hr;have hb:=λq=>vPat_bad hlt q;have hx:=λq=>jFf hlt q HN.out;have J:=patBadI_eq hlt p[k];generalize p[k]=s at *;refine aN hb hx λHB HX=>?_;refine aN bn J λR HI=>?_;clear hb hx bn J;have bh:Ah.wrap ((p.length:Int) - 1)=(p.length:Int) - 1:=Ac _ bJ5;go_upto_region 4 with fail;refine GD λFX wS I=>?_;all_goals (refine kZ ?_;(first | refine wkC (kOl R.out) ?_ | refine kZ ?_);refine kZ ?_;refine jo λb a1=>?_;cases b <;> try simp only [jm] at a1)
   all_goals ((iterate 3 refine kZ ?_);refine jo λb af=>?_;cases b <;> try simp only [jm] at af)
   all_goals (refine kZ ?_;(first | refine wkC (kHr R.out) ?_ | refine kZ ?_);refine kZ ?_;refine kZ ?_;refine jo λb ab=>?_;cases b <;> try simp only [jm] at ab)
   all_goals (refine kZ ?_;refine kZ ?_;refine jo λb F=>?_;cases b <;> try simp only [jm] at F)
   all_goals ((iterate 7 refine kZ ?_);refine jo λb O=>?_;cases b <;> try simp only [jm] at O)
   all_goals (refine kR ?_;have G:=(tQ E I);have ER:=(tQ D I))
   all_goals first|(have L:=yD (HB.out (HI.symm.trans (show kQn p.length k s=true by simp only [kQn,kJn,kId,Ap,Q0,a1,af,ab,F,O])));clear HB HX;go_wp2;go_ret;exact ⟨kJ L.symm,G⟩)|(have L:=yD (HX.out (HI.symm.trans (show kQn p.length k s=false by simp only [kQn,kJn,kId,Ap,Q0,a1,af,ab,F,O])));clear HB HX;refine Qg ?_;exact ⟨k + 1,by omega,by go_num,L,ER⟩)
 have L:=yD (jFg HN.out hlt hk);go_wp2;go_ret;exact ⟨kJ wZ,E⟩
end Go.Proofs.YthocbplmdjkifabGreat

/-
  Data that is valid.
-/
import Derived.Test.YthocbplmdjkifabGreatEncP
set_option linter.unusedVariables false
set_option linter.defProp false
set_option linter.unusedSimpArgs false
set_option linter.unnecessarySimpa false
set_option maxRecDepth 100000
set_option maxHeartbeats 4000000
open UInt8 renaming toNat_ofNat'->Aa
open List renaming length_append->Ab
open _root_ renaming UInt8->Ac,ByteArray->Ae,List->Ag
open Go.IntKind renaming wrap_u8'->Ad,u8->Ah,i64->Aj
open Go renaming World->Ai,Value->Ak,grownCap->Am,Calls->Ap
open Go.Proofs.Tryz renaming underlying22->Al
open Go.BinOp renaming or->Aq
open Go.Value renaming int->Ar
namespace Go.Proofs.YthocbplmdjkifabGreat
open Go.RowKit _root_.Go.Proofs.Tryz
variable {w:Ai} {va:Ak} {b:Ag Ac} {n:kU} {m k:Nat} {cn cx:Ag Ak} {s:Ae} {x:jK}
def kEi (n:Int):Ag Ac:=if inR n 0 1000000000000=true then kTo n.toNat else []
def vintI_no {n:Int} (h:inR n 0 1000000000000=false):kEi n=[]:=by unfold kEi;rw [h];rfl
def jFd {n:Nat} (h:inR (n:Int) 0 1000000000000=true):kEi n=kTo n:=by unfold kEi;rw [if_pos h];simp
def kHm (n:Int):(kEi n).length<=6:=by
 unfold kEi;split
 · rename_i h
   have G:0<=n/\n<=1000000000000:=by simpa [inR] using h
   exact jAm bJ5
 simp
def or128:∀ x:Fin 128,bits Aq Aj (x.val:Int) 128=(x.val:Int) + 128:=by decide +kernel
def or128u:∀ x:Fin 256,bits Aq Ah (x.val:Int) 128=((x.val % 128:Nat):Int) + 128:=by decide +kernel
def vlo_int (m:Nat):((vlo m).toNat:Int)=((m % 128:Nat):Int) + 128:=by
 unfold vlo;rw [Aa];omega
def lo_spec (h:m<=1000000000000):Ah.wrap (bits Aq Aj (bits BinOp.and Aj (m:Int) 127) 128)=((vlo m).toNat:Int):=by
 have e:=bits_mask Aj 63 bJ4 (λn h0 h1=>by rw [IntKind.wrap_i64];omega) 7 bJ4 (m:Int) bJ5 bJ5;rw [show ((2:Int) ^ 7 - 1)=127 by decide,show ((2:Int) ^ 7)=128 by decide] at e;rw [e,vlo_int];have e2:=or128 ⟨m % 128,by omega⟩;simp only at e2;rw [show (m:Int) % 128=((m % 128:Nat):Int) by omega,e2,Ad];omega
def lo_impl (m:Nat):bits Aq Ah (Ah.wrap (m:Int)) 128=((vlo m).toNat:Int):=by
 have e2:=or128u ⟨m % 256,by omega⟩;simp only at e2;rw [Ad,show (m:Int) % 256=((m % 256:Nat):Int) by omega,e2,vlo_int];omega
def hi_byte (h:m < 128):Ah.wrap (m:Int)=((UInt8.ofNat m).toNat:Int):=by
 rw [Ad,Aa];omega
def hi_byte0 (h:m < 128):(m:Int)=((UInt8.ofNat m).toNat:Int):=by
 rw [Aa];omega
def kNc {z:Int} {x:Ac} (h:z=(x.toNat:Int)):kD.byte.own w [.int .u8 z] x (λ_=>False):=⟨by show [_]=[_];rw [h],trivial⟩
def kVp {x:Ag Ac} (ha:Cc.rd w [va] x):Ap prog 92 #[va] w (kAo 5 kD.byte x w):=by
 obtain ⟨aa,H,rfl,la⟩:=kD.sl ha.1;obtain ⟨HA,E⟩:=WQ;cases aa with
 | none =>
   have hx:x=[]:=by
     cases x with
     | nil=>rfl
     | cons y ys =>
       exact UK
   subst hx;clear ha;go_enter func92,ntmps92;go_wp2;go_ret;exact ⟨_,rfl,kD.ko.nil,bR⟩
 | some a =>
   have hb:x.length<=16777216:=ha.2.1;clear ha;go_enter func92,ntmps92;have O0:kD.ko 5 kD.byte (w.alloc (.cells #[] 5)) (.slice (Qa w) 0 0) [] (λk=>k=w.heap.size):=kD.yf (cs:=[]) (xs:=[]) (T:=λ_=>False) bJ6 bJ6 rfl (λ_ h=>h.elim) rfl;go_wp2_with (at_builtin;refine kD.yH rfl _ _ 22 rfl (r:=kD.byte) (e:=5) Al kDm rfl bJ4 bJ4 kD.kEv (B:=w.heap.size) O0 bJ7 bJ7 (HA.alloc _) tO bJ6 bJ0 ?_);exact UN
def kGb {n:Int} (ha:Cc.rd w [va] b) :
    Ap prog 275 #[va,.int .i64 n] w (kAo 5 kD.byte (b++kEi n) w):=by
 obtain ⟨aa,H,rfl,la⟩:=kD.sl ha.1;have HA:=yD ha;have hb:b.length<=16777216:=ha.2.1;clear ha;go_enter func275,ntmps275;have O0:kD.ko 5 kD.byte (w.alloc (.cells #[] 5)) (.slice (Qa w) 0 0) [] (λk=>k=w.heap.size):=kD.yf (cs:=[]) (xs:=[]) (T:=λ_=>False) bJ6 bJ6 rfl (λ_ h=>h.elim) rfl;go_wp2_with (at_builtin;refine kD.yH rfl _ _ 22 rfl (r:=kD.byte) (e:=5) Al kDm rfl bJ4 bJ4 kD.kEv (B:=w.heap.size) O0 bJ7 bJ7 (HA.alloc _) tO bJ6 bJ0 ?_);intro v2 w2 hown D hz;have F:Hid (kD.ko 5 kD.byte w2 v2 b (jW w w2)):=yD (by simpa using hown);have G:Qb w w2:=Below.trans bK D;clear hown O0 D;refine aH F λa2 n2 c2 hv a6=>?_;obtain rfl:=hv;go_wp2_with fail;refine yQ.mono ?_;refine OW λhw=>?_;cases O:inR n 0 1000000000000
 · have L:=yD (vintI_no O);go_wp2;go_ret;exact ⟨_,rfl,F.cast bF3,G⟩
 obtain ⟨V,W⟩:0<=n/\n<=1000000000000:=by simpa [inR] using O
 obtain ⟨N,rfl⟩:∃ N:Nat,n=N:=⟨n.toNat,by omega⟩;have L:=yD (jFd O);clear O;go_wp2;go_loopw [5,1] (λv i wr=>∃ (m:Nat) (pre:Ag Ac),m<=N/\i=.int .i64 m/\Hid (pre++kTo m=kTo N)/\Hid (kD.ko 5 kD.byte wr v (b++pre) (jW w wr))/\Qb w wr) (λ_ i _=>(intOf i).toNat);case atStart=>exact ⟨N,[],Nat.le_refl _,rfl,yD rfl,yD (by simpa using F.out),G⟩
 clear G F a6;obtain ⟨m,pre,hm,rfl,HP,F,D⟩:=hrel;refine aH F λoa on oc ho ak=>?_;obtain rfl:=ho;have ed:pre.length<=6:=by
  exact UZ
 by_cases hlt:m < 128;exact xR;have HB:=yD (lo_spec (show m<=1000000000000 by omega));exact NY
def kGf {n:Int} (ha:Cc.rd w [va] b) :
    Ap prog 271 #[va,.int .i64 n] w (kAo 5 kD.byte (b++kEi n) w):=by
 obtain ⟨aa,H,rfl,la⟩:=kD.sl ha.1;have HA:=yD ha;have hb:b.length<=16777216:=ha.2.1;clear ha;go_enter func271,ntmps271;go_wp2_with fail;refine (kVp HA.out).mono ?_;refine eD λw2 v2 hown G=>?_;have F:Hid (kD.ko 5 kD.byte w2 v2 b (jW w w2)):=yD hown;clear hown;refine aH F λa2 n2 c2 hv a6=>?_;obtain rfl:=hv;go_wp2_with fail;refine yP.mono ?_;refine OW λhw=>?_;cases O:inR n 0 1000000000000
 · have L:=yD (vintI_no O);go_wp2;go_ret;exact ⟨_,rfl,F.cast bF3,G⟩
 obtain ⟨V,W⟩:0<=n/\n<=1000000000000:=by simpa [inR] using O
 obtain ⟨N,rfl⟩:∃ N:Nat,n=N:=⟨n.toNat,by omega⟩;have L:=yD (jFd O);clear O;go_wp2;go_loopw [5,1] (λv i wr=>∃ (m:Nat) (pre:Ag Ac),m<=N/\i=.int .i64 m/\Hid (pre++kTo m=kTo N)/\Hid (kD.ko 5 kD.byte wr v (b++pre) (jW w wr))/\Qb w wr) (λ_ i _=>(intOf i).toNat);case atStart=>exact ⟨N,[],Nat.le_refl _,rfl,yD rfl,yD (by simpa using F.out),G⟩
 clear G F a6;obtain ⟨m,pre,hm,rfl,HP,F,D⟩:=hrel;refine aH F λoa on oc ho ak=>?_;obtain rfl:=ho;have ed:pre.length<=6:=by
  exact UZ
 by_cases hlt:m < 128;exact xR;have HB:=yD (lo_impl m);exact NY
def jFy (w:Ai):∀ (l:Ag Ac) (S:Nat->Prop),kD.row kD.byte false w (l.map (λb=>Ar .u8 b.toNat)) l S
  | [],_=>rfl
  | b :: l,S=>⟨[.int .u8 b.toNat],l.map (λb=>Ar .u8 b.toNat),S,S,rfl,rfl,jFy w l S,λ_ h=>h,λ_ h=>h,λh=>by cases h⟩
def kSc {e e2:TypeId} (hs:s.size<=16777216):(kD.slice e2 kD.byte).rd (Lib.bytesWorld w e s) [.slice (Qa w) s.size (Am w s.size 0 e)] s.data.toList:=by
 have hl:s.data.toList.length=s.size:=bJ6;refine ⟨⟨_,_,_,rfl,hl.symm,grownCap_ge _ _ _ _,grownCap_le_maxLen _ _ _ _ bC7,.inr ⟨_,_,rfl,_,_,_,[],s.data.toList.map (λb=>Ar .u8 b.toNat),List.replicate (Am w s.size 0 e - s.size) (.int .u8 0),Lib.bytesWorld_at_new w e s,?_,rfl,?_,(λh=>Bool.noConfusion h),trivial,?_⟩⟩,by rw [hl];exact hs,λ_ _=>trivial⟩;simp [Lib.bytesCells]
 · have:=grownCap_ge w s.size 0 e;have e1:(Lib.bytesCells w e s).size=s.size + (Am w s.size 0 e - s.size):=by simp [Lib.bytesCells]
   rw [e1];show 0 + _ * 1<=_;omega
 exact kD.yx (jFy _ _ (λ_=>True)) (λ_ _=>⟨trivial,λh=>by cases h⟩)
def bytesWorld_below' (w:Ai) (e:TypeId) (s:Ae):Below w w (Lib.bytesWorld w e s) :=
  ⟨rfl,rfl,rfl,by rw [Lib.bytesWorld_size];omega,λj J=>Lib.bytesWorld_at_old w e s j J⟩
def encS (s:Ae):Ag Ac:=kEi s.data.toList.length++s.data.toList
def kLa (l:Ag Ae):Ag Ac:=(l.map encS).flatten
def kTa {l:Ag Ae} (h:k < l.length):kLa (l.take (k + 1))=kLa (l.take k)++encS l[k]:=by
 unfold kLa;rw [List.take_succ_eq_append_getElem h,List.map_append,List.flatten_append];simp
def kVd (n:kU):Ag Ac:=kEi n.length++kLa n
def kUa {vs:Ak} {s:Ag Ac} (ha:Cc.rd w [va] b) (hs:Cc.rd w [vs] s) :
    Ap prog 288 #[va,vs] w (kAo 5 kD.byte (b++(kEi s.length++s)) w):=by
 obtain ⟨aa,H,rfl,la,ab,R,rfl,J⟩:=kD.sx ha.1 (kD.sl hs.1);refine aN ha hs λHA I=>?_;have hb:b.length<=16777216:=ha.2.1;have e5:s.length<=16777216:=hs.2.1;clear ha hs;go_enter func288,ntmps288;go_wp2_with fail;refine (kGb HA.out).mono ?_;exact P5
def kVa {vs:Ak} {s:Ag Ac} (ha:Cc.rd w [va] b) (hs:Cc.rd w [vs] s) :
    Ap prog 303 #[va,vs] w (kAo 5 kD.byte (b++(kEi s.length++s)) w):=by
 obtain ⟨aa,H,rfl,la,ab,R,rfl,J⟩:=kD.sx ha.1 (kD.sl hs.1);refine aN ha hs λHA I=>?_;have hb:b.length<=16777216:=ha.2.1;have e5:s.length<=16777216:=hs.2.1;clear ha hs;go_enter func303,ntmps303;go_wp2_with fail;refine (kGf HA.out).mono ?_;exact P5
def vPart_size {s:ByteArray} (h:kEj s=true):s.size<=8:=by
 unfold kEj at h;simp only [Bool.and_eq_true] at h;have h2:(1:Int)<=s.size/\(s.size:Int)<=8:=by simpa [inR] using h.2
 omega
def kVt (h:zX n=true):n.length<=6:=by
 unfold zX at h;simp only [Bool.and_eq_true,decide_eq_true_eq] at h;exact h.2
def kJm (h:zX n=true) (hk:k < n.length):n[k].size<=8:=by
 by_cases q:kEj n[k]=true;exact vPart_size q;have:=jFi hk bI0;rw [this] at h;cases h
def encS_len (h:s.size<=8):(encS s).length<=14:=by
 have h1:=kHm s.data.toList.length;have h2:s.data.toList.length=s.size:=bJ6;unfold encS;rw [Ab];omega
def kQs {n:kU} (h:zX n=true):∀ {k:Nat},k<=n.length->(kLa (n.take k)).length<=14 * k
  | 0,_=>by simp [kLa]
  | k + 1,hk=>by
    have h1:=kQs h (k:=k) bJ5;have h2:=encS_len (kJm h (k:=k) bJ5);rw [kTa bJ5,Ab];omega
def encNm_len (h:zX n=true):(kVd n).length<=90:=by
 have h1:=kHm n.length;have h2:=kQs h (k:=n.length) nL;have h3:=kVt h;rw [List.take_length] at h2;unfold kVd;rw [Ab];omega
def kWc (ha:Cc.rd w [va] b) (hn:kQ.raw w cn n) (hv:zX n=true) (hb:b.length<=1000000) :
    Ap prog 263 #[va,.agg cn.toArray] w (kAo 5 kD.byte (b++kVd n) w):=by
 obtain ⟨av,rfl,ac⟩:=kT hn;obtain ⟨an,am,rfl,ln,aa,H,rfl,la⟩:=kD.sx ac (kD.sl ha.1);refine aN ha ac λHA HN=>?_;refine aN hn hv λai HV=>?_;have c6:=kVt hv;refine xN λO0=>?_;clear hv ac hn ha;go_wp2_with (at_builtin;refine kD.yH rfl _ _ 22 rfl (r:=kD.byte) (e:=5) Al kDm rfl bJ4 bJ4 kD.kEv (B:=w.heap.size + 1) O0 bJ7 bJ7 (HA.below bK) tO bJ6 bJ0 ?_);intro v2 w2 hown D hz;have F:Hid (kD.ko 5 kD.byte w2 v2 b (jW w w2)):=yD ((hown.cast bJ6).wide vE);have Y:Qd w2 w 0 (Qs an n am):=(D.cell (p:=⟨w,0,none⟩) bJ6).trans bI1;have G:Qb w w2:=Below.trans bK (D.mono vG);refine aH F λa2 n2 c2 a9 a6=>?_;obtain rfl:=a9;have bo:w.heap.size < w2.heap.size:=by have:=D.size;simp at this;omega
 clear hown O0 D hz;go_wp2_with fail;refine (zM (ai.below G)).mono ?_;refine fO λw3 ag=>?_;rw [HV.out];replace Y:=cL ag Y;replace F:=yD (((F.below ag).own bE7).rd);have O:=(tQ G ag);have ah:w.heap.size < w3.heap.size:=by have:=ag.size;omega
 clear G ag bo;go_wp2_with fail;refine (kGb F.out).mono ?_;refine eD λw4 v4 E N=>?_;refine aH E λa4 n4 c4 V aj=>?_;obtain rfl:=V;refine lC N O λY G=>?_;refine FU λaq ar b0 W=>?_;clear O ah N E Y;go_wp2;go_loopw [5,6] (λv i wr=>∃ k:Nat,k<=n.length/\i=.int .i64 k/\Hid (kD.ko 5 kD.byte wr v (b++kEi n.length++kLa (n.take k)) (jW (w.heap.size + 1) wr))/\Below (w.heap.size + 1) w4 wr) (λ_ i _=>n.length - (intOf i).toNat);case atStart=>exact ⟨0,Nat.zero_le _,rfl,yD (by simpa [kLa] using aq.out),bR⟩
 clear aq;obtain ⟨k,hk,rfl,F,D⟩:=hrel;refine aH F λoa on oc ho ak=>?_;obtain rfl:=ho;refine JB λR ap Y=>?_;by_cases hlt:k < n.length
 · obtain ⟨qb,qo,rfl,c0,hr,A0⟩:=kD.kAu (HN.below R) hlt rfl;obtain ⟨he,bn⟩:=kD.zQ hr;obtain rfl:c0=_:=by simpa using he
   refine I4 λch au ao a8=>?_;clear hr he;generalize n[k]=s at *;refine D5 λW1 af I L=>?_;clear ao bn;generalize Am wr s.size 0 5=gc at *;go_wp2_with fail;refine (kUa (a8.below af) I.out).mono ?_;exact QI
 obtain rfl:k=n.length:=bJ5;go_wp2;go_ret;exact ⟨_,rfl,(F.cast qI).wide vE,R⟩
def kXe (ha:Cc.rd w [va] b) (hn:kQ.raw w cn n) (hv:zX n=true) (hb:b.length<=1000000) :
    Ap prog 291 #[va,.agg cn.toArray] w (kAo 5 kD.byte (b++kVd n) w):=by
 obtain ⟨av,rfl,ac⟩:=kT hn;obtain ⟨an,am,rfl,ln,aa,H,rfl,la⟩:=kD.sx ac (kD.sl ha.1);refine aN ha ac λHA HN=>?_;refine aN hn hv λai HV=>?_;have c6:=kVt hv;clear ha hn ac hv;go_enter func291,ntmps291;go_wp2_with fail;refine TF λX U EB Y=>?_;have bo:w.heap.size < X.heap.size:=bH6;clear U;refine (kAg (ai.below EB)).mono ?_;refine fO λw3 ag=>?_;rw [HV.out];refine lC ag EB λY O=>?_;have ah:w.heap.size < w3.heap.size:=by have:=ag.size;omega
 clear EB ag bo;go_wp2_with fail;refine (kGf (HA.below O)).mono ?_;refine eD λw4 v4 E N=>?_;refine aH E λa4 n4 c4 V aj=>?_;obtain rfl:=V;refine lC N O λY G=>?_;refine FU λaq ar b0 W=>?_;clear O ah N E Y;have Y:=b0.out;go_wp2;go_loopw [5,21] (λv i wr=>∃ k:Nat,k<=n.length/\i=.int .i64 k/\Hid (kD.ko 5 kD.byte wr v (b++kEi n.length++kLa (n.take k)) (jW (w.heap.size + 1) wr))/\Below (w.heap.size + 1) w4 wr) (λ_ i _=>n.length - (intOf i).toNat);case atStart=>exact ⟨0,Nat.zero_le _,rfl,yD (by simpa [kLa] using aq.out),bR⟩
 clear Y aq;obtain ⟨k,hk,rfl,F,D⟩:=hrel;refine aH F λoa on oc ho ak=>?_;obtain rfl:=ho;refine JB λR ap Y=>?_;by_cases hlt:k < n.length
 · obtain ⟨qb,qo,rfl,c0,hr,A0⟩:=kD.kAu (HN.below R) hlt rfl;obtain ⟨he,bn⟩:=kD.zQ hr;obtain rfl:c0=_:=by simpa using he
   refine I4 λch au ao a8=>?_;clear hr he;generalize n[k]=s at *;refine D5 λW1 af I L=>?_;clear ao bn;generalize Am wr s.size 0 5=gc at *;go_wp2_with fail;refine (kVa (a8.below af) I.out).mono ?_;exact QI
 obtain rfl:k=n.length:=bJ5;go_wp2;go_ret;exact ⟨_,rfl,(F.cast qI).wide vE,R⟩
def kBr (x:jK):Bool:=((((zX x.1 && decide (0 < x.1.length)) && decide ((x.2.1.length:Int)<=60)) && zX x.2.2.1) && inR x.2.2.2.1 0 100000) && inR x.2.2.2.2 0 2147483646
def kDx (hx:jC.raw w cx x) :
    Ap prog 115 #[.agg cx.toArray] w (bQ w (.bool (kBr x))):=by
 have Hx:=yD hx;obtain ⟨ay,bl,bd,rfl,Y,O,ag,am,an,ax,a2⟩:=jT hx;obtain ⟨az,ar,rfl,aq,bi,bh,rfl,bk,bg,be,rfl,bf⟩:=kD.sx O (kD.sx ag (kD.sl an));go_enter func115,ntmps115;go_upto_region 1 with fail;refine oM λX EB N=>?_;refine p9 λZ J E D F FX=>?_;clear N;refine GL λwS I=>?_;all_goals (refine kZ ?_;refine kZ ?_;(first | refine wkB (zM (kD.raw.below Y (tQ EB I))) (λwS1 I=>?_) | refine kZ ?_);refine jo λb a1=>?_;cases b <;> try simp only [jm] at a1)
 all_goals ((iterate 6 refine kZ ?_);refine jo λb ac=>?_;cases b <;> try simp only [jm] at ac)
 all_goals ((iterate 5 refine kZ ?_);refine jo λb V=>?_;cases b <;> try simp only [jm] at V)
 all_goals (refine kZ ?_;refine kZ ?_;(first | refine wkB (zM (kD.raw.below am (tQ EB I))) (λwS1 I=>?_) | refine kZ ?_);refine kZ ?_;refine jo λb ah=>?_;cases b <;> try simp only [jm] at ah)
 all_goals (refine kZ ?_;refine kZ ?_;(first | refine wkC (yQ) ?_ | refine kZ ?_);refine kZ ?_;refine jo λb H=>?_;cases b <;> try simp only [jm] at H)
 all_goals (refine kZ ?_;refine kZ ?_;(first | refine wkC (yQ) ?_ | refine kZ ?_);refine kZ ?_;refine jo λb R=>?_;cases b <;> try simp only [jm] at R)
 all_goals (refine kR ?_;have G:=(tQ EB I))
 all_goals (obtain ⟨vq,qv⟩:∃ qc,(kBr x)=qc:=⟨_,rfl⟩;have L:=yD qv;simp only [kBr,Q0,a1,ac,V,ah,H,R] at qv;subst qv;go_wp2;go_ret;exact ⟨kJ L.symm,G⟩)
def kFz (hx:jC.raw w cx x) :
    Ap prog 76 #[.agg cx.toArray] w (bQ w (.bool (kBr x))):=by
 have Hx:=yD hx;obtain ⟨ay,bl,bd,rfl,Y,O,ag,am,an,ax,a2⟩:=jT hx;obtain ⟨az,ar,rfl,aq,bi,bh,rfl,bk,bg,be,rfl,bf⟩:=kD.sx O (kD.sx ag (kD.sl an));go_enter func76,ntmps76;go_upto_region 1 with fail;refine oM λX EB N=>?_;refine p9 λZ J E D F FX=>?_;clear N;refine GL λwS I=>?_;all_goals (refine kZ ?_;refine kZ ?_;(first | refine wkB (kAg (kD.raw.below Y (tQ EB I))) (λwS1 I=>?_) | refine kZ ?_);refine jo λb a1=>?_;cases b <;> try simp only [jm] at a1)
 all_goals ((iterate 6 refine kZ ?_);refine jo λb ac=>?_;cases b <;> try simp only [jm] at ac)
 all_goals ((iterate 5 refine kZ ?_);refine jo λb V=>?_;cases b <;> try simp only [jm] at V)
 all_goals (refine kZ ?_;refine kZ ?_;(first | refine wkB (kAg (kD.raw.below am (tQ EB I))) (λwS1 I=>?_) | refine kZ ?_);refine kZ ?_;refine jo λb ah=>?_;cases b <;> try simp only [jm] at ah)
 all_goals (refine kZ ?_;refine kZ ?_;(first | refine wkC (yP) ?_ | refine kZ ?_);refine kZ ?_;refine jo λb H=>?_;cases b <;> try simp only [jm] at H)
 all_goals (refine kZ ?_;refine kZ ?_;(first | refine wkC (yP) ?_ | refine kZ ?_);refine kZ ?_;refine jo λb R=>?_;cases b <;> try simp only [jm] at R)
 all_goals (refine kR ?_;have G:=(tQ EB I))
 all_goals (obtain ⟨vq,qv⟩:∃ qc,(kBr x)=qc:=⟨_,rfl⟩;have L:=yD qv;simp only [kBr,Q0,a1,ac,V,ah,H,R] at qv;subst qv;go_wp2;go_ret;exact ⟨kJ L.symm,G⟩)
end Go.Proofs.YthocbplmdjkifabGreat

/-
  Copies of interests and data.
-/
import Derived.Test.YthocbplmdjkifaaGreatVData
set_option linter.unusedVariables false
set_option linter.defProp false
set_option linter.unusedSimpArgs false
set_option linter.unnecessarySimpa false
set_option maxRecDepth 100000
set_option maxHeartbeats 4000000
open Go renaming frozen_of_row->Aa,heap_setCell_other->Ab,heap_setCell_same->Ac,bodyPost_ret->Ag,World->Ai,Value->Aj,Calls->Ak
open Go.Proofs.Tryz renaming underlying79->Ad
open Go.RowKit.Below renaming setCell->Ae,trans->Al
open _root_ renaming List->Ah
namespace Go.Proofs.YthocbplmdjkifaaGreat
open Go.RowKit _root_.Go.Proofs.Tryz
def macOf (s:Int) (l:Ah Int):Int:=digest ([s]++l++[s])
def bInt (c:UInt8):Int:=c.toNat
def kHq (l:Ah UInt8) (k:Nat):Ah Int:=(l.length:Int) :: (l.take k).map bInt
def toIntsK_len (l:List UInt8) (k:Nat):(kHq l k).length<=k + 1:=by simp [kHq];omega
def kJy (l:Ah UInt8):Ah Int:=(l.length:Int) :: l.map bInt
def encV (n:ko):Ah UInt8:=if zx n=true then encNm n else []
def signed (x:jQ):Ah Int:=kJy (encV x.1)++kJy x.2.1++kJy (encV x.2.2.1)++[x.2.2.2.1]
def toInts_take {l:Ah UInt8} {k:Nat} (h:k < l.length):kHq l (k + 1)=(kHq l k)++[bInt l[k]]:=by
 unfold kHq;rw [List.take_succ_eq_append_getElem h,List.map_append];rfl
def toInts_end {l:List UInt8} {k:Nat} (h:¬ k < l.length):(kHq l k)=kJy l:=by unfold kHq;rw [List.take_of_length_le bF2];rfl
def kMa (l:List UInt8):(kJy l).length=l.length + 1:=by simp [kJy]
def kTs (n:ko):(encV n).length<=90:=by
 unfold encV;split
 · rename_i h;exact encNm_len h
 simp
def signed_len (x:jQ):(signed x).length<=x.2.1.length + 190:=by
 have h1:=kTs x.1;have h2:=kTs x.2.2.1;unfold signed;simp only [List.length_append,kMa,List.length_cons,List.length_nil];omega
def kAs {w:Ai} {vl:Aj} {l:Ah UInt8} (hl:(kD.slice 5 kD.byte).raw w [vl] l) (hn:l.length<=2000000) :
    Ak prog 271 #[vl] w (kBu 3 kD.int (kJy l) w):=by
 obtain ⟨al,pl,rfl,ll⟩:=kD.sl hl
 have O0:=litq (w:=w) (x:=(l.length:Int)) (e:=3) (by unfold I64q;omega)
 go_enter func271,ntmps271
 go_wp2
 go_loopw [3,4] (λv i wr=>∃ k:Nat,k<=l.length/\i=.int .i64 k/\Hid (kD.kY 3 kD.int wr v (kHq l k) (jg w wr))/\Qb w wr) (λ_ i _=>l.length - (intOf i).toNat)
 case atStart=>exact ⟨0,Nat.zero_le _,rfl,yD (by simpa [kHq] using O0.wide (T:=jg w (w.alloc (.cells #[.int .i64 (l.length:Int)] 3)).heap.size) rY),bI⟩
 clear O0
 obtain ⟨k,hk,rfl,J,o⟩:=hrel
 obtain ⟨oa,on,oc,ho,ay⟩:=J.out.parts
 obtain rfl:=ho
 by_cases hlt:k < l.length
 · obtain ⟨ba,X,rfl,c0,hr,A0⟩:=kD.kCk (hl.below o) hlt rfl;have he:=kD.kLr hr;obtain rfl:c0=_:=by simpa using he
   clear he hr;have E:=yD (toInts_take hlt);generalize l[k]=c at *;have an:=c.toNat_lt;have R:=o.size;have hkl:=toIntsK_len l k;go_wp2_with (at_builtin;refine kD.jR rfl _ _ 79 rfl (r:=kD.int) (e:=3) Ad kBl rfl bF1 bF1 (B:=w.heap.size) J.out bF4 bF4 rfl (kD.ky (n:=bInt c) (by unfold bInt;have:=c.toNat_lt;omega) _) rfl (λ_ _ h=>h) sI (λ_ h=>h.elim) bF2 bE6 ?_);intro v2 w2 H ag ax;have ab:=yD (H.cast E.out.symm);obtain ⟨c5,D,F,ar,O⟩:=H.parts;obtain rfl:=ar;have N:=o.trans ag;clear H ag J o;refine Qg ?_;exact ⟨k + 1,by omega,by go_num,ab,N⟩
 have L:=yD (toInts_end hlt)
 go_wp2
 go_ret
 exact ⟨_,rfl,J.out.cast L.out,o⟩
def kUv {w:Ai} {va:Aj} {cn:Ah Aj} {n:ko} (ha:(kD.slice 5 kD.byte).rd w [va] []) (hn:kR.raw w cn n) (hv:zx n=false) :
    Ak prog 272 #[va,.agg cn.toArray] w (kBu 5 kD.byte [] w):=by
 obtain ⟨av,rfl,V⟩:=kw hn
 obtain ⟨an,a8,rfl,ln,aa,al,rfl,la⟩:=kD.sx V (kD.sl ha.1)
 have HA:=yD ha
 have N:=yD hn
 have X:=yD hv
 clear ha hn V hv
 go_enter func272,ntmps272
 have O0:kD.kY 5 kD.byte ((w.alloc (.cells #[.slice an n.length a8] 36)).alloc (.cells #[] 5)) (.slice (some ⟨w.heap.size + 1,0,none⟩) 0 0) [] (λk=>k=w.heap.size + 1):=by
  exact iP
 go_wp2_with (at_builtin;refine kD.yh rfl _ _ 22 rfl (r:=kD.byte) (e:=5) underlying22 kFo rfl bF1 bF1 kD.kGw (B:=w.heap.size + 1) O0 bF4 bF4 (HA.out.below bI) rY bF3 bF3 ?_)
 intro v2 w2 hown o hz
 have J:Hid (kD.kY 5 kD.byte w2 v2 [] (jg w w2)):=yD ((hown.cast bF3).wide sJ)
 have K0:Qd w2 w 0 (Qs an n a8):=(o.cell (p:=⟨w,0,none⟩) bF3).trans bD9
 have D:Qb w w2:=Al bI (o.mono sK)
 obtain ⟨a2,n2,c2,ar,ba⟩:=J.out.parts
 obtain rfl:=ar
 clear hown O0 o hz
 go_wp2_with fail
 refine (zF (N.out.below D)).mono ?_
 rintro e w3 ⟨rfl,ac⟩
 rw [X.out]
 have aq:=J.out.below ac
 go_wp2
 go_ret
 exact ⟨_,rfl,aq.wide (λj I=>⟨I.1,by have:=I.2;have:=ac.size;omega⟩),(tQ D ac)⟩
def kDn {w:Ai} {va:Aj} {cn:Ah Aj} {n:ko} (ha:(kD.slice 5 kD.byte).rd w [va] []) (hn:kR.raw w cn n) :
    Ak prog 272 #[va,.agg cn.toArray] w (kBu 5 kD.byte (encV n) w):=by
 cases hv:zx n
 · rw [show encV n=[] by unfold encV;rw [hv];rfl];exact kUv ha hn hv
 rw [show encV n=[]++encNm n by unfold encV;rw [hv];rfl];exact kUw ha hn hv bF3
def kUu {w:Ai} {s:Int} (hs:Qi s) {vl:Aj} {l:Ah Int} (hl:(kD.slice 3 kD.int).rd w [vl] l) (hn:l.length<=16000000) :
    Ak prog 249 #[.int .i64 s,vl] w (bQ w (.int .i64 (macOf s l))):=by
 obtain ⟨al,pl,rfl,ll⟩:=kD.sl hl.1
 have hb:=hl.2.1
 unfold Big at hb
 have O0:=litq (w:=w) (x:=s) (e:=3) hs
 go_enter func249,ntmps249
 go_wp2_with (at_builtin;refine kD.yh rfl _ _ 79 rfl (r:=kD.int) (e:=3) Ad kBl rfl bF1 bF1 kD.zH (B:=w.heap.size) O0 bF4 bF4 (hl.below bI) rY bF3 bE6 ?_)
 intro v2 w2 H ag ax
 obtain ⟨c5,D,F,ar,O⟩:=H.parts;obtain rfl:=ar
 have O1:=litq (w:=w2) (x:=s) (e:=3) hs
 have ab:=yD H
 have E2:Qb w w2:=Al bI ag
 clear H ag O0 hl
 go_wp2_with (at_builtin;refine kD.yh rfl _ _ 79 rfl (r:=kD.int) (e:=3) Ad kBl rfl bF1 bF1 kD.zH (B:=w.heap.size) (ab.out.below dJ) bF4 bF4 (O1.own vI).rd (λk hk=>⟨hk.1,by have:=hk.2;simp;omega⟩) (by have:=E2.size;simp;omega) bE6 ?_)
 intro v3 w3 ad ac ap
 obtain ⟨dz,E,I,ao,o⟩:=ad.parts;obtain rfl:=ao
 have aq:=yD ((ad.own wI).raw)
 have E3:Qb w w3:=E2.trans (Al (bR.alloc E2.size _) ac)
 clear ad ac O1 ab
 go_wp2_with fail
 refine (kSz aq.out).mono ?_
 rintro e w4 ⟨rfl,hw⟩
 obtain rfl:=hw.symm
 go_wp2
 go_ret
 exact ⟨rfl,E3⟩
def kPw {w:Ai} {cx:Ah Aj} {x:jQ} (hx:jF.rd w cx x) (hc:x.2.1.length<=2000000) :
    Ak prog 250 #[.agg cx.toArray] w (kBu 3 kD.int (signed x) w):=by
 have hy:=hx.1
 obtain ⟨f6,a3,f4,rfl,V,a9,bl,bi,bg,bo,b1⟩:=jf hy
 obtain ⟨em,d7,rfl,gi,a8,a2,rfl,a4,dx,dw,rfl,gf⟩:=kD.sx a9 (kD.sx bl (kD.sl bg))
 have Y:=yD V
 have HC:=yD bl
 have HK:=yD bi
 have HF:=yD (show I64q x.2.2.2.1 from bo)
 have R:=kTs x.1
 have l2:=kTs x.2.2.1
 have HD:=yD (show signed x=kJy (encV x.1)++kJy x.2.1++kJy (encV x.2.2.1)++[x.2.2.2.1] from rfl)
 have m1:=kMa (encV x.1)
 have m2:=kMa x.2.1
 have m3:=kMa (encV x.2.2.1)
 clear hx hy V a9 bl bi bg bo b1
 go_enter func250,ntmps250
 go_upto_region 1 with fail
 refine ja ?_
 intro U Z F zB
 obtain ⟨K0,K1,K2,K3,K4⟩:=yZ F
 clear F
 have FX:=yD (λ(W:Ai) (hW:Qb U W)=>kTx hW K0 K1 K2 K3 K4)
 refine yg (λW=>Qb U W) bE5 (bR.drew) ?_
 intro wS E
 try have ba:=E.size
 refine kT 1 ?_
 refine kT 2 ?_
 refine kT 5 ?_
 refine kT 6 ?_
 refine kU (k:=0) rfl bE5 rfl (λK H=>?_)
 go_simp
 obtain ⟨bN,ak,RV⟩:=AX
 generalize am:World.alloc wS (.cells #[] 5)=t0 at bN ak RV ⊢
 clear am
 replace E:=(tQ E bN)
 refine H _ _ E ?_
 clear H K bN
 refine jH ?_
 refine kU (k:=3) rfl bE5 rfl (λK H=>?_)
 go_simp
 refine (kDn RV (Y.out.below (tQ Z E))).mono ?_
 rintro e t1 ⟨az,rfl,O,hb⟩
 obtain ⟨ax,a1,ay,ad,aj⟩:=O.parts
 obtain rfl:=ad
 have bp:=hb.size
 have OA:=O.wide (T:=jg t0 t1) nX
 clear O RV
 replace E:=(tQ E hb)
 refine H _ _ E ?_
 clear H K hb
 refine jH ?_
 refine kU (k:=4) rfl bE5 rfl (λK H=>?_)
 go_simp
 refine (kAs (OA.own bB1).rd.1 bF2).mono ?_
 rintro e t2 ⟨aq,rfl,J,hb⟩
 obtain ⟨al,ao,aw,ac,af⟩:=J.parts
 obtain rfl:=ac
 have OB:=J.wide (T:=jg t1 t2) nX
 clear J OA
 replace E:=(tQ E hb)
 refine H _ _ E ?_
 clear H K hb
 refine jH ?_
 refine kU (k:=7) rfl bE5 rfl (λK H=>?_)
 go_simp
 refine (kAs (HC.out.below (tQ Z E)) hc).mono ?_
 rintro e t3 ⟨bk,rfl,ai,hb⟩
 obtain ⟨bj,bq,bf,a7,bb⟩:=ai.parts
 obtain rfl:=a7
 have bc:=hb.size
 have OC:=ai.wide (T:=jg t2 t3) nX
 clear ai
 replace OB:=OB.below hb
 replace E:=(tQ E hb)
 refine H _ _ E ?_
 clear H K hb
 refine jH ?_
 refine kU (k:=8) rfl bE5 rfl (λK H=>?_)
 obtain ⟨v_,t4,hr,D,L,a5,o⟩:=kD.kCa (P:=prog) (t:=79) (ty:=79) (r:=kD.int) (e:=3) (w:=t3) (B:=U.heap.size) Ad kBl rfl bF1 bF1 kD.zH OB (OC.own bB1).rd dQ E.size bV
 refine kD.kX _ _ _ rfl bF4 bF4 hr ?_
 obtain ⟨bg,av,au,ab,ah⟩:=D.parts
 obtain rfl:=ab
 replace E:=E.trans L
 clear hr L o OB OC
 have X:=D
 clear D
 refine H _ _ E ?_
 clear H K
 refine jH ?_
 refine kT 9 ?_
 refine jv bE5 ?_
 have aa:=E
 clear E
 go_upto_region 2 with fail
 replace X:=X.wide (T:=jg U t4) (λj I=>I)
 have FX:=yD (λ(W:Ai) (hW:Qb U W)=>kTx hW K0 K1 K2 K3 K4)
 refine kCn (λW=>Qb U W) bE5 (aa.drew) ?_
 intro wS di E
 have bD:Qb t4 wS:=(by rw [di];exact bR.drew)
 have bm:=bD.size
 clear di
 try have ba:=E.size
 replace X:=X.below bD
 clear bD
 refine kT 0 ?_
 refine kT 2 ?_
 refine kT 3 ?_
 refine kT 7 ?_
 refine kT 8 ?_
 refine yH (i:=1) (j:=9) rfl rfl bE5 rfl rfl (λK H=>?_) (λK H=>?_)
 · have bn:=E.size;go_simp;obtain ⟨bN,ak,RV⟩:=AX;generalize am:World.alloc wS (.cells #[] 5)=t0 at bN ak RV ⊢;clear am;replace X:=X.below bN;replace E:=(tQ E bN);refine H _ _ E ?_;clear H K bN bn;refine jH ?_;refine yH (i:=4) (j:=9) rfl rfl bE5 rfl rfl (λK H=>?_) (λK H=>?_)
   · go_simp;refine (kDn RV (HK.out.below (tQ Z E))).mono ?_;rintro e t1 ⟨az,rfl,O,hb⟩;obtain ⟨ax,a1,ay,ad,aj⟩:=O.parts;obtain rfl:=ad;have bp:=hb.size;have OA:=O.wide (T:=jg t0 t1) nX;clear O RV;replace X:=X.below hb;replace E:=(tQ E hb);refine H _ _ E ?_;clear H K hb;refine jH ?_;refine yH (i:=5) (j:=9) rfl rfl bE5 rfl rfl (λK H=>?_) (λK H=>?_)
     · go_simp;refine (kAs (OA.own bB1).rd.1 bF2).mono ?_;rintro e t2 ⟨aq,rfl,J,hb⟩;obtain ⟨al,ao,aw,ac,af⟩:=J.parts;obtain rfl:=ac;have be:=hb.size;have OB:=J.wide (T:=jg t1 t2) nX;clear J OA;replace X:=X.below hb;replace E:=(tQ E hb);refine H _ _ E ?_;clear H K hb;refine jH ?_;refine yH (i:=6) (j:=9) rfl rfl bE5 rfl rfl (λK H=>?_) (λK H=>?_)
       · have bn:=E.size;obtain ⟨v_,t3,hr,D,L,bc,o⟩:=kD.kCa (P:=prog) (t:=79) (ty:=79) (r:=kD.int) (e:=3) (w:=t2) (B:=U.heap.size) Ad kBl rfl bF1 bF1 kD.zH X (OB.own bB1).rd dQ E.size bV;refine kD.kX _ _ _ rfl bF4 bF4 hr ?_;obtain ⟨bi,bh,a6,ab,bd⟩:=D.parts;obtain rfl:=ab;replace E:=E.trans L;clear hr L o X OB;have N:=D;clear D;refine H _ _ E ?_;clear H K bn;refine jH ?_;refine kU (k:=9) rfl bE5 rfl (λK H=>?_);go_simp;have bN:Below t3 t3 (World.alloc t3 (.cells #[.int .i64 x.2.2.2.1] 3)):=bR.alloc nL _;have a5:t3.heap.size + 1<=(World.alloc t3 (.cells #[.int .i64 x.2.2.2.1] 3)).heap.size:=(by simp);have RL:=litq (w:=t3) (x:=x.2.2.2.1) (e:=3) HF.out;generalize am:World.alloc t3 (.cells #[.int .i64 x.2.2.2.1] 3)=t4 at bN a5 RL ⊢;clear am;replace N:=N.below bN;replace E:=(tQ E bN);refine H _ _ E ?_;clear H K bN;exact uJ
       have bn:=E.size;go_simp;have bN:Below t2 t2 (World.alloc t2 (.cells #[.int .i64 x.2.2.2.1] 3)):=bR.alloc nL _;have bc:t2.heap.size + 1<=(World.alloc t2 (.cells #[.int .i64 x.2.2.2.1] 3)).heap.size:=(by simp);have RL:=litq (w:=t2) (x:=x.2.2.2.1) (e:=3) HF.out;generalize am:World.alloc t2 (.cells #[.int .i64 x.2.2.2.1] 3)=t3 at bN bc RL ⊢;clear am;replace X:=X.below bN;replace OB:=OB.below bN;replace E:=(tQ E bN);refine H _ _ E ?_;clear H K bN bn;refine jH ?_;refine kU (k:=6) rfl bE5 rfl (λK H=>?_);obtain ⟨v_,t4,hr,D,L,a5,o⟩:=kD.kCa (P:=prog) (t:=79) (ty:=79) (r:=kD.int) (e:=3) (w:=t3) (B:=U.heap.size) Ad kBl rfl bF1 bF1 kD.zH X (OB.own bB1).rd dQ E.size bV;refine kD.kX _ _ _ rfl bF4 bF4 hr ?_;obtain ⟨bg,av,au,ab,ah⟩:=D.parts;obtain rfl:=ab;replace RL:=RL.keep bP;replace E:=E.trans L;clear hr L o X OB;have N:=D;clear D;refine H _ _ E ?_;clear H K;exact uJ
     have bn:=E.size;go_simp;have bN:Below t1 t1 (World.alloc t1 (.cells #[.int .i64 x.2.2.2.1] 3)):=bR.alloc nL _;have be:t1.heap.size + 1<=(World.alloc t1 (.cells #[.int .i64 x.2.2.2.1] 3)).heap.size:=(by simp);have RL:=litq (w:=t1) (x:=x.2.2.2.1) (e:=3) HF.out;generalize am:World.alloc t1 (.cells #[.int .i64 x.2.2.2.1] 3)=t2 at bN be RL ⊢;clear am;replace X:=X.below bN;replace OA:=OA.below bN;replace E:=(tQ E bN);refine H _ _ E ?_;clear H K bN bn;refine jH ?_;refine kU (k:=5) rfl bE5 rfl (λK H=>?_);go_simp;refine (kAs (OA.own bB1).rd.1 bF2).mono ?_;rintro e t3 ⟨aq,rfl,J,hb⟩;obtain ⟨al,ao,aw,ac,af⟩:=J.parts;exact oK
   have bn:=E.size;go_simp;have bN:Below t0 t0 (World.alloc t0 (.cells #[.int .i64 x.2.2.2.1] 3)):=bR.alloc nL _;have bp:t0.heap.size + 1<=(World.alloc t0 (.cells #[.int .i64 x.2.2.2.1] 3)).heap.size:=(by simp);have RL:=litq (w:=t0) (x:=x.2.2.2.1) (e:=3) HF.out;generalize am:World.alloc t0 (.cells #[.int .i64 x.2.2.2.1] 3)=t1 at bN bp RL ⊢;clear am;replace X:=X.below bN;replace RV:=RV.below bN;replace E:=(tQ E bN);refine H _ _ E ?_;clear H K bN bn;exact uK
 have bn:=E.size
 go_simp
 have bN:Below wS wS (World.alloc wS (.cells #[.int .i64 x.2.2.2.1] 3)):=bR.alloc nL _
 have ak:wS.heap.size + 1<=(World.alloc wS (.cells #[.int .i64 x.2.2.2.1] 3)).heap.size:=(by simp)
 have RL:=litq (w:=wS) (x:=x.2.2.2.1) (e:=3) HF.out
 generalize am:World.alloc wS (.cells #[.int .i64 x.2.2.2.1] 3)=t0 at bN ak RL ⊢
 clear am
 replace X:=X.below bN
 replace E:=(tQ E bN)
 refine H _ _ E ?_
 clear H K bN bn
 refine jH ?_
 refine kU (k:=1) rfl bE5 rfl (λK H=>?_)
 go_simp
 have bN:Below t0 t0 (World.alloc t0 (.cells #[] 5)):=bR.alloc nL _
 have bp:t0.heap.size + 1<=(World.alloc t0 (.cells #[] 5)).heap.size:=(by simp)
 have RV:=((kD.kY.void (e:=5) (r:=kD.byte) (w:=(World.alloc t0 (.cells #[] 5))) (a:=some ⟨t0,0,none⟩) (S:=λ_=>False)).own (Nat.zero_le _)).rd
 generalize am:World.alloc t0 (.cells #[] 5)=t1 at bN bp RV ⊢
 clear am
 replace X:=X.below bN
 replace RL:=RL.below bN
 replace E:=(tQ E bN)
 refine H _ _ E ?_
 clear H K bN
 exact uK
def kEn {w:Ai} {cx:Ah Aj} {x:jE} (hx:jM.rd w cx x):Ak prog 45 #[.agg cx.toArray] w (kAb jM x w):=by
 obtain ⟨hx,av⟩:=hx;obtain ⟨v0,rfl,V,a9,bl,bi,bg⟩:=jY hx;obtain ⟨x0,x1,x2,x3⟩:=x;obtain ⟨a0,p0,rfl,_⟩:=kD.sl a9;have r0:kR.rd w _ x0:=⟨V,av.1⟩;have N1:=yD bl;have N2:=yD bi;have N3:=yD bg;clear av hx V a9 bl bi bg;go_enter func45,ntmps45;go_upto_region 1 with fail;generalize R:World.alloc (World.alloc w _) _=v0;have E0:Qb w v0:=by rw [<- R];exact bI
 have a5:v0.heap.size=w.heap.size + 2:=bD4;have E:Hid (Qr v0 w (Qk a0 x0 p0 x1 x2 x3) 38):=yD vG;have XR:Hid (Qr v0 (w.heap.size + 1) #[.slice none 0 0,Qn 0,Qn 0,Qn 0] 38):=yD tN;clear R;have Z:=kE (b:=w.heap.size) E.out (j:=0) (v:=Qs a0 x0 p0) rfl;go_wp2_with fail;refine (zG (r0.below E0)).mono ?_;rintro e w1 ⟨tc,rfl,O1,N⟩;obtain ⟨b0,rfl,am⟩:=kw O1.raw;obtain ⟨ad,Y,rfl,br⟩:=kD.sl am;clear am;have aa:=yD O1;clear O1;have F1:=(tQ E0 N);replace E:=yD (kC E.out N);replace XR:=yD (kC XR.out N);clear N Z;have W:=kE (b:=w.heap.size) E.out (j:=0) (v:=Qs a0 x0 p0) rfl;have U:=Aa w1 (w.heap.size) 0 _ _ E.out;go_upto_region 2 with fail;generalize D:(w1.setCell ⟨w,0,none⟩ (Qs ad x0 Y))=v1;have J:Qr v1 w (Qk ad x0 Y x1 x2 x3) 38:=by
  rw [<- D];have y0:=Ac _ (w.heap.size) 0 _ 38 (Qs ad x0 Y) E.out;exact y0
 replace XR:=yD (show Qr v1 (w.heap.size + 1) #[.slice none 0 0,Qn 0,Qn 0,Qn 0] 38 from by rw [<- D];exact ((Ab _ ⟨w,0,none⟩ (w.heap.size + 1) _ (show w.heap.size + 1≠w.heap.size by omega)).trans XR.out));replace E:=yD J;clear J;obtain ⟨E1,L,aa⟩:=xX;clear D F1 W U;have K0:=kE (b:=w.heap.size) E.out (j:=0) (v:=Qs ad x0 Y) rfl;have R0:=kE (b:=w.heap.size + 1) XR.out (j:=0) rfl;have Z0:=Aa v1 (w.heap.size + 1) 0 _ _ XR.out;have K1:=kE (b:=w.heap.size) E.out (j:=1) (v:=.int .i64 x1) rfl;have R1:=kE (b:=w.heap.size + 1) XR.out (j:=1) rfl;have Z1:=Aa v1 (w.heap.size + 1) 1 _ _ XR.out;have K2:=kE (b:=w.heap.size) E.out (j:=2) (v:=.int .i64 x2) rfl;have R2:=kE (b:=w.heap.size + 1) XR.out (j:=2) rfl;have Z2:=Aa v1 (w.heap.size + 1) 2 _ _ XR.out;have K3:=kE (b:=w.heap.size) E.out (j:=3) (v:=.int .i64 x3) rfl;have R3:=kE (b:=w.heap.size + 1) XR.out (j:=3) rfl;have Z3:=Aa v1 (w.heap.size + 1) 3 _ _ XR.out;go_wp2;have a4:=L.out;refine Ag (v:=.agg (Qk ad x0 Y x1 x2 x3)) (by simp [results,results45,go_sem,R0,Z0,R1,Z1,R2,Z2,R3,Z3]) rfl ⟨[_,_,_,_],rfl,?_,?_⟩
 · exact aN
 repeat (first|(with_reducible exact E1) | refine Ae ?_ sK _)
def kMc {w:Ai} {cx:Ah Aj} {x:jE} (hx:jM.rd w cx x):Ak prog 64 #[.agg cx.toArray] w (kAb jM x w):=by
 obtain ⟨hx,av⟩:=hx;obtain ⟨v0,rfl,V,a9,bl,bi,bg⟩:=jY hx;obtain ⟨x0,x1,x2,x3⟩:=x;obtain ⟨a0,p0,rfl,_⟩:=kD.sl a9;have r0:kR.rd w _ x0:=⟨V,av.1⟩;have N1:=yD bl;have N2:=yD bi;have N3:=yD bg;clear av hx V a9 bl bi bg;go_enter func64,ntmps64;go_upto_region 2 with fail;generalize R:World.alloc (World.alloc (World.alloc w _) _) _=v0;have E0:Qb w v0:=by rw [<- R];exact bI
 have a5:v0.heap.size=w.heap.size + 3:=bD4;have XB:Hid (Qr v0 w (Qk a0 x0 p0 x1 x2 x3) 38):=yD sF;have XR:Hid (Qr v0 (w.heap.size + 1) #[.slice none 0 0,Qn 0,Qn 0,Qn 0] 38):=yD rX;have E:Hid (Qr v0 (w.heap.size + 1 + 1) (Qk a0 x0 p0 x1 x2 x3) 38):=yD tN;clear R;have Z:=kE (b:=w.heap.size) XB.out (j:=0) (v:=Qs a0 x0 p0) rfl;go_wp2_with fail;refine (zg (r0.below E0)).mono ?_;rintro e w1 ⟨tc,rfl,O1,N⟩;obtain ⟨b0,rfl,am⟩:=kw O1.raw;obtain ⟨ad,Y,rfl,br⟩:=kD.sl am;clear am;have aa:=yD O1;clear O1;have F1:=(tQ E0 N);replace E:=yD (kC E.out N);replace XR:=yD (kC XR.out N);clear N Z;obtain ⟨W,U⟩:=FU;go_upto_region 3 with fail;generalize D:(w1.setCell ⟨w.heap.size + 1 + 1,0,none⟩ (Qs ad x0 Y))=v1;have J:Qr v1 (w.heap.size + 1 + 1) (Qk ad x0 Y x1 x2 x3) 38:=by
  rw [<- D];have y0:=Ac _ (w.heap.size + 1 + 1) 0 _ 38 (Qs ad x0 Y) E.out;exact y0
 replace XR:=yD (show Qr v1 (w.heap.size + 1) #[.slice none 0 0,Qn 0,Qn 0,Qn 0] 38 from by rw [<- D];exact ((Ab _ ⟨w.heap.size + 1 + 1,0,none⟩ (w.heap.size + 1) _ (show w.heap.size + 1≠w.heap.size + 1 + 1 by omega)).trans XR.out));replace E:=yD J;clear J;obtain ⟨E1,L,aa⟩:=xX;clear D F1 W U;have K0:=kE (b:=w.heap.size + 1 + 1) E.out (j:=0) (v:=Qs ad x0 Y) rfl;have R0:=kE (b:=w.heap.size + 1) XR.out (j:=0) rfl;have Z0:=Aa v1 (w.heap.size + 1) 0 _ _ XR.out;have K1:=kE (b:=w.heap.size + 1 + 1) E.out (j:=1) (v:=.int .i64 x1) rfl;have R1:=kE (b:=w.heap.size + 1) XR.out (j:=1) rfl;have Z1:=Aa v1 (w.heap.size + 1) 1 _ _ XR.out;have K2:=kE (b:=w.heap.size + 1 + 1) E.out (j:=2) (v:=.int .i64 x2) rfl;have R2:=kE (b:=w.heap.size + 1) XR.out (j:=2) rfl;have Z2:=Aa v1 (w.heap.size + 1) 2 _ _ XR.out;have K3:=kE (b:=w.heap.size + 1 + 1) E.out (j:=3) (v:=.int .i64 x3) rfl;have R3:=kE (b:=w.heap.size + 1) XR.out (j:=3) rfl;have Z3:=Aa v1 (w.heap.size + 1) 3 _ _ XR.out;go_wp2;have a4:=L.out;refine Ag (v:=.agg (Qk ad x0 Y x1 x2 x3)) (by simp [results,results64,go_sem,R0,Z0,R1,Z1,R2,Z2,R3,Z3]) rfl ⟨[_,_,_,_],rfl,?_,?_⟩
 · exact aN
 repeat (first|(with_reducible exact E1) | refine Ae ?_ sK _)
def kDi {w:Ai} {cx:Ah Aj} {x:jQ} (hx:jF.rd w cx x):Ak prog 73 #[.agg cx.toArray] w (kAb jF x w):=by
 obtain ⟨hx,av⟩:=hx;obtain ⟨v0,v1,v2,rfl,V,a9,bl,bi,bg,bo,b1⟩:=jf hx;obtain ⟨x0,x1,x2,x3,x4⟩:=x;obtain ⟨a0,p0,rfl,_,a1,p1,rfl,_,a2,p2,rfl,_⟩:=kD.sx a9 (kD.sx bl (kD.sl bg));have r0:kR.rd w _ x0:=⟨V,av.1⟩;have r1:(kD.slice 5 kD.byte).rd w _ x1:=⟨bl,av.2.1⟩;have r2:kR.rd w _ x2:=⟨bi,av.2.2.1⟩;have N3:=yD bo;have N4:=yD b1;clear av hx V a9 bl bi bg bo b1;go_enter func73,ntmps73;go_upto_region 1 with fail;generalize R:World.alloc (World.alloc w _) _=v0;have E0:Qb w v0:=by rw [<- R];exact bI
 have a5:v0.heap.size=w.heap.size + 2:=bD4;have E:Hid (Qr v0 w (Qj a0 x0 p0 a1 x1 p1 a2 x2 p2 x3 x4) 60):=yD vG;have XR:Hid (Qr v0 (w.heap.size + 1) #[.slice none 0 0,.slice none 0 0,.slice none 0 0,Qn 0,Qn 0] 60):=yD tN;clear R;have Z:=kE (b:=w.heap.size) E.out (j:=0) (v:=Qs a0 x0 p0) rfl;go_wp2_with fail;refine (zG (r0.below E0)).mono ?_;rintro e w1 ⟨tc,rfl,O1,N⟩;obtain ⟨b0,rfl,am⟩:=kw O1.raw;obtain ⟨ad,Y,rfl,br⟩:=kD.sl am;clear am;have aa:=yD O1;clear O1;have bn:=N.size;have F1:=(tQ E0 N);replace E:=yD (kC E.out N);replace XR:=yD (kC XR.out N);clear N Z;have W:=kE (b:=w.heap.size) E.out (j:=0) (v:=Qs a0 x0 p0) rfl;have U:=Aa w1 (w.heap.size) 0 _ _ E.out;go_upto_region 2 with fail;generalize D:(w1.setCell ⟨w,0,none⟩ (Qs ad x0 Y))=v1;have J:Qr v1 w (Qj ad x0 Y a1 x1 p1 a2 x2 p2 x3 x4) 60:=by
  rw [<- D];have y0:=Ac _ (w.heap.size) 0 _ 60 (Qs ad x0 Y) E.out;exact y0
 replace XR:=yD (show Qr v1 (w.heap.size + 1) #[.slice none 0 0,.slice none 0 0,.slice none 0 0,Qn 0,Qn 0] 60 from by rw [<- D];exact ((Ab _ ⟨w,0,none⟩ (w.heap.size + 1) _ (show w.heap.size + 1≠w.heap.size by omega)).trans XR.out));replace E:=yD J;clear J;obtain ⟨E1,L,aa⟩:=xX;clear D F1 W U;have O:=kE (b:=w.heap.size) E.out (j:=1) (v:=Qs a1 x1 p1) rfl;go_wp2_with fail;refine (jGq (r1.below E1)).mono ?_;rintro e w2 ⟨tv,rfl,O2,ag⟩;obtain ⟨bb,a3,rfl,_⟩:=kD.sl O2.raw;have ab:=yD O2;clear O2;have ax:=ag.size;have F2:=(tQ E1 ag);replace E:=yD (kC E.out ag);replace XR:=yD (kC XR.out ag);replace aa:=yD (aa.out.below ag);clear ag O;have ah:=kE (b:=w.heap.size) E.out (j:=1) (v:=Qs a1 x1 p1) rfl;have ak:=Aa w2 (w.heap.size) 1 _ _ E.out;go_upto_region 3 with fail;generalize D:(w2.setCell ⟨w,1,none⟩ (Qs bb x1 a3))=v2;have J:Qr v2 w (Qj ad x0 Y bb x1 a3 a2 x2 p2 x3 x4) 60:=by
  rw [<- D];have y0:=Ac _ (w.heap.size) 1 _ 60 (Qs bb x1 a3) E.out;exact y0
 replace XR:=yD (show Qr v2 (w.heap.size + 1) #[.slice none 0 0,.slice none 0 0,.slice none 0 0,Qn 0,Qn 0] 60 from by rw [<- D];exact ((Ab _ ⟨w,1,none⟩ (w.heap.size + 1) _ (show w.heap.size + 1≠w.heap.size by omega)).trans XR.out));replace E:=yD J;clear J;obtain ⟨E2,ae,aa,ab⟩:=EH;clear D F2 ah ak;have X:=kE (b:=w.heap.size) E.out (j:=2) (v:=Qs a2 x2 p2) rfl;go_wp2_with fail;refine (zG (r2.below E2)).mono ?_;rintro e w3 ⟨tc,rfl,O3,ac⟩;obtain ⟨an,rfl,af⟩:=kw O3.raw;obtain ⟨H,F,rfl,ao⟩:=kD.sl af;clear af;have aq:=yD O3;clear O3;have ap:=ac.size;have F3:=(tQ E2 ac);replace E:=yD (kC E.out ac);replace XR:=yD (kC XR.out ac);replace aa:=yD (aa.out.below ac);replace ab:=yD (ab.out.below ac);clear ac X;have ai:=kE (b:=w.heap.size) E.out (j:=2) (v:=Qs a2 x2 p2) rfl;have aj:=Aa w3 (w.heap.size) 2 _ _ E.out;go_upto_region 4 with fail;generalize D:(w3.setCell ⟨w,2,none⟩ (Qs H x2 F))=v3;have J:Qr v3 w (Qj ad x0 Y bb x1 a3 H x2 F x3 x4) 60:=by
  rw [<- D];have y0:=Ac _ (w.heap.size) 2 _ 60 (Qs H x2 F) E.out;exact y0
 replace XR:=yD (show Qr v3 (w.heap.size + 1) #[.slice none 0 0,.slice none 0 0,.slice none 0 0,Qn 0,Qn 0] 60 from by rw [<- D];exact ((Ab _ ⟨w,2,none⟩ (w.heap.size + 1) _ (show w.heap.size + 1≠w.heap.size by omega)).trans XR.out));replace E:=yD J;clear J;obtain ⟨E3,al,aa,ab,aq⟩:=DC;clear D F3 ai aj;have K0:=kE (b:=w.heap.size) E.out (j:=0) (v:=Qs ad x0 Y) rfl;have R0:=kE (b:=w.heap.size + 1) XR.out (j:=0) rfl;have Z0:=Aa v3 (w.heap.size + 1) 0 _ _ XR.out;have K1:=kE (b:=w.heap.size) E.out (j:=1) (v:=Qs bb x1 a3) rfl;have R1:=kE (b:=w.heap.size + 1) XR.out (j:=1) rfl;have Z1:=Aa v3 (w.heap.size + 1) 1 _ _ XR.out;have K2:=kE (b:=w.heap.size) E.out (j:=2) (v:=Qs H x2 F) rfl;have R2:=kE (b:=w.heap.size + 1) XR.out (j:=2) rfl;have Z2:=Aa v3 (w.heap.size + 1) 2 _ _ XR.out;have K3:=kE (b:=w.heap.size) E.out (j:=3) (v:=.int .i64 x3) rfl;have R3:=kE (b:=w.heap.size + 1) XR.out (j:=3) rfl;have Z3:=Aa v3 (w.heap.size + 1) 3 _ _ XR.out;have K4:=kE (b:=w.heap.size) E.out (j:=4) (v:=.int .i64 x4) rfl;have R4:=kE (b:=w.heap.size + 1) XR.out (j:=4) rfl;have Z4:=Aa v3 (w.heap.size + 1) 4 _ _ XR.out;go_wp2;have a4:=L.out;have b7:=ae.out;have az:=al.out;refine Ag (v:=.agg (Qj ad x0 Y bb x1 a3 H x2 F x3 x4)) (by simp [results,results73,go_sem,R0,Z0,R1,Z1,R2,Z2,R3,Z3,R4,Z4]) rfl ⟨[_,_,_,_,_],rfl,?_,?_⟩
 · exact aO
 repeat (first|(with_reducible exact E3) | refine Ae ?_ sK _)
def kBb {w:Ai} {cx:Ah Aj} {x:jQ} (hx:jF.rd w cx x):Ak prog 139 #[.agg cx.toArray] w (kAb jF x w):=by
 obtain ⟨hx,av⟩:=hx;obtain ⟨v0,v1,v2,rfl,V,a9,bl,bi,bg,bo,b1⟩:=jf hx;obtain ⟨x0,x1,x2,x3,x4⟩:=x;obtain ⟨a0,p0,rfl,_,a1,p1,rfl,_,a2,p2,rfl,_⟩:=kD.sx a9 (kD.sx bl (kD.sl bg));have r0:kR.rd w _ x0:=⟨V,av.1⟩;have r1:(kD.slice 5 kD.byte).rd w _ x1:=⟨bl,av.2.1⟩;have r2:kR.rd w _ x2:=⟨bi,av.2.2.1⟩;have N3:=yD bo;have N4:=yD b1;clear av hx V a9 bl bi bg bo b1;go_enter func139,ntmps139;go_upto_region 2 with fail;generalize R:World.alloc (World.alloc (World.alloc w _) _) _=v0;have E0:Qb w v0:=by rw [<- R];exact bI
 have a5:v0.heap.size=w.heap.size + 3:=bD4;have XB:Hid (Qr v0 w (Qj a0 x0 p0 a1 x1 p1 a2 x2 p2 x3 x4) 60):=yD sF;have XR:Hid (Qr v0 (w.heap.size + 1) #[.slice none 0 0,.slice none 0 0,.slice none 0 0,Qn 0,Qn 0] 60):=yD rX;have E:Hid (Qr v0 (w.heap.size + 1 + 1) (Qj a0 x0 p0 a1 x1 p1 a2 x2 p2 x3 x4) 60):=yD tN;clear R;have Z:=kE (b:=w.heap.size) XB.out (j:=0) (v:=Qs a0 x0 p0) rfl;go_wp2_with fail;refine (zg (r0.below E0)).mono ?_;rintro e w1 ⟨tc,rfl,O1,N⟩;obtain ⟨b0,rfl,am⟩:=kw O1.raw;obtain ⟨ad,Y,rfl,br⟩:=kD.sl am;clear am;have aa:=yD O1;clear O1;have bn:=N.size;have F1:=(tQ E0 N);replace XB:=yD (kC XB.out N);replace E:=yD (kC E.out N);replace XR:=yD (kC XR.out N);clear N Z;obtain ⟨W,U⟩:=FU;go_upto_region 3 with fail;generalize D:(w1.setCell ⟨w.heap.size + 1 + 1,0,none⟩ (Qs ad x0 Y))=v1;have J:Qr v1 (w.heap.size + 1 + 1) (Qj ad x0 Y a1 x1 p1 a2 x2 p2 x3 x4) 60:=by
  rw [<- D];have y0:=Ac _ (w.heap.size + 1 + 1) 0 _ 60 (Qs ad x0 Y) E.out;exact y0
 replace XB:=yD (show Qr v1 w (Qj a0 x0 p0 a1 x1 p1 a2 x2 p2 x3 x4) 60 from by rw [<- D];exact ((Ab _ ⟨w.heap.size + 1 + 1,0,none⟩ (w.heap.size) _ (show w.heap.size≠w.heap.size + 1 + 1 by omega)).trans XB.out));replace XR:=yD (show Qr v1 (w.heap.size + 1) #[.slice none 0 0,.slice none 0 0,.slice none 0 0,Qn 0,Qn 0] 60 from by rw [<- D];exact ((Ab _ ⟨w.heap.size + 1 + 1,0,none⟩ (w.heap.size + 1) _ (show w.heap.size + 1≠w.heap.size + 1 + 1 by omega)).trans XR.out));replace E:=yD J;clear J;obtain ⟨E1,L,aa⟩:=xX;clear D F1 W U;have O:=kE (b:=w.heap.size) XB.out (j:=1) (v:=Qs a1 x1 p1) rfl;replace O:=cL (kD.zt v1 (.cells #[] 5)) O;go_wp2_with (at_builtin;refine kD.yh rfl _ _ 22 rfl (r:=kD.byte) (e:=5) underlying22 kFo rfl bF1 bF1 flatbyte (B:=v1.heap.size) (kD.kY.void (S:=λ_=>False)) bF4 bF4 ((r1.below E1).alloc _) (λ_ h=>h.elim) bF3 (by have:=r1.2.1;simp;unfold Big at this;omega) ?_);intro tv w2 hown o hz;have ag:Qb v1 w2:=(bR.alloc nL _).trans o;obtain ⟨bb,a3,ar⟩:=hown.zJ;obtain rfl:=ar;have ab:=yD (hown.own r1.2.1);try simp only [List.nil_append] at ab
 clear hown o hz;have ax:=ag.size;have F2:=(tQ E1 ag);replace XB:=yD (kC XB.out ag);replace E:=yD (kC E.out ag);replace XR:=yD (kC XR.out ag);replace aa:=yD (aa.out.below ag);clear ag O;have ah:=kE (b:=w.heap.size + 1 + 1) E.out (j:=1) (v:=Qs a1 x1 p1) rfl;have ak:=Aa w2 (w.heap.size + 1 + 1) 1 _ _ E.out;go_upto_region 4 with fail;generalize D:(w2.setCell ⟨w.heap.size + 1 + 1,1,none⟩ (Qs bb x1 a3))=v2;have J:Qr v2 (w.heap.size + 1 + 1) (Qj ad x0 Y bb x1 a3 a2 x2 p2 x3 x4) 60:=by
  rw [<- D];have y0:=Ac _ (w.heap.size + 1 + 1) 1 _ 60 (Qs bb x1 a3) E.out;exact y0
 replace XB:=yD (show Qr v2 w (Qj a0 x0 p0 a1 x1 p1 a2 x2 p2 x3 x4) 60 from by rw [<- D];exact ((Ab _ ⟨w.heap.size + 1 + 1,1,none⟩ (w.heap.size) _ (show w.heap.size≠w.heap.size + 1 + 1 by omega)).trans XB.out));replace XR:=yD (show Qr v2 (w.heap.size + 1) #[.slice none 0 0,.slice none 0 0,.slice none 0 0,Qn 0,Qn 0] 60 from by rw [<- D];exact ((Ab _ ⟨w.heap.size + 1 + 1,1,none⟩ (w.heap.size + 1) _ (show w.heap.size + 1≠w.heap.size + 1 + 1 by omega)).trans XR.out));replace E:=yD J;clear J;obtain ⟨E2,ae,aa,ab⟩:=EH;clear D F2 ah ak;have X:=kE (b:=w.heap.size) XB.out (j:=2) (v:=Qs a2 x2 p2) rfl;go_wp2_with fail;refine (zg (r2.below E2)).mono ?_;rintro e w3 ⟨tc,rfl,O3,ac⟩;obtain ⟨an,rfl,af⟩:=kw O3.raw;obtain ⟨H,F,rfl,ao⟩:=kD.sl af;clear af;have aq:=yD O3;clear O3;have ap:=ac.size;have F3:=(tQ E2 ac);replace E:=yD (kC E.out ac);replace XR:=yD (kC XR.out ac);replace aa:=yD (aa.out.below ac);replace ab:=yD (ab.out.below ac);clear ac X;have ai:=kE (b:=w.heap.size + 1 + 1) E.out (j:=2) (v:=Qs a2 x2 p2) rfl;have aj:=Aa w3 (w.heap.size + 1 + 1) 2 _ _ E.out;go_upto_region 5 with fail;generalize D:(w3.setCell ⟨w.heap.size + 1 + 1,2,none⟩ (Qs H x2 F))=v3;have J:Qr v3 (w.heap.size + 1 + 1) (Qj ad x0 Y bb x1 a3 H x2 F x3 x4) 60:=by
  rw [<- D];have y0:=Ac _ (w.heap.size + 1 + 1) 2 _ 60 (Qs H x2 F) E.out;exact y0
 replace XR:=yD (show Qr v3 (w.heap.size + 1) #[.slice none 0 0,.slice none 0 0,.slice none 0 0,Qn 0,Qn 0] 60 from by rw [<- D];exact ((Ab _ ⟨w.heap.size + 1 + 1,2,none⟩ (w.heap.size + 1) _ (show w.heap.size + 1≠w.heap.size + 1 + 1 by omega)).trans XR.out));replace E:=yD J;clear J;obtain ⟨E3,al,aa,ab,aq⟩:=DC;clear D F3 ai aj;have K0:=kE (b:=w.heap.size + 1 + 1) E.out (j:=0) (v:=Qs ad x0 Y) rfl;have R0:=kE (b:=w.heap.size + 1) XR.out (j:=0) rfl;have Z0:=Aa v3 (w.heap.size + 1) 0 _ _ XR.out;have K1:=kE (b:=w.heap.size + 1 + 1) E.out (j:=1) (v:=Qs bb x1 a3) rfl;have R1:=kE (b:=w.heap.size + 1) XR.out (j:=1) rfl;have Z1:=Aa v3 (w.heap.size + 1) 1 _ _ XR.out;have K2:=kE (b:=w.heap.size + 1 + 1) E.out (j:=2) (v:=Qs H x2 F) rfl;have R2:=kE (b:=w.heap.size + 1) XR.out (j:=2) rfl;have Z2:=Aa v3 (w.heap.size + 1) 2 _ _ XR.out;have K3:=kE (b:=w.heap.size + 1 + 1) E.out (j:=3) (v:=.int .i64 x3) rfl;have R3:=kE (b:=w.heap.size + 1) XR.out (j:=3) rfl;have Z3:=Aa v3 (w.heap.size + 1) 3 _ _ XR.out;have K4:=kE (b:=w.heap.size + 1 + 1) E.out (j:=4) (v:=.int .i64 x4) rfl;have R4:=kE (b:=w.heap.size + 1) XR.out (j:=4) rfl;have Z4:=Aa v3 (w.heap.size + 1) 4 _ _ XR.out;go_wp2;have a4:=L.out;have b7:=ae.out;have az:=al.out;refine Ag (v:=.agg (Qj ad x0 Y bb x1 a3 H x2 F x3 x4)) (by simp [results,results139,go_sem,R0,Z0,R1,Z1,R2,Z2,R3,Z3,R4,Z4]) rfl ⟨[_,_,_,_,_],rfl,?_,?_⟩
 · exact aO
 repeat (first|(with_reducible exact E3) | refine Ae ?_ sK _)
end Go.Proofs.YthocbplmdjkifaaGreat

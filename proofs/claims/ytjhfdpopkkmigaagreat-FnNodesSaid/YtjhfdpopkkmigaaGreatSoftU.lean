/-
  A region that draws its order, where three operations may come up at one time. No program in sight.
-/
import Derived.Test.YtjhfdpopkkmigaaGreatVData
set_option linter.unusedVariables false
set_option linter.defProp false
set_option linter.unusedSimpArgs false
set_option linter.unnecessarySimpa false
set_option maxRecDepth 100000
set_option maxHeartbeats 4000000
open Go renaming frozen_of_row->Aa,heap_setCell_other->Ab,heap_setCell_same->Ac,World->Ad,Value->Ah
open _root_ renaming List->Ae
open Go.Region renaming wanted->Ag
namespace Go.Proofs.YtjhfdpopkkmigaaGreat
open Go.RowKit _root_.Go.Proofs.Tryz
def macOf (s:Int) (l:Ae Int):Int:=digest ([s]++l++[s])
def bInt (c:UInt8):Int:=c.toNat
def kFs (l:Ae UInt8) (k:Nat):Ae Int:=(l.length:Int) :: (l.take k).map bInt
def toIntsK_len (l:List UInt8) (k:Nat):(kFs l k).length<=k + 1:=by simp [kFs];omega
def kHk (l:Ae UInt8):Ae Int:=(l.length:Int) :: l.map bInt
def encV (n:kr):Ae UInt8:=if zf n=true then encNm n else []
def signed (x:jL):Ae Int:=kHk (encV x.1)++kHk x.2.1++kHk (encV x.2.2.1)++[x.2.2.2.1]
def toInts_take {l:Ae UInt8} {k:Nat} (h:k < l.length):kFs l (k + 1)=(kFs l k)++[bInt l[k]]:=by
 unfold kFs;rw [List.take_succ_eq_append_getElem h,List.map_append];rfl
def toInts_end {l:List UInt8} {k:Nat} (h:¬ k < l.length):(kFs l k)=kHk l:=by unfold kFs;rw [List.take_of_length_le bD1];rfl
def kIw (l:List UInt8):(kHk l).length=l.length + 1:=by simp [kHk]
def kPl (n:kr):(encV n).length<=90:=by
 unfold encV;split
 · rename_i h;exact encNm_len h
 simp
def signed_len (x:jL):(signed x).length<=x.2.1.length + 190:=by
 have h1:=kPl x.1;have h2:=kPl x.2.2.1;unfold signed;simp only [List.length_append,kIw,List.length_cons,List.length_nil];omega
def kAc {w:Ad} {vl:Ah} {l:Ae UInt8} (hl:(kD.slice 5 kD.byte).raw w [vl] l) (hn:l.length<=2000000) :
    Calls prog 218 #[vl] w (kCl 3 kD.int (kHk l) w):=by
 obtain ⟨al,pl,rfl,ll⟩:=kD.sl hl
 have O0:=litq (w:=w) (x:=(l.length:Int)) (e:=3) (by unfold I64q;omega)
 go_enter func218,ntmps218
 go_wp2
 go_loopw [3,4] (λv i wr=>∃ k:Nat,k<=l.length/\i=.int .i64 k/\Hid (kD.kU 3 kD.int wr v (kFs l k) (jU w.heap.size wr.heap.size))/\Qb w wr) (λ_ i _=>l.length - (intOf i).toNat)
 case atStart=>exact ⟨0,Nat.zero_le _,rfl,yD (by simpa [kFs] using O0.wide (T:=jU w.heap.size (w.alloc (.cells #[.int .i64 (l.length:Int)] 3)).heap.size) qV),bG⟩
 clear O0
 obtain ⟨k,hk,rfl,L,o⟩:=hrel
 obtain ⟨oa,on,oc,ho,bh⟩:=L.out.parts;obtain rfl:=ho
 by_cases hlt:k < l.length
 · obtain ⟨ba,H,rfl,c0,hr,A0⟩:=kD.kCa (hl.below o) hlt rfl;have he:=kD.kLb hr;obtain rfl:c0=_:=by simpa using he
   clear he hr;have E:=yD (toInts_take hlt);generalize l[k]=c at *;have J:=c.toNat_lt;have bi:=o.size;have am:=toIntsK_len l k;have HC:Hid ((c.toNat:Int)=bInt c):=yD rfl;go_wp2_with (at_builtin;refine kD.jO rfl _ _ 51 rfl (r:=kD.int) (e:=3) underlying51 kAi rfl bD0 bD0 (B:=w.heap.size) L.out bD3 bD3 rfl (kD.jG (n:=bInt c) (by unfold bInt;have:=c.toNat_lt;omega) _) rfl (λ_ _ h=>h) rC (λ_ h=>h.elim) bD1 bC6 ?_);intro v2 V ad ab a7;have Z:=yD (ad.cast E.out.symm);obtain ⟨aw,D,F,a6,N⟩:=ad.parts;obtain rfl:=a6;have G:=o.trans ab;clear ad ab L o;go_wp2;go_roundw;case rel=>exact ⟨k + 1,by omega,by go_num,Z,G⟩
   simp [intOf];omega
 have U:=yD (toInts_end hlt)
 go_wp2
 go_ret
 exact ⟨_,rfl,L.out.cast U.out,o⟩
def kPw {w:Ad} {va:Ah} {cn:Ae Ah} {n:kr} (ha:(kD.slice 5 kD.byte).rd w [va] []) (hn:kW.raw w cn n) (hv:zf n=false) :
    Calls prog 219 #[va,.agg cn.toArray] w (kCl 5 kD.byte [] w):=by
 obtain ⟨av,rfl,G⟩:=ko hn
 obtain ⟨an,a7,rfl,ln⟩:=kD.sl G
 obtain ⟨aa,am,rfl,la⟩:=kD.sl ha.1
 have HA:=yD ha
 have N:=yD hn
 have Y:=yD hv
 clear ha hn G hv
 go_enter func219,ntmps219
 have O0:kD.kU 5 kD.byte ((w.alloc (.cells #[.slice an n.length a7] 36)).alloc (.cells #[] 5)) (.slice (some ⟨w.heap.size + 1,0,none⟩) 0 0) [] (λk=>k=w.heap.size + 1):=by
  exact iF
 go_wp2_with (at_builtin;refine kD.yU rfl _ _ 22 rfl (r:=kD.byte) (e:=5) underlying22 kEh rfl bD0 bD0 kD.kFg (B:=w.heap.size + 1) O0 bD3 bD3 (HA.out.below bG) qV bD2 bD2 ?_)
 intro v2 V hown o hz
 have L:Hid (kD.kU 5 kD.byte V v2 [] (jU w.heap.size V.heap.size)):=yD ((hown.cast bD2).wide rD)
 obtain ⟨K0,F⟩:=J3
 obtain ⟨a2,n2,c2,a6,a8⟩:=L.out.parts
 obtain rfl:=a6
 clear hown O0 o hz
 go_wp2_with fail
 refine (yZ (N.out.below F)).mono ?_
 rintro e w3 ⟨rfl,ap⟩
 rw [Y.out]
 have ai:=L.out.below ap
 go_wp2
 go_ret
 exact ⟨_,rfl,ai.wide (λj I=>⟨I.1,by have:=I.2;have:=ap.size;omega⟩),(tQ F ap)⟩
def kCw {w:Ad} {va:Ah} {cn:Ae Ah} {n:kr} (ha:(kD.slice 5 kD.byte).rd w [va] []) (hn:kW.raw w cn n) :
    Calls prog 219 #[va,.agg cn.toArray] w (kCl 5 kD.byte (encV n) w):=by
 cases hv:zf n
 · rw [show encV n=[] by unfold encV;rw [hv];rfl];exact kPw ha hn hv
 rw [show encV n=[]++encNm n by unfold encV;rw [hv];rfl];exact kPx ha hn hv bD2
def kPv {w:Ad} {s:Int} (hs:Qi s) {vl:Ah} {l:Ae Int} (hl:(kD.slice 3 kD.int).rd w [vl] l) (hn:l.length<=16000000) :
    Calls prog 191 #[.int .i64 s,vl] w (bQ w (.int .i64 (macOf s l))):=by
 obtain ⟨al,pl,rfl,ll⟩:=kD.sl hl.1
 have hb:=hl.2.1
 unfold Big at hb
 have O0:=litq (w:=w) (x:=s) (e:=3) hs
 go_enter func191,ntmps191
 go_wp2_with (at_builtin;refine kD.yU rfl _ _ 51 rfl (r:=kD.int) (e:=3) underlying51 kAi rfl bD0 bD0 kD.yg (B:=w.heap.size) O0 bD3 bD3 (hl.below bG) qV bD2 bC6 ?_)
 intro v2 V ad ab a7
 obtain ⟨aw,D,F,a6,N⟩:=ad.parts;obtain rfl:=a6
 have O1:=litq (w:=V) (x:=s) (e:=3) hs
 have Z:=yD ad
 have E2:Qb w V:=Below.trans bG ab
 clear ad ab O0 hl
 go_wp2_with (at_builtin;refine kD.yU rfl _ _ 51 rfl (r:=kD.int) (e:=3) underlying51 kAi rfl bD0 bD0 kD.yg (B:=w.heap.size) (Z.out.below dB) bD3 bD3 (O1.own sS).rd (λk hk=>⟨hk.1,by have:=hk.2;simp;omega⟩) (by have:=E2.size;simp;omega) bC6 ?_)
 intro v3 w3 ax ap ar
 obtain ⟨H,E,G,av,o⟩:=ax.parts;obtain rfl:=av
 have ai:=yD ((ax.own vJ).raw)
 have E3:Qb w w3:=E2.trans (Below.trans (bR.alloc E2.size _) ap)
 clear ax ap O1 Z
 go_wp2_with fail
 refine (kOo ai.out).mono ?_
 rintro e w4 ⟨rfl,hw⟩
 obtain rfl:=hw.symm
 go_wp2
 go_ret
 exact ⟨rfl,E3⟩
def kLx {w:Ad} {cx:Ae Ah} {x:jL} (hx:jF.rd w cx x) (hc:x.2.1.length<=2000000) :
    Calls prog 192 #[.agg cx.toArray] w (kCl 3 kD.int (signed x) w):=by
 have hy:=hx.1
 obtain ⟨ch,a1,cz,rfl,G,aq,ba,a3,au,a4,a6⟩:=jM hy
 obtain ⟨bp,bi,rfl,co⟩:=kD.sl aq
 obtain ⟨e6,al,rfl,a2⟩:=kD.sl ba
 obtain ⟨bw,bt,rfl,dd⟩:=kD.sl au
 have HN:=yD G
 have HC:=yD ba
 have HK:=yD a3
 have HF:=yD (show I64q x.2.2.2.1 from a4)
 have l1:=kPl x.1
 have l2:=kPl x.2.2.1
 have HD:=yD (show signed x=kHk (encV x.1)++kHk x.2.1++kHk (encV x.2.2.1)++[x.2.2.2.1] from rfl)
 have m1:=kIw (encV x.1)
 have m2:=kIw x.2.1
 have m3:=kIw (encV x.2.2.1)
 clear hx hy G aq ba a3 au a4 a6
 go_enter func192,ntmps192
 go_upto_region 1 with fail
 generalize J:World.alloc w _=N
 have R:Qb w N:=by rw [<- J];exact bG
 have zB:w.heap.size + 1<=N.heap.size:=bB4
 have K0:Qd N w 0 (.slice bp x.1.length bi):=tT
 have K1:Qd N w 1 (.slice e6 x.2.1.length al):=tT
 have K2:Qd N w 2 (.slice bw x.2.2.1.length bt):=tT
 have K3:Qd N w 3 (.int .i64 x.2.2.2.1):=tT
 have K4:Qd N w 4 (.int .i64 x.2.2.2.2):=tT
 clear J
 have FX:=yD (λ(W:Ad) (hW:Qb N W)=>cLs5 hW K0 K1 K2 K3 K4)
 refine yM (λW=>Qb N W) bC5 (bR.drew) ?_
 intro wS E
 try have a7:=E.size
 refine kQ 1 ?_
 refine kQ 2 ?_
 refine kQ 5 ?_
 refine kQ 6 ?_
 refine kN (k:=0) rfl bC5 rfl (λK H=>?_)
 have bn:=E.size
 go_simp
 obtain ⟨V,bo,RV⟩:=CX
 generalize U:World.alloc wS (.cells #[] 5)=t0 at V bo RV ⊢
 clear U
 replace E:=(tQ E V)
 refine H _ _ E ?_
 clear H K V
 clear bn
 refine jD ?_
 refine kN (k:=3) rfl bC5 rfl (λK H=>?_)
 go_simp
 refine (kCw RV (HN.out.below (tQ R E))).mono ?_
 rintro e t1 ⟨ay,rfl,Z,hb⟩
 obtain ⟨aw,az,ax,ad,aj⟩:=Z.parts
 obtain rfl:=ad
 have bj:=hb.size
 have OA:=Z.wide (T:=jU t0.heap.size t1.heap.size) nH
 clear Z
 clear RV
 replace E:=(tQ E hb)
 refine H _ _ E ?_
 clear H K hb
 refine jD ?_
 refine kN (k:=4) rfl bC5 rfl (λK H=>?_)
 go_simp
 refine (kAc (OA.own wM).rd.1 bD1).mono ?_
 rintro e t2 ⟨ao,rfl,o,hb⟩
 obtain ⟨ak,am,av,ac,af⟩:=o.parts
 obtain rfl:=ac
 have bh:=hb.size
 have OB:=o.wide (T:=jU t1.heap.size t2.heap.size) nH
 clear o
 clear OA
 replace E:=(tQ E hb)
 refine H _ _ E ?_
 clear H K hb
 refine jD ?_
 refine kN (k:=7) rfl bC5 rfl (λK H=>?_)
 go_simp
 refine (kAc (HC.out.below (tQ R E)) hc).mono ?_
 rintro e t3 ⟨bf,rfl,ai,hb⟩
 obtain ⟨be,bl,bb,a5,a8⟩:=ai.parts
 obtain rfl:=a5
 have bg:=hb.size
 have OC:=ai.wide (T:=jU t2.heap.size t3.heap.size) nH
 clear ai
 replace OB:=OB.below hb
 replace E:=(tQ E hb)
 refine H _ _ E ?_
 clear H K hb
 refine jD ?_
 refine kN (k:=8) rfl bC5 rfl (λK H=>?_)
 have bn:=E.size
 obtain ⟨v_,t4,hr,D,O,bc,L⟩:=kD.kBg (P:=prog) (t:=51) (ty:=51) (r:=kD.int) (e:=3) (w:=t3) (B:=N.heap.size) underlying51 kAi rfl bD0 bD0 kD.yg OB (OC.own wM).rd dK E.size bO
 refine kD.kV _ _ _ rfl bD3 bD3 hr ?_
 obtain ⟨au,ar,cd,ab,ah⟩:=D.parts
 obtain rfl:=ab
 replace E:=E.trans O
 clear hr O L OB OC
 have Y:=D
 clear D
 refine H _ _ E ?_
 clear H K bn
 refine jD ?_
 refine kQ 9 ?_
 refine jW bC5 ?_
 have aa:=E
 clear E
 go_upto_region 2 with fail
 replace Y:=Y.wide (T:=jU N.heap.size t4.heap.size) (λj I=>I)
 have FX:=yD (λ(W:Ad) (hW:Qb N W)=>cLs5 hW K0 K1 K2 K3 K4)
 refine zY (λW=>Qb N W) bC5 (aa.drew) ?_
 intro wS c9 E
 have bD:Qb t4 wS:=(by rw [c9];exact bR.drew)
 have bk:=bD.size
 clear c9
 try have a7:=E.size
 replace Y:=Y.below bD
 clear bD
 refine kQ 0 ?_
 refine kQ 2 ?_
 refine kQ 3 ?_
 refine kQ 7 ?_
 refine kQ 8 ?_
 refine jl (i:=1) (j:=9) rfl rfl bC5 rfl rfl (λK H=>?_) (λK H=>?_)
 · have bn:=E.size;go_simp;obtain ⟨V,bo,RV⟩:=CX;generalize U:World.alloc wS (.cells #[] 5)=t0 at V bo RV ⊢;clear U;replace Y:=Y.below V;replace E:=(tQ E V);refine H _ _ E ?_;clear H K V;clear bn;refine jD ?_;refine jl (i:=4) (j:=9) rfl rfl bC5 rfl rfl (λK H=>?_) (λK H=>?_)
   · go_simp;refine (kCw RV (HK.out.below (tQ R E))).mono ?_;rintro e t1 ⟨ay,rfl,Z,hb⟩;obtain ⟨aw,az,ax,ad,aj⟩:=Z.parts;obtain rfl:=ad;have bj:=hb.size;have OA:=Z.wide (T:=jU t0.heap.size t1.heap.size) nH;clear Z;clear RV;replace Y:=Y.below hb;replace E:=(tQ E hb);refine H _ _ E ?_;clear H K hb;refine jD ?_;refine jl (i:=5) (j:=9) rfl rfl bC5 rfl rfl (λK H=>?_) (λK H=>?_)
     · go_simp;refine (kAc (OA.own wM).rd.1 bD1).mono ?_;rintro e t2 ⟨ao,rfl,o,hb⟩;obtain ⟨ak,am,av,ac,af⟩:=o.parts;obtain rfl:=ac;have bh:=hb.size;have OB:=o.wide (T:=jU t1.heap.size t2.heap.size) nH;clear o;clear OA;replace Y:=Y.below hb;replace E:=(tQ E hb);refine H _ _ E ?_;clear H K hb;refine jD ?_;refine jl (i:=6) (j:=9) rfl rfl bC5 rfl rfl (λK H=>?_) (λK H=>?_)
       · have bn:=E.size;obtain ⟨v_,t3,hr,D,O,bg,L⟩:=kD.kBg (P:=prog) (t:=51) (ty:=51) (r:=kD.int) (e:=3) (w:=t2) (B:=N.heap.size) underlying51 kAi rfl bD0 bD0 kD.yg Y (OB.own wM).rd dK E.size bO;refine kD.kV _ _ _ rfl bD3 bD3 hr ?_;obtain ⟨a3,bd,c2,ab,a9⟩:=D.parts;obtain rfl:=ab;replace E:=E.trans O;clear hr O L Y OB;have F:=D;clear D;refine H _ _ E ?_;clear H K bn;refine jD ?_;refine kN (k:=9) rfl bC5 rfl (λK H=>?_);have bn:=E.size;go_simp;have V:Below t3.heap.size t3 (World.alloc t3 (.cells #[.int .i64 x.2.2.2.1] 3)):=bR.alloc nL _;have bc:t3.heap.size + 1<=(World.alloc t3 (.cells #[.int .i64 x.2.2.2.1] 3)).heap.size:=(by simp);have X:=litq (w:=t3) (x:=x.2.2.2.1) (e:=3) HF.out;generalize U:World.alloc t3 (.cells #[.int .i64 x.2.2.2.1] 3)=t4 at V bc X ⊢;clear U;replace F:=F.below V;replace E:=(tQ E V);refine H _ _ E ?_;clear H K V;clear bn;exact uW
       have bn:=E.size;go_simp;have V:Below t2.heap.size t2 (World.alloc t2 (.cells #[.int .i64 x.2.2.2.1] 3)):=bR.alloc nL _;have bg:t2.heap.size + 1<=(World.alloc t2 (.cells #[.int .i64 x.2.2.2.1] 3)).heap.size:=(by simp);have X:=litq (w:=t2) (x:=x.2.2.2.1) (e:=3) HF.out;generalize U:World.alloc t2 (.cells #[.int .i64 x.2.2.2.1] 3)=t3 at V bg X ⊢;clear U;replace Y:=Y.below V;replace OB:=OB.below V;replace E:=(tQ E V);refine H _ _ E ?_;clear H K V;clear bn;refine jD ?_;refine kN (k:=6) rfl bC5 rfl (λK H=>?_);have bn:=E.size;obtain ⟨v_,t4,hr,D,O,bc,L⟩:=kD.kBg (P:=prog) (t:=51) (ty:=51) (r:=kD.int) (e:=3) (w:=t3) (B:=N.heap.size) underlying51 kAi rfl bD0 bD0 kD.yg Y (OB.own wM).rd dK E.size bO;refine kD.kV _ _ _ rfl bD3 bD3 hr ?_;obtain ⟨au,ar,cd,ab,ah⟩:=D.parts;obtain rfl:=ab;replace X:=X.keep bK;replace E:=E.trans O;clear hr O L Y OB;have F:=D;clear D;refine H _ _ E ?_;clear H K bn;exact uW
     have bn:=E.size;go_simp;have V:Below t1.heap.size t1 (World.alloc t1 (.cells #[.int .i64 x.2.2.2.1] 3)):=bR.alloc nL _;have bh:t1.heap.size + 1<=(World.alloc t1 (.cells #[.int .i64 x.2.2.2.1] 3)).heap.size:=(by simp);have X:=litq (w:=t1) (x:=x.2.2.2.1) (e:=3) HF.out;generalize U:World.alloc t1 (.cells #[.int .i64 x.2.2.2.1] 3)=t2 at V bh X ⊢;clear U;replace Y:=Y.below V;replace OA:=OA.below V;replace E:=(tQ E V);refine H _ _ E ?_;clear H K V;clear bn;refine jD ?_;refine kN (k:=5) rfl bC5 rfl (λK H=>?_);go_simp;refine (kAc (OA.own wM).rd.1 bD1).mono ?_;rintro e t3 ⟨ao,rfl,o,hb⟩;obtain ⟨ak,am,av,ac,af⟩:=o.parts;obtain rfl:=ac;have bg:=hb.size;have OB:=o.wide (T:=jU t2.heap.size t3.heap.size) nH;exact o5
   have bn:=E.size;go_simp;have V:Below t0.heap.size t0 (World.alloc t0 (.cells #[.int .i64 x.2.2.2.1] 3)):=bR.alloc nL _;have bj:t0.heap.size + 1<=(World.alloc t0 (.cells #[.int .i64 x.2.2.2.1] 3)).heap.size:=(by simp);have X:=litq (w:=t0) (x:=x.2.2.2.1) (e:=3) HF.out;generalize U:World.alloc t0 (.cells #[.int .i64 x.2.2.2.1] 3)=t1 at V bj X ⊢;clear U;replace Y:=Y.below V;replace RV:=RV.below V;exact uX
 have bn:=E.size
 go_simp
 have V:Below wS.heap.size wS (World.alloc wS (.cells #[.int .i64 x.2.2.2.1] 3)):=bR.alloc nL _
 have bo:wS.heap.size + 1<=(World.alloc wS (.cells #[.int .i64 x.2.2.2.1] 3)).heap.size:=(by simp)
 have X:=litq (w:=wS) (x:=x.2.2.2.1) (e:=3) HF.out
 generalize U:World.alloc wS (.cells #[.int .i64 x.2.2.2.1] 3)=t0 at V bo X ⊢
 clear U
 replace Y:=Y.below V
 replace E:=(tQ E V)
 refine H _ _ E ?_
 clear H K V
 clear bn
 refine jD ?_
 refine kN (k:=1) rfl bC5 rfl (λK H=>?_)
 have bn:=E.size
 go_simp
 have V:Below t0.heap.size t0 (World.alloc t0 (.cells #[] 5)):=bR.alloc nL _
 have bj:t0.heap.size + 1<=(World.alloc t0 (.cells #[] 5)).heap.size:=(by simp)
 have RV:=((kD.kU.void (e:=5) (r:=kD.byte) (w:=(World.alloc t0 (.cells #[] 5))) (a:=some ⟨t0.heap.size,0,none⟩) (S:=λ_=>False)).own (Nat.zero_le _)).rd
 generalize U:World.alloc t0 (.cells #[] 5)=t1 at V bj RV ⊢
 clear U
 replace Y:=Y.below V
 replace X:=X.below V
 exact uX
def kCs {w:Ad} {cx:Ae Ah} {x:jL} (hx:jF.rd w cx x):Calls prog 34 #[.agg cx.toArray] w (kAe jF x w):=by
 obtain ⟨hx,al⟩:=hx;obtain ⟨v0,v1,v2,rfl,G,aq,ba,a3,au,a4,a6⟩:=jM hx;obtain ⟨x0,x1,x2,x3,x4⟩:=x;obtain ⟨a0,p0,rfl,_⟩:=kD.sl aq;obtain ⟨a1,p1,rfl,_⟩:=kD.sl ba;obtain ⟨a2,p2,rfl,_⟩:=kD.sl au;have r0:kW.rd w _ x0:=⟨G,al.1⟩;have W:(kD.slice 5 kD.byte).rd w _ x1:=⟨ba,al.2.1⟩;have r2:kW.rd w _ x2:=⟨a3,al.2.2.1⟩;have N3:=yD a4;have N4:=yD a6;clear al hx G aq ba a3 au a4 a6;go_enter func34,ntmps34;go_upto_region 1 with fail;generalize J:World.alloc (World.alloc w _) _=v0;have E0:Qb w v0:=by rw [<- J];exact bG
 have b1:v0.heap.size=w.heap.size + 2:=bB4;have R:Hid (Qr v0 w.heap.size #[.slice a0 (x0).length p0,Qs a1 x1 p1,.slice a2 (x2).length p2,Qn x3,Qn x4] 38):=yD (by rw [<- J];exact jR (kH rfl));have XR:Hid (Qr v0 (w.heap.size + 1) #[.slice none 0 0,.slice none 0 0,.slice none 0 0,Qn 0,Qn 0] 38):=yD sF;clear J;have ao:=kE (b:=w.heap.size) R.out (j:=0) (v:=.slice a0 (x0).length p0) rfl;go_wp2_with fail;refine (kAp (r0.below E0)).mono ?_;rintro e w1 ⟨tc,rfl,O1,O⟩;obtain ⟨az,rfl,ad⟩:=ko O1.raw;obtain ⟨H,E,rfl,ay⟩:=kD.sl ad;clear ad;have aa:=yD O1;clear O1;have bj:=O.size;have F1:=(tQ E0 O);replace R:=yD (kC R.out O);replace XR:=yD (kC XR.out O);clear O ao;have aj:=kE (b:=w.heap.size) R.out (j:=0) (v:=.slice a0 (x0).length p0) rfl;have ah:=Aa w1 (w.heap.size) 0 _ _ R.out;go_upto_region 2 with fail;generalize D:(w1.setCell ⟨w.heap.size,0,none⟩ (.slice H x0.length E))=v1;have U:Qr v1 w.heap.size #[Qs H x0 E,Qs a1 x1 p1,.slice a2 (x2).length p2,Qn x3,Qn x4] 38:=by
  rw [<- D];have y0:=Ac _ (w.heap.size) 0 _ 38 (.slice H x0.length E) R.out;exact y0
 replace XR:=yD (show Qr v1 (w.heap.size + 1) #[.slice none 0 0,.slice none 0 0,.slice none 0 0,Qn 0,Qn 0] 38 from by rw [<- D];exact ((Ab _ ⟨w.heap.size,0,none⟩ (w.heap.size + 1) _ (show w.heap.size + 1≠w.heap.size by omega)).trans XR.out));replace R:=yD U;clear U;obtain ⟨E1,X,aa⟩:=JA;clear D F1 aj ah;have ae:=kE (b:=w.heap.size) R.out (j:=1) (v:=.slice a1 x1.length p1) rfl;go_wp2_with fail;refine (jAz (W.below E1)).mono ?_;rintro e V ⟨tv,rfl,O2,ab⟩;obtain ⟨bb,a9,rfl,_⟩:=kD.sl O2.raw;have Z:=yD O2;clear O2;have a7:=ab.size;have F2:=(tQ E1 ab);replace R:=yD (kC R.out ab);replace XR:=yD (kC XR.out ab);replace aa:=yD (aa.out.below ab);clear ab ae;have ag:=kE (b:=w.heap.size) R.out (j:=1) (v:=.slice a1 x1.length p1) rfl;have an:=Aa V (w.heap.size) 1 _ _ R.out;go_upto_region 3 with fail;generalize D:(V.setCell ⟨w.heap.size,1,none⟩ (.slice bb x1.length a9))=v2;have U:Qr v2 w.heap.size #[Qs H x0 E,Qs bb x1 a9,.slice a2 (x2).length p2,Qn x3,Qn x4] 38:=by
  rw [<- D];have y0:=Ac _ (w.heap.size) 1 _ 38 (.slice bb x1.length a9) R.out;exact y0
 replace XR:=yD (show Qr v2 (w.heap.size + 1) #[.slice none 0 0,.slice none 0 0,.slice none 0 0,Qn 0,Qn 0] 38 from by rw [<- D];exact ((Ab _ ⟨w.heap.size,1,none⟩ (w.heap.size + 1) _ (show w.heap.size + 1≠w.heap.size by omega)).trans XR.out));replace R:=yD U;clear U;obtain ⟨E2,Y,aa,Z⟩:=GV;clear D F2 ag an;have L:=kE (b:=w.heap.size) R.out (j:=2) (v:=.slice a2 (x2).length p2) rfl;go_wp2_with fail;refine (kAp (r2.below E2)).mono ?_;rintro e w3 ⟨tc,rfl,O3,ap⟩;obtain ⟨aw,rfl,ac⟩:=ko O3.raw;obtain ⟨N,F,rfl,ax⟩:=kD.sl ac;clear ac;have ai:=yD O3;clear O3;have ar:=ap.size;have F3:=(tQ E2 ap);replace R:=yD (kC R.out ap);replace XR:=yD (kC XR.out ap);replace aa:=yD (aa.out.below ap);replace Z:=yD (Z.out.below ap);clear ap L;have ak:=kE (b:=w.heap.size) R.out (j:=2) (v:=.slice a2 (x2).length p2) rfl;have am:=Aa w3 (w.heap.size) 2 _ _ R.out;go_upto_region 4 with fail;generalize D:(w3.setCell ⟨w.heap.size,2,none⟩ (.slice N x2.length F))=v3;have U:Qr v3 w.heap.size #[Qs H x0 E,Qs bb x1 a9,Qs N x2 F,Qn x3,Qn x4] 38:=by
  rw [<- D];have y0:=Ac _ (w.heap.size) 2 _ 38 (.slice N x2.length F) R.out;exact y0
 replace XR:=yD (show Qr v3 (w.heap.size + 1) #[.slice none 0 0,.slice none 0 0,.slice none 0 0,Qn 0,Qn 0] 38 from by rw [<- D];exact ((Ab _ ⟨w.heap.size,2,none⟩ (w.heap.size + 1) _ (show w.heap.size + 1≠w.heap.size by omega)).trans XR.out));replace R:=yD U;clear U;obtain ⟨E3,av,aa,Z,ai⟩:=FK;clear D F3 ak am;have K0:=kE (b:=w.heap.size) R.out (j:=0) (v:=.slice H x0.length E) rfl;have R0:=kE (b:=w.heap.size + 1) XR.out (j:=0) rfl;have Z0:=Aa v3 (w.heap.size + 1) 0 _ _ XR.out;have K1:=kE (b:=w.heap.size) R.out (j:=1) (v:=.slice bb x1.length a9) rfl;have R1:=kE (b:=w.heap.size + 1) XR.out (j:=1) rfl;have Z1:=Aa v3 (w.heap.size + 1) 1 _ _ XR.out;have K2:=kE (b:=w.heap.size) R.out (j:=2) (v:=.slice N x2.length F) rfl;have R2:=kE (b:=w.heap.size + 1) XR.out (j:=2) rfl;have Z2:=Aa v3 (w.heap.size + 1) 2 _ _ XR.out;have K3:=kE (b:=w.heap.size) R.out (j:=3) (v:=.int .i64 x3) rfl;have R3:=kE (b:=w.heap.size + 1) XR.out (j:=3) rfl;have Z3:=Aa v3 (w.heap.size + 1) 3 _ _ XR.out;have K4:=kE (b:=w.heap.size) R.out (j:=4) (v:=.int .i64 x4) rfl;have R4:=kE (b:=w.heap.size + 1) XR.out (j:=4) rfl;have Z4:=Aa v3 (w.heap.size + 1) 4 _ _ XR.out;go_wp2;have bk:=X.out;have bm:=Y.out;have af:=av.out;refine bodyPost_ret (v:=.agg #[Qs H x0 E,Qs bb x1 a9,Qs N x2 F,Qn x3,Qn x4]) (by simp [results,results34,go_sem,R0,Z0,R1,Z1,R2,Z2,R3,Z3,R4,Z4]) rfl ⟨[_,_,_,_,_],rfl,?_,?_⟩
 · exact aH
 repeat (first|(with_reducible exact E3) | refine Below.setCell ?_ rE _)
def kAu {w:Ad} {cx:Ae Ah} {x:jL} (hx:jF.rd w cx x):Calls prog 36 #[.agg cx.toArray] w (kAe jF x w):=by
 obtain ⟨hx,al⟩:=hx;obtain ⟨v0,v1,v2,rfl,G,aq,ba,a3,au,a4,a6⟩:=jM hx;obtain ⟨x0,x1,x2,x3,x4⟩:=x;obtain ⟨a0,p0,rfl,_⟩:=kD.sl aq;obtain ⟨a1,p1,rfl,_⟩:=kD.sl ba;obtain ⟨a2,p2,rfl,_⟩:=kD.sl au;have r0:kW.rd w _ x0:=⟨G,al.1⟩;have W:(kD.slice 5 kD.byte).rd w _ x1:=⟨ba,al.2.1⟩;have r2:kW.rd w _ x2:=⟨a3,al.2.2.1⟩;have N3:=yD a4;have N4:=yD a6;clear al hx G aq ba a3 au a4 a6;go_enter func36,ntmps36;go_upto_region 2 with fail;generalize J:World.alloc (World.alloc (World.alloc w _) _) _=v0;have E0:Qb w v0:=by rw [<- J];exact bG
 have b1:v0.heap.size=w.heap.size + 3:=bB4;have XB:Hid (Qr v0 w.heap.size #[.slice a0 (x0).length p0,Qs a1 x1 p1,.slice a2 (x2).length p2,Qn x3,Qn x4] 38):=yD (by rw [<- J];exact jR (jR (kH rfl)));have XR:Hid (Qr v0 (w.heap.size + 1) #[.slice none 0 0,.slice none 0 0,.slice none 0 0,Qn 0,Qn 0] 38):=yD (by rw [<- J];exact jR (kH bD2));have R:Hid (Qr v0 (w.heap.size + 1 + 1) #[.slice a0 (x0).length p0,Qs a1 x1 p1,.slice a2 (x2).length p2,Qn x3,Qn x4] 38):=yD sF;clear J;have ao:=kE (b:=w.heap.size) XB.out (j:=0) (v:=.slice a0 (x0).length p0) rfl;go_wp2_with fail;refine (zT (r0.below E0)).mono ?_;rintro e w1 ⟨tc,rfl,O1,O⟩;obtain ⟨az,rfl,ad⟩:=ko O1.raw;obtain ⟨H,E,rfl,ay⟩:=kD.sl ad;clear ad;have aa:=yD O1;clear O1;have bj:=O.size;have F1:=(tQ E0 O);replace XB:=yD (kC XB.out O);replace R:=yD (kC R.out O);replace XR:=yD (kC XR.out O);clear O ao;have aj:=kE (b:=w.heap.size + 1 + 1) R.out (j:=0) (v:=.slice a0 (x0).length p0) rfl;have ah:=Aa w1 (w.heap.size + 1 + 1) 0 _ _ R.out;go_upto_region 3 with fail;generalize D:(w1.setCell ⟨w.heap.size + 1 + 1,0,none⟩ (.slice H x0.length E))=v1;have U:Qr v1 (w.heap.size + 1 + 1) #[Qs H x0 E,Qs a1 x1 p1,.slice a2 (x2).length p2,Qn x3,Qn x4] 38:=by
  rw [<- D];have y0:=Ac _ (w.heap.size + 1 + 1) 0 _ 38 (.slice H x0.length E) R.out;exact y0
 replace XB:=yD (show Qr v1 w.heap.size #[.slice a0 (x0).length p0,Qs a1 x1 p1,.slice a2 (x2).length p2,Qn x3,Qn x4] 38 from by rw [<- D];exact ((Ab _ ⟨w.heap.size + 1 + 1,0,none⟩ (w.heap.size) _ (show w.heap.size≠w.heap.size + 1 + 1 by omega)).trans XB.out));replace XR:=yD (show Qr v1 (w.heap.size + 1) #[.slice none 0 0,.slice none 0 0,.slice none 0 0,Qn 0,Qn 0] 38 from by rw [<- D];exact ((Ab _ ⟨w.heap.size + 1 + 1,0,none⟩ (w.heap.size + 1) _ (show w.heap.size + 1≠w.heap.size + 1 + 1 by omega)).trans XR.out));replace R:=yD U;clear U;obtain ⟨E1,X,aa⟩:=JA;clear D F1 aj ah;have ae:=kE (b:=w.heap.size) XB.out (j:=1) (v:=.slice a1 x1.length p1) rfl;replace ae:=cL (kD.zL v1 (.cells #[] 5)) ae;go_wp2_with (at_builtin;refine kD.yU rfl _ _ 22 rfl (r:=kD.byte) (e:=5) underlying22 kEh rfl bD0 bD0 flatbyte (B:=v1.heap.size) (kD.kU.void (S:=λ_=>False)) bD3 bD3 ((W.below E1).alloc _) (λ_ h=>h.elim) bD2 (by have:=W.2.1;simp;unfold Big at this;omega) ?_);intro tv V hown o hz;have ab:Qb v1 V:=(bR.alloc nL _).trans o;obtain ⟨bb,a9,a5⟩:=hown.zW;obtain rfl:=a5;have Z:=yD (hown.own W.2.1);try simp only [List.nil_append] at Z
 clear hown o hz;have a7:=ab.size;have F2:=(tQ E1 ab);replace XB:=yD (kC XB.out ab);replace R:=yD (kC R.out ab);replace XR:=yD (kC XR.out ab);replace aa:=yD (aa.out.below ab);clear ab ae;have ag:=kE (b:=w.heap.size + 1 + 1) R.out (j:=1) (v:=.slice a1 x1.length p1) rfl;have an:=Aa V (w.heap.size + 1 + 1) 1 _ _ R.out;go_upto_region 4 with fail;generalize D:(V.setCell ⟨w.heap.size + 1 + 1,1,none⟩ (.slice bb x1.length a9))=v2;have U:Qr v2 (w.heap.size + 1 + 1) #[Qs H x0 E,Qs bb x1 a9,.slice a2 (x2).length p2,Qn x3,Qn x4] 38:=by
  rw [<- D];have y0:=Ac _ (w.heap.size + 1 + 1) 1 _ 38 (.slice bb x1.length a9) R.out;exact y0
 replace XB:=yD (show Qr v2 w.heap.size #[.slice a0 (x0).length p0,Qs a1 x1 p1,.slice a2 (x2).length p2,Qn x3,Qn x4] 38 from by rw [<- D];exact ((Ab _ ⟨w.heap.size + 1 + 1,1,none⟩ (w.heap.size) _ (show w.heap.size≠w.heap.size + 1 + 1 by omega)).trans XB.out));replace XR:=yD (show Qr v2 (w.heap.size + 1) #[.slice none 0 0,.slice none 0 0,.slice none 0 0,Qn 0,Qn 0] 38 from by rw [<- D];exact ((Ab _ ⟨w.heap.size + 1 + 1,1,none⟩ (w.heap.size + 1) _ (show w.heap.size + 1≠w.heap.size + 1 + 1 by omega)).trans XR.out));replace R:=yD U;clear U;obtain ⟨E2,Y,aa,Z⟩:=GV;clear D F2 ag an;have L:=kE (b:=w.heap.size) XB.out (j:=2) (v:=.slice a2 (x2).length p2) rfl;go_wp2_with fail;refine (zT (r2.below E2)).mono ?_;rintro e w3 ⟨tc,rfl,O3,ap⟩;obtain ⟨aw,rfl,ac⟩:=ko O3.raw;obtain ⟨N,F,rfl,ax⟩:=kD.sl ac;clear ac;have ai:=yD O3;clear O3;have ar:=ap.size;have F3:=(tQ E2 ap);replace XB:=yD (kC XB.out ap);replace R:=yD (kC R.out ap);replace XR:=yD (kC XR.out ap);replace aa:=yD (aa.out.below ap);replace Z:=yD (Z.out.below ap);clear ap L;have ak:=kE (b:=w.heap.size + 1 + 1) R.out (j:=2) (v:=.slice a2 (x2).length p2) rfl;have am:=Aa w3 (w.heap.size + 1 + 1) 2 _ _ R.out;go_upto_region 5 with fail;generalize D:(w3.setCell ⟨w.heap.size + 1 + 1,2,none⟩ (.slice N x2.length F))=v3;have U:Qr v3 (w.heap.size + 1 + 1) #[Qs H x0 E,Qs bb x1 a9,Qs N x2 F,Qn x3,Qn x4] 38:=by
  rw [<- D];have y0:=Ac _ (w.heap.size + 1 + 1) 2 _ 38 (.slice N x2.length F) R.out;exact y0
 replace XB:=yD (show Qr v3 w.heap.size #[.slice a0 (x0).length p0,Qs a1 x1 p1,.slice a2 (x2).length p2,Qn x3,Qn x4] 38 from by rw [<- D];exact ((Ab _ ⟨w.heap.size + 1 + 1,2,none⟩ (w.heap.size) _ (show w.heap.size≠w.heap.size + 1 + 1 by omega)).trans XB.out));replace XR:=yD (show Qr v3 (w.heap.size + 1) #[.slice none 0 0,.slice none 0 0,.slice none 0 0,Qn 0,Qn 0] 38 from by rw [<- D];exact ((Ab _ ⟨w.heap.size + 1 + 1,2,none⟩ (w.heap.size + 1) _ (show w.heap.size + 1≠w.heap.size + 1 + 1 by omega)).trans XR.out));replace R:=yD U;clear U;obtain ⟨E3,av,aa,Z,ai⟩:=FK;clear D F3 ak am;have K0:=kE (b:=w.heap.size + 1 + 1) R.out (j:=0) (v:=.slice H x0.length E) rfl;have R0:=kE (b:=w.heap.size + 1) XR.out (j:=0) rfl;have Z0:=Aa v3 (w.heap.size + 1) 0 _ _ XR.out;have K1:=kE (b:=w.heap.size + 1 + 1) R.out (j:=1) (v:=.slice bb x1.length a9) rfl;have R1:=kE (b:=w.heap.size + 1) XR.out (j:=1) rfl;have Z1:=Aa v3 (w.heap.size + 1) 1 _ _ XR.out;have K2:=kE (b:=w.heap.size + 1 + 1) R.out (j:=2) (v:=.slice N x2.length F) rfl;have R2:=kE (b:=w.heap.size + 1) XR.out (j:=2) rfl;have Z2:=Aa v3 (w.heap.size + 1) 2 _ _ XR.out;have K3:=kE (b:=w.heap.size + 1 + 1) R.out (j:=3) (v:=.int .i64 x3) rfl;have R3:=kE (b:=w.heap.size + 1) XR.out (j:=3) rfl;have Z3:=Aa v3 (w.heap.size + 1) 3 _ _ XR.out;have K4:=kE (b:=w.heap.size + 1 + 1) R.out (j:=4) (v:=.int .i64 x4) rfl;have R4:=kE (b:=w.heap.size + 1) XR.out (j:=4) rfl;have Z4:=Aa v3 (w.heap.size + 1) 4 _ _ XR.out;go_wp2;have bk:=X.out;have bm:=Y.out;have af:=av.out;refine bodyPost_ret (v:=.agg #[Qs H x0 E,Qs bb x1 a9,Qs N x2 F,Qn x3,Qn x4]) (by simp [results,results36,go_sem,R0,Z0,R1,Z1,R2,Z2,R3,Z3,R4,Z4]) rfl ⟨[_,_,_,_,_],rfl,?_,?_⟩
 · exact aH
 repeat (first|(with_reducible exact E3) | refine Below.setCell ?_ rE _)
end Go.Proofs.YtjhfdpopkkmigaaGreat
namespace Go.Proofs.YtjhfdpopkkmigaaGreat
open Go _root_.Go.Proofs.Tryz
section
variable {P:Program} {l:Ae Oper} {S:Ad->Prop} {Q:Exit->Act->Ad->Prop} {fuel:Nat} {listed:Ae Bool} {a:Act} {w:Ad}
def kUm {i j m:Nat} {V N E:Oper} (hi:l[i]?=some V) (I:l[j]?=some N) (hm:l[m]?=some E) (hr:(Region.ready .any l.toArray listed.toArray==[i,j,m])=true) (D:Ag V (yielded l.toArray a.tmps)=true) (o:Ag N (yielded l.toArray a.tmps)=true) (F:Ag E (yielded l.toArray a.tmps)=true)
    (h1:∀ K:Act->Ad->Prop,(∀ a' w',S w'->tree P l S Q fuel (listed.set i true) a' w'->K a' w')->V.wp P a w K Q)
    (h2:∀ K:Act->Ad->Prop,(∀ a' w',S w'->tree P l S Q fuel (listed.set j true) a' w'->K a' w')->N.wp P a w K Q)
    (h3:∀ K:Act->Ad->Prop,(∀ a' w',S w'->tree P l S Q fuel (listed.set m true) a' w'->K a' w')->E.wp P a w K Q):tree P l S Q (fuel + 1) listed a w:=by
 unfold tree
 refine wpAnyH_all bB0 bD2 ?_
 intro k hk
 rcases List.mem_cons.1 hk with rfl | hk
 · exact kLg hi D h1
 rcases List.mem_cons.1 hk with rfl | hk
 · exact kLg I o h2
 obtain rfl:k=m:=bA5
 exact kLg hm F h3
def kIv (h:∀ (T:Nat->Ae Bool->Act->Ad->Prop) (A:Act),T=tree P l S Q->A=a->T fuel listed A w):tree P l S Q fuel listed a w:=h _ _ rfl rfl
end
end Go.Proofs.YtjhfdpopkkmigaaGreat

/-
  Copies of interests and data.
-/
import Derived.Test.YtjhfdpopkkmigabGreatVData
set_option linter.unusedVariables false
set_option linter.defProp false
set_option linter.unusedSimpArgs false
set_option linter.unnecessarySimpa false
set_option maxRecDepth 100000
set_option maxHeartbeats 4000000
open Go renaming frozen_of_row->Aa,heap_setCell_other->Ab,heap_setCell_same->Ac,bodyPost_ret->Ae,World->Ah,Value->Ai,Calls->Aj
open Go.RowKit.Below renaming setCell->Ad
open _root_ renaming List->Ag
namespace Go.Proofs.YtjhfdpopkkmigabGreat
open Go.RowKit _root_.Go.Proofs.Tryz
def macOf (s:Int) (l:Ag Int):Int:=digest ([s]++l++[s])
def bInt (c:UInt8):Int:=c.toNat
def kGs (l:Ag UInt8) (k:Nat):Ag Int:=(l.length:Int) :: (l.take k).map bInt
def toIntsK_len (l:List UInt8) (k:Nat):(kGs l k).length<=k + 1:=by simp [kGs];omega
def kIo (l:Ag UInt8):Ag Int:=(l.length:Int) :: l.map bInt
def encV (n:kg):Ag UInt8:=if kAp n=true then encNm n else []
def signed (x:jT):Ag Int:=kIo (encV x.1)++kIo x.2.1++kIo (encV x.2.2.1)++[x.2.2.2.1]
def toInts_take {l:Ag UInt8} {k:Nat} (h:k < l.length):kGs l (k + 1)=(kGs l k)++[bInt l[k]]:=by
 unfold kGs;rw [List.take_succ_eq_append_getElem h,List.map_append];rfl
def toInts_end {l:List UInt8} {k:Nat} (h:¬ k < l.length):(kGs l k)=kIo l:=by unfold kGs;rw [List.take_of_length_le bH3];rfl
def kJz (l:List UInt8):(kIo l).length=l.length + 1:=by simp [kIo]
def kQw (n:kg):(encV n).length<=90:=by
 unfold encV;split
 · rename_i h;exact encNm_len h
 simp
def signed_len (x:jT):(signed x).length<=x.2.1.length + 190:=by
 have h1:=kQw x.1;have h2:=kQw x.2.2.1;unfold signed;simp only [List.length_append,kJz,List.length_cons,List.length_nil];omega
def kAi {w:Ah} {vl:Ai} {l:Ag UInt8} (hl:(kD.slice 5 kD.byte).raw w [vl] l) (hn:l.length<=2000000) :
    Aj prog 226 #[vl] w (kBx 3 kD.int (kIo l) w):=by
 obtain ⟨al,pl,rfl,ll⟩:=kD.sl hl
 have O0:=litq (w:=w) (x:=(l.length:Int)) (e:=3) (by unfold I64q;omega)
 go_enter func226,ntmps226
 go_wp2
 go_loopw [3,4] (λv i wr=>∃ k:Nat,k<=l.length/\i=.int .i64 k/\Hid (kD.kQ 3 kD.int wr v (kGs l k) (jb w.heap.size wr.heap.size))/\Qb w wr) (λ_ i _=>l.length - (intOf i).toNat)
 case atStart=>exact ⟨0,Nat.zero_le _,rfl,yD (by simpa [kGs] using O0.wide (T:=jb w.heap.size (w.alloc (.cells #[.int .i64 (l.length:Int)] 3)).heap.size) sG),bI⟩
 clear O0
 obtain ⟨k,hk,rfl,I,o⟩:=hrel
 obtain ⟨oa,on,oc,ho,a1⟩:=I.out.parts;obtain rfl:=ho
 by_cases hlt:k < l.length
 · obtain ⟨ba,G,rfl,c0,hr,A0⟩:=kD.kCu (hl.below o) hlt rfl;have he:=kD.kRe hr;obtain rfl:c0=_:=by simpa using he
   clear he hr;have E:=yD (toInts_take hlt);generalize l[k]=c at *;have F:=c.toNat_lt;have bh:=o.size;have hkl:=toIntsK_len l k;have HC:Hid ((c.toNat:Int)=bInt c):=yD rfl;go_wp2_with (at_builtin;refine kD.jP rfl _ _ 49 rfl (r:=kD.int) (e:=3) underlying49 kAm rfl bH2 bH2 (B:=w.heap.size) I.out bH5 bH5 rfl (kD.ku (n:=bInt c) (by unfold bInt;have:=c.toNat_lt;omega) _) rfl (λ_ _ h=>h) rQ (λ_ h=>h.elim) bH3 bG7 ?_);intro v2 V H af a9;have R:=yD (H.cast E.out.symm);obtain ⟨cl,D,N,aw,J⟩:=H.parts;obtain rfl:=aw;have O:=o.trans af;clear H af I o;go_wp2;go_roundw;case rel=>exact ⟨k + 1,by omega,by go_num,R,O⟩
   simp [intOf];omega
 have L:=yD (toInts_end hlt)
 go_wp2
 go_ret
 exact ⟨_,rfl,I.out.cast L.out,o⟩
def kRx {w:Ah} {va:Ai} {cn:Ag Ai} {n:kg} (ha:(kD.slice 5 kD.byte).rd w [va] []) (hn:kN.raw w cn n) (hv:kAp n=false) :
    Aj prog 227 #[va,.agg cn.toArray] w (kBx 5 kD.byte [] w):=by
 obtain ⟨av,rfl,Z⟩:=kX hn
 obtain ⟨an,au,rfl,ln⟩:=kD.sl Z
 obtain ⟨aa,ao,rfl,la⟩:=kD.sl ha.1
 have HA:=yD ha
 have H:=yD hn
 have X:=yD hv
 clear ha hn Z hv
 go_enter func227,ntmps227
 have O0:kD.kQ 5 kD.byte ((w.alloc (.cells #[.slice an n.length au] 36)).alloc (.cells #[] 5)) (.slice (some ⟨w.heap.size + 1,0,none⟩) 0 0) [] (λk=>k=w.heap.size + 1):=by
  exact iN
 go_wp2_with (at_builtin;refine kD.yT rfl _ _ 22 rfl (r:=kD.byte) (e:=5) underlying22 kFb rfl bH2 bH2 kD.kGi (B:=w.heap.size + 1) O0 bH5 bH5 (HA.out.below bI) sG bH4 bH4 ?_)
 intro v2 V hown o hz
 have I:Hid (kD.kQ 5 kD.byte V v2 [] (jb w.heap.size V.heap.size)):=yD ((hown.cast bH4).wide rR)
 obtain ⟨K0,EG⟩:=IY
 obtain ⟨a2,n2,c2,aw,bb⟩:=I.out.parts
 obtain rfl:=aw
 clear hown O0 o hz
 go_wp2_with fail
 refine (yg (H.out.below EG)).mono ?_
 rintro e w3 ⟨rfl,ap⟩
 rw [X.out]
 have ai:=I.out.below ap
 go_wp2
 go_ret
 exact ⟨_,rfl,ai.wide nH,(tQ EG ap)⟩
def kDh {w:Ah} {va:Ai} {cn:Ag Ai} {n:kg} (ha:(kD.slice 5 kD.byte).rd w [va] []) (hn:kN.raw w cn n) :
    Aj prog 227 #[va,.agg cn.toArray] w (kBx 5 kD.byte (encV n) w):=by
 cases hv:kAp n
 · rw [show encV n=[] by unfold encV;rw [hv];rfl];exact kRx ha hn hv
 rw [show encV n=[]++encNm n by unfold encV;rw [hv];rfl];exact kRy ha hn hv bH4
def kRw {w:Ah} {s:Int} (hs:Qi s) {vl:Ai} {l:Ag Int} (hl:(kD.slice 3 kD.int).rd w [vl] l) (hn:l.length<=16000000) :
    Aj prog 213 #[.int .i64 s,vl] w (bQ w (.int .i64 (macOf s l))):=by
 obtain ⟨al,pl,rfl,ll⟩:=kD.sl hl.1
 have hb:=hl.2.1
 unfold Big at hb
 have O0:=litq (w:=w) (x:=s) (e:=3) hs
 go_enter func213,ntmps213
 go_wp2_with (at_builtin;refine kD.yT rfl _ _ 49 rfl (r:=kD.int) (e:=3) underlying49 kAm rfl bH2 bH2 kD.yu (B:=w.heap.size) O0 bH5 bH5 (hl.below bI) sG bH4 bG7 ?_)
 intro v2 V H af a9
 obtain ⟨cl,D,N,aw,J⟩:=H.parts;obtain rfl:=aw
 have O1:=litq (w:=V) (x:=s) (e:=3) hs
 have R:=yD H
 have E2:Qb w V:=Below.trans bI af
 clear H af O0 hl
 go_wp2_with (at_builtin;refine kD.yT rfl _ _ 49 rfl (r:=kD.int) (e:=3) underlying49 kAm rfl bH2 bH2 kD.yu (B:=w.heap.size) (R.out.below (by repeat (first|(with_reducible exact bR) | refine Below.alloc ?_ bD6 _))) bH5 bH5 (O1.own vL).rd (λk hk=>⟨hk.1,by have:=hk.2;simp;omega⟩) (by have:=E2.size;simp;omega) bG7 ?_)
 intro v3 w3 ae ap ay
 obtain ⟨dq,E,F,Z,o⟩:=ae.parts;obtain rfl:=Z
 have ai:=yD ((ae.own bA1).raw)
 have E3:Qb w w3:=E2.trans (Below.trans (bR.alloc E2.size _) ap)
 clear ae ap O1 R
 go_wp2_with fail
 refine (kQc ai.out).mono ?_
 rintro e w4 ⟨rfl,hw⟩
 obtain rfl:=hw.symm
 go_wp2
 go_ret
 exact ⟨rfl,E3⟩
def kNr {w:Ah} {cx:Ag Ai} {x:jT} (hx:jI.rd w cx x) (hc:x.2.1.length<=2000000) :
    Aj prog 214 #[.agg cx.toArray] w (kBx 3 kD.int (signed x) w):=by
 have hy:=hx.1
 obtain ⟨gb,a1,gd,rfl,Z,ba,bq,bm,bj,bu,b2⟩:=jX hy
 obtain ⟨dx,dv,rfl,gl⟩:=kD.sl ba
 obtain ⟨aq,am,rfl,a2⟩:=kD.sl bq
 obtain ⟨dy,dw,rfl,gt⟩:=kD.sl bj
 have HN:=yD Z
 have HC:=yD bq
 have HK:=yD bm
 have HF:=yD (show I64q x.2.2.2.1 from bu)
 have G:=kQw x.1
 have O:=kQw x.2.2.1
 have HD:=yD (show signed x=kIo (encV x.1)++kIo x.2.1++kIo (encV x.2.2.1)++[x.2.2.2.1] from rfl)
 have m1:=kJz (encV x.1)
 have m2:=kJz x.2.1
 have m3:=kJz (encV x.2.2.1)
 clear hx hy Z ba bq bm bj bu b2
 go_enter func214,ntmps214
 go_upto_region 1 with fail
 generalize J:World.alloc w _=N
 have EB:Qb w N:=by rw [<- J];exact bI
 have zB:w.heap.size + 1<=N.heap.size:=bF5
 have K0:Qd N w 0 (.slice dx x.1.length dv):=wF
 have K1:Qd N w 1 (.slice aq x.2.1.length am):=wF
 have K2:Qd N w 2 (.slice dy x.2.2.1.length dw):=wF
 have K3:Qd N w 3 (.int .i64 x.2.2.2.1):=wF
 have K4:Qd N w 4 (.int .i64 x.2.2.2.2):=wF
 clear J
 have FX:=yD (λ(W:Ah) (hW:Qb N W)=>cLs5 hW K0 K1 K2 K3 K4)
 refine yP (λW=>Qb N W) bG6 (bR.drew) ?_
 intro wS E
 try have a4:=E.size
 refine kL 1 ?_
 refine kL 2 ?_
 refine kL 5 ?_
 refine kL 6 ?_
 refine kP (k:=0) rfl bG6 rfl (λK H=>?_)
 have bn:=E.size
 go_simp
 obtain ⟨V,bi,RV⟩:=CQ
 generalize U:World.alloc wS (.cells #[] 5)=t0 at V bi RV ⊢
 clear U
 replace E:=(tQ E V)
 refine H _ _ E ?_
 clear H K V
 clear bn
 refine jG ?_
 refine kP (k:=3) rfl bG6 rfl (λK H=>?_)
 go_simp
 refine (kDh RV (HN.out.below (tQ EB E))).mono ?_
 rintro e t1 ⟨ay,rfl,I,hb⟩
 obtain ⟨aw,az,ax,ab,ai⟩:=I.parts
 obtain rfl:=ab
 have bf:=hb.size
 have OA:=I.wide (T:=jb t0.heap.size t1.heap.size) nK
 clear I
 clear RV
 replace E:=(tQ E hb)
 refine H _ _ E ?_
 clear H K hb
 refine jG ?_
 refine kP (k:=4) rfl bG6 rfl (λK H=>?_)
 go_simp
 refine (kAi (OA.own bD0).rd.1 bH3).mono ?_
 rintro e t2 ⟨ap,rfl,o,hb⟩
 obtain ⟨al,an,av,aa,ad⟩:=o.parts
 obtain rfl:=aa
 have be:=hb.size
 have OB:=o.wide (T:=jb t1.heap.size t2.heap.size) nK
 clear o
 clear OA
 replace E:=(tQ E hb)
 refine H _ _ E ?_
 clear H K hb
 refine jG ?_
 refine kP (k:=7) rfl bG6 rfl (λK H=>?_)
 go_simp
 refine (kAi (HC.out.below (tQ EB E)) hc).mono ?_
 rintro e t3 ⟨bg,rfl,ah,hb⟩
 obtain ⟨bb,bk,a8,a3,a5⟩:=ah.parts
 obtain rfl:=a3
 have bd:=hb.size
 have OC:=ah.wide (T:=jb t2.heap.size t3.heap.size) nK
 clear ah
 replace OB:=OB.below hb
 replace E:=(tQ E hb)
 refine H _ _ E ?_
 clear H K hb
 refine jG ?_
 refine kP (k:=8) rfl bG6 rfl (λK H=>?_)
 have bn:=E.size
 obtain ⟨v_,t4,hr,D,L,bc,R⟩:=kD.kBo (P:=prog) (t:=49) (ty:=49) (r:=kD.int) (e:=3) (w:=t3) (B:=N.heap.size) underlying49 kAm rfl bH2 bH2 kD.yu OB (OC.own bD0).rd dL E.size bS
 refine kD.kV _ _ _ rfl bH5 bH5 hr ?_
 obtain ⟨bj,au,ak,Y,ag⟩:=D.parts
 obtain rfl:=Y
 replace E:=E.trans L
 clear hr L R OB OC
 have X:=D
 clear D
 refine H _ _ E ?_
 clear H K bn
 refine jG ?_
 refine kL 9 ?_
 refine jg bG6 ?_
 have ae:=E
 clear E
 go_upto_region 2 with fail
 replace X:=X.wide (T:=jb N.heap.size t4.heap.size) (λj hj=>hj)
 have FX:=yD (λ(W:Ah) (hW:Qb N W)=>cLs5 hW K0 K1 K2 K3 K4)
 refine kDv (λW=>Qb N W) bG6 (ae.drew) ?_
 intro wS dp E
 have bD:Qb t4 wS:=(by rw [dp];exact bR.drew)
 have bh:=bD.size
 clear dp
 try have a4:=E.size
 replace X:=X.below bD
 clear bD
 refine kL 0 ?_
 refine kL 2 ?_
 refine kL 3 ?_
 refine kL 7 ?_
 refine kL 8 ?_
 refine jr (i:=1) (j:=9) rfl rfl bG6 rfl rfl (λK H=>?_) (λK H=>?_)
 · have bn:=E.size;go_simp;obtain ⟨V,bi,RV⟩:=CQ;generalize U:World.alloc wS (.cells #[] 5)=t0 at V bi RV ⊢;clear U;replace X:=X.below V;replace E:=(tQ E V);refine H _ _ E ?_;clear H K V;clear bn;refine jG ?_;refine jr (i:=4) (j:=9) rfl rfl bG6 rfl rfl (λK H=>?_) (λK H=>?_)
   · go_simp;refine (kDh RV (HK.out.below (tQ EB E))).mono ?_;rintro e t1 ⟨ay,rfl,I,hb⟩;obtain ⟨aw,az,ax,ab,ai⟩:=I.parts;obtain rfl:=ab;have bf:=hb.size;have OA:=I.wide (T:=jb t0.heap.size t1.heap.size) nK;clear I;clear RV;replace X:=X.below hb;replace E:=(tQ E hb);refine H _ _ E ?_;clear H K hb;refine jG ?_;refine jr (i:=5) (j:=9) rfl rfl bG6 rfl rfl (λK H=>?_) (λK H=>?_)
     · go_simp;refine (kAi (OA.own bD0).rd.1 bH3).mono ?_;rintro e t2 ⟨ap,rfl,o,hb⟩;obtain ⟨al,an,av,aa,ad⟩:=o.parts;obtain rfl:=aa;have be:=hb.size;have OB:=o.wide (T:=jb t1.heap.size t2.heap.size) nK;clear o;clear OA;replace X:=X.below hb;replace E:=(tQ E hb);refine H _ _ E ?_;clear H K hb;refine jG ?_;refine jr (i:=6) (j:=9) rfl rfl bG6 rfl rfl (λK H=>?_) (λK H=>?_)
       · have bn:=E.size;obtain ⟨v_,t3,hr,D,L,bd,R⟩:=kD.kBo (P:=prog) (t:=49) (ty:=49) (r:=kD.int) (e:=3) (w:=t2) (B:=N.heap.size) underlying49 kAm rfl bH2 bH2 kD.yu X (OB.own bD0).rd dL E.size bS;refine kD.kV _ _ _ rfl bH5 bH5 hr ?_;obtain ⟨bm,a9,a6,Y,a7⟩:=D.parts;obtain rfl:=Y;replace E:=E.trans L;clear hr L R X OB;have F:=D;clear D;refine H _ _ E ?_;clear H K bn;refine jG ?_;refine kP (k:=9) rfl bG6 rfl (λK H=>?_);have bn:=E.size;go_simp;have V:Below t3.heap.size t3 (World.alloc t3 (.cells #[.int .i64 x.2.2.2.1] 3)):=bR.alloc nL _;have bc:t3.heap.size + 1<=(World.alloc t3 (.cells #[.int .i64 x.2.2.2.1] 3)).heap.size:=(by simp);have RL:=litq (w:=t3) (x:=x.2.2.2.1) (e:=3) HF.out;generalize U:World.alloc t3 (.cells #[.int .i64 x.2.2.2.1] 3)=t4 at V bc RL ⊢;clear U;replace F:=F.below V;replace E:=(tQ E V);refine H _ _ E ?_;clear H K V;clear bn;exact uZ
       have bn:=E.size;go_simp;have V:Below t2.heap.size t2 (World.alloc t2 (.cells #[.int .i64 x.2.2.2.1] 3)):=bR.alloc nL _;have bd:t2.heap.size + 1<=(World.alloc t2 (.cells #[.int .i64 x.2.2.2.1] 3)).heap.size:=(by simp);have RL:=litq (w:=t2) (x:=x.2.2.2.1) (e:=3) HF.out;generalize U:World.alloc t2 (.cells #[.int .i64 x.2.2.2.1] 3)=t3 at V bd RL ⊢;clear U;replace X:=X.below V;replace OB:=OB.below V;replace E:=(tQ E V);refine H _ _ E ?_;clear H K V;clear bn;refine jG ?_;refine kP (k:=6) rfl bG6 rfl (λK H=>?_);have bn:=E.size;obtain ⟨v_,t4,hr,D,L,bc,R⟩:=kD.kBo (P:=prog) (t:=49) (ty:=49) (r:=kD.int) (e:=3) (w:=t3) (B:=N.heap.size) underlying49 kAm rfl bH2 bH2 kD.yu X (OB.own bD0).rd dL E.size bS;refine kD.kV _ _ _ rfl bH5 bH5 hr ?_;obtain ⟨bj,au,ak,Y,ag⟩:=D.parts;obtain rfl:=Y;replace RL:=RL.keep bM;replace E:=E.trans L;clear hr L R X OB;have F:=D;clear D;refine H _ _ E ?_;clear H K bn;exact uZ
     have bn:=E.size;go_simp;have V:Below t1.heap.size t1 (World.alloc t1 (.cells #[.int .i64 x.2.2.2.1] 3)):=bR.alloc nL _;have be:t1.heap.size + 1<=(World.alloc t1 (.cells #[.int .i64 x.2.2.2.1] 3)).heap.size:=(by simp);have RL:=litq (w:=t1) (x:=x.2.2.2.1) (e:=3) HF.out;generalize U:World.alloc t1 (.cells #[.int .i64 x.2.2.2.1] 3)=t2 at V be RL ⊢;clear U;replace X:=X.below V;replace OA:=OA.below V;replace E:=(tQ E V);refine H _ _ E ?_;clear H K V;clear bn;refine jG ?_;refine kP (k:=5) rfl bG6 rfl (λK H=>?_);go_simp;refine (kAi (OA.own bD0).rd.1 bH3).mono ?_;rintro e t3 ⟨ap,rfl,o,hb⟩;obtain ⟨al,an,av,aa,ad⟩:=o.parts;obtain rfl:=aa;have bd:=hb.size;have OB:=o.wide (T:=jb t2.heap.size t3.heap.size) nK;exact o9
   have bn:=E.size;go_simp;have V:Below t0.heap.size t0 (World.alloc t0 (.cells #[.int .i64 x.2.2.2.1] 3)):=bR.alloc nL _;have bf:t0.heap.size + 1<=(World.alloc t0 (.cells #[.int .i64 x.2.2.2.1] 3)).heap.size:=(by simp);have RL:=litq (w:=t0) (x:=x.2.2.2.1) (e:=3) HF.out;generalize U:World.alloc t0 (.cells #[.int .i64 x.2.2.2.1] 3)=t1 at V bf RL ⊢;clear U;replace X:=X.below V;replace RV:=RV.below V;exact vS
 have bn:=E.size
 go_simp
 have V:Below wS.heap.size wS (World.alloc wS (.cells #[.int .i64 x.2.2.2.1] 3)):=bR.alloc nL _
 have bi:wS.heap.size + 1<=(World.alloc wS (.cells #[.int .i64 x.2.2.2.1] 3)).heap.size:=(by simp)
 have RL:=litq (w:=wS) (x:=x.2.2.2.1) (e:=3) HF.out
 generalize U:World.alloc wS (.cells #[.int .i64 x.2.2.2.1] 3)=t0 at V bi RL ⊢
 clear U
 replace X:=X.below V
 replace E:=(tQ E V)
 refine H _ _ E ?_
 clear H K V
 clear bn
 refine jG ?_
 refine kP (k:=1) rfl bG6 rfl (λK H=>?_)
 have bn:=E.size
 go_simp
 have V:Below t0.heap.size t0 (World.alloc t0 (.cells #[] 5)):=bR.alloc nL _
 have bf:t0.heap.size + 1<=(World.alloc t0 (.cells #[] 5)).heap.size:=(by simp)
 have RV:=((kD.kQ.void (e:=5) (r:=kD.byte) (w:=(World.alloc t0 (.cells #[] 5))) (a:=some ⟨t0.heap.size,0,none⟩) (S:=λ_=>False)).own (Nat.zero_le _)).rd
 generalize U:World.alloc t0 (.cells #[] 5)=t1 at V bf RV ⊢
 clear U
 replace X:=X.below V
 replace RL:=RL.below V
 exact vS
def kHo {w:Ah} {cx:Ag Ai} {x:jF} (hx:jO.rd w cx x):Aj prog 32 #[.agg cx.toArray] w (zo jO x w):=by
 obtain ⟨hx,X⟩:=hx;obtain ⟨v0,rfl,Z,ba,bq,bm,bj⟩:=jY hx;obtain ⟨U,F,x2,x3⟩:=x;obtain ⟨a0,p0,rfl,_⟩:=kD.sl ba;have r0:kN.rd w _ U:=⟨Z,X.1⟩;have N1:=yD bq;have o:=yD bm;have N3:=yD bj;clear X hx Z ba bq bm bj;go_enter func32,ntmps32;go_upto_region 1 with fail;generalize J:World.alloc (World.alloc w _) _=v0;have E0:Qb w v0:=by rw [<- J];exact bI
 have bi:v0.heap.size=w.heap.size + 2:=bF5;have H:Hid (Qr v0 w.heap.size #[.slice a0 (U).length p0,Qn F,Qn x2,Qn x3] 38):=yD vJ;have XR:Hid (Qr v0 (w.heap.size + 1) #[.slice none 0 0,Qn 0,Qn 0,Qn 0] 38):=yD tX;clear J;have aj:=kE (b:=w.heap.size) H.out (j:=0) (v:=.slice a0 (U).length p0) rfl;go_wp2_with fail;refine (yh (r0.below E0)).mono ?_;rintro e w1 ⟨tc,rfl,O1,O⟩;obtain ⟨ao,rfl,ac⟩:=kX O1.raw;obtain ⟨G,E,rfl,an⟩:=kD.sl ac;clear ac;have ab:=yD O1;clear O1;have bf:=O.size;have F1:=(tQ E0 O);replace H:=yD (kC H.out O);replace XR:=yD (kC XR.out O);clear O aj;have ah:=kE (b:=w.heap.size) H.out (j:=0) (v:=.slice a0 (U).length p0) rfl;have ag:=Aa w1 (w.heap.size) 0 _ _ H.out;go_upto_region 2 with fail;generalize D:(w1.setCell ⟨w.heap.size,0,none⟩ (.slice G U.length E))=v1;have W:Qr v1 w.heap.size #[Qs G U E,Qn F,Qn x2,Qn x3] 38:=by
  rw [<- D];have y0:=Ac _ (w.heap.size) 0 _ 38 (.slice G U.length E) H.out;exact y0
 replace XR:=yD (show Qr v1 (w.heap.size + 1) #[.slice none 0 0,Qn 0,Qn 0,Qn 0] 38 from by rw [<- D];exact ((Ab _ ⟨w.heap.size,0,none⟩ (w.heap.size + 1) _ (show w.heap.size + 1≠w.heap.size by omega)).trans XR.out));replace H:=yD W;clear W;obtain ⟨E1,ad,ab⟩:=AZ;clear D F1 ah ag;have K0:=kE (b:=w.heap.size) H.out (j:=0) (v:=.slice G U.length E) rfl;have R0:=kE (b:=w.heap.size + 1) XR.out (j:=0) rfl;have Z0:=Aa v1 (w.heap.size + 1) 0 _ _ XR.out;have K1:=kE (b:=w.heap.size) H.out (j:=1) (v:=.int .i64 F) rfl;have R1:=kE (b:=w.heap.size + 1) XR.out (j:=1) rfl;have Z1:=Aa v1 (w.heap.size + 1) 1 _ _ XR.out;have K2:=kE (b:=w.heap.size) H.out (j:=2) (v:=.int .i64 x2) rfl;have R2:=kE (b:=w.heap.size + 1) XR.out (j:=2) rfl;have Z2:=Aa v1 (w.heap.size + 1) 2 _ _ XR.out;have K3:=kE (b:=w.heap.size) H.out (j:=3) (v:=.int .i64 x3) rfl;have R3:=kE (b:=w.heap.size + 1) XR.out (j:=3) rfl;have Z3:=Aa v1 (w.heap.size + 1) 3 _ _ XR.out;go_wp2;have aa:=ad.out;refine Ae (v:=.agg #[Qs G U E,Qn F,Qn x2,Qn x3]) (by simp [results,results32,go_sem,R0,Z0,R1,Z1,R2,Z2,R3,Z3]) rfl ⟨[_,_,_,_],rfl,?_,?_⟩
 · exact aM
 repeat (first|(with_reducible exact E1) | refine Ad ?_ sP _)
def kQa {w:Ah} {cx:Ag Ai} {x:jF} (hx:jO.rd w cx x):Aj prog 50 #[.agg cx.toArray] w (zo jO x w):=by
 obtain ⟨hx,X⟩:=hx;obtain ⟨v0,rfl,Z,ba,bq,bm,bj⟩:=jY hx;obtain ⟨U,F,x2,x3⟩:=x;obtain ⟨a0,p0,rfl,_⟩:=kD.sl ba;have r0:kN.rd w _ U:=⟨Z,X.1⟩;have N1:=yD bq;have o:=yD bm;have N3:=yD bj;clear X hx Z ba bq bm bj;go_enter func50,ntmps50;go_upto_region 2 with fail;generalize J:World.alloc (World.alloc (World.alloc w _) _) _=v0;have E0:Qb w v0:=by rw [<- J];exact bI
 have bi:v0.heap.size=w.heap.size + 3:=bF5;have XB:Hid (Qr v0 w.heap.size #[.slice a0 (U).length p0,Qn F,Qn x2,Qn x3] 38):=yD (by rw [<- J];exact jM (jM (kG rfl)));have XR:Hid (Qr v0 (w.heap.size + 1) #[.slice none 0 0,Qn 0,Qn 0,Qn 0] 38):=yD (by rw [<- J];exact jM (kG bH4));have H:Hid (Qr v0 (w.heap.size + 1 + 1) #[.slice a0 (U).length p0,Qn F,Qn x2,Qn x3] 38):=yD tX;clear J;have aj:=kE (b:=w.heap.size) XB.out (j:=0) (v:=.slice a0 (U).length p0) rfl;go_wp2_with fail;refine (zX (r0.below E0)).mono ?_;rintro e w1 ⟨tc,rfl,O1,O⟩;obtain ⟨ao,rfl,ac⟩:=kX O1.raw;obtain ⟨G,E,rfl,an⟩:=kD.sl ac;clear ac;have ab:=yD O1;clear O1;have bf:=O.size;have F1:=(tQ E0 O);replace XB:=yD (kC XB.out O);replace H:=yD (kC H.out O);replace XR:=yD (kC XR.out O);clear O aj;obtain ⟨ah,ag⟩:=IP;go_upto_region 3 with fail;generalize D:(w1.setCell ⟨w.heap.size + 1 + 1,0,none⟩ (.slice G U.length E))=v1;have W:Qr v1 (w.heap.size + 1 + 1) #[Qs G U E,Qn F,Qn x2,Qn x3] 38:=by
  rw [<- D];have y0:=Ac _ (w.heap.size + 1 + 1) 0 _ 38 (.slice G U.length E) H.out;exact y0
 replace XB:=yD (show Qr v1 w.heap.size #[.slice a0 (U).length p0,Qn F,Qn x2,Qn x3] 38 from by rw [<- D];exact ((Ab _ ⟨w.heap.size + 1 + 1,0,none⟩ (w.heap.size) _ (show w.heap.size≠w.heap.size + 1 + 1 by omega)).trans XB.out));replace XR:=yD (show Qr v1 (w.heap.size + 1) #[.slice none 0 0,Qn 0,Qn 0,Qn 0] 38 from by rw [<- D];exact ((Ab _ ⟨w.heap.size + 1 + 1,0,none⟩ (w.heap.size + 1) _ (show w.heap.size + 1≠w.heap.size + 1 + 1 by omega)).trans XR.out));replace H:=yD W;clear W;obtain ⟨E1,ad,ab⟩:=AZ;clear D F1 ah ag;have K0:=kE (b:=w.heap.size + 1 + 1) H.out (j:=0) (v:=.slice G U.length E) rfl;have R0:=kE (b:=w.heap.size + 1) XR.out (j:=0) rfl;have Z0:=Aa v1 (w.heap.size + 1) 0 _ _ XR.out;have K1:=kE (b:=w.heap.size + 1 + 1) H.out (j:=1) (v:=.int .i64 F) rfl;have R1:=kE (b:=w.heap.size + 1) XR.out (j:=1) rfl;have Z1:=Aa v1 (w.heap.size + 1) 1 _ _ XR.out;have K2:=kE (b:=w.heap.size + 1 + 1) H.out (j:=2) (v:=.int .i64 x2) rfl;have R2:=kE (b:=w.heap.size + 1) XR.out (j:=2) rfl;have Z2:=Aa v1 (w.heap.size + 1) 2 _ _ XR.out;have K3:=kE (b:=w.heap.size + 1 + 1) H.out (j:=3) (v:=.int .i64 x3) rfl;have R3:=kE (b:=w.heap.size + 1) XR.out (j:=3) rfl;have Z3:=Aa v1 (w.heap.size + 1) 3 _ _ XR.out;go_wp2;have aa:=ad.out;refine Ae (v:=.agg #[Qs G U E,Qn F,Qn x2,Qn x3]) (by simp [results,results50,go_sem,R0,Z0,R1,Z1,R2,Z2,R3,Z3]) rfl ⟨[_,_,_,_],rfl,?_,?_⟩
 · exact aM
 repeat (first|(with_reducible exact E1) | refine Ad ?_ sP _)
def kFc {w:Ah} {cx:Ag Ai} {x:jT} (hx:jI.rd w cx x):Aj prog 82 #[.agg cx.toArray] w (zo jI x w):=by
 obtain ⟨hx,X⟩:=hx;obtain ⟨v0,v1,v2,rfl,Z,ba,bq,bm,bj,bu,b2⟩:=jX hx;obtain ⟨U,F,x2,x3,x4⟩:=x;obtain ⟨a0,p0,rfl,_⟩:=kD.sl ba;obtain ⟨a1,p1,rfl,_⟩:=kD.sl bq;obtain ⟨a2,p2,rfl,_⟩:=kD.sl bj;have r0:kN.rd w _ U:=⟨Z,X.1⟩;have r1:(kD.slice 5 kD.byte).rd w _ F:=⟨bq,X.2.1⟩;have r2:kN.rd w _ x2:=⟨bm,X.2.2.1⟩;have N3:=yD bu;have N4:=yD b2;clear X hx Z ba bq bm bj bu b2;go_enter func82,ntmps82;go_upto_region 1 with fail;generalize J:World.alloc (World.alloc w _) _=v0;have E0:Qb w v0:=by rw [<- J];exact bI
 have bi:v0.heap.size=w.heap.size + 2:=bF5;have H:Hid (Qr v0 w.heap.size #[.slice a0 (U).length p0,Qs a1 F p1,.slice a2 (x2).length p2,Qn x3,Qn x4] 70):=yD vJ;have XR:Hid (Qr v0 (w.heap.size + 1) #[.slice none 0 0,.slice none 0 0,.slice none 0 0,Qn 0,Qn 0] 70):=yD tX;clear J;have aj:=kE (b:=w.heap.size) H.out (j:=0) (v:=.slice a0 (U).length p0) rfl;go_wp2_with fail;refine (yh (r0.below E0)).mono ?_;rintro e w1 ⟨tc,rfl,O1,O⟩;obtain ⟨ao,rfl,ac⟩:=kX O1.raw;obtain ⟨G,E,rfl,an⟩:=kD.sl ac;clear ac;have ab:=yD O1;clear O1;have bf:=O.size;have F1:=(tQ E0 O);replace H:=yD (kC H.out O);replace XR:=yD (kC XR.out O);clear O aj;have ah:=kE (b:=w.heap.size) H.out (j:=0) (v:=.slice a0 (U).length p0) rfl;have ag:=Aa w1 (w.heap.size) 0 _ _ H.out;go_upto_region 2 with fail;generalize D:(w1.setCell ⟨w.heap.size,0,none⟩ (.slice G U.length E))=v1;have W:Qr v1 w.heap.size #[Qs G U E,Qs a1 F p1,.slice a2 (x2).length p2,Qn x3,Qn x4] 70:=by
  rw [<- D];have y0:=Ac _ (w.heap.size) 0 _ 70 (.slice G U.length E) H.out;exact y0
 replace XR:=yD (show Qr v1 (w.heap.size + 1) #[.slice none 0 0,.slice none 0 0,.slice none 0 0,Qn 0,Qn 0] 70 from by rw [<- D];exact ((Ab _ ⟨w.heap.size,0,none⟩ (w.heap.size + 1) _ (show w.heap.size + 1≠w.heap.size by omega)).trans XR.out));replace H:=yD W;clear W;obtain ⟨E1,ad,ab⟩:=AZ;clear D F1 ah ag;have ae:=kE (b:=w.heap.size) H.out (j:=1) (v:=.slice a1 F.length p1) rfl;go_wp2_with fail;refine (jCe (r1.below E1)).mono ?_;rintro e V ⟨tv,rfl,O2,af⟩;obtain ⟨bb,av,rfl,_⟩:=kD.sl O2.raw;have R:=yD O2;clear O2;have a9:=af.size;have F2:=(tQ E1 af);replace H:=yD (kC H.out af);replace XR:=yD (kC XR.out af);replace ab:=yD (ab.out.below af);clear af ae;have am:=kE (b:=w.heap.size) H.out (j:=1) (v:=.slice a1 F.length p1) rfl;have au:=Aa V (w.heap.size) 1 _ _ H.out;go_upto_region 3 with fail;generalize D:(V.setCell ⟨w.heap.size,1,none⟩ (.slice bb F.length av))=v2;have W:Qr v2 w.heap.size #[Qs G U E,Qs bb F av,.slice a2 (x2).length p2,Qn x3,Qn x4] 70:=by
  rw [<- D];have y0:=Ac _ (w.heap.size) 1 _ 70 (.slice bb F.length av) H.out;exact y0
 replace XR:=yD (show Qr v2 (w.heap.size + 1) #[.slice none 0 0,.slice none 0 0,.slice none 0 0,Qn 0,Qn 0] 70 from by rw [<- D];exact ((Ab _ ⟨w.heap.size,1,none⟩ (w.heap.size + 1) _ (show w.heap.size + 1≠w.heap.size by omega)).trans XR.out));replace H:=yD W;clear W;obtain ⟨E2,ak,ab,R⟩:=GV;clear D F2 am au;have I:=kE (b:=w.heap.size) H.out (j:=2) (v:=.slice a2 (x2).length p2) rfl;go_wp2_with fail;refine (yh (r2.below E2)).mono ?_;rintro e w3 ⟨tc,rfl,O3,ap⟩;obtain ⟨ax,rfl,al⟩:=kX O3.raw;obtain ⟨N,L,rfl,az⟩:=kD.sl al;clear al;have ai:=yD O3;clear O3;have ay:=ap.size;have F3:=(tQ E2 ap);replace H:=yD (kC H.out ap);replace XR:=yD (kC XR.out ap);replace ab:=yD (ab.out.below ap);replace R:=yD (R.out.below ap);clear ap I;have aq:=kE (b:=w.heap.size) H.out (j:=2) (v:=.slice a2 (x2).length p2) rfl;have ar:=Aa w3 (w.heap.size) 2 _ _ H.out;go_upto_region 4 with fail;generalize D:(w3.setCell ⟨w.heap.size,2,none⟩ (.slice N x2.length L))=v3;have W:Qr v3 w.heap.size #[Qs G U E,Qs bb F av,Qs N x2 L,Qn x3,Qn x4] 70:=by
  rw [<- D];have y0:=Ac _ (w.heap.size) 2 _ 70 (.slice N x2.length L) H.out;exact y0
 replace XR:=yD (show Qr v3 (w.heap.size + 1) #[.slice none 0 0,.slice none 0 0,.slice none 0 0,Qn 0,Qn 0] 70 from by rw [<- D];exact ((Ab _ ⟨w.heap.size,2,none⟩ (w.heap.size + 1) _ (show w.heap.size + 1≠w.heap.size by omega)).trans XR.out));replace H:=yD W;clear W;obtain ⟨E3,aw,ab,R,ai⟩:=FL;clear D F3 aq ar;have K0:=kE (b:=w.heap.size) H.out (j:=0) (v:=.slice G U.length E) rfl;have R0:=kE (b:=w.heap.size + 1) XR.out (j:=0) rfl;have Z0:=Aa v3 (w.heap.size + 1) 0 _ _ XR.out;have K1:=kE (b:=w.heap.size) H.out (j:=1) (v:=.slice bb F.length av) rfl;have R1:=kE (b:=w.heap.size + 1) XR.out (j:=1) rfl;have Z1:=Aa v3 (w.heap.size + 1) 1 _ _ XR.out;have K2:=kE (b:=w.heap.size) H.out (j:=2) (v:=.slice N x2.length L) rfl;have R2:=kE (b:=w.heap.size + 1) XR.out (j:=2) rfl;have Z2:=Aa v3 (w.heap.size + 1) 2 _ _ XR.out;have K3:=kE (b:=w.heap.size) H.out (j:=3) (v:=.int .i64 x3) rfl;have R3:=kE (b:=w.heap.size + 1) XR.out (j:=3) rfl;have Z3:=Aa v3 (w.heap.size + 1) 3 _ _ XR.out;have K4:=kE (b:=w.heap.size) H.out (j:=4) (v:=.int .i64 x4) rfl;have R4:=kE (b:=w.heap.size + 1) XR.out (j:=4) rfl;have Z4:=Aa v3 (w.heap.size + 1) 4 _ _ XR.out;go_wp2;have aa:=ad.out;have a4:=ak.out;have Y:=aw.out;refine Ae (v:=.agg #[Qs G U E,Qs bb F av,Qs N x2 L,Qn x3,Qn x4]) (by simp [results,results82,go_sem,R0,Z0,R1,Z1,R2,Z2,R3,Z3,R4,Z4]) rfl ⟨[_,_,_,_,_],rfl,?_,?_⟩
 · exact aN
 repeat (first|(with_reducible exact E3) | refine Ad ?_ sP _)
def kBf {w:Ah} {cx:Ag Ai} {x:jT} (hx:jI.rd w cx x):Aj prog 107 #[.agg cx.toArray] w (zo jI x w):=by
 obtain ⟨hx,X⟩:=hx;obtain ⟨v0,v1,v2,rfl,Z,ba,bq,bm,bj,bu,b2⟩:=jX hx;obtain ⟨U,F,x2,x3,x4⟩:=x;obtain ⟨a0,p0,rfl,_⟩:=kD.sl ba;obtain ⟨a1,p1,rfl,_⟩:=kD.sl bq;obtain ⟨a2,p2,rfl,_⟩:=kD.sl bj;have r0:kN.rd w _ U:=⟨Z,X.1⟩;have r1:(kD.slice 5 kD.byte).rd w _ F:=⟨bq,X.2.1⟩;have r2:kN.rd w _ x2:=⟨bm,X.2.2.1⟩;have N3:=yD bu;have N4:=yD b2;clear X hx Z ba bq bm bj bu b2;go_enter func107,ntmps107;go_upto_region 2 with fail;generalize J:World.alloc (World.alloc (World.alloc w _) _) _=v0;have E0:Qb w v0:=by rw [<- J];exact bI
 have bi:v0.heap.size=w.heap.size + 3:=bF5;have XB:Hid (Qr v0 w.heap.size #[.slice a0 (U).length p0,Qs a1 F p1,.slice a2 (x2).length p2,Qn x3,Qn x4] 70):=yD (by rw [<- J];exact jM (jM (kG rfl)));have XR:Hid (Qr v0 (w.heap.size + 1) #[.slice none 0 0,.slice none 0 0,.slice none 0 0,Qn 0,Qn 0] 70):=yD (by rw [<- J];exact jM (kG bH4));have H:Hid (Qr v0 (w.heap.size + 1 + 1) #[.slice a0 (U).length p0,Qs a1 F p1,.slice a2 (x2).length p2,Qn x3,Qn x4] 70):=yD tX;clear J;have aj:=kE (b:=w.heap.size) XB.out (j:=0) (v:=.slice a0 (U).length p0) rfl;go_wp2_with fail;refine (zX (r0.below E0)).mono ?_;rintro e w1 ⟨tc,rfl,O1,O⟩;obtain ⟨ao,rfl,ac⟩:=kX O1.raw;obtain ⟨G,E,rfl,an⟩:=kD.sl ac;clear ac;have ab:=yD O1;clear O1;have bf:=O.size;have F1:=(tQ E0 O);replace XB:=yD (kC XB.out O);replace H:=yD (kC H.out O);replace XR:=yD (kC XR.out O);clear O aj;obtain ⟨ah,ag⟩:=IP;go_upto_region 3 with fail;generalize D:(w1.setCell ⟨w.heap.size + 1 + 1,0,none⟩ (.slice G U.length E))=v1;have W:Qr v1 (w.heap.size + 1 + 1) #[Qs G U E,Qs a1 F p1,.slice a2 (x2).length p2,Qn x3,Qn x4] 70:=by
  rw [<- D];have y0:=Ac _ (w.heap.size + 1 + 1) 0 _ 70 (.slice G U.length E) H.out;exact y0
 replace XB:=yD (show Qr v1 w.heap.size #[.slice a0 (U).length p0,Qs a1 F p1,.slice a2 (x2).length p2,Qn x3,Qn x4] 70 from by rw [<- D];exact ((Ab _ ⟨w.heap.size + 1 + 1,0,none⟩ (w.heap.size) _ (show w.heap.size≠w.heap.size + 1 + 1 by omega)).trans XB.out));replace XR:=yD (show Qr v1 (w.heap.size + 1) #[.slice none 0 0,.slice none 0 0,.slice none 0 0,Qn 0,Qn 0] 70 from by rw [<- D];exact ((Ab _ ⟨w.heap.size + 1 + 1,0,none⟩ (w.heap.size + 1) _ (show w.heap.size + 1≠w.heap.size + 1 + 1 by omega)).trans XR.out));replace H:=yD W;clear W;obtain ⟨E1,ad,ab⟩:=AZ;clear D F1 ah ag;have ae:=kE (b:=w.heap.size) XB.out (j:=1) (v:=.slice a1 F.length p1) rfl;replace ae:=cL (kD.zQ v1 (.cells #[] 5)) ae;go_wp2_with (at_builtin;refine kD.yT rfl _ _ 22 rfl (r:=kD.byte) (e:=5) underlying22 kFb rfl bH2 bH2 flatbyte (B:=v1.heap.size) (kD.kQ.void (S:=λ_=>False)) bH5 bH5 ((r1.below E1).alloc _) (λ_ h=>h.elim) bH4 (by have:=r1.2.1;simp;unfold Big at this;omega) ?_);intro tv V hown o hz;have af:Qb v1 V:=(bR.alloc nL _).trans o;obtain ⟨bb,av,a3⟩:=hown.yw;obtain rfl:=a3;have R:=yD (hown.own r1.2.1);try simp only [List.nil_append] at R
 clear hown o hz;have a9:=af.size;have F2:=(tQ E1 af);replace XB:=yD (kC XB.out af);replace H:=yD (kC H.out af);replace XR:=yD (kC XR.out af);replace ab:=yD (ab.out.below af);clear af ae;have am:=kE (b:=w.heap.size + 1 + 1) H.out (j:=1) (v:=.slice a1 F.length p1) rfl;have au:=Aa V (w.heap.size + 1 + 1) 1 _ _ H.out;go_upto_region 4 with fail;generalize D:(V.setCell ⟨w.heap.size + 1 + 1,1,none⟩ (.slice bb F.length av))=v2;have W:Qr v2 (w.heap.size + 1 + 1) #[Qs G U E,Qs bb F av,.slice a2 (x2).length p2,Qn x3,Qn x4] 70:=by
  rw [<- D];have y0:=Ac _ (w.heap.size + 1 + 1) 1 _ 70 (.slice bb F.length av) H.out;exact y0
 replace XB:=yD (show Qr v2 w.heap.size #[.slice a0 (U).length p0,Qs a1 F p1,.slice a2 (x2).length p2,Qn x3,Qn x4] 70 from by rw [<- D];exact ((Ab _ ⟨w.heap.size + 1 + 1,1,none⟩ (w.heap.size) _ (show w.heap.size≠w.heap.size + 1 + 1 by omega)).trans XB.out));replace XR:=yD (show Qr v2 (w.heap.size + 1) #[.slice none 0 0,.slice none 0 0,.slice none 0 0,Qn 0,Qn 0] 70 from by rw [<- D];exact ((Ab _ ⟨w.heap.size + 1 + 1,1,none⟩ (w.heap.size + 1) _ (show w.heap.size + 1≠w.heap.size + 1 + 1 by omega)).trans XR.out));replace H:=yD W;clear W;obtain ⟨E2,ak,ab,R⟩:=GV;clear D F2 am au;have I:=kE (b:=w.heap.size) XB.out (j:=2) (v:=.slice a2 (x2).length p2) rfl;go_wp2_with fail;refine (zX (r2.below E2)).mono ?_;rintro e w3 ⟨tc,rfl,O3,ap⟩;obtain ⟨ax,rfl,al⟩:=kX O3.raw;obtain ⟨N,L,rfl,az⟩:=kD.sl al;clear al;have ai:=yD O3;clear O3;have ay:=ap.size;have F3:=(tQ E2 ap);replace XB:=yD (kC XB.out ap);replace H:=yD (kC H.out ap);replace XR:=yD (kC XR.out ap);replace ab:=yD (ab.out.below ap);replace R:=yD (R.out.below ap);clear ap I;have aq:=kE (b:=w.heap.size + 1 + 1) H.out (j:=2) (v:=.slice a2 (x2).length p2) rfl;have ar:=Aa w3 (w.heap.size + 1 + 1) 2 _ _ H.out;go_upto_region 5 with fail;generalize D:(w3.setCell ⟨w.heap.size + 1 + 1,2,none⟩ (.slice N x2.length L))=v3;have W:Qr v3 (w.heap.size + 1 + 1) #[Qs G U E,Qs bb F av,Qs N x2 L,Qn x3,Qn x4] 70:=by
  rw [<- D];have y0:=Ac _ (w.heap.size + 1 + 1) 2 _ 70 (.slice N x2.length L) H.out;exact y0
 replace XB:=yD (show Qr v3 w.heap.size #[.slice a0 (U).length p0,Qs a1 F p1,.slice a2 (x2).length p2,Qn x3,Qn x4] 70 from by rw [<- D];exact ((Ab _ ⟨w.heap.size + 1 + 1,2,none⟩ (w.heap.size) _ (show w.heap.size≠w.heap.size + 1 + 1 by omega)).trans XB.out));replace XR:=yD (show Qr v3 (w.heap.size + 1) #[.slice none 0 0,.slice none 0 0,.slice none 0 0,Qn 0,Qn 0] 70 from by rw [<- D];exact ((Ab _ ⟨w.heap.size + 1 + 1,2,none⟩ (w.heap.size + 1) _ (show w.heap.size + 1≠w.heap.size + 1 + 1 by omega)).trans XR.out));replace H:=yD W;clear W;obtain ⟨E3,aw,ab,R,ai⟩:=FL;clear D F3 aq ar;have K0:=kE (b:=w.heap.size + 1 + 1) H.out (j:=0) (v:=.slice G U.length E) rfl;have R0:=kE (b:=w.heap.size + 1) XR.out (j:=0) rfl;have Z0:=Aa v3 (w.heap.size + 1) 0 _ _ XR.out;have K1:=kE (b:=w.heap.size + 1 + 1) H.out (j:=1) (v:=.slice bb F.length av) rfl;have R1:=kE (b:=w.heap.size + 1) XR.out (j:=1) rfl;have Z1:=Aa v3 (w.heap.size + 1) 1 _ _ XR.out;have K2:=kE (b:=w.heap.size + 1 + 1) H.out (j:=2) (v:=.slice N x2.length L) rfl;have R2:=kE (b:=w.heap.size + 1) XR.out (j:=2) rfl;have Z2:=Aa v3 (w.heap.size + 1) 2 _ _ XR.out;have K3:=kE (b:=w.heap.size + 1 + 1) H.out (j:=3) (v:=.int .i64 x3) rfl;have R3:=kE (b:=w.heap.size + 1) XR.out (j:=3) rfl;have Z3:=Aa v3 (w.heap.size + 1) 3 _ _ XR.out;have K4:=kE (b:=w.heap.size + 1 + 1) H.out (j:=4) (v:=.int .i64 x4) rfl;have R4:=kE (b:=w.heap.size + 1) XR.out (j:=4) rfl;have Z4:=Aa v3 (w.heap.size + 1) 4 _ _ XR.out;go_wp2;have aa:=ad.out;have a4:=ak.out;have Y:=aw.out;refine Ae (v:=.agg #[Qs G U E,Qs bb F av,Qs N x2 L,Qn x3,Qn x4]) (by simp [results,results107,go_sem,R0,Z0,R1,Z1,R2,Z2,R3,Z3,R4,Z4]) rfl ⟨[_,_,_,_,_],rfl,?_,?_⟩
 · exact aN
 repeat (first|(with_reducible exact E3) | refine Ad ?_ sP _)
end Go.Proofs.YtjhfdpopkkmigabGreat

/-
  What is signed, and the check of a signature.
-/
import Derived.Test.YtonmjkmaadgceabGreatVData
set_option linter.unusedVariables false
set_option linter.defProp false
set_option linter.unusedSimpArgs false
set_option linter.unnecessarySimpa false
set_option maxRecDepth 100000
set_option maxHeartbeats 4000000
open _root_ renaming List->Aa
namespace Go.Proofs.YtonmjkmaadgceabGreat
open Go.RowKit _root_.Go.Proofs.Tryz
def macOf (s:Int) (l:Aa Int):Int:=digest ([s]++l++[s])
def bInt (c:UInt8):Int:=c.toNat
def kFt (l:Aa UInt8) (k:Nat):Aa Int:=(l.length:Int) :: (l.take k).map bInt
def toIntsK_len (l:List UInt8) (k:Nat):(kFt l k).length<=k + 1:=by simp [kFt];omega
def kHe (l:Aa UInt8):Aa Int:=(l.length:Int) :: l.map bInt
def encV (n:ko):Aa UInt8:=if zM n=true then encNm n else []
def signed (x:jN):Aa Int:=kHe (encV x.1)++kHe x.2.1++kHe (encV x.2.2.1)++[x.2.2.2.1]
def toInts_take {l:Aa UInt8} {k:Nat} (h:k < l.length):kFt l (k + 1)=(kFt l k)++[bInt l[k]]:=by
 unfold kFt;rw [List.take_succ_eq_append_getElem h,List.map_append];rfl
def toInts_end {l:List UInt8} {k:Nat} (h:¬ k < l.length):(kFt l k)=kHe l:=by unfold kFt;rw [List.take_of_length_le bC9];rfl
def kIr (l:List UInt8):(kHe l).length=l.length + 1:=by simp [kHe]
def kPe (n:ko):(encV n).length<=90:=by
 unfold encV;split
 · rename_i h;exact encNm_len h
 simp
def signed_len (x:jN):(signed x).length<=x.2.1.length + 190:=by
 have h1:=kPe x.1;have h2:=kPe x.2.2.1;unfold signed;simp only [List.length_append,kIr,List.length_cons,List.length_nil];omega
def kAb {w:World} {vl:Value} {l:Aa UInt8} (hl:(kD.slice 5 kD.byte).raw w [vl] l) (hn:l.length<=2000000) :
    Calls prog 207 #[vl] w (kBs 3 kD.int (kHe l) w):=by
 obtain ⟨al,pl,rfl,ll⟩:=kD.sl hl
 have O0:=litq (w:=w) (x:=(l.length:Int)) (e:=3) (by unfold I64q;omega)
 go_enter func207,ntmps207
 go_wp2
 go_loopw [3,4] (λv i wr=>∃ k:Nat,k<=l.length/\i=.int .i64 k/\Hid (kD.kR 3 kD.int wr v (kFt l k) (jX w.heap.size wr.heap.size))/\Qb w wr) (λ_ i _=>l.length - (intOf i).toNat)
 case atStart=>exact ⟨0,Nat.zero_le _,rfl,yD (by simpa [kFt] using O0.wide (T:=jX w.heap.size (w.alloc (.cells #[.int .i64 (l.length:Int)] 3)).heap.size) qJ),bF⟩
 clear O0
 obtain ⟨k,hk,rfl,J,o⟩:=hrel
 obtain ⟨oa,on,oc,ho,bb⟩:=J.out.parts;obtain rfl:=ho
 by_cases hlt:k < l.length
 · obtain ⟨ba,H,rfl,c0,hr,A0⟩:=kD.kCv (hl.below o) hlt rfl;have he:=kD.kVz hr;obtain rfl:c0=_:=by simpa using he
   clear he hr;have E:=yD (toInts_take hlt);generalize l[k]=c at *;have ag:=c.toNat_lt;have a9:=o.size;have aa:=toIntsK_len l k;have HC:Hid ((c.toNat:Int)=bInt c):=yD rfl;go_wp2_with (at_builtin;refine kD.jL rfl _ _ 59 rfl (r:=kD.int) (e:=3) underlying59 kAi rfl bC8 bC8 (B:=w.heap.size) J.out bD1 bD1 rfl (kD.jB (n:=bInt c) (by unfold bInt;have:=c.toNat_lt;omega) _) rfl (λ_ _ h=>h) qU (λ_ h=>h.elim) bC9 bC4 ?_);intro v2 V Z ak a6;have R:=yD (Z.cast E.out.symm);obtain ⟨c9,G,N,az,D⟩:=Z.parts;obtain rfl:=az;have F:=o.trans ak;clear Z ak J o;go_wp2;go_roundw;case rel=>exact ⟨k + 1,by omega,by go_num,R,F⟩
   simp [intOf];omega
 have L:=yD (toInts_end hlt)
 go_wp2
 go_ret
 exact ⟨_,rfl,J.out.cast L.out,o⟩
def kPs {w:World} {va:Value} {cn:Aa Value} {n:ko} (ha:(kD.slice 5 kD.byte).rd w [va] []) (hn:kU.raw w cn n) (hv:zM n=false) :
    Calls prog 208 #[va,.agg cn.toArray] w (kBs 5 kD.byte [] w):=by
 obtain ⟨av,rfl,ad⟩:=kZ hn
 obtain ⟨an,G,rfl,ln⟩:=kD.sl ad
 obtain ⟨aa,al,rfl,la⟩:=kD.sl ha.1
 have HA:=yD ha
 have N:=yD hn
 have U:=yD hv
 clear ha hn ad hv
 go_enter func208,ntmps208
 have O0:kD.kR 5 kD.byte ((w.alloc (.cells #[.slice an n.length G] 40)).alloc (.cells #[] 5)) (.slice (some ⟨w.heap.size + 1,0,none⟩) 0 0) [] (λk=>k=w.heap.size + 1):=by
  exact iE
 go_wp2_with (at_builtin;refine kD.yQ rfl _ _ 22 rfl (r:=kD.byte) (e:=5) underlying22 kEj rfl bC8 bC8 kD.kFi (B:=w.heap.size + 1) O0 bD1 bD1 (HA.out.below bF) qJ bD0 bD0 ?_)
 intro v2 V hown o hz
 have J:Hid (kD.kR 5 kD.byte V v2 [] (jX w.heap.size V.heap.size)):=yD ((hown.cast bD0).wide qV)
 obtain ⟨K0,F⟩:=H7
 obtain ⟨a2,n2,c2,az,a7⟩:=J.out.parts
 obtain rfl:=az
 clear hown O0 o hz
 go_wp2_with fail
 refine (yY (N.out.below F)).mono ?_
 rintro e w3 ⟨rfl,ar⟩
 rw [U.out]
 have ai:=J.out.below ar
 go_wp2
 go_ret
 exact ⟨_,rfl,ai.wide mR,(tQ F ar)⟩
def kCz {w:World} {va:Value} {cn:Aa Value} {n:ko} (ha:(kD.slice 5 kD.byte).rd w [va] []) (hn:kU.raw w cn n) :
    Calls prog 208 #[va,.agg cn.toArray] w (kBs 5 kD.byte (encV n) w):=by
 cases hv:zM n
 · rw [show encV n=[] by unfold encV;rw [hv];rfl];exact kPs ha hn hv
 rw [show encV n=[]++encNm n by unfold encV;rw [hv];rfl];exact kPt ha hn hv bD0
def kPr {w:World} {s:Int} (hs:Qi s) {vl:Value} {l:Aa Int} (hl:(kD.slice 3 kD.int).rd w [vl] l) (hn:l.length<=16000000) :
    Calls prog 196 #[.int .i64 s,vl] w (bQ w (.int .i64 (macOf s l))):=by
 obtain ⟨al,pl,rfl,ll⟩:=kD.sl hl.1
 have hb:=hl.2.1
 unfold Big at hb
 have O0:=litq (w:=w) (x:=s) (e:=3) hs
 go_enter func196,ntmps196
 go_wp2_with (at_builtin;refine kD.yQ rfl _ _ 59 rfl (r:=kD.int) (e:=3) underlying59 kAi rfl bC8 bC8 kD.yg (B:=w.heap.size) O0 bD1 bD1 (hl.below bF) qJ bD0 bC4 ?_)
 intro v2 V Z ak a6
 obtain ⟨c9,G,N,az,D⟩:=Z.parts;obtain rfl:=az
 have O1:=litq (w:=V) (x:=s) (e:=3) hs
 have R:=yD Z
 have E2:Qb w V:=Below.trans bF ak
 clear Z ak O0 hl
 go_wp2_with (at_builtin;refine kD.yQ rfl _ _ 59 rfl (r:=kD.int) (e:=3) underlying59 kAi rfl bC8 bC8 kD.yg (B:=w.heap.size) (R.out.below (by repeat (first|(with_reducible exact bR) | refine Below.alloc ?_ wO _))) bD1 bD1 (O1.own sM).rd (λk hk=>⟨hk.1,by have:=hk.2;simp;omega⟩) (by have:=E2.size;simp;omega) bC4 ?_)
 intro v3 w3 ab ar bk
 obtain ⟨f3,E,F,ac,o⟩:=ab.parts;obtain rfl:=ac
 have ai:=yD ((ab.own (by simp;unfold Big;omega)).raw)
 have E3:Qb w w3:=E2.trans (Below.trans (bR.alloc E2.size _) ar)
 clear ab ar O1 R
 go_wp2_with fail
 refine (kOh ai.out).mono ?_
 rintro e w4 ⟨rfl,hw⟩
 obtain rfl:=hw.symm
 go_wp2
 go_ret
 exact ⟨rfl,E3⟩
def kLu {w:World} {cx:Aa Value} {x:jN} (hx:jJ.rd w cx x) (hc:x.2.1.length<=2000000) :
    Calls prog 197 #[.agg cx.toArray] w (kBs 3 kD.int (signed x) w):=by
 have hy:=hx.1
 obtain ⟨d4,a1,d7,rfl,ad,a3,bi,a9,az,ba,bm⟩:=jb hy
 obtain ⟨cw,b6,rfl,d6⟩:=kD.sl a3
 obtain ⟨ap,al,rfl,a2⟩:=kD.sl bi
 obtain ⟨cz,co,rfl,d8⟩:=kD.sl az
 have HN:=yD ad
 have HC:=yD bi
 have HK:=yD a9
 have HF:=yD (show I64q x.2.2.2.1 from ba)
 have l1:=kPe x.1
 have l2:=kPe x.2.2.1
 have HD:=yD (show signed x=kHe (encV x.1)++kHe x.2.1++kHe (encV x.2.2.1)++[x.2.2.2.1] from rfl)
 have m1:=kIr (encV x.1)
 have m2:=kIr x.2.1
 have m3:=kIr (encV x.2.2.1)
 clear hx hy ad a3 bi a9 az ba bm
 go_enter func197,ntmps197
 go_upto_region 1 with fail
 generalize D:World.alloc w _=N
 have EB:Qb w N:=by rw [<- D];exact bF
 have zB:w.heap.size + 1<=N.heap.size:=bB2
 have K0:Qd N w 0 (.slice cw x.1.length b6):=tK
 have K1:Qd N w 1 (.slice ap x.2.1.length al):=tK
 have K2:Qd N w 2 (.slice cz x.2.2.1.length co):=tK
 have K3:Qd N w 3 (.int .i64 x.2.2.2.1):=tK
 have K4:Qd N w 4 (.int .i64 x.2.2.2.2):=tK
 clear D
 have FX:=yD (λ(W:World) (hW:Qb N W)=>cLs5 hW K0 K1 K2 K3 K4)
 refine yR (λW=>Qb N W) bC3 (bR.drew) ?_
 intro wS E
 try have a6:=E.size
 refine kQ 1 ?_
 refine kQ 2 ?_
 refine kQ 5 ?_
 refine kQ 6 ?_
 refine kP (k:=0) rfl bC3 rfl (λK H=>?_)
 have R:=E.size
 go_simp
 obtain ⟨V,bl,RV⟩:=BL
 generalize X:World.alloc wS (.cells #[] 5)=t0 at V bl RV ⊢
 clear X
 replace E:=(tQ E V)
 refine H _ _ E ?_
 clear H K V
 clear R
 refine jF ?_
 refine kP (k:=3) rfl bC3 rfl (λK H=>?_)
 go_simp
 refine (kCz RV (HN.out.below (tQ EB E))).mono ?_
 rintro e t1 ⟨ax,rfl,O,hb⟩
 obtain ⟨av,ay,aw,ab,aj⟩:=O.parts
 obtain rfl:=ab
 have bk:=hb.size
 have OA:=O.wide (T:=jX t0.heap.size t1.heap.size) mV
 clear O
 clear RV
 replace E:=(tQ E hb)
 refine H _ _ E ?_
 clear H K hb
 refine jF ?_
 refine kP (k:=4) rfl bC3 rfl (λK H=>?_)
 go_simp
 refine (kAb (OA.own wH).rd.1 bC9).mono ?_
 rintro e t2 ⟨ao,rfl,o,hb⟩
 obtain ⟨ak,am,au,aa,af⟩:=o.parts
 obtain rfl:=aa
 have be:=hb.size
 have OB:=o.wide (T:=jX t1.heap.size t2.heap.size) mV
 clear o
 clear OA
 replace E:=(tQ E hb)
 refine H _ _ E ?_
 clear H K hb
 refine jF ?_
 refine kP (k:=7) rfl bC3 rfl (λK H=>?_)
 go_simp
 refine (kAb (HC.out.below (tQ EB E)) hc).mono ?_
 rintro e t3 ⟨bj,rfl,ai,hb⟩
 obtain ⟨bh,bo,bf,a5,a7⟩:=ai.parts
 obtain rfl:=a5
 have bc:=hb.size
 have OC:=ai.wide (T:=jX t2.heap.size t3.heap.size) mV
 clear ai
 replace OB:=OB.below hb
 replace E:=(tQ E hb)
 refine H _ _ E ?_
 clear H K hb
 refine jF ?_
 refine kP (k:=8) rfl bC3 rfl (λK H=>?_)
 have R:=E.size
 obtain ⟨v_,t4,hr,F,L,bb,J⟩:=kD.kBg (P:=prog) (t:=59) (ty:=59) (r:=kD.int) (e:=3) (w:=t3) (B:=N.heap.size) underlying59 kAi rfl bC8 bC8 kD.yg OB (OC.own wH).rd dG E.size bM
 refine kD.kV _ _ _ rfl bD1 bD1 hr ?_
 obtain ⟨az,ar,bd,Z,ah⟩:=F.parts
 obtain rfl:=Z
 replace E:=E.trans L
 clear hr L J OB OC
 have U:=F
 clear F
 refine H _ _ E ?_
 clear H K R
 refine jF ?_
 refine kQ 9 ?_
 refine jf bC3 ?_
 have ae:=E
 clear E
 go_upto_region 2 with fail
 replace U:=U.wide (T:=jX N.heap.size t4.heap.size) (λj I=>I)
 have FX:=yD (λ(W:World) (hW:Qb N W)=>cLs5 hW K0 K1 K2 K3 K4)
 refine kFl (λW=>Qb N W) bC3 (ae.drew) ?_
 intro wS dx E
 have bD:Qb t4 wS:=(by rw [dx];exact bR.drew)
 have bn:=bD.size
 clear dx
 try have a6:=E.size
 replace U:=U.below bD
 clear bD
 refine kQ 0 ?_
 refine kQ 2 ?_
 refine kQ 3 ?_
 refine kQ 7 ?_
 refine kQ 8 ?_
 refine je (i:=1) (j:=9) rfl rfl bC3 rfl rfl (λK H=>?_) (λK H=>?_)
 · have R:=E.size;go_simp;obtain ⟨V,bl,RV⟩:=BL;generalize X:World.alloc wS (.cells #[] 5)=t0 at V bl RV ⊢;clear X;replace U:=U.below V;replace E:=(tQ E V);refine H _ _ E ?_;clear H K V;clear R;refine jF ?_;refine je (i:=4) (j:=9) rfl rfl bC3 rfl rfl (λK H=>?_) (λK H=>?_)
   · go_simp;refine (kCz RV (HK.out.below (tQ EB E))).mono ?_;rintro e t1 ⟨ax,rfl,O,hb⟩;obtain ⟨av,ay,aw,ab,aj⟩:=O.parts;obtain rfl:=ab;have bk:=hb.size;have OA:=O.wide (T:=jX t0.heap.size t1.heap.size) mV;clear O;clear RV;replace U:=U.below hb;replace E:=(tQ E hb);refine H _ _ E ?_;clear H K hb;refine jF ?_;refine je (i:=5) (j:=9) rfl rfl bC3 rfl rfl (λK H=>?_) (λK H=>?_)
     · go_simp;refine (kAb (OA.own wH).rd.1 bC9).mono ?_;rintro e t2 ⟨ao,rfl,o,hb⟩;obtain ⟨ak,am,au,aa,af⟩:=o.parts;obtain rfl:=aa;have be:=hb.size;have OB:=o.wide (T:=jX t1.heap.size t2.heap.size) mV;clear o;clear OA;replace U:=U.below hb;replace E:=(tQ E hb);refine H _ _ E ?_;clear H K hb;refine jF ?_;refine je (i:=6) (j:=9) rfl rfl bC3 rfl rfl (λK H=>?_) (λK H=>?_)
       · have R:=E.size;obtain ⟨v_,t3,hr,F,L,bc,J⟩:=kD.kBg (P:=prog) (t:=59) (ty:=59) (r:=kD.int) (e:=3) (w:=t2) (B:=N.heap.size) underlying59 kAi rfl bC8 bC8 kD.yg U (OB.own wH).rd dG E.size bM;refine kD.kV _ _ _ rfl bD1 bD1 hr ?_;obtain ⟨a9,bg,b2,Z,a8⟩:=F.parts;obtain rfl:=Z;replace E:=E.trans L;clear hr L J U OB;have G:=F;clear F;refine H _ _ E ?_;clear H K R;refine jF ?_;refine kP (k:=9) rfl bC3 rfl (λK H=>?_);have R:=E.size;go_simp;have V:Below t3.heap.size t3 (World.alloc t3 (.cells #[.int .i64 x.2.2.2.1] 3)):=bR.alloc nL _;have bb:t3.heap.size + 1<=(World.alloc t3 (.cells #[.int .i64 x.2.2.2.1] 3)).heap.size:=(by simp);have Y:=litq (w:=t3) (x:=x.2.2.2.1) (e:=3) HF.out;generalize X:World.alloc t3 (.cells #[.int .i64 x.2.2.2.1] 3)=t4 at V bb Y ⊢;clear X;replace G:=G.below V;replace E:=(tQ E V);refine H _ _ E ?_;clear H K V;clear R;exact vF
       have R:=E.size;go_simp;have V:Below t2.heap.size t2 (World.alloc t2 (.cells #[.int .i64 x.2.2.2.1] 3)):=bR.alloc nL _;have bc:t2.heap.size + 1<=(World.alloc t2 (.cells #[.int .i64 x.2.2.2.1] 3)).heap.size:=(by simp);have Y:=litq (w:=t2) (x:=x.2.2.2.1) (e:=3) HF.out;generalize X:World.alloc t2 (.cells #[.int .i64 x.2.2.2.1] 3)=t3 at V bc Y ⊢;clear X;replace U:=U.below V;replace OB:=OB.below V;replace E:=(tQ E V);refine H _ _ E ?_;clear H K V;clear R;refine jF ?_;refine kP (k:=6) rfl bC3 rfl (λK H=>?_);have R:=E.size;obtain ⟨v_,t4,hr,F,L,bb,J⟩:=kD.kBg (P:=prog) (t:=59) (ty:=59) (r:=kD.int) (e:=3) (w:=t3) (B:=N.heap.size) underlying59 kAi rfl bC8 bC8 kD.yg U (OB.own wH).rd dG E.size bM;refine kD.kV _ _ _ rfl bD1 bD1 hr ?_;obtain ⟨az,ar,bd,Z,ah⟩:=F.parts;obtain rfl:=Z;replace Y:=Y.keep bK;replace E:=E.trans L;clear hr L J U OB;have G:=F;clear F;refine H _ _ E ?_;clear H K R;exact vF
     have R:=E.size;go_simp;have V:Below t1.heap.size t1 (World.alloc t1 (.cells #[.int .i64 x.2.2.2.1] 3)):=bR.alloc nL _;have be:t1.heap.size + 1<=(World.alloc t1 (.cells #[.int .i64 x.2.2.2.1] 3)).heap.size:=(by simp);have Y:=litq (w:=t1) (x:=x.2.2.2.1) (e:=3) HF.out;generalize X:World.alloc t1 (.cells #[.int .i64 x.2.2.2.1] 3)=t2 at V be Y ⊢;clear X;replace U:=U.below V;replace OA:=OA.below V;replace E:=(tQ E V);refine H _ _ E ?_;clear H K V;clear R;refine jF ?_;refine kP (k:=5) rfl bC3 rfl (λK H=>?_);go_simp;refine (kAb (OA.own wH).rd.1 bC9).mono ?_;rintro e t3 ⟨ao,rfl,o,hb⟩;obtain ⟨ak,am,au,aa,af⟩:=o.parts;obtain rfl:=aa;have bc:=hb.size;have OB:=o.wide (T:=jX t2.heap.size t3.heap.size) mV;exact mI
   have R:=E.size;go_simp;have V:Below t0.heap.size t0 (World.alloc t0 (.cells #[.int .i64 x.2.2.2.1] 3)):=bR.alloc nL _;have bk:t0.heap.size + 1<=(World.alloc t0 (.cells #[.int .i64 x.2.2.2.1] 3)).heap.size:=(by simp);have Y:=litq (w:=t0) (x:=x.2.2.2.1) (e:=3) HF.out;generalize X:World.alloc t0 (.cells #[.int .i64 x.2.2.2.1] 3)=t1 at V bk Y ⊢;clear X;replace U:=U.below V;replace RV:=RV.below V;exact vJ
 have R:=E.size
 go_simp
 have V:Below wS.heap.size wS (World.alloc wS (.cells #[.int .i64 x.2.2.2.1] 3)):=bR.alloc nL _
 have bl:wS.heap.size + 1<=(World.alloc wS (.cells #[.int .i64 x.2.2.2.1] 3)).heap.size:=(by simp)
 have Y:=litq (w:=wS) (x:=x.2.2.2.1) (e:=3) HF.out
 generalize X:World.alloc wS (.cells #[.int .i64 x.2.2.2.1] 3)=t0 at V bl Y ⊢
 clear X
 replace U:=U.below V
 replace E:=(tQ E V)
 refine H _ _ E ?_
 clear H K V
 clear R
 refine jF ?_
 refine kP (k:=1) rfl bC3 rfl (λK H=>?_)
 have R:=E.size
 go_simp
 have V:Below t0.heap.size t0 (World.alloc t0 (.cells #[] 5)):=bR.alloc nL _
 have bk:t0.heap.size + 1<=(World.alloc t0 (.cells #[] 5)).heap.size:=(by simp)
 have RV:=((kD.kR.void (e:=5) (r:=kD.byte) (w:=(World.alloc t0 (.cells #[] 5))) (a:=some ⟨t0.heap.size,0,none⟩) (S:=λ_=>False)).own (Nat.zero_le _)).rd
 generalize X:World.alloc t0 (.cells #[] 5)=t1 at V bk RV ⊢
 clear X
 replace U:=U.below V
 replace Y:=Y.below V
 exact vJ
end Go.Proofs.YtonmjkmaadgceabGreat

/-
  A route added.
-/
import Derived.Test.YtonmjkmaadgceaaGreatCopyN
import Derived.Test.YtonmjkmaadgceaaGreatVNodeI
set_option linter.unusedVariables false
set_option linter.unusedSimpArgs false
set_option linter.unnecessarySimpa false
set_option maxRecDepth 100000
set_option maxHeartbeats 4000000
namespace Go.Proofs.YtonmjkmaadgceaaGreat
open Go.RowKit _root_.Go.Proofs.Tryz
theorem Touch.cellAt {S:Nat→Prop} {w w':World} {b i:Nat} {v:Value} (h:Touch S w w') (hb:¬ S b) (k:w.cell? ⟨b,i,none⟩=some v):w'.cell? ⟨b,i,none⟩=some v:=by
 exact aA
def kOi (t:jG) (x:yI):yI:=(x.1++[t],x.2)
def kMu (t:jG) (x:yI):Bool:=kBd (kOi t x)
def addL (t:jG) (x:yI):yI:=if kMu t x then kOi t x else x
theorem addL_no {t:jG} {x:yI} (h:kBd (kOi t x)=false):addL t x=x∧kMu t x=false:=by unfold addL kMu;rw [h];exact ⟨rfl,rfl⟩
theorem addL_yes {t:jG} {x:yI} (h:kBd (kOi t x)=true):addL t x=kOi t x∧kMu t x=true:=by unfold addL kMu;rw [h];exact ⟨rfl,rfl⟩
theorem nodeOk_len {x:yI} (h:kBd x=true):x.1.length≤8:=by
 unfold kBd kQg at h
 simp only [Bool.and_eq_true,decide_eq_true_eq] at h
 have:=h.2.1.1.1.1.1.1
 omega
theorem kVi {α β:Type} {r:kE α} {q:kE β} {w:World} {cs ds:List Value} {x:α} {y:β} (h:r.raw w cs x) (k:q.raw w ds y):(kE.pair r q).raw w (cs++ds) (x,y) :=
  ⟨cs,ds,fun _=>True,fun _=>True,rfl,h,k,fun _ _=>trivial,fun _ _=>trivial,fun h=>Bool.noConfusion h⟩
theorem kSl {w:World} {cx:List Value} {x:yI} (hx:yA.rd w cx x) {ct:List Value} {t:jG} (ht:jA.rd w ct t) :
    Calls prog 106 #[.agg cx.toArray,.agg ct.toArray] w fun e w'=>∃ cs,e=.returned (.tuple #[.agg cs.toArray,.bool (kMu t x)])∧yA.own w' cs (addL t x) (jR w.heap.size w'.heap.size)∧Below w.heap.size w w':=by
 have HX:=yD hx
 have bq:=yD ht
 have bj:x.1.length≤16777216:=hx.2.1.1
 obtain ⟨ez,e9,f9,f8,f2,f1,rfl,ac,ay,a3,a5,ba,bg,b2,da,dd⟩:=zf hx.1
 obtain ⟨cl,b6,rfl,e1⟩:=kE.sl ac
 obtain ⟨c6,c5,rfl,fa⟩:=kE.sl a5
 obtain ⟨dq,dp,rfl,f3⟩:=kE.sl ba
 obtain ⟨ee,eb,rfl,f7⟩:=kE.sl bg
 obtain ⟨d3,dw,rfl,gd⟩:=kE.sl b2
 obtain ⟨d4,dr,rfl,f5⟩:=kE.sl da
 obtain ⟨c3,db,dc,rfl,aq,bz,bw,cv,b4,cj,cd⟩:=jN ht.1
 obtain ⟨ai,a6,rfl,cc⟩:=kE.sl bz
 obtain ⟨b5,ci,rfl,dm⟩:=kE.sl bw
 obtain ⟨b3,cw,rfl,dk⟩:=kE.sl b4
 clear hx ht ac ay a3 a5 ba bg b2 da dd aq bz bw cv b4 cj cd
 go_enter func106,ntmps106
 go_wp2_with fail
 generalize H:World.alloc (World.alloc (World.alloc w _) _) _=N
 obtain ⟨Z,K0,K1,K2,K3,K4,K5,K6,K7⟩:=oO
 have D0:N.cell? ⟨w.heap.size + 1,0,none⟩=some (.slice ai t.1.length a6):=tN
 have D1:N.cell? ⟨w.heap.size + 1,1,none⟩=some (.slice b5 t.2.1.length ci):=tN
 have D2:N.cell? ⟨w.heap.size + 1,2,none⟩=some (.slice b3 t.2.2.1.length cw):=tN
 have D3:N.cell? ⟨w.heap.size + 1,3,none⟩=some (.int .i64 t.2.2.2.1):=tN
 have D4:N.cell? ⟨w.heap.size + 1,4,none⟩=some (.int .i64 t.2.2.2.2):=tN
 have XR:Hid (N.heap[w.heap.size + 1 + 1]?=some (.cells #[.slice none 0 0,.int .i64 0,.slice none 0 0,.slice none 0 0,.slice none 0 0,.slice none 0 0,.slice none 0 0,.int .i64 0] 33 (0,0))):=yD sD
 have b8:w.heap.size + 3≤N.heap.size:=bA4
 clear H
 refine (kJy (HX.out.below Z)).mono ?_
 rintro e w1 ⟨bv,ds,mid,rfl,O1,R1,ao,ck,O⟩
 have RW:=kVi O1.raw0 R1.raw
 obtain ⟨h7,iw,ik,c8,dv,de,b1,a4,dg,ew,fj,ar,ap,b9,a9,ce⟩:=zf (show yA.raw w1 _ x from RW)
 simp only [List.cons_append,List.nil_append,List.cons.injEq] at b1
 obtain ⟨rfl,rfl⟩:=b1
 obtain ⟨ej,ek,rfl,_⟩:=kE.sl fj
 obtain ⟨ef,d9,rfl,_⟩:=kE.sl ar
 obtain ⟨ab,aa,rfl,_⟩:=kE.sl ap
 obtain ⟨Y,U,rfl,_⟩:=kE.sl b9
 obtain ⟨am,al,rfl,_⟩:=kE.sl a9
 obtain ⟨oa,on,oc,ho,bl⟩:=O1.parts;obtain rfl:=ho
 have L:=yD O1;have HR:=yD R1
 have az:=O.size
 have E1:=(tQ Z O)
 replace XR:=yD (kD XR.out O)
 replace K0:=cL O K0
 replace K1:=cL O K1
 replace K2:=cL O K2
 replace K3:=cL O K3
 replace K4:=cL O K4
 replace K5:=cL O K5
 replace K6:=cL O K6
 replace K7:=cL O K7
 replace D0:=cL O D0
 replace D1:=cL O D1
 replace D2:=cL O D2
 replace D3:=cL O D3
 replace D4:=cL O D4
 clear O1 R1 RW O Z a4 dg ew fj ar ap b9 a9 ce
 go_upto_region 2 with fail
 generalize F:World.alloc w1 _=R
 have G:Below w1.heap.size w1 R:=rX
 have XM:Hid (R.heap[w1.heap.size]?=some (.cells #[.slice oa on oc,.int .i64 x.2.1.1,.slice ej x.2.1.2.length ek,.slice ef x.2.2.1.length d9,.slice ab x.2.2.2.1.length aa,.slice Y x.2.2.2.2.1.length U,.slice am x.2.2.2.2.2.1.length al,.int .i64 x.2.2.2.2.2.2] 33 (0,0))):=yD tX
 have bo:w1.heap.size + 1≤R.heap.size:=bA3
 clear F
 have EC:=(tQ E1 G)
 replace XR:=yD (kD XR.out G)
 replace L:=yD (L.out.below G)
 replace HR:=yD (HR.out.below G)
 have M0:=kF XM.out (j:=0) rfl
 replace K0:=cL G K0
 replace K1:=cL G K1
 replace K2:=cL G K2
 replace K3:=cL G K3
 replace K4:=cL G K4
 replace K5:=cL G K5
 replace K6:=cL G K6
 replace K7:=cL G K7
 replace D0:=cL G D0
 replace D1:=cL G D1
 replace D2:=cL G D2
 replace D3:=cL G D3
 replace D4:=cL G D4
 have FX:=yD (fun (W:World) (hW:Below R.heap.size R W)=>cLs6 hW M0 D0 D1 D2 D3 D4)
 refine jd (fun W=>Below R.heap.size R W) [true,true,true,false,false] bB4 bB4 qD (bR.drew) ?_
 intro wS E
 iterate 3
  all_goals refine kS ?_
 all_goals first|(refine kK rfl E ?_)|(refine ko rfl (fun K J=>?_);go_simp;refine (kCm (bq.out.below (tQ EC E))).mono ?_;rintro e wT ⟨tc,rfl,OT,au⟩;obtain ⟨dh,el,eu,rfl,a2,bk,bm,b7,c2,dl,dj⟩:=jN OT.raw;obtain ⟨av,bh,rfl,et⟩:=kE.sl bk;skip;obtain ⟨bd,cu,rfl,er⟩:=kE.sl bm;skip;obtain ⟨aw,bi,rfl,eo⟩:=kE.sl c2;skip;clear a2 bk bm b7 c2 dl dj;have em:=au.size;have cq:=E.size;have ed:=yD OT;replace E:=(tQ E au);refine J _ _ E ?_;clear J K au OT)
 all_goals refine kX ?_
 all_goals first|(refine kK rfl E ?_)|(refine ko rfl (fun K J=>?_);go_simp;refine J _ _ (E.alloc E.size _) ?_;clear J K)
 all_goals refine kX ?_
 all_goals refine jq ?_
 replace XR:=yD (kD XR.out E)
 replace XM:=yD (kD XM.out E)
 replace L:=yD (L.out.below E)
 replace HR:=yD (HR.out.below E)
 have ET:=(tQ EC E)
 have b0:=E.size
 replace K0:=cL E K0
 replace K1:=cL E K1
 replace K2:=cL E K2
 replace K3:=cL E K3
 replace K4:=cL E K4
 replace K5:=cL E K5
 replace K6:=cL E K6
 replace K7:=cL E K7
 go_wp2_with (at_builtin;refine kE.kAr rfl _ _ 24 rfl (r:=jA) (e:=43) underlying24 kKv rfl bB8 bB8 L.out bC1 bC1 rfl ed.out rfl mW bB9 ?_)
 intro v2 V hown ak
 have ag:=yD hown;have af:=yD ak
 obtain ⟨va,vn,vc,hv,be⟩:=hown.parts;obtain rfl:=hv
 have an:=ak.size
 simp at an
 clear hown ak
 have TU:Touch (jR N.heap.size mid) wT V:=(Touch.of_below (bR.alloc nL _)).trans (af.out.wide (fun k h=>h.2))
 have a1:=TU.kD XM.out (fun q=>by have q1:=q.1;have q2:=q.2;omega)
 have N0:=kF a1 (j:=0) rfl
 have NF:=frozen_of_row V w1.heap.size 0 _ _ a1
 have bu:vn≤16777217:=by have:=be.out;simp at this;omega
 go_upto_region 3 with fail
 generalize bn:World.setCell V ⟨w1.heap.size,0,none⟩ _=w3
 have TW:Touch (fun k=>k=w1.heap.size) V w3:=by rw [← bn];exact kE.zn [_] V _ 0
 have ah:Hid (w3.heap[w1.heap.size]?=some (.cells #[.slice va vn vc,.int .i64 x.2.1.1,.slice ej x.2.1.2.length ek,.slice ef x.2.2.1.length d9,.slice ab x.2.2.2.1.length aa,.slice Y x.2.2.2.2.1.length U,.slice am x.2.2.2.2.2.1.length al,.int .i64 x.2.2.2.2.2.2] 33 (0,0))):=yD (by
   rw [← bn]
   have y0:=heap_setCell_same _ (w1.heap.size) 0 _ 33 (.slice va vn vc) a1
   exact y0)
 clear bn
 have TA:Touch (fun k=>jR N.heap.size mid k∨k=w1.heap.size) wT w3:=(TU.wide (fun k h=>.inl h)).trans (TW.wide (fun k h=>.inr h))
 have a7:=TW.size
 have D:=yD (TA.kD XR.out (fun q=>by rcases q with q | q;(have q1:=q.1;omega);omega))
 have a8:=yD (HR.out.touch TA (fun i p q=>by have p1:=p.1;have p2:=p.2;rcases q with q | q;(have q2:=q.2;omega);omega))
 have ae:=yD (ag.out.touch TW (fun i p q=>by rcases p with p | p | p;(have p2:=p.2;omega);(have p1:=p.1;omega);(have p1:=p.1;omega)))
 have E3:=ET.trans (TA.below (B:=w.heap.size) (by have:=ET.size;omega) (fun i q=>by rcases q with q | q;(have q1:=q.1;omega);omega))
 replace K0:=TA.cellAt gJ K0
 replace K1:=TA.cellAt gJ K1
 replace K2:=TA.cellAt gJ K2
 replace K3:=TA.cellAt gJ K3
 replace K4:=TA.cellAt gJ K4
 replace K5:=TA.cellAt gJ K5
 replace K6:=TA.cellAt gJ K6
 replace K7:=TA.cellAt gJ K7
 clear TU a1 N0 NF TW TA XR XM L HR ag af E ET
 have aj:Hid (x.1.length < 16777216→yA.own w3 [.slice va vn vc,.int .i64 x.2.1.1,.slice ej x.2.1.2.length ek,.slice ef x.2.2.1.length d9,.slice ab x.2.2.2.1.length aa,.slice Y x.2.2.2.2.1.length U,.slice am x.2.2.2.2.2.1.length al,.int .i64 x.2.2.2.2.2.2] (kOi t x) (jR N.heap.size w3.heap.size)):=yD (fun hl=>kE.ja (r:=kE.slice 43 jA) (q:=(kE.pair kN (kE.pair (kE.slice 71 kJ) (kE.pair (kE.slice 123 jF) (kE.pair (kE.slice 102 jT) (kE.pair (kE.slice 105 kL) kE.int)))))) (cs:=[.slice va vn vc]) (ds:=[.int .i64 x.2.1.1,.slice ej x.2.1.2.length ek,.slice ef x.2.2.1.length d9,.slice ab x.2.2.2.1.length aa,.slice Y x.2.2.2.2.1.length U,.slice am x.2.2.2.2.2.1.length al,.int .i64 x.2.2.2.2.2.2]) (x:=x.1++[t]) (y:=x.2) (S:=jR N.heap.size w3.heap.size) (ae.out.own vD) a8.out (fun i p=>by rcases p with p | p | p;exact ⟨p.1,by have:=p.2;omega⟩;exact ⟨by have:=p.1;omega,by have:=p.2;omega⟩;exact ⟨by have:=p.1;omega,by have:=p.2;omega⟩) (fun i p=>⟨by have:=p.1;omega,by have:=p.2;omega⟩) (fun i p q=>by have q1:=q.1;have q2:=q.2;rcases p with p | p | p;(have p2:=p.2;omega);(have p1:=p.1;omega);(have p1:=p.1;omega)))
 have HV:Hid (yA.raw w3 [.slice va vn vc,.int .i64 x.2.1.1,.slice ej x.2.1.2.length ek,.slice ef x.2.2.1.length d9,.slice ab x.2.2.2.1.length aa,.slice Y x.2.2.2.2.1.length U,.slice am x.2.2.2.2.2.1.length al,.int .i64 x.2.2.2.2.2.2] (kOi t x)):=yD (kVi ae.out.raw0 a8.out.raw)
 clear ae a8
 have M0:=kF ah.out (j:=0) rfl
 have M1:=kF ah.out (j:=1) rfl
 have M2:=kF ah.out (j:=2) rfl
 have M3:=kF ah.out (j:=3) rfl
 have M4:=kF ah.out (j:=4) rfl
 have M5:=kF ah.out (j:=5) rfl
 have M6:=kF ah.out (j:=6) rfl
 have M7:=kF ah.out (j:=7) rfl
 go_wp2_with fail
 refine (kFb HV.out).mono ?_
 rintro e w4 ⟨rfl,X⟩
 have E4:=(tQ E3 X)
 have bt:=X.size
 replace D:=yD (kD D.out X)
 replace aj:=yD (fun hl=>(aj.out hl).below X)
 replace K0:=cL X K0
 replace M0:=cL X M0
 replace K1:=cL X K1
 replace M1:=cL X M1
 replace K2:=cL X K2
 replace M2:=cL X M2
 replace K3:=cL X K3
 replace M3:=cL X M3
 replace K4:=cL X K4
 replace M4:=cL X M4
 replace K5:=cL X K5
 replace M5:=cL X M5
 replace K6:=cL X K6
 replace M6:=cL X M6
 replace K7:=cL X K7
 replace M7:=cL X M7
 clear X HV ah E3
 cases hv:kBd (kOi t x)
 · have HQ:=yD (addL_no hv)
   clear hv aj
   go_wp2_with fail
   refine (kSj (HX.out.below E4)).mono ?_
   rintro e w8 ⟨tc,rfl,O8,bc⟩
   obtain ⟨iy,ih,dy,di,du,dx,rfl,e4,e5,gx,gl,fi,fl,gm,bb,bp⟩:=zf O8.raw
   obtain ⟨ff,fd,rfl,io⟩:=kE.sl e4
   obtain ⟨g7,g6,rfl,iq⟩:=kE.sl gl
   obtain ⟨c1,ch,rfl,df⟩:=kE.sl fi
   obtain ⟨cz,c7,rfl,dn⟩:=kE.sl fl
   obtain ⟨c4,co,rfl,c9⟩:=kE.sl gm
   obtain ⟨cf,cg,rfl,dt⟩:=kE.sl bb
   clear e4 e5 gx gl fi fl gm bb bp
   have bf:=yD O8
   have E8:=(tQ E4 bc)
   have bx:=bc.size
   have X8:=kD D.out bc
   clear O8 bc D
   have R0:=kF (b:=w.heap.size + 1 + 1) X8 (j:=0) rfl
   have F0:=frozen_of_row w8 (w.heap.size + 1 + 1) 0 _ _ X8
   have R1:=kF (b:=w.heap.size + 1 + 1) X8 (j:=1) rfl
   have F1:=frozen_of_row w8 (w.heap.size + 1 + 1) 1 _ _ X8
   have R2:=kF (b:=w.heap.size + 1 + 1) X8 (j:=2) rfl
   have F2:=frozen_of_row w8 (w.heap.size + 1 + 1) 2 _ _ X8
   have R3:=kF (b:=w.heap.size + 1 + 1) X8 (j:=3) rfl
   have F3:=frozen_of_row w8 (w.heap.size + 1 + 1) 3 _ _ X8
   have R4:=kF (b:=w.heap.size + 1 + 1) X8 (j:=4) rfl
   have F4:=frozen_of_row w8 (w.heap.size + 1 + 1) 4 _ _ X8
   have R5:=kF (b:=w.heap.size + 1 + 1) X8 (j:=5) rfl
   have F5:=frozen_of_row w8 (w.heap.size + 1 + 1) 5 _ _ X8
   have R6:=kF (b:=w.heap.size + 1 + 1) X8 (j:=6) rfl
   have F6:=frozen_of_row w8 (w.heap.size + 1 + 1) 6 _ _ X8
   have R7:=kF (b:=w.heap.size + 1 + 1) X8 (j:=7) rfl
   have F7:=frozen_of_row w8 (w.heap.size + 1 + 1) 7 _ _ X8
   go_wp2
   refine bodyPost_ret (v:=.tuple #[.agg #[.slice ff x.1.length fd,.int .i64 x.2.1.1,.slice g7 x.2.1.2.length g6,.slice c1 x.2.2.1.length ch,.slice cz x.2.2.2.1.length c7,.slice c4 x.2.2.2.2.1.length co,.slice cf x.2.2.2.2.2.1.length cg,.int .i64 x.2.2.2.2.2.2],.bool false]) dI rfl ⟨[_,_,_,_,_,_,_,_],by rw [HQ.out.2],?_,?_⟩
   · rw [HQ.out.1]
     exact (kE.own.out bf.out fD).wide gD
   repeat (first|(with_reducible exact E8) | refine Below.setCell ?_ rH _)
 have HQ:=yD (addL_yes hv)
 have ax:=yD (nodeOk_len hv)
 have br:=yD (aj.out (by have:=ax.out;simp [kOi] at this;omega))
 clear hv aj
 have R0:=kF (b:=w.heap.size + 1 + 1) D.out (j:=0) rfl
 have F0:=frozen_of_row w4 (w.heap.size + 1 + 1) 0 _ _ D.out
 have R1:=kF (b:=w.heap.size + 1 + 1) D.out (j:=1) rfl
 have F1:=frozen_of_row w4 (w.heap.size + 1 + 1) 1 _ _ D.out
 have R2:=kF (b:=w.heap.size + 1 + 1) D.out (j:=2) rfl
 have F2:=frozen_of_row w4 (w.heap.size + 1 + 1) 2 _ _ D.out
 have R3:=kF (b:=w.heap.size + 1 + 1) D.out (j:=3) rfl
 have F3:=frozen_of_row w4 (w.heap.size + 1 + 1) 3 _ _ D.out
 have R4:=kF (b:=w.heap.size + 1 + 1) D.out (j:=4) rfl
 have F4:=frozen_of_row w4 (w.heap.size + 1 + 1) 4 _ _ D.out
 have R5:=kF (b:=w.heap.size + 1 + 1) D.out (j:=5) rfl
 have F5:=frozen_of_row w4 (w.heap.size + 1 + 1) 5 _ _ D.out
 have R6:=kF (b:=w.heap.size + 1 + 1) D.out (j:=6) rfl
 have F6:=frozen_of_row w4 (w.heap.size + 1 + 1) 6 _ _ D.out
 have R7:=kF (b:=w.heap.size + 1 + 1) D.out (j:=7) rfl
 have F7:=frozen_of_row w4 (w.heap.size + 1 + 1) 7 _ _ D.out
 go_wp2
 refine bodyPost_ret (v:=.tuple #[.agg #[.slice va vn vc,.int .i64 x.2.1.1,.slice ej x.2.1.2.length ek,.slice ef x.2.2.1.length d9,.slice ab x.2.2.2.1.length aa,.slice Y x.2.2.2.2.1.length U,.slice am x.2.2.2.2.2.1.length al,.int .i64 x.2.2.2.2.2.2],.bool true]) dI rfl ⟨[_,_,_,_,_,_,_,_],by rw [HQ.out.2],?_,?_⟩
 · rw [HQ.out.1]
   exact (kE.own.out br.out fD).wide fK
 repeat (first|(with_reducible exact E4) | refine Below.setCell ?_ rH _)
theorem kXc {l:List jI} {n:kQ} {x:Int}:(zF l n x).length≤max l.length 24:=by
 unfold zF
 split
 · simp;omega
 simp at *;omega
theorem kNh {n:kQ}:∀ (D:List kP) (s:List jI),(D.foldl (fun s r=>zF s n r.2.1) s).length≤max s.length 24
  | [],s=>by simp;omega
  | r :: D,s=>by
    have h1:=kNh (n:=n) D (zF s n r.2.1)
    have h2:=kXc (l:=s) (n:=n) (x:=r.2.1)
    simp only [List.foldl_cons]
    omega
theorem kUi {n:kQ} {D:List kP} {s:List jI} {j:Nat} (h:j < D.length):(D.take (j + 1)).foldl (fun s r=>zF s n r.2.1) s=zF ((D.take j).foldl (fun s r=>zF s n r.2.1) s) n D[j].2.1:=by
 rw [List.take_succ_eq_append_getElem h,List.foldl_append];rfl
theorem kVl {w:World} {c0 c1 c2 c3 c4 c5 N D:Value} {x0:List jG} {x1:kg} {x2:List kI} {x3:List jI} {x4:List jL} {x5:List kT} {x6:Int} (h:yA.raw w [c0,c1,c2,c3,c4,c5,N,D] (x0,x1,x2,x3,x4,x5,x6)):(kE.slice 71 kJ).raw w [c3] x2:=by
 obtain ⟨v0,v2,v3,v4,v5,v6,he,a0,a1,a2,a3,a4,a5,U,a7,a8⟩:=zf h
 simp only [List.cons.injEq,and_true] at he
 obtain ⟨rfl,rfl,rfl,rfl,rfl,rfl,rfl,rfl⟩:=he
 exact a4
theorem kVk {w:World} {c0 c1 c2 c3 c4 c5 N D:Value} {x0:List jG} {x1:kg} {x2:List kI} {x3:List jI} {x4:List jL} {x5:List kT} {x6:Int} (h:yA.rd w [c0,c1,c2,c3,c4,c5,N,D] (x0,x1,x2,x3,x4,x5,x6)):(kE.slice 123 jF).rd w [c4] x3:=by
 obtain ⟨v0,v2,v3,v4,v5,v6,he,a0,a1,a2,a3,a4,a5,U,a7,a8⟩:=zf h.1
 simp only [List.cons.injEq,and_true] at he
 obtain ⟨rfl,rfl,rfl,rfl,rfl,rfl,rfl,rfl⟩:=he
 exact ⟨a5,h.2.2.2.2.1⟩
theorem node_cache {w:World} {c0 c2 c3 c4 c5 N D:Value} {x0:List jG} {xc:Int} {xe:List kr} {x2:List kI} {x3:List jI} {x4:List jL} {x5:List kT} {x6:Int} (h:yA.rd w [c0,.int .i64 xc,c2,c3,c4,c5,N,D] (x0,(xc,xe),x2,x3,x4,x5,x6)):kN.rd w [.int .i64 xc,c2] (xc,xe):=by
 obtain ⟨v0,v2,v3,v4,v5,v6,he,a0,a1,a2,a3,a4,a5,U,a7,a8⟩:=zf h.1
 simp only [List.cons.injEq,and_true] at he
 obtain ⟨rfl,h2,rfl,rfl,rfl,rfl,rfl,rfl⟩:=he
 exact ⟨a1,h.2.2.1⟩
theorem kNo {w:World} {c0 c1 c2 c3 c4 c5 N D v:Value} {x0:List jG} {x1:kg} {x2 y:List kI} {x3:List jI} {x4:List jL} {x5:List kT} {x6:Int} {S T:Nat→Prop}
    (h:yA.own w [c0,c1,c2,c3,c4,c5,N,D] (x0,x1,x2,x3,x4,x5,x6) S) (hv:(kE.slice 71 kJ).own w [v] y T) (hd:∀ k,S k→T k→False):yA.own w [c0,c1,c2,v,c4,c5,N,D] (x0,x1,y,x3,x4,x5,x6) (fun k=>S k∨T k) :=
  kE.set_right (c:=[c0]) h rfl (fun B hB hq=>kE.set_right (c:=[c1,c2]) hq rfl (fun B2 G F=>kE.set_left (c:=[c3]) (c':=[v]) F rfl hv (fun k a b=>hd k (hB k (G k a)) b)) (fun k a b=>hd k (hB k a) b)) hd
theorem kIu {w:World} {c0 c1 c2 c3 c4 c5 N D v:Value} {x0:List jG} {x1:kg} {x2:List kI} {x3 y:List jI} {x4:List jL} {x5:List kT} {x6:Int} {S T:Nat→Prop}
    (h:yA.own w [c0,c1,c2,c3,c4,c5,N,D] (x0,x1,x2,x3,x4,x5,x6) S) (hv:(kE.slice 123 jF).own w [v] y T) (hd:∀ k,S k→T k→False):yA.own w [c0,c1,c2,c3,v,c5,N,D] (x0,x1,x2,y,x4,x5,x6) (fun k=>S k∨T k) :=
  kE.set_right (c:=[c0]) h rfl (fun B hB hq=>kE.set_right (c:=[c1,c2]) hq rfl (fun B2 G F=>kE.set_right (c:=[c3]) F rfl (fun B3 O E=>kE.set_left (c:=[c4]) (c':=[v]) E rfl hv (fun k a b=>hd k (hB k (G k (O k a))) b)) (fun k a b=>hd k (hB k (G k a)) b)) (fun k a b=>hd k (hB k a) b)) hd
theorem kIv {w:World} {c0 c1 c2 c3 c4 c5 N D v:Value} {x0:List jG} {x1:kg} {x2:List kI} {x3:List jI} {x4:List jL} {x5 y:List kT} {x6:Int} {S T:Nat→Prop}
    (h:yA.own w [c0,c1,c2,c3,c4,c5,N,D] (x0,x1,x2,x3,x4,x5,x6) S) (hv:(kE.slice 105 kL).own w [v] y T) (hd:∀ k,S k→T k→False):yA.own w [c0,c1,c2,c3,c4,c5,v,D] (x0,x1,x2,x3,x4,y,x6) (fun k=>S k∨T k) :=
  kE.set_right (c:=[c0]) h rfl (fun B hB hq=>kE.set_right (c:=[c1,c2]) hq rfl (fun B2 G F=>kE.set_right (c:=[c3]) F rfl (fun B3 O E=>kE.set_right (c:=[c4]) E rfl (fun B4 X I=>kE.set_right (c:=[c5]) I rfl (fun B5 ac H=>kE.set_left (c:=[N]) (c':=[v]) H rfl hv (fun k a b=>hd k (hB k (G k (O k (X k (ac k a))))) b)) (fun k a b=>hd k (hB k (G k (O k (X k a)))) b)) (fun k a b=>hd k (hB k (G k (O k a))) b)) (fun k a b=>hd k (hB k (G k a)) b)) (fun k a b=>hd k (hB k a) b)) hd
theorem kLw {w:World} {c0 c1 c2 c3 c4 c5 N D v u:Value} {x0:List jG} {x1 y:kg} {x2:List kI} {x3:List jI} {x4:List jL} {x5:List kT} {x6:Int} {S T:Nat→Prop}
    (h:yA.own w [c0,c1,c2,c3,c4,c5,N,D] (x0,x1,x2,x3,x4,x5,x6) S) (hv:kN.own w [u,v] y T) (hd:∀ k,S k→T k→False):yA.own w [c0,u,v,c3,c4,c5,N,D] (x0,y,x2,x3,x4,x5,x6) (fun k=>S k∨T k) :=
  kE.set_right (c:=[c0]) h rfl (fun B hB hq=>kE.set_left (c:=[c1,c2]) (c':=[u,v]) hq rfl hv (fun k a b=>hd k (hB k a) b)) hd
theorem kIa {α:Type} {p:α→Bool} {x:List α} (h:¬ idxOf p x < 0):∃ k:Nat,k < x.length∧idxOf p x=k:=by
 unfold idxOf at *
 cases e:x.findIdx? p with
 | none=>rw [e] at h;simp at h
 | some i=>exact ⟨i,(List.findIdx?_eq_some_iff_getElem.1 e).1,rfl⟩
def kIg (r:jL) (l:List jL):List jL :=
  if idxOf (zm r.1 r.2.1) l < 0 then l++[r] else l.set (idxOf (zm r.1 r.2.1) l).toNat (kIs (l.getD (idxOf (zm r.1 r.2.1) l).toNat ([],0,0)) r.2.2)
def kTt (r:jL) (l:List jL):Bool:=kAz (kIg r l)
def addR (r:jL) (l:List jL):List jL:=if kTt r l then kIg r l else l
theorem kWa {r:jL} {l:List jL} (h:idxOf (zm r.1 r.2.1) l < 0):kIg r l=l++[r]:=by unfold kIg;rw [if_pos h]
theorem kVz {r:jL} {l:List jL} {k:Nat} (h:idxOf (zm r.1 r.2.1) l=k) (hk:k < l.length):kIg r l=l.set k (kIs l[k] r.2.2):=by
 unfold kIg
 exact aB
theorem kXd {r:jL} {l:List jL} (h:kAz (kIg r l)=false):addR r l=l∧kTt r l=false:=by unfold addR kTt;rw [h];exact ⟨rfl,rfl⟩
theorem kTr {r:jL} {l:List jL} (h:kAz (kIg r l)=true):addR r l=kIg r l∧kTt r l=true:=by unfold addR kTt;rw [h];exact ⟨rfl,rfl⟩
theorem kJv {l:List jL} (h:kAz l=true):l.length≤24:=by unfold kAz at h;simp at h;exact h.2
theorem kSk {w:World} {vl:Value} {l:List jL} (hl:(kE.slice 102 jT).rd w [vl] l) {cr:List Value} {r:jL} (hr:jT.rd w cr r) :
    Calls prog 146 #[vl,.agg cr.toArray] w fun e w'=>∃ v,e=.returned (.tuple #[v,.bool (kTt r l)])∧(kE.slice 102 jT).own w' [v] (addR r l) (jR w.heap.size w'.heap.size)∧Below w.heap.size w w':=by
 have HL:=yD hl
 have bj:l.length≤16777216:=hl.2.1
 obtain ⟨nv,rfl,al,ai,a1,a9⟩:=kAy hr.1
 obtain ⟨n,f,c⟩:=r
 have HN:Hid (kM.rd w [nv] n):=yD ⟨al,hr.2.1⟩
 obtain ⟨na,np,rfl,_⟩:=kE.sl ai
 obtain ⟨va,vp,rfl,bm⟩:=kE.sl hl.1
 have HF:=yD a1
 have HC:=yD a9
 clear al ai a1 a9 hl hr
 go_enter func146,ntmps146
 go_wp2_with fail
 generalize H:World.alloc w _=N
 have Z:Below w.heap.size w N:=rY
 have K0:N.cell? ⟨w.heap.size,0,none⟩=some (.slice na n.length np):=tN
 have K1:N.cell? ⟨w.heap.size,1,none⟩=some (.int .i64 f):=tN
 have K2:N.cell? ⟨w.heap.size,2,none⟩=some (.int .i64 c):=tN
 have b8:N.heap.size=w.heap.size + 1:=bA4
 clear H
 refine (kCv (HL.out.below Z)).mono ?_
 rintro e w1 ⟨v1,rfl,O1,O⟩
 replace K0:=cL O K0
 replace K1:=cL O K1
 replace K2:=cL O K2
 obtain ⟨E1,az,L⟩:=AX
 obtain ⟨oa,on,oc,ho,bl⟩:=O1.parts;obtain rfl:=ho
 clear O1 O Z
 go_wp2_with fail
 refine (kLo (HL.out.1.below E1) (HN.out.1.below E1)).mono ?_
 rintro e w4 ⟨rfl,X⟩
 replace K0:=cL X K0
 replace K1:=cL X K1
 replace K2:=cL X K2
 have E4:=(tQ E1 X)
 obtain ⟨bt,L⟩:=AO
 clear X E1
 by_cases hk:idxOf (zm n f) l < 0
 · have U:=yD (kWa (r:=(n,f,c)) hk)
   have en:¬ (0≤idxOf (zm n f) l):=bB9
   generalize hq:idxOf (zm n f) l=q at *
   clear hq hk
   go_wp2_with fail
   refine (zi (HN.out.below E4)).mono ?_
   rintro e wT ⟨tc,rfl,OT,au⟩
   obtain ⟨dh,rfl,a2⟩:=kU OT.raw
   obtain ⟨av,bh,rfl,_⟩:=kE.sl a2
   clear a2
   go_upto_region 6 with fail
   generalize F:World.alloc wT _=R
   have EC:Below wT.heap.size wT R:=rX
   have KC:R.cell? ⟨wT.heap.size,0,none⟩=some (.slice av n.length bh):=tO
   clear F
   have ER:=(tQ au EC)
   have em:=au.size
   have ac:=EC.size
   have J:=OT.below EC
   replace K0:=cL ER K0
   replace K1:=cL ER K1
   replace K2:=cL ER K2
   replace L:=yD (L.out.below ER)
   go_wp2_with (at_builtin;refine kE.jK rfl _ _ 30 rfl (r:=jT) (e:=102) underlying30 kKj rfl bB8 bB8 (B:=w.heap.size) L.out bC1 bC1 rfl (kE.own.wide (T:=jR w4.heap.size wT.heap.size) (kE.jw (r:=kM) (q:=kE.pair kE.int kE.int) (cs:=[.slice av n.length bh]) (ds:=[.int .i64 f,.int .i64 c]) (x:=n) (y:=(f,c)) (J) (kE.jr (kE.ky HF.out) (kE.ky HC.out))) (fun j I=>I)) rfl mW rE mR bB9 vP ?_)
   intro v5 w5 G ak bi
   have aw:=yD (G.cast U.out.symm)
   have E5:=(tQ E4 ER).trans ak
   clear G ak L
   go_wp2_with fail
   refine (kEb aw.out.raw0).mono ?_
   rintro e w7 ⟨rfl,D⟩
   have E:=(tQ E5 D)
   have am:=D.size
   have ah:=E5.size
   have ab:=yD (aw.out.below D)
   clear D
   cases hv:kAz (kIg (n,f,c) l)
   · exact aC
   have HQ:=yD (kTr hv)
   have ax:=yD (kJv hv)
   clear hv
   go_wp2
   go_ret2
   exact ⟨v5,by rw [HQ.out.2];rfl,((ab.out.cast HQ.out.1.symm).own nI).wide mR,E⟩
 obtain ⟨k,aa,aj⟩:=kIa hk
 have bb:=yD aj
 rw [aj]
 clear hk aj
 obtain ⟨b,cap,hv,af,bk,ao,a4⟩:=kE.kBu L.out aa
 simp only [Value.slice.injEq] at hv
 obtain ⟨rfl,ay,rfl⟩:=hv
 have a5:k < on:=bB9
 obtain ⟨a8,be⟩:=AR
 have a6:=yD (L.out.own bj)
 obtain ⟨c0,c1,c2,hr,A0,A1,A2⟩:=kE.at3 a6.out.raw aa rfl
 clear hr
 have bg:=kE.kGo L.out bB9 (k * 3 + 2)
 have U:=yD (kVz (r:=(n,f,c)) bb.out aa)
 obtain ⟨s1,s2⟩:=kE.kEg (i:=k) (j:=2) (p:=k * 3 + 2) (u:=.int .i64 c) L.out bj aa bB8 (fun h=>RRoute_set2 _ HC.out h) (show jT.bdd Big (kIs l[k] c) from kE.zM a6.out.rd aa) rfl
 have ae:=yD (s1.cast U.out.symm)
 have E5:Below w.heap.size w (w4.setCell ⟨b,k * 3 + 2,none⟩ (.int .i64 c)):=E4.setCell af.1 _
 have bi:(w4.setCell ⟨b,k * 3 + 2,none⟩ (.int .i64 c)).heap.size=w4.heap.size:=by simp [World.setCell]
 clear s1 s2 ay a6
 go_upto_region 7 with fail
 generalize V:w4.setCell ⟨b,k * 3 + 2,none⟩ (.int .i64 c)=w5 at *
 clear V
 go_wp2_with fail
 refine (kEb ae.out.raw0).mono ?_
 rintro e w7 ⟨rfl,D⟩
 have E:=(tQ E5 D)
 have am:=D.size
 have ah:=E5.size
 have ab:=yD (ae.out.below D)
 clear D
 cases hv:kAz (kIg (n,f,c) l)
 · exact aC
 have HQ:=yD (kTr hv)
 have ax:=yD (kJv hv)
 clear hv
 go_wp2
 go_ret2
 exact ⟨.slice (some ⟨b,0,none⟩) on oc,by rw [HQ.out.2];rfl,((ab.out.cast HQ.out.1.symm).own nI).wide mR,E⟩
end Go.Proofs.YtonmjkmaadgceaaGreat

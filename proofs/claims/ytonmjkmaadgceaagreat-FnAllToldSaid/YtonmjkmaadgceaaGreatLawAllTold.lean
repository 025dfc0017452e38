/-
  The law FnAllTold: each requester receives the data, once, and nobody else does.
-/
import Derived.Test.YtonmjkmaadgceaaGreatDrawV
import Derived.Test.YtonmjkmaadgceaaGreatPDatM
set_option linter.unusedVariables false
set_option linter.unusedSimpArgs false
set_option linter.unnecessarySimpa false
set_option maxRecDepth 100000
set_option maxHeartbeats 40000000
namespace Go.Proofs.YtonmjkmaadgceaaGreat
open Go.ChangeShapes Go.WideShapes Go.ChangeAt Go.RowKit _root_.Go.Proofs.Tryz
theorem kTd {w:World} {v:Value} {ac:List UInt8} (N:(kE.slice 5 kE.byte).raw w [v] ac) :
    Calls prog 3 #[v] w (LawPost w):=by
 obtain ⟨ca,cc,rfl,_⟩:=kE.sl N
 go_enter func3,ntmps3
 go_wp2_with fail
 refine (lawsbig_c N).mono ?_
 rintro e w1 ⟨rfl,hb⟩
 have bn:=hb.size
 have X:=hb
 clear hb
 by_cases db:(ac.length:Int) > 1048576
 · go_wp2
   go_ret
   exact ⟨rfl,X⟩
 go_wp2_with fail
 refine (kJm (N.below X)).mono ?_
 rintro e V ⟨cs,x,ct,tr,f,ds,y,rfl,hO,hx,Y,hlt,⟨el,dt⟩,hY,dh,hb⟩
 have bo:=hb.size
 replace X:=(tQ X hb)
 clear hb
 have hq:=yD hx.lenN
 have HX:=yD hx
 clear hx
 obtain ⟨a0,c0,a1,c1,a2,c2,a3,c3,a4,c4,a5,c5,rfl⟩:=kDu hO.rd.1
 obtain ⟨x0,⟨kc,xe⟩,x2,x3,x4,x5,x6⟩:=x
 have Z:=yD (show yA.jY _ [.slice a0 x0.length c0,.int .i64 kc,.slice a1 xe.length c1,.slice a2 x2.length c2,.slice a3 x3.length c3,.slice a4 x4.length c4,.slice a5 x5.length c5,.int .i64 x6] (x0,(kc,xe),x2,x3,x4,x5,x6) _ from hO)
 clear hO
 obtain ⟨av,br,bd,bw,aw,bz,ag,bt,rfl⟩:=kDj Y.rd.1
 obtain ⟨t0,t1,t2,t3⟩:=tr
 have TO:=yD (show je.jY _ [.slice av t0.length br,.slice bd t1.length bw,.slice aw t2.length bz,.slice ag t3.length bt] (t0,t1,t2,t3) _ from Y)
 have dn:=yD hlt
 clear Y hlt
 obtain ⟨ai,b2,b5,b8,b3,cd,rfl⟩:=yN hY.rd.1
 have YO:=yD (show jA.jY _ [.slice ai y.1.length b2,.slice b5 y.2.1.length b8,.slice b3 y.2.2.1.length cd,.int .i64 y.2.2.2.1,.int .i64 y.2.2.2.2] y _ from hY)
 clear hY
 go_upto_region 4 with fail
 generalize F:World.alloc (World.alloc (World.alloc V _) _) _=w3
 obtain ⟨hb,BX⟩:=xG
 have BT:w3.heap[V.heap.size + 1]?=some (.cells #[.slice av t0.length br,.slice bd t1.length bw,.slice aw t2.length bz,.slice ag t3.length bt] 38 (0,0)):=by rw [← F];exact jC (kG bC0)
 have BY:w3.heap[V.heap.size + 2]?=some (.cells #[.slice ai y.1.length b2,.slice b5 y.2.1.length b8,.slice b3 y.2.2.1.length cd,.int .i64 y.2.2.2.1,.int .i64 y.2.2.2.2] 43 (0,0)):=by rw [← F];exact kG bC0
 have bp:V.heap.size + 3≤w3.heap.size:=bA3
 clear F
 replace Z:=yD (Z.out.below hb)
 replace TO:=yD (TO.out.below hb)
 replace YO:=yD (YO.out.below hb)
 replace X:=(tQ X hb)
 clear hb
 obtain ⟨bx,ba⟩:∃ b,kBd (x0,(kc,xe),x2,x3,x4,x5,x6)=b:=⟨_,rfl⟩
 cases bx
 · have bh:=yD ba
   clear ba
   obtain ⟨aa,ab,an,ak,al,aj,am,ao⟩:=zt BX
   have FX:=yD (fun (W:World) (hW:Below w3.heap.size w3 W)=>cLs8 hW aa ab an ak al aj am ao)
   refine yQ (fun W=>Below w3.heap.size w3 W) [(0,true),(2,true),(1,false),(3,false),(4,true)] bB4 bB4 qD (bR.drew) ?_
   intro wS E
   simp only [jD,List.getElem?_cons_succ,List.getElem?_cons_zero,List.map_cons,List.map_nil]
   all_goals refine kS ?_
   all_goals refine kS ?_
   all_goals first|(refine kK rfl E ?_)|(refine ko rfl (fun K J=>?_);go_simp;refine (kDe (cx:=[.slice a0 x0.length c0,.int .i64 kc,.slice a1 xe.length c1,.slice a2 x2.length c2,.slice a3 x3.length c3,.slice a4 x4.length c4,.slice a5 x5.length c5,.int .i64 x6]) (Z.out.below E).rd.1).mono ?_;rintro e wS1 ⟨b1,af⟩;have H:e=.returned (.bool false):=b1.trans bB2;subst H;clear b1;replace E:=(tQ E af);refine J _ _ E ?_;clear J K af)
   all_goals refine kX ?_
   all_goals first|(refine kK rfl E ?_)|(refine ko rfl (fun K J=>?_);go_simp;refine (kFb (cx:=[.slice a0 x0.length c0,.int .i64 kc,.slice a1 xe.length c1,.slice a2 x2.length c2,.slice a3 x3.length c3,.slice a4 x4.length c4,.slice a5 x5.length c5,.int .i64 x6]) (Z.out.below E).rd.1).mono ?_;rintro e bj ⟨b1,af⟩;have H:e=.returned (.bool false):=b1.trans bB2;subst H;clear b1;replace E:=(tQ E af);refine J _ _ E ?_;clear J K af)
   all_goals refine kX ?_
   all_goals refine kS ?_
   all_goals refine kZ ?_
   obtain ⟨BX,BT,BY⟩:=D9
   obtain ⟨Z,TO,YO⟩:=xJ
   replace X:=(tQ X E)
   clear E
   obtain ⟨aa,ab,an,ak,al,aj,am,ao⟩:=zt BX
   go_wp2_with fail
   refine (kDe (cx:=[.slice a0 x0.length c0,.int .i64 kc,.slice a1 xe.length c1,.slice a2 x2.length c2,.slice a3 x3.length c3,.slice a4 x4.length c4,.slice a5 x5.length c5,.int .i64 x6]) Z.out.rd.1).mono ?_
   rintro e c8 ⟨b1,hb⟩
   have H:e=.returned (.bool false):=b1.trans bB2
   subst H
   clear b1
   have b7:=hb.size
   obtain ⟨BX,BT,BY,Z,TO,YO⟩:=uC
   replace X:=(tQ X hb)
   clear aa ab an ak al aj am ao
   clear hb
   go_wp2
   go_ret
   exact ⟨rfl,X⟩
 have bh:=yD ba
 clear ba
 obtain ⟨aa,ab,an,ak,al,aj,am,ao⟩:=zt BX
 have FX:=yD (fun (W:World) (hW:Below w3.heap.size w3 W)=>cLs8 hW aa ab an ak al aj am ao)
 refine yQ (fun W=>Below w3.heap.size w3 W) [(0,true),(2,true),(1,false),(3,false),(4,true)] bB4 bB4 qD (bR.drew) ?_
 intro wS E
 simp only [jD,List.getElem?_cons_succ,List.getElem?_cons_zero,List.map_cons,List.map_nil]
 all_goals refine kS ?_
 all_goals refine kS ?_
 all_goals first|(refine kK rfl E ?_)|(refine ko rfl (fun K J=>?_);go_simp;refine (kDe (cx:=[.slice a0 x0.length c0,.int .i64 kc,.slice a1 xe.length c1,.slice a2 x2.length c2,.slice a3 x3.length c3,.slice a4 x4.length c4,.slice a5 x5.length c5,.int .i64 x6]) (Z.out.below E).rd.1).mono ?_;rintro e wS1 ⟨b1,af⟩;have H:e=.returned (.bool true):=b1.trans bB2;subst H;clear b1;replace E:=(tQ E af);refine J _ _ E ?_;clear J K af)
 all_goals refine kX ?_
 all_goals first|(refine kK rfl E ?_)|(refine ko rfl (fun K J=>?_);go_simp;refine (kFb (cx:=[.slice a0 x0.length c0,.int .i64 kc,.slice a1 xe.length c1,.slice a2 x2.length c2,.slice a3 x3.length c3,.slice a4 x4.length c4,.slice a5 x5.length c5,.int .i64 x6]) (Z.out.below E).rd.1).mono ?_;rintro e bj ⟨b1,af⟩;have H:e=.returned (.bool true):=b1.trans bB2;subst H;clear b1;replace E:=(tQ E af);refine J _ _ E ?_;clear J K af)
 all_goals refine kX ?_
 all_goals refine kS ?_
 all_goals refine kZ ?_
 obtain ⟨BX,BT,BY⟩:=D9
 obtain ⟨Z,TO,YO⟩:=xJ
 replace X:=(tQ X E)
 clear E
 obtain ⟨aa,ab,an,ak,al,aj,am,ao⟩:=zt BX
 go_wp2_with fail
 refine (kDe (cx:=[.slice a0 x0.length c0,.int .i64 kc,.slice a1 xe.length c1,.slice a2 x2.length c2,.slice a3 x3.length c3,.slice a4 x4.length c4,.slice a5 x5.length c5,.int .i64 x6]) Z.out.rd.1).mono ?_
 rintro e c8 ⟨b1,hb⟩
 have H:e=.returned (.bool true):=b1.trans bB2
 subst H
 clear b1
 have b7:=hb.size
 obtain ⟨BX,BT,BY,Z,TO,YO⟩:=uC
 replace X:=(tQ X hb)
 clear aa ab an ak al aj am ao
 clear hb
 obtain ⟨aa,ab,an,ak,al,aj,am,ao⟩:=zt BX
 obtain ⟨a8,az,a7,a6⟩:=kAh BT
 obtain ⟨be,bf,bc,bg,a9⟩:=jU BY
 obtain ⟨bs,cl⟩:∃ b,kBt (x0,(kc,xe),x2,x3,x4,x5,x6) (t0,t1,t2,t3) y 50=b:=⟨_,rfl⟩
 have ch:=yD cl
 clear cl
 go_wp2_with fail
 refine (kGu (cx:=[.slice a0 x0.length c0,.int .i64 kc,.slice a1 xe.length c1,.slice a2 x2.length c2,.slice a3 x3.length c3,.slice a4 x4.length c4,.slice a5 x5.length c5,.int .i64 x6]) Z.out.rd (ct:=[.slice av t0.length br,.slice bd t1.length bw,.slice aw t2.length bz,.slice ag t3.length bt]) TO.out.rd dn.out (cy:=[.slice ai y.1.length b2,.slice b5 y.2.1.length b8,.slice b3 y.2.2.1.length cd,.int .i64 y.2.2.2.1,.int .i64 y.2.2.2.2]) YO.out.rd bB9 (now:=50)).mono ?_
 rintro e dg ⟨b1,hb⟩
 have H:e=.returned (.bool bs):=b1.trans (by rw [ch.out])
 subst H
 clear b1
 have c9:=hb.size
 obtain ⟨BX,BT,BY,Z,TO,YO⟩:=uC
 replace X:=(tQ X hb)
 clear aa ab an ak al aj am ao a8 az a7 a6 be bf bc bg a9
 clear hb
 cases bs
 · go_wp2
   go_ret
   exact ⟨rfl,X⟩
 obtain ⟨cnt,ce⟩:=told_plan (f:=f) bh.out ch.out
 obtain ⟨fl,bi⟩:∃ l,kIy y.1 (x0,(kc,xe),x2,x3,x4,x5,x6)=l:=⟨_,rfl⟩
 obtain ⟨nx,os,cj⟩:∃ nx os,kQi (x0,(kc,xe),x2,x3,x4,x5,x6) (t0,t1,t2,t3) f y 50=(nx,os):=⟨_,_,rfl⟩
 rw [bi,cj] at ce
 have bq:=yD ce
 have b9:=yD bi
 have cu:=yD cj
 clear ce bi cj ch bh
 obtain ⟨aa,ab,an,ak,al,aj,am,ao⟩:=zt BX
 obtain ⟨be,bf,bc,bg,a9⟩:=jU BY
 go_wp2_with fail
 refine (kMo (cx:=[.slice a0 x0.length c0,.int .i64 kc,.slice a1 xe.length c1,.slice a2 x2.length c2,.slice a3 x3.length c3,.slice a4 x4.length c4,.slice a5 x5.length c5,.int .i64 x6]) Z.out.rd (cn:=[.slice ai y.1.length b2]) (data_nm YO.out).rd).mono ?_
 rintro e dd ⟨v,rfl,hO,hb⟩
 have cv:=hb.size
 obtain ⟨BX,BT,BY,Z,TO,YO⟩:=uC
 replace X:=(tQ X hb)
 clear aa ab an ak al aj am ao be bf bc bg a9
 clear hb
 rw [b9.out] at hO
 obtain ⟨fa,fc,rfl,_⟩:=kE.sl hO.raw
 have dc:fl.length≤16777216:=hO.2.1
 clear b9
 have FO:=yD (hO)
 clear hO
 obtain ⟨aa,ab,an,ak,al,aj,am,ao⟩:=zt BX
 obtain ⟨a8,az,a7,a6⟩:=kAh BT
 obtain ⟨be,bf,bc,bg,a9⟩:=jU BY
 go_wp2_with fail
 refine (kNw (cx:=[.slice a0 x0.length c0,.int .i64 kc,.slice a1 xe.length c1,.slice a2 x2.length c2,.slice a3 x3.length c3,.slice a4 x4.length c4,.slice a5 x5.length c5,.int .i64 x6]) Z.out.rd (cp:=[.slice av t0.length br,.slice bd t1.length bw,.slice aw t2.length bz,.slice ag t3.length bt]) TO.out.rd (f:=f) bB9 (cy:=[.slice ai y.1.length b2,.slice b5 y.2.1.length b8,.slice b3 y.2.2.1.length cd,.int .i64 y.2.2.2.1,.int .i64 y.2.2.2.2]) YO.out.rd (t:=50) bB9 hq.out dn.out bB9).mono ?_
 rintro e b0 ⟨cs,rfl,hO,hb⟩
 have c6:=hb.size
 obtain ⟨BX,BT,BY,Z,TO,YO⟩:=uC
 replace FO:=yD (FO.out.below hb)
 replace X:=(tQ X hb)
 clear aa ab an ak al aj am ao a8 az a7 a6 be bf bc bg a9
 clear hb
 rw [cu.out] at hO
 obtain ⟨d0,cq,ey,e3,e4,e5,e0,e6,e7,ew,ez,ex,oa,oc,rfl,_,hQ⟩:=act_form hO
 clear hO cu
 have OO:=yD (hQ)
 have cf:os.length≤16777216:=hQ.2.1
 clear hQ
 have b4:=bq.out.most
 go_upto_region 10 with fail
 generalize F:World.alloc b0 _=bm
 have G:Below b0.heap.size b0 bm:=rX
 have BA:bm.heap[b0.heap.size]?=some (.cells #[.slice d0 nx.1.length cq,.int .i64 nx.2.1.1,.slice ey nx.2.1.2.length e3,.slice e4 nx.2.2.1.length e5,.slice e0 nx.2.2.2.1.length e6,.slice e7 nx.2.2.2.2.1.length ew,.slice ez nx.2.2.2.2.2.1.length ex,.int .i64 nx.2.2.2.2.2.2,.slice oa os.length oc] 52 (0,0)):=tX
 have cz:b0.heap.size + 1≤bm.heap.size:=bA3
 clear F
 replace BX:=kD BX G
 replace BT:=kD BT G
 replace BY:=kD BY G
 replace Z:=yD (Z.out.below G)
 replace TO:=yD (TO.out.below G)
 replace YO:=yD (YO.out.below G)
 replace FO:=yD (FO.out.below G)
 replace OO:=yD (OO.out.below G)
 replace X:=(tQ X G)
 clear G
 have HM:=yD b4
 clear b4
 go_wp2
 go_loopw [10,11] (fun v i wr=>∃ (j:Nat),v=.int .i64 (cnt j)∧i=.int .i64 j∧j≤fl.length∧Below bm.heap.size bm wr) (fun _ i _=>fl.length - (intOf i).toNat)
 case atStart=>exact ⟨0,by rw [bq.out.zero];rfl,rfl,Nat.zero_le _,bR⟩
 obtain ⟨j,rfl,rfl,I,D⟩:=hrel
 have da:=Int.natCast_nonneg j
 have de:=HM.out j
 have zr:=D.size
 replace BX:=kD BX D
 replace BT:=kD BT D
 replace BY:=kD BY D
 replace BA:=kD BA D
 replace Z:=yD (Z.out.below D)
 replace TO:=yD (TO.out.below D)
 replace YO:=yD (YO.out.below D)
 replace FO:=yD (FO.out.below D)
 replace OO:=yD (OO.out.below D)
 replace X:=(tQ X D)
 have LB:=yD (show From bm wr from D)
 clear D
 by_cases hlt:j < fl.length
 · have cg:(j:Int) < fl.length:=bB9
   have HJ:=yD (show j + 1≤fl.length from hlt)
   obtain ⟨fb,fo,c7,c0,hr,A0⟩:=kE.kBo FO.out.raw hlt rfl
   obtain ⟨he,cw⟩:=kE.yz hr
   obtain rfl:c0=_:=by simpa using he
   clear he hr
   have au:=bq.out.one j hlt
   have bv:=bq.out.next j hlt
   have ck:=HM.out (j + 1)
   generalize fl[j]=g at *
   have bl:=yD au
   have b6:=yD bv
   clear au bv
   subst c7
   by_cases hg:g=f
   · have q1:(g==f)=true:=bA1
     have q2:(g != f)=false:=bA1
     have HG:=yD hg
     clear hg
     obtain ⟨R,L,ar,aq,U,ap,O,ah,ae⟩:=kBi BA
     go_upto_region 14 with fail
     have FX:=yD (fun (W:World) (hW:Below wr.heap.size wr W)=>cLs10 hW R L ar aq U ap O ah ae A0)
     refine kW (fun W=>Below wr.heap.size wr W) [true,true,true,true,true,true,false,true,true] bB4 bB4 qD (bR.drew) ?_
     intro wS E
     iterate 6
      all_goals refine kS ?_
     all_goals first|(refine kK rfl E ?_)|(refine ko rfl (fun K J=>?_);go_simp;refine (kIw (l:=os) (OO.out.below E).rd (f:=g)).mono ?_;rintro e wS1 ⟨v1,rfl,O1,af⟩;obtain ⟨bk,on,co,ho,ax⟩:=O1.parts;obtain rfl:=ho;clear O1;replace E:=(tQ E af);refine J _ _ E ?_;clear J K af)
     all_goals refine kX ?_
     all_goals refine kS ?_
     all_goals refine kS ?_
     all_goals refine kZ ?_
     obtain ⟨BX,BT,BY⟩:=D9
     replace BA:=kD BA E
     replace A0:=cL E A0
     obtain ⟨Z,TO,YO⟩:=xJ
     replace FO:=yD (FO.out.below E)
     replace OO:=yD (OO.out.below E)
     replace LB:=yD (LB.out.below E)
     replace X:=(tQ X E)
     clear R L ar aq U ap O ah ae
     clear E
     have ay:on=0:=by rw [ax.out,bl.out,if_pos HG.out]
     have q3:((on:Int) != 0)=false:=by subst ay;rfl
     have hw:IntKind.i64.wrap ((cnt j:Int) + on)=(cnt (j + 1):Int):=by have h1:=b6.out;rw [if_pos HG.out] at h1;rw [IntWalk.i64_in _ bB9];omega
     exact iX
   have q1:(g==f)=false:=bA1
   have q2:(g != f)=true:=bA1
   have HG:=yD hg
   clear hg
   obtain ⟨R,L,ar,aq,U,ap,O,ah,ae⟩:=kBi BA
   go_upto_region 14 with fail
   have FX:=yD (fun (W:World) (hW:Below wr.heap.size wr W)=>cLs10 hW R L ar aq U ap O ah ae A0)
   refine kW (fun W=>Below wr.heap.size wr W) [true,true,true,true,true,true,false,true,true] bB4 bB4 qD (bR.drew) ?_
   intro wS E
   iterate 6
    all_goals refine kS ?_
   all_goals first|(refine kK rfl E ?_)|(refine ko rfl (fun K J=>?_);go_simp;refine (kIw (l:=os) (OO.out.below E).rd (f:=g)).mono ?_;rintro e wS1 ⟨v1,rfl,O1,af⟩;obtain ⟨bk,on,co,ho,ax⟩:=O1.parts;obtain rfl:=ho;clear O1;replace E:=(tQ E af);refine J _ _ E ?_;clear J K af)
   all_goals refine kX ?_
   all_goals refine kS ?_
   all_goals refine kS ?_
   all_goals refine kZ ?_
   obtain ⟨BX,BT,BY⟩:=D9
   replace BA:=kD BA E
   replace A0:=cL E A0
   obtain ⟨Z,TO,YO⟩:=xJ
   replace FO:=yD (FO.out.below E)
   replace OO:=yD (OO.out.below E)
   replace LB:=yD (LB.out.below E)
   replace X:=(tQ X E)
   clear R L ar aq U ap O ah ae
   clear E
   have ay:on=1:=by rw [ax.out,bl.out,if_neg HG.out]
   have q3:((on:Int) != 1)=false:=by subst ay;rfl
   have hw:IntKind.i64.wrap ((cnt j:Int) + on)=(cnt (j + 1):Int):=by have h1:=b6.out;rw [if_neg HG.out] at h1;rw [IntWalk.i64_in _ bB9];omega
   exact iX
 have cg:¬ (j:Int) < fl.length:=bB9
 obtain rfl:j=fl.length:=bB9
 have q1:((cnt fl.length:Int)==os.length)=true:=by rw [bq.out.all];simp
 clear I LB
 obtain ⟨R,L,ar,aq,U,ap,O,ah,ae⟩:=kBi BA
 go_upto_region 18 with fail
 have FX:=yD (fun (W:World) (hW:Below wr.heap.size wr W)=>cLs9 hW R L ar aq U ap O ah ae)
 refine yQ (fun W=>Below wr.heap.size wr W) [(0,true),(1,true),(2,true),(3,true),(4,true),(5,true),(6,true),(7,true),(10,true),(11,true),(8,false),(9,true),(12,false),(13,true),(14,true),(15,true),(16,true)] bB4 bB4 qD (bR.drew) ?_
 intro wS E
 simp only [jD,List.getElem?_cons_succ,List.getElem?_cons_zero,List.map_cons,List.map_nil]
 iterate 5
  all_goals refine kS ?_
 all_goals (have bb:=True.intro;first|(refine yT (fun b bb=>?_);cases b;all_goals first | exact Bool.noConfusion bb | simp only [zU,zV] at bb | skip) | refine kS ?_)
 all_goals refine kX ?_
 iterate 4
  all_goals refine kS ?_
 all_goals first|(refine kK rfl E ?_)|(refine ko rfl (fun K J=>?_);go_simp;refine (kJo (l:=os) (OO.out.below E).rd).mono ?_;rintro e wS1 ⟨v1,rfl,O1,af⟩;obtain ⟨bk,ln,co,ho,ax⟩:=O1.parts;obtain rfl:=ho;clear O1;replace E:=(tQ E af);refine J _ _ E ?_;clear J K af)
 all_goals refine kX ?_
 all_goals refine kS ?_
 all_goals first|(refine kK rfl E ?_)|(refine ko rfl (fun K J=>?_);go_simp;refine (kIw (l:=os) (OO.out.below E).rd (f:=0)).mono ?_;rintro e bj ⟨v2,rfl,O2,af⟩;obtain ⟨df,sn,ci,ho,bu⟩:=O2.parts;obtain rfl:=ho;clear O2;have q2:((ln:Int)==sn)=true:=(by rw [ax.out,bu.out,bq.out.home];simp);replace E:=(tQ E af);refine J _ _ E ?_;clear J K af)
 all_goals refine kX ?_
 iterate 4
  all_goals refine kS ?_
 all_goals refine kZ ?_
 obtain ⟨BX,BT,BY⟩:=D9
 replace BA:=kD BA E
 obtain ⟨Z,TO,YO⟩:=xJ
 replace FO:=yD (FO.out.below E)
 replace OO:=yD (OO.out.below E)
 replace X:=(tQ X E)
 clear E
 all_goals first|(go_wp2;go_ret;exact ⟨rfl,X⟩) | skip
end Go.Proofs.YtonmjkmaadgceaaGreat

/-
  The law FnNodes: a node answers with what it has produced or cached; a crash loses nothing that it has produced.
-/
import Derived.Test.YtjhfdpopkkmigaaGreatDrawJ
import Derived.Test.YtjhfdpopkkmigaaGreatSameI
set_option linter.unusedVariables false
set_option linter.unusedSimpArgs false
set_option linter.unnecessarySimpa false
set_option maxRecDepth 100000
set_option maxHeartbeats 40000000
open List renaming getElem?_cons_succ->Aa,getElem?_cons_zero->Ab,map_cons->Ac,map_nil->Ad
namespace Go.Proofs.YtjhfdpopkkmigaaGreat
open Go.ChangeShapes Go.WideShapes Go.ChangeAt Go.RowKit _root_.Go.Proofs.Tryz
theorem iZz {p:Prop} (h:p:=by
 have aq:Qd wS1 w4 0 (.slice a7 R.1.length bc):=kE BY rfl;have ah:Qd wS1 w4 1 (.int .i64 R.2.1.1):=kE BY rfl;have ag:Qd wS1 w4 2 (.slice b0 R.2.1.2.length bz):=kE BY rfl;have ai:Qd wS1 w4 3 (.slice bh R.2.2.1.length bq):=kE BY rfl;have ac:Qd wS1 w4 4 (.slice db R.2.2.2.1.length a9):=kE BY rfl;have aw:Qd wS1 w4 5 (.slice c8 R.2.2.2.2.1.length ba):=kE BY rfl;have au:Qd wS1 w4 6 (.slice dc R.2.2.2.2.2.1.length b2):=kE BY rfl;have ar:Qd wS1 w4 7 (.int .i64 R.2.2.2.2.2.2):=kE BY rfl;obtain ⟨ae,af,b7,b4,b6,c6,c7,c9⟩:=yL BX;have j6:Hid (R=x):=yD (by rw [<- gj.out];exact (kTu gd.out).1)
 go_wp2_with fail;refine (kBj (cx:=[.slice a7 R.1.length bc,.int .i64 R.2.1.1,.slice b0 R.2.1.2.length bz,.slice bh R.2.2.1.length bq,.slice db R.2.2.2.1.length a9,.slice c8 R.2.2.2.2.1.length ba,.slice dc R.2.2.2.2.2.1.length b2,.int .i64 R.2.2.2.2.2.2]) YO.out.raw (cy:=[.slice cl x.1.length cm,.int .i64 x.2.1.1,.slice b3 x.2.1.2.length cf,.slice ch x.2.2.1.length cg,.slice f4 x.2.2.2.1.length fk,.slice e7 x.2.2.2.2.1.length fg,.slice fb x.2.2.2.2.2.1.length e8,.int .i64 x.2.2.2.2.2.2]) XO.out.rd.1).mono ?_;rintro e d6 ⟨D,hb⟩;have o:e=.returned (.bool true):=D.trans (by rw [decide_eq_true j6.out]);subst o;clear D;have ev:=hb.size;replace BX:=kC BX hb;replace BT:=kC BT hb;replace BY:=kC BY hb;replace BD:=kC BD hb;replace BK:=kC BK hb;replace XO:=yD (XO.out.below hb);replace TO:=yD (TO.out.below hb);replace YO:=yD (YO.out.below hb);replace DO:=yD (DO.out.below hb);replace LO:=yD (LO.out.below hb);replace KO:=yD (KO.out.below hb);replace EE:=(tQ EE hb);clear aq ah ag ai ac aw au ar ae af b7 b4 b6 c6 c7 c9;clear hb;go_wp2;go_ret;exact ⟨rfl,EE⟩):p:=h
theorem vEz {p:Prop} (h:p:=by
 have gb:=E.size;replace BX:=kC BX E;replace BT:=kC BT E;replace BY:=kC BY E;replace BD:=kC BD E;replace BK:=kC BK E;replace XO:=yD (XO.out.below E);replace TO:=yD (TO.out.below E);replace YO:=yD (YO.out.below E);replace DO:=yD (DO.out.below E);replace LO:=yD (LO.out.below E);replace KO:=yD (KO.out.below E);replace EE:=(tQ EE E);clear E;cases bo
 · exact iZz
 obtain ⟨fo,ft,fe⟩:=kWw (now:=99999) gd.out;rw [gj.out] at fo ft fe;have H1:=yD fo;have H2:=yD ft;have H3:=yD fe;clear fo ft fe;obtain ⟨aq,ah,ag,ai,ac,aw,au,ar⟩:=yL BY;obtain ⟨bm,bj,bl,bk,a5⟩:=yI BT;go_wp2_with fail;refine (kGl (cx:=[.slice a7 R.1.length bc,.int .i64 R.2.1.1,.slice b0 R.2.1.2.length bz,.slice bh R.2.2.1.length bq,.slice db R.2.2.2.1.length a9,.slice c8 R.2.2.2.2.1.length ba,.slice dc R.2.2.2.2.2.1.length b2,.int .i64 R.2.2.2.2.2.2]) YO.out.rd (cn:=[.slice a8 t.1.length ce]) (data_nm TO.out).rd (t:=99999) bD1).mono ?_;rintro e d6 ⟨vs,rfl,hO,hb⟩;have ev:=hb.size;replace BX:=kC BX hb;replace BT:=kC BT hb;replace BY:=kC BY hb;replace BD:=kC BD hb;replace BK:=kC BK hb;replace XO:=yD (XO.out.below hb);replace TO:=yD (TO.out.below hb);replace YO:=yD (YO.out.below hb);replace DO:=yD (DO.out.below hb);replace LO:=yD (LO.out.below hb);replace KO:=yD (KO.out.below hb);replace EE:=(tQ EE hb);clear aq ah ag ai ac aw au ar bm bj bl bk a5;exact uQ):p:=h
theorem kLo {w:World} {c0 c1 c2 c3 c4 c5 N D:Value} {x:jq} (h:je.raw w [c0,c1,c2,c3,c4,c5,N,D] x):(kD.slice 38 jF).raw w [c0] x.1:=by
 obtain ⟨x0,x1,x2,x3,x4,X,o⟩:=x;exact node_loc h
theorem jAm {w:World} {v:Value} {Z:List UInt8} (ad:(kD.slice 5 kD.byte).raw w [v] Z) :
    Calls prog 3 #[v] w (LawPost w):=by
 obtain ⟨ca,cc,rfl,_⟩:=kD.sl ad
 go_enter func3,ntmps3
 go_wp2_with fail
 refine (lawsbig_c ad).mono ?_
 rintro e w1 ⟨rfl,hb⟩
 have bf:=hb.size
 have EE:=hb
 clear hb
 by_cases nn:(Z.length:Int) > 1048576
 · go_wp2;go_ret;exact ⟨rfl,EE⟩
 go_wp2_with fail
 refine (kNf (ad.below EE)).mono ?_
 rintro e V ⟨n3,x,n1,t,rfl,hO,hx,N,hb⟩
 have bg:=hb.size
 replace EE:=(tQ EE hb)
 clear hb
 obtain ⟨cl,cm,b3,cf,ch,cg,f4,fk,e7,fg,fb,e8,rfl⟩:=yj hO.rd.1
 clear hx
 have XO:=yD (hO)
 clear hO
 obtain ⟨a8,ce,bn,co,bb,cq,rfl⟩:=yS N.rd.1
 have TO:=yD (N)
 clear N
 go_upto_region 4 with fail
 generalize F:World.alloc (World.alloc V _) _=w3
 have hb:Qb V w3:=by rw [<- F];exact (bR.alloc nL _).alloc bD2 _
 have BX:Qr w3 V.heap.size #[Qs cl x.1 cm,Qn x.2.1.1,Qs b3 x.2.1.2 cf,Qs ch x.2.2.1 cg,Qs f4 x.2.2.2.1 fk,Qs e7 x.2.2.2.2.1 fg,Qs fb x.2.2.2.2.2.1 e8,Qn x.2.2.2.2.2.2] 33:=sN
 have BT:Qr w3 (V.heap.size + 1) #[Qs a8 t.1 ce,Qs bn t.2.1 co,Qs bb t.2.2.1 cq,Qn t.2.2.2.1,Qn t.2.2.2.2] 38:=by rw [<- F];exact kH bD2
 have bi:V.heap.size + 2<=w3.heap.size:=bB3
 clear F
 replace XO:=yD (XO.out.below hb)
 replace TO:=yD (TO.out.below hb)
 replace EE:=(tQ EE hb)
 clear hb
 obtain ⟨ae,af,b7,b4,b6,c6,c7,c9⟩:=yL BX
 obtain ⟨bm,bj,bl,bk,a5⟩:=yI BT
 obtain ⟨bo,k7⟩:∃ b,kHw t x=b:=⟨_,rfl⟩
 obtain ⟨R,lj⟩:∃ b,addL t x=b:=⟨_,rfl⟩
 have gd:=yD k7;have gj:=yD lj
 clear k7 lj
 go_wp2_with fail
 refine (kWg (cx:=[.slice cl x.1.length cm,.int .i64 x.2.1.1,.slice b3 x.2.1.2.length cf,.slice ch x.2.2.1.length cg,.slice f4 x.2.2.2.1.length fk,.slice e7 x.2.2.2.2.1.length fg,.slice fb x.2.2.2.2.2.1.length e8,.int .i64 x.2.2.2.2.2.2]) XO.out.rd (ct:=[.slice a8 t.1.length ce,.slice bn t.2.1.length co,.slice bb t.2.2.1.length cq,.int .i64 t.2.2.2.1,.int .i64 t.2.2.2.2]) TO.out.rd).mono ?_
 rintro e w4 ⟨cs,rfl,hO,hb⟩
 have bu:=hb.size
 replace BX:=kC BX hb
 replace BT:=kC BT hb
 replace XO:=yD (XO.out.below hb)
 replace TO:=yD (TO.out.below hb)
 replace EE:=(tQ EE hb)
 clear ae af b7 b4 b6 c6 c7 c9 bm bj bl bk a5
 clear hb
 rw [gj.out] at hO
 obtain ⟨a7,bc,b0,bz,bh,bq,db,a9,c8,ba,dc,b2,rfl⟩:=yj hO.raw
 rw [gd.out]
 have YO:=yD (hO)
 clear hO
 go_upto_region 5 with fail
 generalize F:World.alloc w4 _=w5
 have dd:Qb w4 w5:=rT
 have BY:Qr w5 w4.heap.size #[Qs a7 R.1 bc,Qn R.2.1.1,Qs b0 R.2.1.2 bz,Qs bh R.2.2.1 bq,Qs db R.2.2.2.1 a9,Qs c8 R.2.2.2.2.1 ba,Qs dc R.2.2.2.2.2.1 b2,Qn R.2.2.2.2.2.2] 33:=vD
 have br:w4.heap.size + 1<=w5.heap.size:=bB3
 clear F
 replace BX:=kC BX dd
 replace BT:=kC BT dd
 replace XO:=yD (XO.out.below dd)
 replace TO:=yD (TO.out.below dd)
 replace YO:=yD (YO.out.below dd)
 replace EE:=(tQ EE dd)
 clear dd
 obtain ⟨ae,af,b7,b4,b6,c6,c7,c9⟩:=yL BX
 obtain ⟨bm,bj,bl,bk,a5⟩:=yI BT
 go_wp2_with fail
 refine (kKp (cx:=[.slice cl x.1.length cm,.int .i64 x.2.1.1,.slice b3 x.2.1.2.length cf,.slice ch x.2.2.1.length cg,.slice f4 x.2.2.2.1.length fk,.slice e7 x.2.2.2.2.1.length fg,.slice fb x.2.2.2.2.2.1.length e8,.int .i64 x.2.2.2.2.2.2]) XO.out.rd (ct:=[.slice a8 t.1.length ce,.slice bn t.2.1.length co,.slice bb t.2.2.1.length cq,.int .i64 t.2.2.2.1,.int .i64 t.2.2.2.2]) TO.out.rd).mono ?_
 rintro e w6 ⟨cs,rfl,hO,hb⟩
 have da:=hb.size
 replace BX:=kC BX hb
 replace BT:=kC BT hb
 replace BY:=kC BY hb
 replace XO:=yD (XO.out.below hb)
 replace TO:=yD (TO.out.below hb)
 replace YO:=yD (YO.out.below hb)
 replace EE:=(tQ EE hb)
 clear ae af b7 b4 b6 c6 c7 c9 bm bj bl bk a5
 clear hb
 rw [gj.out] at hO
 obtain ⟨lz,m6,mz,m0,mm,k0,kt,me,ls,mp,lu,m1,rfl⟩:=yj hO.raw
 rw [gd.out]
 have ZO:=yD (hO)
 clear hO
 go_upto_region 6 with fail
 generalize F:World.alloc w6 _=w7
 have aj:Qb w6 w7:=rT
 have BZ:Qr w7 w6.heap.size #[Qs lz R.1 m6,Qn R.2.1.1,Qs mz R.2.1.2 m0,Qs mm R.2.2.1 k0,Qs kt R.2.2.2.1 me,Qs ls R.2.2.2.2.1 mp,Qs lu R.2.2.2.2.2.1 m1,Qn R.2.2.2.2.2.2] 33:=vD
 have ea:w6.heap.size + 1<=w7.heap.size:=bB3
 clear F
 replace BX:=kC BX aj
 replace BT:=kC BT aj
 replace BY:=kC BY aj
 replace XO:=yD (XO.out.below aj)
 replace TO:=yD (TO.out.below aj)
 replace YO:=yD (YO.out.below aj)
 replace ZO:=yD (ZO.out.below aj)
 replace EE:=(tQ EE aj)
 clear aj
 go_wp2_with fail
 refine (kNe (ad.below EE)).mono ?_
 rintro e w8 ⟨nx,ax,na,nc,an,ak,rfl,hO,m9,hN,⟨np,ns⟩,hb⟩
 have d9:=hb.size
 obtain ⟨BX,BT,BY,BZ⟩:=GI
 obtain ⟨XO,TO,YO,ZO⟩:=BH
 replace EE:=(tQ EE hb)
 clear hb
 obtain ⟨bp,h1,e6,jn,bw,h5,ck,j9,b9,hn,bx,h9,rfl⟩:=yj hO.rd.1
 clear m9
 have AO:=yD (hO)
 have NO:=yD (hN)
 clear hO hN
 go_upto_region 7 with fail
 generalize F:World.alloc (World.alloc w8 _) _=w9
 have hb:Qb w8 w9:=by rw [<- F];exact (bR.alloc nL _).alloc bD2 _
 have BA:Qr w9 w8.heap.size #[Qs bp ax.1 h1,Qn ax.2.1.1,Qs e6 ax.2.1.2 jn,Qs bw ax.2.2.1 h5,Qs ck ax.2.2.2.1 j9,Qs b9 ax.2.2.2.2.1 hn,Qs bx ax.2.2.2.2.2.1 h9,Qn ax.2.2.2.2.2.2] 33:=sN
 have BN:Qr w9 (w8.heap.size + 1) #[Qs na an nc] 36:=by rw [<- F];exact kH bD2
 have d4:w8.heap.size + 2<=w9.heap.size:=bB3
 clear F
 obtain ⟨BX,BT,BY,BZ⟩:=GI
 obtain ⟨XO,TO,YO,ZO⟩:=BH
 replace AO:=yD (AO.out.below hb)
 replace NO:=yD (NO.out.below hb)
 replace EE:=(tQ EE hb)
 clear hb
 obtain ⟨fh,e9,f6,f3,fi,f0,fc,fz⟩:=yL BA
 have ao:Qc w9 (w8.heap.size + 1) 0 (.slice na an.length nc):=kE BN rfl
 obtain ⟨bt,mu⟩:∃ b,fdOk an ak ax=b:=⟨_,rfl⟩
 obtain ⟨fd,eq⟩:∃ b,fdD an ak ax=b:=⟨_,rfl⟩
 have l6:=yD mu;have l8:=yD eq
 clear mu eq
 go_wp2_with fail
 refine (kGl (cx:=[.slice bp ax.1.length h1,.int .i64 ax.2.1.1,.slice e6 ax.2.1.2.length jn,.slice bw ax.2.2.1.length h5,.slice ck ax.2.2.2.1.length j9,.slice b9 ax.2.2.2.2.1.length hn,.slice bx ax.2.2.2.2.2.1.length h9,.int .i64 ax.2.2.2.2.2.2]) AO.out.rd (cn:=[.slice na an.length nc]) NO.out.rd (t:=ak) bD1).mono ?_
 rintro e cz ⟨ds,rfl,hO,hb⟩
 have ef:=hb.size
 obtain ⟨BX,BT,BY,BZ⟩:=GI
 replace BA:=kC BA hb
 replace BN:=kC BN hb
 obtain ⟨XO,TO,YO,ZO⟩:=BH
 replace AO:=yD (AO.out.below hb)
 replace NO:=yD (NO.out.below hb)
 replace EE:=(tQ EE hb)
 clear fh e9 f6 f3 fi f0 fc fz ao
 clear hb
 rw [l8.out] at hO
 obtain ⟨f9,mq,e0,l7,b5,l2,rfl⟩:=yS hO.raw
 rw [l6.out]
 have Y:=yD (hO)
 clear hO
 go_upto_region 8 with fail
 generalize F:World.alloc cz _=cw
 have ap:Qb cz cw:=rT
 have BB:Qr cw cz.heap.size #[Qs f9 fd.1 mq,Qs e0 fd.2.1 l7,Qs b5 fd.2.2.1 l2,Qn fd.2.2.2.1,Qn fd.2.2.2.2] 38:=vD
 have et:cz.heap.size + 1<=cw.heap.size:=bB3
 clear F
 replace BX:=kC BX ap
 replace BT:=kC BT ap
 replace BY:=kC BY ap
 replace BZ:=kC BZ ap
 replace BA:=kC BA ap
 replace BN:=kC BN ap
 replace XO:=yD (XO.out.below ap)
 replace TO:=yD (TO.out.below ap)
 replace YO:=yD (YO.out.below ap)
 replace ZO:=yD (ZO.out.below ap)
 replace AO:=yD (AO.out.below ap)
 replace NO:=yD (NO.out.below ap)
 replace Y:=yD (Y.out.below ap)
 replace EE:=(tQ EE ap)
 clear ap
 obtain ⟨fh,e9,f6,f3,fi,f0,fc,fz⟩:=yL BA
 have ao:Qc cw (w8.heap.size + 1) 0 (.slice na an.length nc):=kE BN rfl
 go_wp2_with fail
 refine (kUw (cx:=[.slice bp ax.1.length h1,.int .i64 ax.2.1.1,.slice e6 ax.2.1.2.length jn,.slice bw ax.2.2.1.length h5,.slice ck ax.2.2.2.1.length j9,.slice b9 ax.2.2.2.2.1.length hn,.slice bx ax.2.2.2.2.2.1.length h9,.int .i64 ax.2.2.2.2.2.2]) AO.out.rd (cn:=[.slice na an.length nc]) NO.out.rd (t:=ak) bD1).mono ?_
 rintro e c3 ⟨ds,rfl,hO,hb⟩
 have ew:=hb.size
 obtain ⟨BX,BT,BY,BZ⟩:=GI
 replace BA:=kC BA hb
 replace BN:=kC BN hb
 replace BB:=kC BB hb
 obtain ⟨XO,TO,YO,ZO⟩:=BH
 replace AO:=yD (AO.out.below hb)
 replace NO:=yD (NO.out.below hb)
 replace Y:=yD (Y.out.below hb)
 replace EE:=(tQ EE hb)
 clear fh e9 f6 f3 fi f0 fc fz ao
 clear hb
 rw [l8.out] at hO
 obtain ⟨gr,m4,lh,lk,gt,kd,rfl⟩:=yS hO.raw
 rw [l6.out]
 have CO:=yD (hO)
 clear hO
 go_upto_region 9 with fail
 generalize F:World.alloc c3 _=d2
 have aa:Qb c3 d2:=rT
 have BC:Qr d2 c3.heap.size #[Qs gr fd.1 m4,Qs lh fd.2.1 lk,Qs gt fd.2.2.1 kd,Qn fd.2.2.2.1,Qn fd.2.2.2.2] 38:=vD
 have gv:c3.heap.size + 1<=d2.heap.size:=bB3
 clear F
 replace BX:=kC BX aa
 replace BT:=kC BT aa
 replace BY:=kC BY aa
 replace BZ:=kC BZ aa
 replace BA:=kC BA aa
 replace BN:=kC BN aa
 replace BB:=kC BB aa
 replace XO:=yD (XO.out.below aa)
 replace TO:=yD (TO.out.below aa)
 replace YO:=yD (YO.out.below aa)
 replace ZO:=yD (ZO.out.below aa)
 replace AO:=yD (AO.out.below aa)
 replace NO:=yD (NO.out.below aa)
 replace Y:=yD (Y.out.below aa)
 replace CO:=yD (CO.out.below aa)
 replace EE:=(tQ EE aa)
 clear aa
 clear AO NO
 clear BA
 clear BN
 go_wp2_with fail
 refine (kIe (ad.below EE)).mono ?_
 rintro e c0 ⟨nw,sx,ma,mc,mn,ga,rfl,hO,nj,hN,⟨no,nr⟩,hb⟩
 have j1:=hb.size
 obtain ⟨BX,BT,BY,BZ,BB,BC⟩:=xP
 obtain ⟨XO,TO,YO,ZO⟩:=BH
 replace Y:=yD (Y.out.below hb)
 replace CO:=yD (CO.out.below hb)
 replace EE:=(tQ EE hb)
 clear hb
 obtain ⟨hd,hl,g1,gu,hj,he,hq,hh,i1,ha,hu,hc,rfl⟩:=yj hO.rd.1
 clear nj
 have SO:=yD (hO)
 have MO:=yD (hN)
 clear hO hN
 go_upto_region 10 with fail
 generalize F:World.alloc (World.alloc c0 _) _=g8
 have hb:Qb c0 g8:=by rw [<- F];exact (bR.alloc nL _).alloc bD2 _
 have BS:Qr g8 c0.heap.size #[Qs hd sx.1 hl,Qn sx.2.1.1,Qs g1 sx.2.1.2 gu,Qs hj sx.2.2.1 he,Qs hq sx.2.2.2.1 hh,Qs i1 sx.2.2.2.2.1 ha,Qs hu sx.2.2.2.2.2.1 hc,Qn sx.2.2.2.2.2.2] 33:=sN
 have BM:Qr g8 (c0.heap.size + 1) #[Qs ma mn mc] 36:=by rw [<- F];exact kH bD2
 have nb:c0.heap.size + 2<=g8.heap.size:=bB3
 clear F
 obtain ⟨BX,BT,BY,BZ,BB,BC⟩:=xP
 obtain ⟨XO,TO,YO,ZO,Y,CO,SO,MO⟩:=xD
 replace EE:=(tQ EE hb)
 clear hb
 go_wp2_with fail
 refine (kMb (ad.below EE)).mono ?_
 rintro e c2 ⟨n2,L,rfl,hO,nd,hb⟩
 have nl:=hb.size
 obtain ⟨BX,BT,BY,BZ,BB,BC⟩:=xP
 replace BS:=kC BS hb
 replace BM:=kC BM hb
 obtain ⟨XO,TO,YO,ZO,Y,CO,SO,MO⟩:=xD
 replace EE:=(tQ EE hb)
 clear hb
 obtain ⟨dq,d5,dx,d7,dv,d8,eh,em,ei,ej,el,ek,rfl⟩:=yj hO.rd.1
 clear nd
 have DO:=yD (hO)
 clear hO
 go_upto_region 11 with fail
 generalize F:World.alloc c2 _=jx
 have U:Qb c2 jx:=rT
 have BD:Qr jx c2.heap.size #[Qs dq L.1 d5,Qn L.2.1.1,Qs dx L.2.1.2 d7,Qs dv L.2.2.1 d8,Qs eh L.2.2.2.1 em,Qs ei L.2.2.2.2.1 ej,Qs el L.2.2.2.2.2.1 ek,Qn L.2.2.2.2.2.2] 33:=vD
 have nf:c2.heap.size + 1<=jx.heap.size:=bB3
 clear F
 replace BX:=kC BX U
 replace BT:=kC BT U
 replace BY:=kC BY U
 replace BZ:=kC BZ U
 replace BB:=kC BB U
 replace BC:=kC BC U
 replace BS:=kC BS U
 replace BM:=kC BM U
 replace XO:=yD (XO.out.below U)
 replace TO:=yD (TO.out.below U)
 replace YO:=yD (YO.out.below U)
 replace ZO:=yD (ZO.out.below U)
 replace Y:=yD (Y.out.below U)
 replace CO:=yD (CO.out.below U)
 replace SO:=yD (SO.out.below U)
 replace MO:=yD (MO.out.below U)
 replace DO:=yD (DO.out.below U)
 replace EE:=(tQ EE U)
 clear U
 go_wp2_with fail
 refine (kKm (ad.below EE)).mono ?_
 rintro e gl ⟨n0,ex,nv,fx,rfl,hE,hF,hb⟩
 have nh:=hb.size
 obtain ⟨BX,BT,BY,BZ,BB,BC⟩:=xP
 obtain ⟨BS,BM,BD⟩:=GM
 obtain ⟨XO,TO,YO,ZO,Y,CO,SO,MO⟩:=xD
 replace DO:=yD (DO.out.below hb)
 replace EE:=(tQ EE hb)
 clear hb
 obtain ⟨j7,h0,io,ht,i7,j0,i8,i4,h7,h6,ip,js,rfl⟩:=yj hE.rd.1
 obtain ⟨ho,h4,hs,it,ib,ic,i9,i3,jk,j3,hz,h2,rfl⟩:=yj hF.rd.1
 have EO:=yD (hE)
 have FO:=yD (hF)
 clear hE hF
 go_upto_region 12 with fail
 generalize F:World.alloc (World.alloc gl _) _=g9
 have hb:Qb gl g9:=by rw [<- F];exact (bR.alloc nL _).alloc bD2 _
 have BE:Qr g9 gl.heap.size #[Qs j7 ex.1 h0,Qn ex.2.1.1,Qs io ex.2.1.2 ht,Qs i7 ex.2.2.1 j0,Qs i8 ex.2.2.2.1 i4,Qs h7 ex.2.2.2.2.1 h6,Qs ip ex.2.2.2.2.2.1 js,Qn ex.2.2.2.2.2.2] 33:=sN
 have BF:Qr g9 (gl.heap.size + 1) #[Qs ho fx.1 h4,Qn fx.2.1.1,Qs hs fx.2.1.2 it,Qs ib fx.2.2.1 ic,Qs i9 fx.2.2.2.1 i3,Qs jk fx.2.2.2.2.1 j3,Qs hz fx.2.2.2.2.2.1 h2,Qn fx.2.2.2.2.2.2] 33:=by rw [<- F];exact kH bD2
 have ne:gl.heap.size + 2<=g9.heap.size:=bB3
 clear F
 obtain ⟨BX,BT,BY,BZ,BB,BC⟩:=xP
 obtain ⟨BS,BM,BD⟩:=GM
 obtain ⟨XO,TO,YO,ZO,Y,CO,SO,MO⟩:=xD
 obtain ⟨DO,EO,FO⟩:=EK
 replace EE:=(tQ EE hb)
 clear hb
 go_wp2_with fail
 refine (kOn (ad.below EE)).mono ?_
 rintro e nm ⟨g,rfl,⟨ny,ez⟩,hb⟩
 have nk:=hb.size
 obtain ⟨BX,BT,BY,BZ,BB,BC⟩:=xP
 obtain ⟨BS,BM,BD⟩:=GM
 replace BE:=kC BE hb
 replace BF:=kC BF hb
 obtain ⟨XO,TO,YO,ZO,Y,CO,SO,MO⟩:=xD
 obtain ⟨DO,EO,FO⟩:=EK
 replace EE:=(tQ EE hb)
 clear hb
 obtain ⟨lo,d3⟩:∃ l,outF sx mn ga=l:=⟨_,rfl⟩
 obtain ⟨kx,hf⟩:∃ l,kNs L=l:=⟨_,rfl⟩
 have ed:=yD d3;have g2:=yD hf
 clear d3 hf
 obtain ⟨fn,ff,fw,f2,fr,fv,f5,f7⟩:=yL BS
 have f1:Qc nm (c0.heap.size + 1) 0 (.slice ma mn.length mc):=kE BM rfl
 go_wp2_with fail
 refine (kMc (cx:=[.slice hd sx.1.length hl,.int .i64 sx.2.1.1,.slice g1 sx.2.1.2.length gu,.slice hj sx.2.2.1.length he,.slice hq sx.2.2.2.1.length hh,.slice i1 sx.2.2.2.2.1.length ha,.slice hu sx.2.2.2.2.2.1.length hc,.int .i64 sx.2.2.2.2.2.2]) SO.out.rd (cn:=[.slice ma mn.length mc]) MO.out.rd (ex:=ga) bD1).mono ?_
 rintro e b8 ⟨v,rfl,hO,hb⟩
 have dr:=hb.size
 obtain ⟨BX,BT,BY,BZ,BB,BC⟩:=xP
 obtain ⟨BS,BM,BD⟩:=GM
 replace BE:=kC BE hb
 replace BF:=kC BF hb
 obtain ⟨XO,TO,YO,ZO,Y,CO,SO,MO⟩:=xD
 obtain ⟨DO,EO,FO⟩:=EK
 replace EE:=(tQ EE hb)
 clear fn ff fw f2 fr fv f5 f7 f1
 clear hb
 rw [ed.out] at hO
 obtain ⟨la,lc,rfl,_⟩:=kD.sl hO.raw
 have LO:=yD (hO)
 clear hO
 obtain ⟨a4,ay,b1,cv,cd,d0,dz,d1⟩:=yL BD
 go_wp2_with fail
 refine (kTi (cx:=[.slice dq L.1.length d5,.int .i64 L.2.1.1,.slice dx L.2.1.2.length d7,.slice dv L.2.2.1.length d8,.slice eh L.2.2.2.1.length em,.slice ei L.2.2.2.2.1.length ej,.slice el L.2.2.2.2.2.1.length ek,.int .i64 L.2.2.2.2.2.2]) DO.out.rd).mono ?_
 rintro e a6 ⟨cs,rfl,hO,hb⟩
 have ee:=hb.size
 obtain ⟨BX,BT,BY,BZ,BB,BC⟩:=xP
 obtain ⟨BS,BM,BD⟩:=GM
 replace BE:=kC BE hb
 replace BF:=kC BF hb
 obtain ⟨XO,TO,YO,ZO,Y,CO,SO,MO⟩:=xD
 obtain ⟨DO,EO,FO⟩:=EK
 replace LO:=yD (LO.out.below hb)
 replace EE:=(tQ EE hb)
 clear a4 ay b1 cv cd d0 dz d1
 clear hb
 rw [g2.out] at hO
 obtain ⟨gg,gc,ge,f8,gm,gf,gq,gh,gi,gn,gs,gp,rfl⟩:=yj hO.raw
 have KO:=yD (hO)
 clear hO
 go_upto_region 15 with fail
 generalize F:World.alloc a6 _=eb
 have J:Qb a6 eb:=rT
 have BK:Qr eb a6.heap.size #[Qs gg kx.1 gc,Qn kx.2.1.1,Qs ge kx.2.1.2 f8,Qs gm kx.2.2.1 gf,Qs gq kx.2.2.2.1 gh,Qs gi kx.2.2.2.2.1 gn,Qs gs kx.2.2.2.2.2.1 gp,Qn kx.2.2.2.2.2.2] 33:=vD
 have g7:a6.heap.size + 1<=eb.heap.size:=bB3
 clear F
 replace BX:=kC BX J
 replace BT:=kC BT J
 replace BY:=kC BY J
 replace BZ:=kC BZ J
 replace BB:=kC BB J
 replace BC:=kC BC J
 replace BS:=kC BS J
 replace BM:=kC BM J
 replace BD:=kC BD J
 replace BE:=kC BE J
 replace BF:=kC BF J
 replace XO:=yD (XO.out.below J)
 replace TO:=yD (TO.out.below J)
 replace YO:=yD (YO.out.below J)
 replace ZO:=yD (ZO.out.below J)
 replace Y:=yD (Y.out.below J)
 replace CO:=yD (CO.out.below J)
 replace SO:=yD (SO.out.below J)
 replace MO:=yD (MO.out.below J)
 replace DO:=yD (DO.out.below J)
 replace EO:=yD (EO.out.below J)
 replace FO:=yD (FO.out.below J)
 replace LO:=yD (LO.out.below J)
 replace KO:=yD (KO.out.below J)
 replace EE:=(tQ EE J)
 clear J
 obtain ⟨be,m7⟩:∃ b,decide (ex=fx)=b:=⟨_,rfl⟩
 obtain ⟨bv,mh⟩:∃ b,ze x=b:=⟨_,rfl⟩
 obtain ⟨sz,az⟩:∃ b,kOr L=b:=⟨_,rfl⟩
 have hp:=yD m7;have ll:=yD mh;have ec:=yD az
 clear m7 mh az
 have e1:(bo != bo)=false:=bD2
 have e2:(bt != bt)=false:=bD2
 have e3:(be != be)=false:=bD2
 have e4:(bv != bv)=false:=bD2
 have e5:(sz != sz)=false:=bD2
 obtain ⟨aq,ah,ag,ai,ac,aw,au,ar⟩:=yL BY
 obtain ⟨jt,iy,j4,iv,j5,hk,jj,h8⟩:=yL BZ
 obtain ⟨h3,hm,iq,hw,ij⟩:=yI BB
 obtain ⟨iz,id,jp,i6,iu⟩:=yI BC
 obtain ⟨fn,ff,fw,f2,fr,fv,f5,f7⟩:=yL BS
 have f1:Qc eb (c0.heap.size + 1) 0 (.slice ma mn.length mc):=kE BM rfl
 obtain ⟨av,a2,dw,dm,dt,du,dn,dp⟩:=yL BK
 obtain ⟨a4,ay,b1,cv,cd,d0,dz,d1⟩:=yL BD
 obtain ⟨j2,ju,i0,j8,im,jz,hv,il⟩:=yL BE
 obtain ⟨ie,ig,i5,hr,iw,ir,i2,ia⟩:=yL BF
 obtain ⟨ae,af,b7,b4,b6,c6,c7,c9⟩:=yL BX
 have FX:=yD (λ(W:World) (hW:Qb eb W)=>cLs8 hW aq ah ag ai ac aw au ar)
 refine jo (λW=>Qb eb W) [(0,true),(1,true),(2,false),(3,true),(4,true),(5,true),(6,true),(7,true),(8,true),(9,true),(10,true),(11,true),(12,false),(13,true),(14,true),(15,true),(16,true),(17,true),(18,true),(19,true),(20,true),(21,true),(22,true),(23,true),(24,true),(25,false),(26,false),(27,true),(28,true),(29,true),(30,true),(31,true),(32,false),(33,false),(34,true),(35,true),(36,true),(37,true),(38,true),(40,true),(41,true),(39,false),(42,false),(43,true),(44,true),(45,true),(46,true),(48,true),(47,false),(49,false),(50,false),(51,true),(52,true),(53,true),(54,true),(56,true),(55,false),(57,false),(58,true),(59,true),(60,true),(61,true),(63,true),(62,false),(64,false),(65,true),(66,true)] bC5 (kUy bC5) pY (bR.drew) ?_
 intro wS E
 simp only [jB,Aa,Ab,Ac,Ad]
 all_goals refine kX ?_
 all_goals first|(refine kG rfl E ?_)|(refine kw (v:=?_) rfl (λW hW=>?_) ?_;rotate_left;(· have mf:=cL hW jt;have l1:=cL hW iy;have mj:=cL hW j4;have mw:=cL hW iv;have kb:=cL hW j5;have m2:=cL hW hk;have km:=cL hW jj;have k6:=cL hW h8;clear hW;go_simp;try with_reducible rfl))
 all_goals refine jD ?_
 all_goals first|(refine kG rfl E ?_)|(refine kY rfl (λK H=>?_);go_simp;refine (kBj (cx:=[.slice a7 R.1.length bc,.int .i64 R.2.1.1,.slice b0 R.2.1.2.length bz,.slice bh R.2.2.1.length bq,.slice db R.2.2.2.1.length a9,.slice c8 R.2.2.2.2.1.length ba,.slice dc R.2.2.2.2.2.1.length b2,.int .i64 R.2.2.2.2.2.2]) (YO.out.below E).raw (cy:=[.slice lz R.1.length m6,.int .i64 R.2.1.1,.slice mz R.2.1.2.length m0,.slice mm R.2.2.1.length k0,.slice kt R.2.2.2.1.length me,.slice ls R.2.2.2.2.1.length mp,.slice lu R.2.2.2.2.2.1.length m1,.int .i64 R.2.2.2.2.2.2]) (ZO.out.below E).raw).mono ?_;rintro e wS1 ⟨D,X⟩;have o:e=.returned (.bool true):=D.trans bD2;subst o;clear D;replace E:=(tQ E X);refine H _ _ E ?_;clear H K X)
 all_goals refine jD ?_
 all_goals refine kX ?_
 all_goals (refine jd λb O=>?_;cases b <;> try simp only [jc] at O)
 iterate 4
  all_goals refine kX ?_
 all_goals (refine jd λb c4=>?_;cases b <;> try simp only [jc] at c4)
 all_goals first|(refine kG rfl E ?_)|(refine kw (v:=?_) rfl (λW hW=>?_) ?_;rotate_left;(· have l5:=cL hW h3;have li:=cL hW hm;have lf:=cL hW iq;have lq:=cL hW hw;have lb:=cL hW ij;clear hW;go_simp;try with_reducible rfl))
 all_goals refine jD ?_
 all_goals first|(refine kG rfl E ?_)|(refine kw (v:=?_) rfl (λW hW=>?_) ?_;rotate_left;(· have k3:=cL hW iz;have ki:=cL hW id;have kf:=cL hW jp;have mx:=cL hW i6;have kh:=cL hW iu;clear hW;go_simp;try with_reducible rfl))
 all_goals refine jD ?_
 all_goals first|(refine kG rfl E ?_)|(refine kY rfl (λK H=>?_);go_simp;refine (kBx (cx:=[.slice f9 fd.1.length mq,.slice e0 fd.2.1.length l7,.slice b5 fd.2.2.1.length l2,.int .i64 fd.2.2.2.1,.int .i64 fd.2.2.2.2]) (Y.out.below E).raw (cy:=[.slice gr fd.1.length m4,.slice lh fd.2.1.length lk,.slice gt fd.2.2.1.length kd,.int .i64 fd.2.2.2.1,.int .i64 fd.2.2.2.2]) (CO.out.below E).raw).mono ?_;rintro e wS1 ⟨D,X⟩;have o:e=.returned (.bool true):=D.trans bD2;subst o;clear D;replace E:=(tQ E X);refine H _ _ E ?_;clear H K X)
 all_goals refine jD ?_
 all_goals refine kX ?_
 all_goals refine kX ?_
 all_goals (refine jd λb a3=>?_;cases b <;> try simp only [jc] at a3)
 iterate 4
  all_goals refine kX ?_
 all_goals (refine jd λb de=>?_;cases b <;> try simp only [jc] at de)
 all_goals refine kX ?_
 all_goals first|(refine kG rfl E ?_)|(refine kw (v:=?_) rfl (λW hW=>?_) ?_;rotate_left;(· have lg:=cL hW fn;have k5:=cL hW ff;have lx:=cL hW fw;have kn:=cL hW f2;have my:=cL hW fr;have lv:=cL hW fv;have l0:=cL hW f5;have m3:=cL hW f7;clear hW;go_simp;try with_reducible rfl))
 all_goals refine jD ?_
 all_goals first|(refine kG rfl E ?_)|(refine kw (v:=?_) rfl (λW hW=>?_) ?_;rotate_left;(· have l3:=cL hW f1;clear hW;go_simp;try with_reducible rfl))
 all_goals refine jD ?_
 all_goals refine kX ?_
 all_goals first|(refine kG rfl E ?_)|(refine kY rfl (λK H=>?_);go_simp;refine (kMa (cx:=[.slice hd sx.1.length hl,.int .i64 sx.2.1.1,.slice g1 sx.2.1.2.length gu,.slice hj sx.2.2.1.length he,.slice hq sx.2.2.2.1.length hh,.slice i1 sx.2.2.2.2.1.length ha,.slice hu sx.2.2.2.2.2.1.length hc,.int .i64 sx.2.2.2.2.2.2]) (SO.out.below E).rd (cn:=[.slice ma mn.length mc]) (MO.out.below E).rd (ex:=ga) bD1).mono ?_;rintro e wS1 ⟨v1,rfl,O1,X⟩;rw [ed.out] at O1;obtain ⟨g1,gu,rfl,_⟩:=kD.sl O1.raw;have P1:=yD O1;clear O1;replace E:=(tQ E X);refine H _ _ E ?_;clear H K X)
 all_goals refine jD ?_
 all_goals first|(refine kG rfl E ?_)|(refine kY rfl (λK H=>?_);go_simp;refine (kVy (LO.out.below E).raw P1.out.raw).mono ?_;rintro e wS1 ⟨D,X⟩;have o:e=.returned (.bool true):=D.trans bD2;subst o;clear D;replace E:=(tQ E X);clear P1;refine H _ _ E ?_;clear H K X)
 all_goals refine jD ?_
 all_goals refine kX ?_
 all_goals refine kX ?_
 all_goals (refine jd λb k8=>?_;cases b <;> try simp only [jc] at k8)
 all_goals first|(refine kG rfl E ?_)|(refine kw (v:=?_) rfl (λW hW=>?_) ?_;rotate_left;(· have dh:=cL hW av;have di:=cL hW a2;have df:=cL hW dw;have dl:=cL hW dm;have dj:=cL hW dt;have c5:=cL hW du;have dk:=cL hW dn;have dg:=cL hW dp;clear hW;go_simp;try with_reducible rfl))
 all_goals refine jD ?_
 all_goals first|(refine kG rfl E ?_)|(refine kw (v:=?_) rfl (λW hW=>?_) ?_;rotate_left;(· have g6:=cL hW a4;have gy:=cL hW ay;have gz:=cL hW b1;have gx:=cL hW cv;have g3:=cL hW cd;have g0:=cL hW d0;have g5:=cL hW dz;have gw:=cL hW d1;clear hW;go_simp;try with_reducible rfl))
 all_goals refine jD ?_
 all_goals first|(refine kG rfl E ?_)|(refine kY rfl (λK H=>?_);go_simp;refine (kSp (cx:=[.slice dq L.1.length d5,.int .i64 L.2.1.1,.slice dx L.2.1.2.length d7,.slice dv L.2.2.1.length d8,.slice eh L.2.2.2.1.length em,.slice ei L.2.2.2.2.1.length ej,.slice el L.2.2.2.2.2.1.length ek,.int .i64 L.2.2.2.2.2.2]) (DO.out.below E).rd).mono ?_;rintro e wS1 ⟨nz,rfl,O1,X⟩;rw [g2.out] at O1;have P1:=yD O1;clear O1;replace E:=(tQ E X);refine H _ _ E ?_;clear H K X)
 all_goals refine jD ?_
 all_goals first|(refine kG rfl E ?_)|(refine kY rfl (λK H=>?_);go_simp;refine (kBj (cx:=[.slice gg kx.1.length gc,.int .i64 kx.2.1.1,.slice ge kx.2.1.2.length f8,.slice gm kx.2.2.1.length gf,.slice gq kx.2.2.2.1.length gh,.slice gi kx.2.2.2.2.1.length gn,.slice gs kx.2.2.2.2.2.1.length gp,.int .i64 kx.2.2.2.2.2.2]) (KO.out.below E).raw P1.out.raw).mono ?_;rintro e wS1 ⟨D,X⟩;have o:e=.returned (.bool true):=D.trans bD2;subst o;clear D;replace E:=(tQ E X);clear P1;refine H _ _ E ?_;clear H K X)
 all_goals refine jD ?_
 all_goals refine kX ?_
 all_goals refine kX ?_
 all_goals (refine jd λb kv=>?_;cases b <;> try simp only [jc] at kv)
 iterate 2
  all_goals first|(refine kG rfl E ?_)|(refine kw (v:=?_) rfl (λW hW=>?_) ?_;rotate_left;(· have lp:=cL hW j2;have l4:=cL hW ju;have mr:=cL hW i0;have kc:=cL hW j8;have lm:=cL hW im;have ke:=cL hW jz;have mv:=cL hW hv;have ml:=cL hW il;clear hW;go_simp;try with_reducible rfl))
  all_goals refine jD ?_
  all_goals first|(refine kG rfl E ?_)|(refine kw (v:=?_) rfl (λW hW=>?_) ?_;rotate_left;(· have k2:=cL hW ie;have ks:=cL hW ig;have ln:=cL hW i5;have ld:=cL hW hr;have mi:=cL hW iw;have le:=cL hW ir;have mg:=cL hW i2;have k1:=cL hW ia;clear hW;go_simp;try with_reducible rfl))
  all_goals refine jD ?_
 all_goals first|(refine kG rfl E ?_)|(refine kY rfl (λK H=>?_);go_simp;refine (kQo (cx:=[.slice j7 ex.1.length h0,.int .i64 ex.2.1.1,.slice io ex.2.1.2.length ht,.slice i7 ex.2.2.1.length j0,.slice i8 ex.2.2.2.1.length i4,.slice h7 ex.2.2.2.2.1.length h6,.slice ip ex.2.2.2.2.2.1.length js,.int .i64 ex.2.2.2.2.2.2]) (EO.out.below E).rd.1 (cy:=[.slice ho fx.1.length h4,.int .i64 fx.2.1.1,.slice hs fx.2.1.2.length it,.slice ib fx.2.2.1.length ic,.slice i9 fx.2.2.2.1.length i3,.slice jk fx.2.2.2.2.1.length j3,.slice hz fx.2.2.2.2.2.1.length h2,.int .i64 fx.2.2.2.2.2.2]) (FO.out.below E).rd.1).mono ?_;rintro e wS1 ⟨D,X⟩;have o:e=.returned (.bool be):=D.trans (by rw [hp.out]);subst o;clear D;replace E:=(tQ E X);refine H _ _ E ?_;clear H K X)
 all_goals refine jD ?_
 all_goals first|(refine kG rfl E ?_)|(refine kY rfl (λK H=>?_);go_simp;refine (kBj (cx:=[.slice j7 ex.1.length h0,.int .i64 ex.2.1.1,.slice io ex.2.1.2.length ht,.slice i7 ex.2.2.1.length j0,.slice i8 ex.2.2.2.1.length i4,.slice h7 ex.2.2.2.2.1.length h6,.slice ip ex.2.2.2.2.2.1.length js,.int .i64 ex.2.2.2.2.2.2]) (EO.out.below E).rd.1 (cy:=[.slice ho fx.1.length h4,.int .i64 fx.2.1.1,.slice hs fx.2.1.2.length it,.slice ib fx.2.2.1.length ic,.slice i9 fx.2.2.2.1.length i3,.slice jk fx.2.2.2.2.1.length j3,.slice hz fx.2.2.2.2.2.1.length h2,.int .i64 fx.2.2.2.2.2.2]) (FO.out.below E).rd.1).mono ?_;rintro e wS1 ⟨D,X⟩;have o:e=.returned (.bool be):=D.trans (by rw [hp.out]);subst o;clear D;replace E:=(tQ E X);refine H _ _ E ?_;clear H K X)
 all_goals refine jD ?_
 all_goals refine kX ?_
 all_goals refine kX ?_
 all_goals (refine jd λb ms=>?_;cases b <;> try simp only [jc] at ms)
 all_goals refine kX ?_
 all_goals refine kX ?_
 all_goals first|(refine kG rfl E ?_)|(refine kY rfl (λK H=>?_);go_simp;refine (kXn (c:=g) bD1).mono ?_;rintro e wS1 ⟨nu,rfl,O1,X⟩;have P1:=yD O1;clear O1;replace E:=(tQ E X);refine H _ _ E ?_;clear H K X)
 all_goals refine jD ?_
 all_goals first|(refine kG rfl E ?_)|(refine kY rfl (λK H=>?_);go_simp;refine (kMu (c:=g) bD1).mono ?_;rintro e wS1 ⟨nt,rfl,O1,X⟩;have P2:=yD O1;replace P1:=yD (P1.out.below X);clear O1;replace E:=(tQ E X);refine H _ _ E ?_;clear H K X)
 all_goals refine jD ?_
 all_goals first|(refine kG rfl E ?_)|(refine kY rfl (λK H=>?_);go_simp;refine (kBj P1.out.raw P2.out.raw).mono ?_;rintro e wS1 ⟨D,X⟩;have o:e=.returned (.bool true):=D.trans bD2;subst o;clear D;replace E:=(tQ E X);clear P1 P2;refine H _ _ E ?_;clear H K X)
 all_goals refine jD ?_
 all_goals refine kX ?_
 all_goals refine kX ?_
 all_goals (refine jd λb mo=>?_;cases b <;> try simp only [jc] at mo)
 iterate 2
  all_goals first|(refine kG rfl E ?_)|(refine kw (v:=?_) rfl (λW hW=>?_) ?_;rotate_left;(· have lw:=cL hW ae;have mb:=cL hW af;have kj:=cL hW b7;have k9:=cL hW b4;have k4:=cL hW b6;have m5:=cL hW c6;have kk:=cL hW c7;have lr:=cL hW c9;clear hW;go_simp;try with_reducible rfl))
  all_goals refine jD ?_
 all_goals first|(refine kG rfl E ?_)|(refine kY rfl (λK H=>?_);go_simp;refine (zb (cx:=[.slice cl x.1.length cm,.int .i64 x.2.1.1,.slice b3 x.2.1.2.length cf,.slice ch x.2.2.1.length cg,.slice f4 x.2.2.2.1.length fk,.slice e7 x.2.2.2.2.1.length fg,.slice fb x.2.2.2.2.2.1.length e8,.int .i64 x.2.2.2.2.2.2]) (XO.out.below E).rd.1).mono ?_;rintro e wS1 ⟨D,X⟩;have o:e=.returned (.bool bv):=D.trans (by rw [ll.out]);subst o;clear D;replace E:=(tQ E X);refine H _ _ E ?_;clear H K X)
 all_goals refine jD ?_
 all_goals first|(refine kG rfl E ?_)|(refine kY rfl (λK H=>?_);go_simp;refine (kJo (cx:=[.slice cl x.1.length cm,.int .i64 x.2.1.1,.slice b3 x.2.1.2.length cf,.slice ch x.2.2.1.length cg,.slice f4 x.2.2.2.1.length fk,.slice e7 x.2.2.2.2.1.length fg,.slice fb x.2.2.2.2.2.1.length e8,.int .i64 x.2.2.2.2.2.2]) (XO.out.below E).rd.1).mono ?_;rintro e wS1 ⟨D,X⟩;have o:e=.returned (.bool bv):=D.trans (by rw [ll.out]);subst o;clear D;replace E:=(tQ E X);refine H _ _ E ?_;clear H K X)
 all_goals refine jD ?_
 all_goals refine kX ?_
 all_goals refine kX ?_
 all_goals (refine jd λb kp=>?_;cases b <;> try simp only [jc] at kp)
 iterate 2
  all_goals first|(refine kG rfl E ?_)|(refine kw (v:=?_) rfl (λW hW=>?_) ?_;rotate_left;(· have g6:=cL hW a4;have gy:=cL hW ay;have gz:=cL hW b1;have gx:=cL hW cv;have g3:=cL hW cd;have g0:=cL hW d0;have g5:=cL hW dz;have gw:=cL hW d1;clear hW;go_simp;try with_reducible rfl))
  all_goals refine jD ?_
 all_goals first|(refine kG rfl E ?_)|(refine kY rfl (λK H=>?_);go_simp;refine (kCt (cx:=[.slice dq L.1.length d5,.int .i64 L.2.1.1,.slice dx L.2.1.2.length d7,.slice dv L.2.2.1.length d8,.slice eh L.2.2.2.1.length em,.slice ei L.2.2.2.2.1.length ej,.slice el L.2.2.2.2.2.1.length ek,.int .i64 L.2.2.2.2.2.2]) (DO.out.below E).rd).mono ?_;rintro e wS1 ⟨D,X⟩;have o:e=.returned (.int .i64 sz):=D.trans bC4;subst o;clear D;replace E:=(tQ E X);refine H _ _ E ?_;clear H K X)
 all_goals refine jD ?_
 all_goals first|(refine kG rfl E ?_)|(refine kY rfl (λK H=>?_);go_simp;refine (kUt (cx:=[.slice dq L.1.length d5,.int .i64 L.2.1.1,.slice dx L.2.1.2.length d7,.slice dv L.2.2.1.length d8,.slice eh L.2.2.2.1.length em,.slice ei L.2.2.2.2.1.length ej,.slice el L.2.2.2.2.2.1.length ek,.int .i64 L.2.2.2.2.2.2]) (DO.out.below E).rd).mono ?_;rintro e wS1 ⟨D,X⟩;have o:e=.returned (.int .i64 sz):=D.trans bC4;subst o;clear D;replace E:=(tQ E X);refine H _ _ E ?_;clear H K X)
 all_goals refine jD ?_
 all_goals refine kX ?_
 all_goals refine kX ?_
 all_goals refine kR ?_
 have ka:=E.size
 replace BX:=kC BX E
 replace BT:=kC BT E
 replace BY:=kC BY E
 replace BZ:=kC BZ E
 replace BB:=kC BB E
 replace BC:=kC BC E
 replace BS:=kC BS E
 replace BM:=kC BM E
 replace BD:=kC BD E
 replace BE:=kC BE E
 replace BF:=kC BF E
 replace BK:=kC BK E
 replace XO:=yD (XO.out.below E)
 replace TO:=yD (TO.out.below E)
 replace YO:=yD (YO.out.below E)
 replace ZO:=yD (ZO.out.below E)
 replace Y:=yD (Y.out.below E)
 replace CO:=yD (CO.out.below E)
 replace SO:=yD (SO.out.below E)
 replace MO:=yD (MO.out.below E)
 replace DO:=yD (DO.out.below E)
 replace EO:=yD (EO.out.below E)
 replace FO:=yD (FO.out.below E)
 replace LO:=yD (LO.out.below E)
 replace KO:=yD (KO.out.below E)
 replace EE:=(tQ EE E)
 clear E
 clear e1 e2 e3 e4 e5 hp
 clear ZO Y CO SO MO EO FO
 clear BZ
 clear BB
 clear BC
 clear BS
 clear BM
 clear BE
 clear BF
 obtain ⟨bd,al⟩:∃ b,ze L=b:=⟨_,rfl⟩
 have ih:=yD al
 clear al
 have eg:ga ∉ lo:=by rw [<- ed.out];exact outF_but
 have l9:=yD eg
 clear eg
 have ng:Hid (ze L=true->ze kx=true):=yD (λh=>by rw [<- g2.out];exact crash_valid h)
 have hy:kOr kx<=kOr L:=by rw [<- g2.out];exact crash_size
 have am:kx.1=L.1:=by rw [<- g2.out];rfl
 have ly:=yD am
 clear am
 obtain ⟨G,dy⟩:∃ b,kOr kx=b:=⟨_,rfl⟩
 rw [dy,ec.out] at hy
 have ey:=yD dy
 clear dy
 have en:¬ G > sz:=bD1
 cases bd
 · have a4:Qd wS1 c2 0 (.slice dq L.1.length d5):=kE BD rfl;obtain ⟨ay,b1,cv,cd,d0,dz,d1⟩:=CK;obtain ⟨av,a2,dw,dm,dt,du,dn,dp⟩:=yL BK;go_upto_region 17 with fail;have FX:=yD (λ(W:World) (hW:Qb wS1 W)=>cLs8 hW a4 ay b1 cv cd d0 dz d1);refine jo (λW=>Qb wS1 W) [(0,true),(1,true),(2,false),(3,true),(4,true),(5,false),(6,true),(7,true),(8,false),(9,true),(10,true),(11,true),(12,true),(13,true),(14,true),(15,true),(16,true),(17,false),(18,true),(19,true),(20,true),(21,true),(23,true),(22,false),(24,false),(25,true),(26,true)] bC5 (kUy bC5) pY (bR.drew) ?_;intro wS E;simp only [jB,Aa,Ab,Ac,Ad];all_goals refine kX ?_
   all_goals refine kX ?_
   all_goals first|(refine kG rfl E ?_)|(refine kY rfl (λK H=>?_);go_simp;refine (lawsin_b (b:=ga) (LO.out.below E).raw).mono ?_;rintro e wS1 ⟨D,X⟩;have o:e=.returned (.bool false):=D.trans (by rw [decide_eq_false l9.out]);subst o;clear D;replace E:=(tQ E X);refine H _ _ E ?_;clear H K X)
   all_goals refine jD ?_
   all_goals (refine jd λb a1=>?_;cases b <;> try simp only [jc] at a1)
   all_goals refine kX ?_
   all_goals first|(refine kG rfl E ?_)|(refine kY rfl (λK H=>?_);go_simp;refine (zb (cx:=[.slice dq L.1.length d5,.int .i64 L.2.1.1,.slice dx L.2.1.2.length d7,.slice dv L.2.2.1.length d8,.slice eh L.2.2.2.1.length em,.slice ei L.2.2.2.2.1.length ej,.slice el L.2.2.2.2.2.1.length ek,.int .i64 L.2.2.2.2.2.2]) (DO.out.below E).rd.1).mono ?_;rintro e wS1 ⟨D,X⟩;have o:e=.returned (.bool false):=D.trans (by rw [ih.out]);subst o;clear D;replace E:=(tQ E X);refine H _ _ E ?_;clear H K X)
   all_goals refine jD ?_
   all_goals (refine jd λb c1=>?_;cases b <;> try simp only [jc] at c1)
   all_goals first|(refine kG rfl E ?_)|(refine kw (v:=?_) rfl (λW hW=>?_) ?_;rotate_left;(· have dh:=cL hW av;have di:=cL hW a2;have df:=cL hW dw;have dl:=cL hW dm;have dj:=cL hW dt;have c5:=cL hW du;have dk:=cL hW dn;have dg:=cL hW dp;clear hW;go_simp;try with_reducible rfl))
   all_goals refine jD ?_
   all_goals first|(refine kG rfl E ?_)|(refine kY rfl (λK H=>?_);go_simp;refine (zb (cx:=[.slice gg kx.1.length gc,.int .i64 kx.2.1.1,.slice ge kx.2.1.2.length f8,.slice gm kx.2.2.1.length gf,.slice gq kx.2.2.2.1.length gh,.slice gi kx.2.2.2.2.1.length gn,.slice gs kx.2.2.2.2.2.1.length gp,.int .i64 kx.2.2.2.2.2.2]) (KO.out.below E).raw).mono ?_;rintro e wS1 ⟨D,X⟩;have o:e=.returned (.bool (ze kx)):=D.trans (rfl);subst o;clear D;replace E:=(tQ E X);refine H _ _ E ?_;clear H K X)
   all_goals refine jD ?_
   iterate 3
    all_goals refine kX ?_
   all_goals (refine jd λb ab=>?_;cases b <;> try simp only [jc] at ab)
   all_goals refine kX ?_
   all_goals first|(refine kG rfl E ?_)|(refine kw (v:=?_) rfl (λW hW=>?_) ?_;rotate_left;(· have dh:=cL hW av;have di:=cL hW a2;have df:=cL hW dw;have dl:=cL hW dm;have dj:=cL hW dt;have c5:=cL hW du;have dk:=cL hW dn;have dg:=cL hW dp;clear hW;go_simp;try with_reducible rfl))
   all_goals refine jD ?_
   all_goals refine kX ?_
   all_goals refine kX ?_
   all_goals first|(refine kG rfl E ?_)|(refine kY rfl (λK H=>?_);go_simp;refine (kEo (kLo (KO.out.below E).raw) (kLo (DO.out.below E).rd.1)).mono ?_;rintro e wS1 ⟨D,X⟩;have o:e=.returned (.bool true):=D.trans (by rw [decide_eq_true ly.out]);subst o;clear D;replace E:=(tQ E X);refine H _ _ E ?_;clear H K X)
   all_goals refine jD ?_
   all_goals refine kX ?_
   all_goals refine kX ?_
   all_goals (refine jd λb de=>?_;cases b <;> try simp only [jc] at de)
   all_goals first|(refine kG rfl E ?_)|(refine kw (v:=?_) rfl (λW hW=>?_) ?_;rotate_left;(· have dh:=cL hW av;have di:=cL hW a2;have df:=cL hW dw;have dl:=cL hW dm;have dj:=cL hW dt;have c5:=cL hW du;have dk:=cL hW dn;have dg:=cL hW dp;clear hW;go_simp;try with_reducible rfl))
   all_goals refine jD ?_
   all_goals refine kX ?_
   all_goals first|(refine kG rfl E ?_)|(refine kY rfl (λK H=>?_);go_simp;refine (kCt (cx:=[.slice gg kx.1.length gc,.int .i64 kx.2.1.1,.slice ge kx.2.1.2.length f8,.slice gm kx.2.2.1.length gf,.slice gq kx.2.2.2.1.length gh,.slice gi kx.2.2.2.2.1.length gn,.slice gs kx.2.2.2.2.2.1.length gp,.int .i64 kx.2.2.2.2.2.2]) (KO.out.below E).rd).mono ?_;rintro e wS1 ⟨D,X⟩;have o:e=.returned (.int .i64 G):=D.trans (by rw [ey.out]);subst o;clear D;replace E:=(tQ E X);refine H _ _ E ?_;clear H K X)
   all_goals refine jD ?_
   all_goals first|(refine kG rfl E ?_)|(refine kY rfl (λK H=>?_);go_simp;refine (kCt (cx:=[.slice dq L.1.length d5,.int .i64 L.2.1.1,.slice dx L.2.1.2.length d7,.slice dv L.2.2.1.length d8,.slice eh L.2.2.2.1.length em,.slice ei L.2.2.2.2.1.length ej,.slice el L.2.2.2.2.2.1.length ek,.int .i64 L.2.2.2.2.2.2]) (DO.out.below E).rd).mono ?_;rintro e wS1 ⟨D,X⟩;have o:e=.returned (.int .i64 sz):=D.trans bC4;subst o;clear D;replace E:=(tQ E X);refine H _ _ E ?_;clear H K X)
   all_goals refine jD ?_
   all_goals refine kX ?_
   all_goals refine kX ?_
   all_goals refine kR ?_
   exact vEz
 have a4:Qd wS1 c2 0 (.slice dq L.1.length d5):=kE BD rfl
 obtain ⟨ay,b1,cv,cd,d0,dz,d1⟩:=CK
 obtain ⟨av,a2,dw,dm,dt,du,dn,dp⟩:=yL BK
 go_upto_region 17 with fail
 have FX:=yD (λ(W:World) (hW:Qb wS1 W)=>cLs8 hW a4 ay b1 cv cd d0 dz d1)
 refine jo (λW=>Qb wS1 W) [(0,true),(1,true),(2,false),(3,true),(4,true),(5,false),(6,true),(7,true),(8,false),(9,true),(10,true),(11,true),(12,true),(13,true),(14,true),(15,true),(16,true),(17,false),(18,true),(19,true),(20,true),(21,true),(23,true),(22,false),(24,false),(25,true),(26,true)] bC5 (kUy bC5) pY (bR.drew) ?_
 intro wS E
 simp only [jB,Aa,Ab,Ac,Ad]
 all_goals refine kX ?_
 all_goals refine kX ?_
 all_goals first|(refine kG rfl E ?_)|(refine kY rfl (λK H=>?_);go_simp;refine (lawsin_b (b:=ga) (LO.out.below E).raw).mono ?_;rintro e wS1 ⟨D,X⟩;have o:e=.returned (.bool false):=D.trans (by rw [decide_eq_false l9.out]);subst o;clear D;replace E:=(tQ E X);refine H _ _ E ?_;clear H K X)
 all_goals refine jD ?_
 all_goals (refine jd λb a1=>?_;cases b <;> try simp only [jc] at a1)
 all_goals refine kX ?_
 all_goals first|(refine kG rfl E ?_)|(refine kY rfl (λK H=>?_);go_simp;refine (zb (cx:=[.slice dq L.1.length d5,.int .i64 L.2.1.1,.slice dx L.2.1.2.length d7,.slice dv L.2.2.1.length d8,.slice eh L.2.2.2.1.length em,.slice ei L.2.2.2.2.1.length ej,.slice el L.2.2.2.2.2.1.length ek,.int .i64 L.2.2.2.2.2.2]) (DO.out.below E).rd.1).mono ?_;rintro e wS1 ⟨D,X⟩;have o:e=.returned (.bool true):=D.trans (by rw [ih.out]);subst o;clear D;replace E:=(tQ E X);refine H _ _ E ?_;clear H K X)
 all_goals refine jD ?_
 all_goals (refine jd λb c1=>?_;cases b <;> try simp only [jc] at c1)
 all_goals first|(refine kG rfl E ?_)|(refine kw (v:=?_) rfl (λW hW=>?_) ?_;rotate_left;(· have dh:=cL hW av;have di:=cL hW a2;have df:=cL hW dw;have dl:=cL hW dm;have dj:=cL hW dt;have c5:=cL hW du;have dk:=cL hW dn;have dg:=cL hW dp;clear hW;go_simp;try with_reducible rfl))
 all_goals refine jD ?_
 all_goals first|(refine kG rfl E ?_)|(refine kY rfl (λK H=>?_);go_simp;refine (zb (cx:=[.slice gg kx.1.length gc,.int .i64 kx.2.1.1,.slice ge kx.2.1.2.length f8,.slice gm kx.2.2.1.length gf,.slice gq kx.2.2.2.1.length gh,.slice gi kx.2.2.2.2.1.length gn,.slice gs kx.2.2.2.2.2.1.length gp,.int .i64 kx.2.2.2.2.2.2]) (KO.out.below E).raw).mono ?_;rintro e wS1 ⟨D,X⟩;have o:e=.returned (.bool true):=D.trans (by rw [ng.out ih.out]);subst o;clear D;replace E:=(tQ E X);refine H _ _ E ?_;clear H K X)
 all_goals refine jD ?_
 iterate 3
  all_goals refine kX ?_
 all_goals (refine jd λb ab=>?_;cases b <;> try simp only [jc] at ab)
 all_goals refine kX ?_
 all_goals first|(refine kG rfl E ?_)|(refine kw (v:=?_) rfl (λW hW=>?_) ?_;rotate_left;(· have dh:=cL hW av;have di:=cL hW a2;have df:=cL hW dw;have dl:=cL hW dm;have dj:=cL hW dt;have c5:=cL hW du;have dk:=cL hW dn;have dg:=cL hW dp;clear hW;go_simp;try with_reducible rfl))
 all_goals refine jD ?_
 all_goals refine kX ?_
 all_goals refine kX ?_
 all_goals first|(refine kG rfl E ?_)|(refine kY rfl (λK H=>?_);go_simp;refine (kEo (kLo (KO.out.below E).raw) (kLo (DO.out.below E).rd.1)).mono ?_;rintro e wS1 ⟨D,X⟩;have o:e=.returned (.bool true):=D.trans (by rw [decide_eq_true ly.out]);subst o;clear D;replace E:=(tQ E X);refine H _ _ E ?_;clear H K X)
 all_goals refine jD ?_
 all_goals refine kX ?_
 all_goals refine kX ?_
 all_goals (refine jd λb de=>?_;cases b <;> try simp only [jc] at de)
 all_goals first|(refine kG rfl E ?_)|(refine kw (v:=?_) rfl (λW hW=>?_) ?_;rotate_left;(· have dh:=cL hW av;have di:=cL hW a2;have df:=cL hW dw;have dl:=cL hW dm;have dj:=cL hW dt;have c5:=cL hW du;have dk:=cL hW dn;have dg:=cL hW dp;clear hW;go_simp;try with_reducible rfl))
 all_goals refine jD ?_
 all_goals refine kX ?_
 all_goals first|(refine kG rfl E ?_)|(refine kY rfl (λK H=>?_);go_simp;refine (kCt (cx:=[.slice gg kx.1.length gc,.int .i64 kx.2.1.1,.slice ge kx.2.1.2.length f8,.slice gm kx.2.2.1.length gf,.slice gq kx.2.2.2.1.length gh,.slice gi kx.2.2.2.2.1.length gn,.slice gs kx.2.2.2.2.2.1.length gp,.int .i64 kx.2.2.2.2.2.2]) (KO.out.below E).rd).mono ?_;rintro e wS1 ⟨D,X⟩;have o:e=.returned (.int .i64 G):=D.trans (by rw [ey.out]);subst o;clear D;replace E:=(tQ E X);refine H _ _ E ?_;clear H K X)
 all_goals refine jD ?_
 all_goals first|(refine kG rfl E ?_)|(refine kY rfl (λK H=>?_);go_simp;refine (kCt (cx:=[.slice dq L.1.length d5,.int .i64 L.2.1.1,.slice dx L.2.1.2.length d7,.slice dv L.2.2.1.length d8,.slice eh L.2.2.2.1.length em,.slice ei L.2.2.2.2.1.length ej,.slice el L.2.2.2.2.2.1.length ek,.int .i64 L.2.2.2.2.2.2]) (DO.out.below E).rd).mono ?_;rintro e wS1 ⟨D,X⟩;have o:e=.returned (.int .i64 sz):=D.trans bC4;subst o;clear D;replace E:=(tQ E X);refine H _ _ E ?_;clear H K X)
 all_goals refine jD ?_
 all_goals refine kX ?_
 all_goals refine kX ?_
 all_goals refine kR ?_
 exact vEz
end Go.Proofs.YtjhfdpopkkmigaaGreat

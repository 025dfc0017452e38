/-
  Nodes, copied.
-/
import Derived.Test.YtonmjkmaadgceaaGreatWoC
set_option linter.unusedVariables false
set_option linter.unusedSimpArgs false
set_option linter.unnecessarySimpa false
set_option maxRecDepth 100000
set_option maxHeartbeats 4000000
namespace Go.Proofs.YtonmjkmaadgceaaGreat
open Go.RowKit _root_.Go.Proofs.Tryz
theorem kRc {w:World} {vl:Value} {l:List jG} (hl:(kE.slice 43 jA).rd w [vl] l) :
    Calls prog 62 #[vl] w (zz 43 jA l w):=by
 have HL:=yD hl
 obtain ⟨la,lp,rfl,ll⟩:=kE.sl hl.1
 have bj:l.length≤16777216:=hl.2.1
 clear hl
 go_enter func62,ntmps62
 go_wp2
 go_loopw [3,9] (fun v i wr=>∃ k:Nat,k≤l.length∧i=.int .i64 k∧Hid (kE.ku 43 jA wr v (l.take k) (jR w.heap.size wr.heap.size))∧Below w.heap.size w wr) (fun _ i _=>l.length - (intOf i).toNat)
 case atStart=>exact ⟨0,Nat.zero_le _,rfl,yD kE.ku.void,bR.alloc nL _⟩
 obtain ⟨k,hk,rfl,L,D⟩:=hrel
 obtain ⟨oa,on,oc,ho,bl⟩:=L.out.parts;obtain rfl:=ho
 have a7:(l.take k).length≤k:=bB5
 have a5:=D.size
 by_cases hlt:k < l.length
 · obtain ⟨qb,qo,rfl,ah,ai,aj,ck,co,qr,a1,a4,bb,b0,b4⟩:=kE.get5 (HL.out.1.below D) hlt rfl
   obtain ⟨a9,b1⟩:=uJ
   generalize l[k]=x at *
   have bu:=yD b1;clear b1
   obtain ⟨x0,x1,x2,x3,x4⟩:=x
   obtain ⟨bq,cc,cj,aq,ar,ax,ap,bc,bv,bz,ci⟩:=jN qr
   simp only [List.cons.injEq,and_true] at aq
   obtain ⟨rfl,rfl,rfl,rfl,rfl⟩:=aq
   obtain ⟨ae,be,rfl,az⟩:=kE.sl ax
   obtain ⟨ao,br,rfl,bn⟩:=kE.sl ap
   obtain ⟨am,bt,rfl,bo⟩:=kE.sl bv
   have px:jA.rd wr _ (x0,x1,x2,x3,x4):=⟨qr,a9⟩
   go_upto_region 5 with fail
   generalize F:World.alloc wr _=R
   have EC:Below wr.heap.size wr R:=rX
   have ac:=EC.size
   obtain ⟨M0,M1⟩:=DI
   have M2:R.cell? ⟨wr.heap.size,2,none⟩=some (.slice am (x2).length bt):=tO
   have M3:R.cell? ⟨wr.heap.size,3,none⟩=some (.int .i64 x3):=tO
   have M4:R.cell? ⟨wr.heap.size,4,none⟩=some (.int .i64 x4):=tO
   clear F
   obtain ⟨L,ak⟩:=D7
   exact aN
 exact aO
theorem kQv {w:World} {vl:Value} {l:List jG} (hl:(kE.slice 43 jA).rd w [vl] l) :
    Calls prog 177 #[vl] w (zz 43 jA l w):=by
 have HL:=yD hl
 obtain ⟨la,lp,rfl,ll⟩:=kE.sl hl.1
 have bj:l.length≤16777216:=hl.2.1
 clear hl
 go_enter func177,ntmps177
 go_wp2
 go_loopw [3,4] (fun v i wr=>∃ k:Nat,k≤l.length∧i=.int .i64 k∧Hid (kE.ku 43 jA wr v (l.take k) (jR w.heap.size wr.heap.size))∧Below w.heap.size w wr) (fun _ i _=>l.length - (intOf i).toNat)
 case atStart=>exact ⟨0,Nat.zero_le _,rfl,yD kE.ku.void,bR.alloc nL _⟩
 obtain ⟨k,hk,rfl,L,D⟩:=hrel
 obtain ⟨oa,on,oc,ho,bl⟩:=L.out.parts;obtain rfl:=ho
 have a7:(l.take k).length≤k:=bB5
 have a5:=D.size
 by_cases hlt:k < l.length
 · obtain ⟨qb,qo,rfl,ah,ai,aj,ck,co,qr,a1,a4,bb,b0,b4⟩:=kE.get5 (HL.out.1.below D) hlt rfl
   obtain ⟨a9,b1⟩:=uJ
   generalize l[k]=x at *
   have bu:=yD b1;clear b1
   obtain ⟨x0,x1,x2,x3,x4⟩:=x
   obtain ⟨bq,cc,cj,aq,ar,ax,ap,bc,bv,bz,ci⟩:=jN qr
   simp only [List.cons.injEq,and_true] at aq
   obtain ⟨rfl,rfl,rfl,rfl,rfl⟩:=aq
   obtain ⟨ae,be,rfl,az⟩:=kE.sl ax
   obtain ⟨ao,br,rfl,bn⟩:=kE.sl ap
   obtain ⟨am,bt,rfl,bo⟩:=kE.sl bv
   have px:jA.rd wr _ (x0,x1,x2,x3,x4):=⟨qr,a9⟩
   go_wp2_with fail
   refine (kCm px).mono ?_
   rintro e wT ⟨tc,rfl,OT,au⟩
   obtain ⟨dh,el,eu,rfl,a2,bk,bm,b7,c2,dl,dj⟩:=jN OT.raw
   obtain ⟨av,bh,rfl,et⟩:=kE.sl bk
   obtain ⟨bd,cu,rfl,er⟩:=kE.sl bm
   obtain ⟨aw,bi,rfl,eo⟩:=kE.sl c2
   clear a2 bk bm b7 c2 dl dj
   have em:=au.size
   go_upto_region 6 with fail
   generalize a3:World.alloc wT _=wD
   have ED:Below wT.heap.size wT wD:=rU
   have ce:=ED.size
   have D0:wD.cell? ⟨wT.heap.size,0,none⟩=some (.slice av (x0).length bh):=tJ
   have D1:wD.cell? ⟨wT.heap.size,1,none⟩=some (.slice bd (x1).length cu):=tJ
   have D2:wD.cell? ⟨wT.heap.size,2,none⟩=some (.slice aw (x2).length bi):=tJ
   have D3:wD.cell? ⟨wT.heap.size,3,none⟩=some (.int .i64 x3):=tJ
   have D4:wD.cell? ⟨wT.heap.size,4,none⟩=some (.int .i64 x4):=tJ
   clear a3
   have af:=(tQ au ED)
   replace L:=yD (L.out.below af)
   have aa:=(tQ D af)
   go_wp2_with (at_builtin;refine kE.jK rfl _ _ 24 rfl (r:=jA) (e:=43) underlying24 kKv rfl bB8 bB8 (B:=w.heap.size) L.out bC1 bC1 rfl (kE.own.wide (T:=jR wr.heap.size wT.heap.size) (OT.below ED) mR) rfl mW rE mR bB9 bB9 ?_)
   exact aP
 exact aO
theorem kPd {w:World} {vl:Value} {l:List jL} (hl:(kE.slice 102 jT).rd w [vl] l) :
    Calls prog 66 #[vl] w (zz 102 jT l w):=by
 have HL:=yD hl
 obtain ⟨la,lp,rfl,ll⟩:=kE.sl hl.1
 have bj:l.length≤16777216:=hl.2.1
 clear hl
 go_enter func66,ntmps66
 go_wp2
 have O0:kE.ku 102 jT (w.alloc (.cells #[] 102)) (.slice (some ⟨w.heap.size,0,none⟩) 0 0) [] (jR w.heap.size (w.alloc (.cells #[] 102)).heap.size) :=
   kE.yV (e:=102) (r:=jT) (w:=w) (cs:=[]) (xs:=[]) (T:=fun _=>False) bC0 bC0 rfl (fun _ h=>h.elim) ⟨Nat.le_refl _,by simp⟩
 go_loopw [3,9] (fun v i wr=>∃ k:Nat,k≤l.length∧i=.int .i64 k∧Hid (kE.ku 102 jT wr v (l.take k) (jR w.heap.size wr.heap.size))∧Below w.heap.size w wr) (fun _ i _=>l.length - (intOf i).toNat)
 case atStart=>exact ⟨0,Nat.zero_le _,rfl,yD O0,bR.alloc nL _⟩
 clear O0
 obtain ⟨k,hk,rfl,L,D⟩:=hrel
 obtain ⟨oa,on,oc,ho,bl⟩:=L.out.parts;obtain rfl:=ho
 have a7:(l.take k).length≤k:=bB5
 by_cases hlt:k < l.length
 · obtain ⟨qb,qo,rfl,ah,ai,aj,qr,a1,a4,bb⟩:=kE.kDv (HL.out.1.below D) hlt rfl
   obtain ⟨a9,b1⟩:=uJ
   generalize l[k]=x at *
   have bu:=yD b1;clear b1
   obtain ⟨x0,x1,x2⟩:=x
   obtain ⟨bq,aq,ar,ax,ap,bc⟩:=kAy qr
   simp only [List.cons.injEq,and_true] at aq
   obtain ⟨rfl,rfl,rfl⟩:=aq
   obtain ⟨ae,be,rfl,az⟩:=kE.sl ax
   have U:kM.rd wr _ x0:=⟨ar,a9.1⟩
   go_upto_region 5 with fail
   generalize F:World.alloc wr _=R
   obtain ⟨EC,bo⟩:=CB
   obtain ⟨M0,M1,M2⟩:=r9
   clear F
   have FX:=yD (fun (W:World) (hW:Below R.heap.size R W)=>kMs hW M0 M1 M2)
   refine jO (fun W=>Below R.heap.size R W) [(0,true),(1,true),(2,true),(4,true),(5,true),(6,true),(7,true),(3,false),(8,true),(9,false)] bB4 bB4 qD (bR.drew) ?_
   intro wS E
   simp only [jD,List.length_cons,List.length_nil,List.getElem?_cons_succ,List.getElem?_cons_zero,List.map_cons,List.map_nil,List.cons_append,List.nil_append,List.drop_succ_cons,List.drop_zero]
   iterate 7
    all_goals refine kS ?_
   all_goals first|(refine kK rfl E ?_)|(refine ko rfl (fun K J=>?_);go_simp;refine (zG (U.below (tQ EC E))).mono ?_;rintro e al ⟨aw,rfl,O,au⟩;obtain ⟨X,rfl,N⟩:=kU O.raw;obtain ⟨ab,ak,rfl,Z⟩:=kE.sl N;skip;clear N;replace O:=yD O;have dt:=au.size;have cf:=E.size;replace E:=(tQ E au);refine J _ _ E ?_;clear J K au)
   all_goals refine kX ?_
   all_goals refine kS ?_
   all_goals first|(refine kK rfl E ?_)|(refine ko rfl (fun K J=>?_);go_simp;refine J _ _ (E.alloc E.size _) ?_;clear J K)
   all_goals refine kX ?_
   all_goals refine jq ?_
   obtain ⟨fg,ac,a5,af,L,aa⟩:=xD
   go_wp2_with (at_builtin;refine kE.jK rfl _ _ 30 rfl (r:=jT) (e:=102) underlying30 kKj rfl bB8 bB8 (B:=w.heap.size) L.out bC1 bC1 rfl (kE.own.wide (T:=jR wr.heap.size al.heap.size) (kE.jw (O.out) (kE.jr (kE.ky ap) (kE.ky bc))) mR) rfl mW rE mR bB9 sN ?_)
   exact aP
 exact aS
theorem kEi {w:World} {vl:Value} {l:List kT} (hl:(kE.slice 105 kL).rd w [vl] l) :
    Calls prog 67 #[vl] w (zz 105 kL l w):=by
 have HL:=yD hl
 obtain ⟨la,lp,rfl,ll⟩:=kE.sl hl.1
 have bj:l.length≤16777216:=hl.2.1
 clear hl
 go_enter func67,ntmps67
 go_wp2
 have O0:kE.ku 105 kL (w.alloc (.cells #[] 105)) (.slice (some ⟨w.heap.size,0,none⟩) 0 0) [] (jR w.heap.size (w.alloc (.cells #[] 105)).heap.size) :=
   kE.yV (e:=105) (r:=kL) (w:=w) (cs:=[]) (xs:=[]) (T:=fun _=>False) bC0 bC0 rfl (fun _ h=>h.elim) ⟨Nat.le_refl _,by simp⟩
 go_loopw [3,9] (fun v i wr=>∃ k:Nat,k≤l.length∧i=.int .i64 k∧Hid (kE.ku 105 kL wr v (l.take k) (jR w.heap.size wr.heap.size))∧Below w.heap.size w wr) (fun _ i _=>l.length - (intOf i).toNat)
 case atStart=>exact ⟨0,Nat.zero_le _,rfl,yD O0,bR.alloc nL _⟩
 clear O0
 obtain ⟨k,hk,rfl,L,D⟩:=hrel
 obtain ⟨oa,on,oc,ho,bl⟩:=L.out.parts;obtain rfl:=ho
 have a7:(l.take k).length≤k:=bB5
 by_cases hlt:k < l.length
 · obtain ⟨qb,qo,rfl,ah,ai,aj,qr,a1,a4,bb⟩:=kE.kDv (HL.out.1.below D) hlt rfl
   obtain ⟨a9,b1⟩:=uJ
   generalize l[k]=x at *
   have bu:=yD b1;clear b1
   obtain ⟨x0,x1,x2⟩:=x
   obtain ⟨bq,aq,ar,ax,ap,bc⟩:=yU qr
   simp only [List.cons.injEq,and_true] at aq
   obtain ⟨rfl,rfl,rfl⟩:=aq
   obtain ⟨ae,be,rfl,az⟩:=kE.sl ax
   have U:kM.rd wr _ x0:=⟨ar,a9.1⟩
   go_upto_region 5 with fail
   generalize F:World.alloc wr _=R
   obtain ⟨EC,bo⟩:=CB
   obtain ⟨M0,M1,M2⟩:=r9
   clear F
   have FX:=yD (fun (W:World) (hW:Below R.heap.size R W)=>kMs hW M0 M1 M2)
   refine jO (fun W=>Below R.heap.size R W) [(0,true),(1,true),(2,true),(4,true),(5,true),(6,true),(7,true),(3,false),(8,true),(9,false)] bB4 bB4 qD (bR.drew) ?_
   intro wS E
   simp only [jD,List.length_cons,List.length_nil,List.getElem?_cons_succ,List.getElem?_cons_zero,List.map_cons,List.map_nil,List.cons_append,List.nil_append,List.drop_succ_cons,List.drop_zero]
   iterate 7
    all_goals refine kS ?_
   all_goals first|(refine kK rfl E ?_)|(refine ko rfl (fun K J=>?_);go_simp;refine (zG (U.below (tQ EC E))).mono ?_;rintro e al ⟨aw,rfl,O,au⟩;obtain ⟨X,rfl,N⟩:=kU O.raw;obtain ⟨ab,ak,rfl,Z⟩:=kE.sl N;skip;clear N;replace O:=yD O;have dt:=au.size;have cf:=E.size;replace E:=(tQ E au);refine J _ _ E ?_;clear J K au)
   all_goals refine kX ?_
   all_goals refine kS ?_
   all_goals first|(refine kK rfl E ?_)|(refine ko rfl (fun K J=>?_);go_simp;refine J _ _ (E.alloc E.size _) ?_;clear J K)
   all_goals refine kX ?_
   all_goals refine jq ?_
   obtain ⟨fg,ac,a5,af,L,aa⟩:=xD
   go_wp2_with (at_builtin;refine kE.jK rfl _ _ 31 rfl (r:=kL) (e:=105) underlying31 yg rfl bB8 bB8 (B:=w.heap.size) L.out bC1 bC1 rfl (kE.own.wide (T:=jR wr.heap.size al.heap.size) (kE.jw (O.out) (kE.jr (kE.ky ap) (kE.ky bc))) mR) rfl mW rE mR bB9 sN ?_)
   exact aP
 exact aS
theorem kCv {w:World} {vl:Value} {l:List jL} (hl:(kE.slice 102 jT).rd w [vl] l) :
    Calls prog 118 #[vl] w (zz 102 jT l w):=by
 have HL:=yD hl
 obtain ⟨la,lp,rfl,ll⟩:=kE.sl hl.1
 have bj:l.length≤16777216:=hl.2.1
 clear hl
 go_enter func118,ntmps118
 go_wp2
 have O0:kE.ku 102 jT (w.alloc (.cells #[] 102)) (.slice (some ⟨w.heap.size,0,none⟩) 0 0) [] (jR w.heap.size (w.alloc (.cells #[] 102)).heap.size) :=
   kE.yV (e:=102) (r:=jT) (w:=w) (cs:=[]) (xs:=[]) (T:=fun _=>False) bC0 bC0 rfl (fun _ h=>h.elim) ⟨Nat.le_refl _,by simp⟩
 go_loopw [3,4] (fun v i wr=>∃ k:Nat,k≤l.length∧i=.int .i64 k∧Hid (kE.ku 102 jT wr v (l.take k) (jR w.heap.size wr.heap.size))∧Below w.heap.size w wr) (fun _ i _=>l.length - (intOf i).toNat)
 case atStart=>exact ⟨0,Nat.zero_le _,rfl,yD O0,bR.alloc nL _⟩
 clear O0
 obtain ⟨k,hk,rfl,L,D⟩:=hrel
 obtain ⟨oa,on,oc,ho,bl⟩:=L.out.parts;obtain rfl:=ho
 have a7:(l.take k).length≤k:=bB5
 by_cases hlt:k < l.length
 · obtain ⟨qb,qo,rfl,ah,ai,aj,qr,a1,a4,bb⟩:=kE.kDv (HL.out.1.below D) hlt rfl
   obtain ⟨a9,b1⟩:=uJ
   generalize l[k]=x at *
   have bu:=yD b1;clear b1
   obtain ⟨x0,x1,x2⟩:=x
   obtain ⟨bq,aq,ar,ax,ap,bc⟩:=kAy qr
   simp only [List.cons.injEq,and_true] at aq
   obtain ⟨rfl,rfl,rfl⟩:=aq
   obtain ⟨ae,be,rfl,az⟩:=kE.sl ax
   have U:kM.rd wr _ x0:=⟨ar,a9.1⟩
   go_wp2_with fail
   refine (zi U).mono ?_
   rintro e wT ⟨tc,rfl,OT,au⟩
   obtain ⟨dh,rfl,a2⟩:=kU OT.raw
   obtain ⟨av,bh,rfl,_⟩:=kE.sl a2
   clear a2
   go_upto_region 6 with fail
   generalize F:World.alloc wT _=R
   obtain ⟨EC,K0⟩:=xL
   clear F
   have ER:=(tQ au EC)
   replace a1:=cL ER a1
   replace a4:=cL ER a4
   replace bb:=cL ER bb
   have FX:=yD (fun (W:World) (hW:Below R.heap.size R W)=>kLd hW K0 a1 a4 bb)
   refine jd (fun W=>Below R.heap.size R W) [true,true,true,true,true,true,true,true,true,true,true,true,true,false] bB4 bB4 qD (bR.drew) ?_
   intro wS E
   iterate 13
    all_goals refine kS ?_
   all_goals first|(refine kK rfl E ?_)|(refine ko rfl (fun K J=>?_);go_simp;refine J _ _ (E.alloc E.size _) ?_;clear J K)
   all_goals refine kX ?_
   all_goals refine jq ?_
   obtain ⟨fg,ac,a5,em,af,L,aa⟩:=AQ
   go_wp2_with (at_builtin;refine kE.jK rfl _ _ 30 rfl (r:=jT) (e:=102) underlying30 kKj rfl bB8 bB8 (B:=w.heap.size) L.out bC1 bC1 rfl (kE.own.wide (T:=jR wr.heap.size wT.heap.size) (kE.jw (OT.below (tQ EC E)) (kE.jr (kE.ky ap) (kE.ky bc))) mR) rfl mW rE mR bB9 sN ?_)
   exact aP
 exact aS
theorem kEu {w:World} {vl:Value} {l:List kT} (hl:(kE.slice 105 kL).rd w [vl] l) :
    Calls prog 119 #[vl] w (zz 105 kL l w):=by
 have HL:=yD hl
 obtain ⟨la,lp,rfl,ll⟩:=kE.sl hl.1
 have bj:l.length≤16777216:=hl.2.1
 clear hl
 go_enter func119,ntmps119
 go_wp2
 have O0:kE.ku 105 kL (w.alloc (.cells #[] 105)) (.slice (some ⟨w.heap.size,0,none⟩) 0 0) [] (jR w.heap.size (w.alloc (.cells #[] 105)).heap.size) :=
   kE.yV (e:=105) (r:=kL) (w:=w) (cs:=[]) (xs:=[]) (T:=fun _=>False) bC0 bC0 rfl (fun _ h=>h.elim) ⟨Nat.le_refl _,by simp⟩
 go_loopw [3,4] (fun v i wr=>∃ k:Nat,k≤l.length∧i=.int .i64 k∧Hid (kE.ku 105 kL wr v (l.take k) (jR w.heap.size wr.heap.size))∧Below w.heap.size w wr) (fun _ i _=>l.length - (intOf i).toNat)
 case atStart=>exact ⟨0,Nat.zero_le _,rfl,yD O0,bR.alloc nL _⟩
 clear O0
 obtain ⟨k,hk,rfl,L,D⟩:=hrel
 obtain ⟨oa,on,oc,ho,bl⟩:=L.out.parts;obtain rfl:=ho
 have a7:(l.take k).length≤k:=bB5
 by_cases hlt:k < l.length
 · obtain ⟨qb,qo,rfl,ah,ai,aj,qr,a1,a4,bb⟩:=kE.kDv (HL.out.1.below D) hlt rfl
   obtain ⟨a9,b1⟩:=uJ
   generalize l[k]=x at *
   have bu:=yD b1;clear b1
   obtain ⟨x0,x1,x2⟩:=x
   obtain ⟨bq,aq,ar,ax,ap,bc⟩:=yU qr
   simp only [List.cons.injEq,and_true] at aq
   obtain ⟨rfl,rfl,rfl⟩:=aq
   obtain ⟨ae,be,rfl,az⟩:=kE.sl ax
   have U:kM.rd wr _ x0:=⟨ar,a9.1⟩
   go_wp2_with fail
   refine (zi U).mono ?_
   rintro e wT ⟨tc,rfl,OT,au⟩
   obtain ⟨dh,rfl,a2⟩:=kU OT.raw
   obtain ⟨av,bh,rfl,_⟩:=kE.sl a2
   clear a2
   go_upto_region 6 with fail
   generalize F:World.alloc wT _=R
   obtain ⟨EC,K0⟩:=xL
   clear F
   have ER:=(tQ au EC)
   replace a1:=cL ER a1
   replace a4:=cL ER a4
   replace bb:=cL ER bb
   have FX:=yD (fun (W:World) (hW:Below R.heap.size R W)=>kLd hW K0 a1 a4 bb)
   refine jd (fun W=>Below R.heap.size R W) [true,true,true,true,true,true,true,true,true,true,true,true,true,false] bB4 bB4 qD (bR.drew) ?_
   intro wS E
   iterate 13
    all_goals refine kS ?_
   all_goals first|(refine kK rfl E ?_)|(refine ko rfl (fun K J=>?_);go_simp;refine J _ _ (E.alloc E.size _) ?_;clear J K)
   all_goals refine kX ?_
   all_goals refine jq ?_
   obtain ⟨fg,ac,a5,em,af,L,aa⟩:=AQ
   go_wp2_with (at_builtin;refine kE.jK rfl _ _ 31 rfl (r:=kL) (e:=105) underlying31 yg rfl bB8 bB8 (B:=w.heap.size) L.out bC1 bC1 rfl (kE.own.wide (T:=jR wr.heap.size wT.heap.size) (kE.jw (OT.below (tQ EC E)) (kE.jr (kE.ky ap) (kE.ky bc))) mR) rfl mW rE mR bB9 sN ?_)
   exact aP
 exact aS
def kRn (x:yI) (w:World) (e:Ending) (w':World):Prop :=
  ∃ (v:Value) (ds:List Value) (mid:Nat),e=.returned (.agg (v :: ds).toArray)∧kE.ku 43 jA w' v x.1 (jR w.heap.size mid)∧(kE.pair kN (kE.pair (kE.slice 71 kJ) (kE.pair (kE.slice 123 jF) (kE.pair (kE.slice 102 jT) (kE.pair (kE.slice 105 kL) kE.int))))).own w' ds x.2 (jR mid w'.heap.size)∧w.heap.size≤mid∧mid≤w'.heap.size∧Below w.heap.size w w'
theorem kRn.made {x:yI} {w:World} {e:Ending} {w':World} (h:kRn x w e w') (hb:yA.bdd Big x):kAn yA x w e w':=by
 obtain ⟨v,ds,mid,rfl,h1,h2,h3,h4,h5⟩:=h
 refine ⟨v :: ds,rfl,?_,h5⟩
 exact kE.ja (r:=kE.slice 43 jA) (q:=(kE.pair kN (kE.pair (kE.slice 71 kJ) (kE.pair (kE.slice 123 jF) (kE.pair (kE.slice 102 jT) (kE.pair (kE.slice 105 kL) kE.int)))))) (cs:=[v]) (ds:=ds) (x:=x.1) (y:=x.2) (S:=jR w.heap.size w'.heap.size) (h1.own hb.1.1) h2 rE rF mW
theorem kJy {w:World} {cx:List Value} {x:yI} (hx:yA.rd w cx x):Calls prog 142 #[.agg cx.toArray] w (kRn x w):=by
 obtain ⟨q0,q1,q2,q3,q4,q5,q6⟩:=hx.2
 obtain ⟨ah,am,a4,aj,ap⟩:=CL
 obtain ⟨ez,e9,f9,f8,f2,f1,rfl,ac,ay,a3,a5,ba,bg,b2,da,dd⟩:=zf hx.1
 obtain ⟨cl,b6,rfl,e1⟩:=kE.sl ac
 obtain ⟨c6,c5,rfl,fa⟩:=kE.sl a5
 obtain ⟨dq,dp,rfl,f3⟩:=kE.sl ba
 obtain ⟨ee,eb,rfl,f7⟩:=kE.sl bg
 obtain ⟨d3,dw,rfl,gd⟩:=kE.sl b2
 obtain ⟨d4,dr,rfl,f5⟩:=kE.sl da
 obtain ⟨a1,ax,ao,a2,ar,aq⟩:=uF
 have gf:=yD dd
 clear hx q0 q1 q2 q3 q4 q5 q6 ac ay a3 a5 ba bg b2 da dd
 go_enter func142,ntmps142
 go_upto_region 1 with fail
 generalize H:World.alloc (World.alloc w _) _=N
 obtain ⟨Z,K0,K1,K2,K3,K4,K5,K6,K7⟩:=oO
 obtain ⟨XR,b8⟩:=y8
 clear H
 have FX:=yD (fun (W:World) (hW:Below N.heap.size N W)=>cLs8 hW K0 K1 K2 K3 K4 K5 K6 K7)
 refine jO (fun W=>Below N.heap.size N W) [(0,true),(1,true),(3,true),(4,true),(6,true),(7,true),(9,true),(10,true),(12,true),(13,true),(15,true),(16,true),(18,true),(19,true),(2,false),(5,false),(8,false),(11,false),(14,false),(17,false),(20,true)] bB4 bB4 qD (bR.drew) ?_
 intro wS E
 simp only [jD,List.length_cons,List.length_nil,List.getElem?_cons_succ,List.getElem?_cons_zero,List.map_cons,List.map_nil,List.cons_append,List.nil_append,List.drop_succ_cons,List.drop_zero]
 iterate 14
  all_goals refine kS ?_
 all_goals first|(refine kK rfl E ?_)|(refine ko rfl (fun K J=>?_);go_simp;refine (kQv (a1.out.below (tQ Z E))).mono ?_;rintro e u0 ⟨v1,rfl,O1,D⟩;obtain ⟨fm,av,fn,F,a8⟩:=O1.parts;obtain rfl:=F;have G:=yD O1;clear O1;have bb:=D.size;have dt:=E.size;replace E:=(tQ E D);refine J _ _ E ?_;clear J K D)
 all_goals refine kX ?_
 all_goals first|(refine kK rfl E ?_)|(refine ko rfl (fun K J=>?_);go_simp;refine (kLs (ax.out.below (tQ Z E))).mono ?_;rintro e u1 ⟨cs,rfl,O2,D⟩;obtain ⟨cv,rfl,e4,e5⟩:=jQ O2.raw;obtain ⟨fr,fp,rfl,_⟩:=kE.sl e5;have X:=yD O2;clear O2 e4 e5;replace G:=yD (G.out.below D);have az:=D.size;have b3:=E.size;replace E:=(tQ E D);refine J _ _ E ?_;clear J K D)
 all_goals refine kX ?_
 all_goals first|(refine kK rfl E ?_)|(refine ko rfl (fun K J=>?_);go_simp;refine (kHb (ao.out.below (tQ Z E))).mono ?_;rintro e u2 ⟨v1,rfl,O1,D⟩;obtain ⟨ej,af,ek,F,al⟩:=O1.parts;obtain rfl:=F;have ag:=yD (O1.own am.out);clear O1;replace G:=yD (G.out.below D);replace X:=yD (X.out.below D);have an:=D.size;have c7:=E.size;replace E:=(tQ E D);refine J _ _ E ?_;clear J K D)
 all_goals refine kX ?_
 all_goals first|(refine kK rfl E ?_)|(refine ko rfl (fun K J=>?_);go_simp;refine (kLq (a2.out.below (tQ Z E))).mono ?_;rintro e u3 ⟨v1,rfl,O1,D⟩;obtain ⟨ef,V,d9,F,ai⟩:=O1.parts;obtain rfl:=F;have ae:=yD (O1.own a4.out);clear O1;replace G:=yD (G.out.below D);replace X:=yD (X.out.below D);replace ag:=yD (ag.out.below D);have a7:=D.size;have d5:=E.size;replace E:=(tQ E D);refine J _ _ E ?_;clear J K D)
 all_goals refine kX ?_
 all_goals first|(refine kK rfl E ?_)|(refine ko rfl (fun K J=>?_);go_simp;refine (kCv (ar.out.below (tQ Z E))).mono ?_;rintro e u4 ⟨v1,rfl,O1,D⟩;obtain ⟨ab,R,aa,F,ak⟩:=O1.parts;obtain rfl:=F;have au:=yD (O1.own aj.out);clear O1;replace G:=yD (G.out.below D);replace X:=yD (X.out.below D);replace ag:=yD (ag.out.below D);replace ae:=yD (ae.out.below D);have bt:=D.size;have d6:=E.size;replace E:=(tQ E D);refine J _ _ E ?_;clear J K D)
 all_goals refine kX ?_
 all_goals first|(refine kK rfl E ?_)|(refine ko rfl (fun K J=>?_);go_simp;refine (kEu (aq.out.below (tQ Z E))).mono ?_;rintro e O ⟨v1,rfl,O1,D⟩;obtain ⟨Y,L,U,F,c1⟩:=O1.parts;obtain rfl:=F;have aw:=yD (O1.own ap.out);clear O1;replace G:=yD (G.out.below D);replace X:=yD (X.out.below D);replace ag:=yD (ag.out.below D);replace ae:=yD (ae.out.below D);replace au:=yD (au.out.below D);have bi:=D.size;have a6:=E.size;replace E:=(tQ E D);refine J _ _ E ?_;clear J K D)
 all_goals refine kX ?_
 all_goals refine kS ?_
 all_goals refine jq ?_
 have X1:=kD XR E
 have E1:=(tQ Z E)
 obtain ⟨M0,F0,M1,F1,M2,F2,M3,F3,M4,F4,M5,F5,M6,F6⟩:=uE
 have M7:=kF (b:=w.heap.size + 1) X1 (j:=7) rfl
 have F7:=frozen_of_row O (w.heap.size + 1) 7 _ _ X1
 go_wp2
 refine bodyPost_ret (v:=.agg #[.slice fm av fn,.int .i64 x.2.1.1,.slice fr x.2.1.2.length fp,.slice ej af ek,.slice ef V d9,.slice ab R aa,.slice Y L U,.int .i64 x.2.2.2.2.2.2]) (by simp [results,results142,go_sem,M0,F0,M1,F1,M2,F2,M3,F3,M4,F4,M5,F5,M6,F6,M7,F7]) rfl ⟨_,[_,_,_,_,_,_,_],u0.heap.size,rfl,?_,?_,by have:=E1.size;omega,by simp [World.setCell];omega,?_⟩
 · exact aQ
 · exact aR
 repeat (first|(with_reducible exact E1) | refine Below.setCell ?_ (by first|(simp;done)|(simp;omega)) _)
theorem kSj {w:World} {cx:List Value} {x:yI} (hx:yA.rd w cx x):Calls prog 142 #[.agg cx.toArray] w (kAn yA x w) :=
  (kJy hx).mono fun e w' h=>h.made hx.2
theorem kTl {w:World} {cx:List Value} {x:yI} (hx:yA.rd w cx x):Calls prog 30 #[.agg cx.toArray] w (kRn x w):=by
 obtain ⟨q0,q1,q2,q3,q4,q5,q6⟩:=hx.2
 obtain ⟨ah,am,a4,aj,ap⟩:=CL
 obtain ⟨ez,e9,f9,f8,f2,f1,rfl,ac,ay,a3,a5,ba,bg,b2,da,dd⟩:=zf hx.1
 obtain ⟨cl,b6,rfl,e1⟩:=kE.sl ac
 obtain ⟨c6,c5,rfl,fa⟩:=kE.sl a5
 obtain ⟨dq,dp,rfl,f3⟩:=kE.sl ba
 obtain ⟨ee,eb,rfl,f7⟩:=kE.sl bg
 obtain ⟨d3,dw,rfl,gd⟩:=kE.sl b2
 obtain ⟨d4,dr,rfl,f5⟩:=kE.sl da
 obtain ⟨a1,ax,ao,a2,ar,aq⟩:=uF
 have gf:=yD dd
 clear hx q0 q1 q2 q3 q4 q5 q6 ac ay a3 a5 ba bg b2 da dd
 go_enter func30,ntmps30
 go_upto_region 1 with fail
 generalize H:World.alloc (World.alloc w _) _=N
 obtain ⟨Z,K0,K1,K2,K3,K4,K5,K6,K7⟩:=oO
 obtain ⟨XR,b8⟩:=y8
 clear H
 have FX:=yD (fun (W:World) (hW:Below N.heap.size N W)=>cLs8 hW K0 K1 K2 K3 K4 K5 K6 K7)
 refine jO (fun W=>Below N.heap.size N W) [(0,true),(1,true),(3,true),(4,true),(6,true),(7,true),(9,true),(10,true),(12,true),(13,true),(15,true),(16,true),(18,true),(19,true),(2,false),(5,false),(8,false),(11,false),(14,false),(17,false),(20,true)] bB4 bB4 qD (bR.drew) ?_
 intro wS E
 simp only [jD,List.length_cons,List.length_nil,List.getElem?_cons_succ,List.getElem?_cons_zero,List.map_cons,List.map_nil,List.cons_append,List.nil_append,List.drop_succ_cons,List.drop_zero]
 iterate 14
  all_goals refine kS ?_
 all_goals first|(refine kK rfl E ?_)|(refine ko rfl (fun K J=>?_);go_simp;refine (kRc (a1.out.below (tQ Z E))).mono ?_;rintro e u0 ⟨v1,rfl,O1,D⟩;obtain ⟨fm,av,fn,F,a8⟩:=O1.parts;obtain rfl:=F;have G:=yD O1;clear O1;have bb:=D.size;have dt:=E.size;replace E:=(tQ E D);refine J _ _ E ?_;clear J K D)
 all_goals refine kX ?_
 all_goals first|(refine kK rfl E ?_)|(refine ko rfl (fun K J=>?_);go_simp;refine (kJj (ax.out.below (tQ Z E))).mono ?_;rintro e u1 ⟨cs,rfl,O2,D⟩;obtain ⟨cv,rfl,e4,e5⟩:=jQ O2.raw;obtain ⟨fr,fp,rfl,_⟩:=kE.sl e5;have X:=yD O2;clear O2 e4 e5;replace G:=yD (G.out.below D);have az:=D.size;have b3:=E.size;replace E:=(tQ E D);refine J _ _ E ?_;clear J K D)
 all_goals refine kX ?_
 all_goals first|(refine kK rfl E ?_)|(refine ko rfl (fun K J=>?_);go_simp;refine (kGt (ao.out.below (tQ Z E))).mono ?_;rintro e u2 ⟨v1,rfl,O1,D⟩;obtain ⟨ej,af,ek,F,al⟩:=O1.parts;obtain rfl:=F;have ag:=yD (O1.own am.out);clear O1;replace G:=yD (G.out.below D);replace X:=yD (X.out.below D);have an:=D.size;have c7:=E.size;replace E:=(tQ E D);refine J _ _ E ?_;clear J K D)
 all_goals refine kX ?_
 all_goals first|(refine kK rfl E ?_)|(refine ko rfl (fun K J=>?_);go_simp;refine (kKk (a2.out.below (tQ Z E))).mono ?_;rintro e u3 ⟨v1,rfl,O1,D⟩;obtain ⟨ef,V,d9,F,ai⟩:=O1.parts;obtain rfl:=F;have ae:=yD (O1.own a4.out);clear O1;replace G:=yD (G.out.below D);replace X:=yD (X.out.below D);replace ag:=yD (ag.out.below D);have a7:=D.size;have d5:=E.size;replace E:=(tQ E D);refine J _ _ E ?_;clear J K D)
 all_goals refine kX ?_
 all_goals first|(refine kK rfl E ?_)|(refine ko rfl (fun K J=>?_);go_simp;refine (kPd (ar.out.below (tQ Z E))).mono ?_;rintro e u4 ⟨v1,rfl,O1,D⟩;obtain ⟨ab,R,aa,F,ak⟩:=O1.parts;obtain rfl:=F;have au:=yD (O1.own aj.out);clear O1;replace G:=yD (G.out.below D);replace X:=yD (X.out.below D);replace ag:=yD (ag.out.below D);replace ae:=yD (ae.out.below D);have bt:=D.size;have d6:=E.size;replace E:=(tQ E D);refine J _ _ E ?_;clear J K D)
 all_goals refine kX ?_
 all_goals first|(refine kK rfl E ?_)|(refine ko rfl (fun K J=>?_);go_simp;refine (kEi (aq.out.below (tQ Z E))).mono ?_;rintro e O ⟨v1,rfl,O1,D⟩;obtain ⟨Y,L,U,F,c1⟩:=O1.parts;obtain rfl:=F;have aw:=yD (O1.own ap.out);clear O1;replace G:=yD (G.out.below D);replace X:=yD (X.out.below D);replace ag:=yD (ag.out.below D);replace ae:=yD (ae.out.below D);replace au:=yD (au.out.below D);have bi:=D.size;have a6:=E.size;replace E:=(tQ E D);refine J _ _ E ?_;clear J K D)
 all_goals refine kX ?_
 all_goals refine kS ?_
 all_goals refine jq ?_
 have X1:=kD XR E
 have E1:=(tQ Z E)
 obtain ⟨M0,F0,M1,F1,M2,F2,M3,F3,M4,F4,M5,F5,M6,F6⟩:=uE
 have M7:=kF (b:=w.heap.size + 1) X1 (j:=7) rfl
 have F7:=frozen_of_row O (w.heap.size + 1) 7 _ _ X1
 go_wp2
 refine bodyPost_ret (v:=.agg #[.slice fm av fn,.int .i64 x.2.1.1,.slice fr x.2.1.2.length fp,.slice ej af ek,.slice ef V d9,.slice ab R aa,.slice Y L U,.int .i64 x.2.2.2.2.2.2]) (by simp [results,results30,go_sem,M0,F0,M1,F1,M2,F2,M3,F3,M4,F4,M5,F5,M6,F6,M7,F7]) rfl ⟨_,[_,_,_,_,_,_,_],u0.heap.size,rfl,?_,?_,by have:=E1.size;omega,by simp [World.setCell];omega,?_⟩
 · exact aQ
 · exact aR
 repeat (first|(with_reducible exact E1) | refine Below.setCell ?_ (by first|(simp;done)|(simp;omega)) _)
theorem kTk {w:World} {cx:List Value} {x:yI} (hx:yA.rd w cx x):Calls prog 30 #[.agg cx.toArray] w (kAn yA x w) :=
  (kTl hx).mono fun e w' h=>h.made hx.2
end Go.Proofs.YtonmjkmaadgceaaGreat

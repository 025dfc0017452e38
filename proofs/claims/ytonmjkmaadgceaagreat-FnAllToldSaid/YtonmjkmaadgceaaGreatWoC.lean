/-
  An entry of a store taken out.
-/
import Derived.Test.YtonmjkmaadgceaaGreatLook
set_option linter.unusedVariables false
set_option linter.unusedSimpArgs false
set_option linter.unnecessarySimpa false
set_option maxRecDepth 100000
set_option maxHeartbeats 4000000
namespace Go.Proofs.YtonmjkmaadgceaaGreat
open Go.RowKit _root_.Go.Proofs.Tryz
def kXf (x:kg) (w:World):Ending→World→Prop:=fun e w'=>∃ v,e=.returned (.agg #[.int .i64 x.1,v])∧kE.ku 98 kw w' v x.2 (jR w.heap.size w'.heap.size)∧Below w.heap.size w w'
theorem kXf.made {x:kg} {w:World} {e:Ending} {w':World} (hr:-9223372036854775808≤x.1∧x.1≤9223372036854775807) (hl:x.2.length≤Big) (h:kXf x w e w'):kAn kN x w e w':=by
 obtain ⟨v,rfl,O,hb⟩:=h
 exact ⟨[_,_],rfl,kE.kBe (r:=kE.int) (q:=kE.slice 98 kw) (cs:=[_]) (kE.ky hr) (O.own hl),hb⟩
theorem store_hr {w:World} {cs:List Value} {x:kg} (hx:kN.rd w cs x):-9223372036854775808≤x.1∧x.1≤9223372036854775807:=by
 obtain ⟨sv,_,ei,_⟩:=jQ hx.1
 exact ei
theorem kLr {w:World} {cs:List Value} {x:kg} (hx:kN.rd w cs x):Calls prog 144 #[.agg cs.toArray] w (kXf x w):=by
 obtain ⟨hx,a9⟩:=hx
 obtain ⟨sv,rfl,ei,hl⟩:=jQ hx
 obtain ⟨la,lp,rfl,_⟩:=kE.sl hl
 obtain ⟨c,l⟩:=x
 obtain ⟨HL,bj,cg⟩:=AU
 clear hx ei hl a9
 go_enter func144,ntmps144
 go_wp2
 generalize O:World.alloc (World.alloc (World.alloc w _) _) _=wA
 obtain ⟨HZ,EA,XB,XR,Z⟩:=uH
 clear O
 go_loopw [4] (fun i wr=>∃ (k:Nat) (v:Value),k≤l.length∧i=.int .i64 k∧Hid (wr.heap[w.heap.size + 1 + 1]?=some (.cells #[.int .i64 c,v] 27 (0,0)))∧Hid (kE.ku 98 kw wr v (l.take k) (jR (w.heap.size + 3) wr.heap.size))∧Below (w.heap.size + 1 + 1) wA wr∧w.heap.size + 3≤wr.heap.size) (fun i _=>l.length - (intOf i).toNat)
 case atStart=>exact ⟨0,_,Nat.zero_le _,rfl,Z,yD kE.ku.nil,bR,by have:=HZ.out;omega⟩
 obtain ⟨k,v,hk,rfl,XV,L,D,ak⟩:=hrel
 obtain ⟨oa,on,oc,ho,bl⟩:=L.out.parts;obtain rfl:=ho
 obtain ⟨L0,L1,EW,a6⟩:=xK
 by_cases hlt:k < l.length
 · obtain ⟨qb,qo,rfl,ah,ai,aj,ck,co,bx,qr,a1,a4,bb,b0,b4,ba⟩:=kE.get6 (HL.out.1.below EW) hlt rfl
   have a9:=kE.zM HL.out hlt
   have bu:=yD (List.take_succ_eq_append_getElem hlt)
   generalize l[k]=x at *
   obtain ⟨bq,cc,cj,aq,ar,ax,ap,bc,bv,bz,ci,bg,bp⟩:=jv qr
   simp only [List.cons.injEq,and_true] at aq
   obtain ⟨rfl,rfl,rfl,rfl,rfl,rfl⟩:=aq
   obtain ⟨ae,be,rfl,az⟩:=kE.sl ap
   obtain ⟨ao,br,rfl,bn⟩:=kE.sl bc
   obtain ⟨am,bt,rfl,bo⟩:=kE.sl bz
   have PX:jA.rd wr _ x.1:=⟨ar,a9.1⟩
   have HU:=yD bp
   go_wp2_with fail
   refine (kCm PX).mono ?_
   rintro e wT ⟨tc,rfl,OT,au⟩
   obtain ⟨dh,el,eu,rfl,a2,bk,bm,b7,c2,dl,dj⟩:=jN OT.raw
   obtain ⟨av,bh,rfl,et⟩:=kE.sl bk
   obtain ⟨bd,cu,rfl,er⟩:=kE.sl bm
   obtain ⟨aw,bi,rfl,eo⟩:=kE.sl c2
   clear a2 bk bm b7 c2 dl dj
   have em:=au.size
   go_upto_region 6 with fail
   generalize a3:World.alloc wT _=wD
   have ED:Below wT.heap.size wT wD:=rU
   have ce:=ED.size
   have D0:wD.cell? ⟨wT.heap.size,0,none⟩=some (.slice av x.1.1.length bh):=tJ
   have D1:wD.cell? ⟨wT.heap.size,1,none⟩=some (.slice bd x.1.2.1.length cu):=tJ
   have D2:wD.cell? ⟨wT.heap.size,2,none⟩=some (.slice aw x.1.2.2.1.length bi):=tJ
   have D3:wD.cell? ⟨wT.heap.size,3,none⟩=some (.int .i64 x.1.2.2.2.1):=tJ
   have D4:wD.cell? ⟨wT.heap.size,4,none⟩=some (.int .i64 x.1.2.2.2.2):=tJ
   clear a3
   have af:=(tQ au ED)
   have XS:=kD XV.out af
   have M0:=kF XS (j:=0) (v:=.int .i64 c) rfl
   have M1:=kF XS (j:=1) rfl
   replace L0:=cL af L0
   replace L1:=cL af L1
   replace ba:=cL af ba
   have FX:=yD (fun (W:World) (hW:Below wD.heap.size wD W)=>cLs10 hW L0 L1 M0 M1 ba D0 D1 D2 D3 D4)
   refine jd (fun W=>Below wD.heap.size wD W) [true,true,true,true,true,true,true,true,true,true,false] bB4 bB4 qD (bR.drew) ?_
   intro wS E
   iterate 10
    all_goals refine kS ?_
   all_goals first|(refine kK rfl E ?_)|(refine ko rfl (fun K J=>?_);go_simp;refine J _ _ (E.alloc E.size _) ?_;clear J K)
   all_goals refine kX ?_
   all_goals refine jq ?_
   have fg:=E.size
   have X:=(tQ af E)
   have XW:=kD XV.out X
   have a5:=D.trans (X.mono bB9)
   replace L:=yD (L.out.below X)
   have cf:(l.take k).length≤16777216:=bB5
   go_wp2_with (at_builtin;refine kE.jK rfl _ _ 25 rfl (r:=kw) (e:=98) underlying25 yL rfl bB8 bB8 (B:=w.heap.size + 3) L.out bC1 bC1 rfl (kE.own.wide (T:=jR wr.heap.size wT.heap.size) (kE.jw (r:=jA) (q:=kE.int) (cs:=[.slice av x.1.1.length bh,.slice bd x.1.2.1.length cu,.slice aw x.1.2.2.1.length bi,.int .i64 x.1.2.2.2.1,.int .i64 x.1.2.2.2.2]) (ds:=[.int .i64 x.2]) (x:=x.1) (y:=x.2) (OT.below (tQ ED E)) (kE.ky HU.out)) (fun j I=>I)) rfl mW rE mR bB9 bB9 ?_)
   exact aT
 obtain rfl:k=l.length:=bB9
 skip
 obtain ⟨M0,M1,R0,R1,F0⟩:=uT
 have b8:=F0 0
 have b1:=F0 1
 clear F0
 have HF:=yD (L.out.cast tZ)
 have b9:Hid (l.length≤Big):=yD vV
 go_wp2
 refine bodyPost_ret (v:=.agg #[.int .i64 c,.slice oa on oc]) (by simp [results,results144,go_sem,R0,R1,b8,b1]) rfl ⟨_,rfl,?_,?_⟩
 · exact (((HF.out.setCell fI).setCell fI)).wide gD
 exact (EW.setCell bC0 _).setCell bC0 _
theorem kLs {w:World} {cs:List Value} {x:kg} (hx:kN.rd w cs x):Calls prog 144 #[.agg cs.toArray] w (kAn kN x w) :=
  (kLr hx).mono fun _ _ h=>h.made (store_hr hx) hx.2.2.1
theorem kJi {w:World} {cs:List Value} {x:kg} {g:FuncId} {cp:Array Value} (p:kr→Bool) (hg:jb prog g) (hx:kN.rd w cs x)
    (N:∀ wr,Below w.heap.size w wr→∀ y ds,kw.raw wr ds y→Calls prog g (#[.agg ds.toArray]++cp) wr (fun e w'=>e=.returned (.bool (p y))∧Below wr.heap.size wr w')) :
    Calls prog 71 #[.agg cs.toArray,.func (.func g) #[] cp] w (kXf (x.1,x.2.filter p) w):=by
 have bf:=yD N
 unfold jb at hg
 clear N
 obtain ⟨hx,a9⟩:=hx
 obtain ⟨sv,rfl,ei,hl⟩:=jQ hx
 obtain ⟨la,lp,rfl,_⟩:=kE.sl hl
 obtain ⟨c,l⟩:=x
 obtain ⟨HL,bj,cg⟩:=AU
 clear hx ei hl a9
 go_enter func71,ntmps71
 go_wp2
 generalize O:World.alloc (World.alloc (World.alloc w _) _) _=wA
 obtain ⟨HZ,EA,XB,XR,Z⟩:=uH
 clear O
 go_loopw [14] (fun i wr=>∃ (k:Nat) (v:Value),k≤l.length∧i=.int .i64 k∧Hid (wr.heap[w.heap.size + 1 + 1]?=some (.cells #[.int .i64 c,v] 27 (0,0)))∧Hid (kE.ku 98 kw wr v ((l.take k).filter p) (jR (w.heap.size + 3) wr.heap.size))∧Below (w.heap.size + 1 + 1) wA wr∧w.heap.size + 3≤wr.heap.size) (fun i _=>l.length - (intOf i).toNat)
 case atStart=>exact ⟨0,_,Nat.zero_le _,rfl,Z,yD kE.ku.nil,bR,by have:=HZ.out;omega⟩
 obtain ⟨k,v,hk,rfl,XV,L,D,ak⟩:=hrel
 obtain ⟨oa,on,oc,ho,bl⟩:=L.out.parts;obtain rfl:=ho
 obtain ⟨L0,L1,EW,a6⟩:=xK
 by_cases hlt:k < l.length
 · obtain ⟨qb,qo,rfl,ah,ai,aj,ck,co,bx,qr,a1,a4,bb,b0,b4,ba⟩:=kE.get6 (HL.out.1.below EW) hlt rfl
   have a9:=kE.zM HL.out hlt
   have a8:=fun q=>kMp (p:=p) hlt q
   have bw:=fun q=>kPp (p:=p) hlt q
   have cf:((l.take k).filter p).length≤16777216:=by have h2:=kGa (p:=p) (l:=l) (k:=k) bB9;omega
   generalize l[k]=x at *
   have ay:=yD a8;have ab:=yD bw;clear a8 bw
   have a3:=yD qr
   obtain ⟨bq,cc,cj,aq,ar,ax,ap,bc,bv,bz,ci,bg,bp⟩:=jv qr
   simp only [List.cons.injEq,and_true] at aq
   obtain ⟨rfl,rfl,rfl,rfl,rfl,rfl⟩:=aq
   obtain ⟨ae,be,rfl,az⟩:=kE.sl ap
   obtain ⟨ao,br,rfl,bn⟩:=kE.sl bc
   obtain ⟨am,bt,rfl,bo⟩:=kE.sl bz
   have PX:Hid (jA.rd wr _ x.1):=yD ⟨ar,a9.1⟩
   have HU:=yD bp
   go_wp2_with fail
   generalize F:World.alloc wr _=R
   obtain ⟨EC,M0,M1,M2,M3,M4,M5⟩:=uQ
   clear F
   have ac:=EC.size
   refine (bf.out R (tQ EW EC) _ _ (a3.out.below EC)).mono ?_
   rintro e wD ⟨rfl,aa⟩
   replace M0:=cL aa M0
   replace M1:=cL aa M1
   replace M2:=cL aa M2
   replace M3:=cL aa M3
   replace M4:=cL aa M4
   replace M5:=cL aa M5
   have af:=(tQ EC aa)
   have ce:=aa.size
   have XS:=kD XV.out af
   have b2:=D.trans (af.mono bB9)
   have ch:=yD (L.out.below af)
   clear aa
   cases hp:p x
   · have U:=yD (ab.out hp)
     clear ay ab hp
     have b6:=yD XS
     clear XS
     go_wp2
     go_roundw
     case rel=>exact ⟨k + 1,_,by omega,by go_num,b6,yD ((ch.out.cast U.out.symm).wide rE),b2,by omega⟩
     simp [intOf];omega
   have bu:=yD (ay.out hp)
   clear ay ab hp
   have B0:=kF XS (j:=0) (v:=.int .i64 c) rfl
   have B1:=kF XS (j:=1) rfl
   go_upto_region 6 with fail
   have FX:=yD (fun (W:World) (hW:Below wD.heap.size wD W)=>cLs8 hW B0 B1 M0 M1 M2 M3 M4 M5)
   refine jO (fun W=>Below wD.heap.size wD W) [(0,true),(1,true),(2,true),(3,true),(5,true),(6,true),(4,false),(7,true),(8,false)] bB4 bB4 qD (bR.drew) ?_
   intro wS E
   simp only [jD,List.length_cons,List.length_nil,List.getElem?_cons_succ,List.getElem?_cons_zero,List.map_cons,List.map_nil,List.cons_append,List.nil_append,List.drop_succ_cons,List.drop_zero]
   iterate 6
    all_goals refine kS ?_
   all_goals first|(refine kK rfl E ?_)|(refine ko rfl (fun K J=>?_);go_simp;refine (kAj (PX.out.below (tQ af E))).mono ?_;rintro e wT ⟨tc,rfl,OT,au⟩;obtain ⟨dh,el,eu,rfl,a2,bk,bm,b7,c2,dl,dj⟩:=jN OT.raw;obtain ⟨av,bh,rfl,et⟩:=kE.sl bk;skip;obtain ⟨bd,cu,rfl,er⟩:=kE.sl bm;skip;obtain ⟨aw,bi,rfl,eo⟩:=kE.sl c2;skip;clear a2 bk bm b7 c2 dl dj;have em:=au.size;have cq:=E.size;have ed:=yD OT;replace E:=(tQ E au);refine J _ _ E ?_;clear J K au OT)
   all_goals refine kX ?_
   all_goals refine kS ?_
   all_goals first|(refine kK rfl E ?_)|(refine ko rfl (fun K J=>?_);go_simp;refine J _ _ (E.alloc E.size _) ?_;clear J K)
   all_goals refine kX ?_
   all_goals refine jq ?_
   have fg:=E.size
   have X:=(tQ af E)
   have XW:=kD XV.out X
   have a5:=D.trans (X.mono bB9)
   replace L:=yD (L.out.below X)
   go_wp2_with (at_builtin;refine kE.jK rfl _ _ 25 rfl (r:=kw) (e:=98) underlying25 yL rfl bB8 bB8 (B:=w.heap.size + 3) L.out bC1 bC1 rfl (kE.own.wide (T:=jR wr.heap.size wT.heap.size) (kE.jw (r:=jA) (q:=kE.int) (cs:=[.slice av x.1.1.length bh,.slice bd x.1.2.1.length cu,.slice aw x.1.2.2.1.length bi,.int .i64 x.1.2.2.2.1,.int .i64 x.1.2.2.2.2]) (ds:=[.int .i64 x.2]) (x:=x.1) (y:=x.2) (ed.out) (kE.ky HU.out)) rF) rfl mW rE mR bB9 bB9 ?_)
   exact aT
 obtain rfl:k=l.length:=bB9
 skip
 obtain ⟨M0,M1,R0,R1,F0⟩:=uT
 have b8:=F0 0
 have b1:=F0 1
 clear F0
 have HF:=yD (L.out.cast tZ)
 have b9:Hid ((l.filter p).length≤Big):=yD (by have:=List.length_filter_le p l;unfold Big;omega)
 go_wp2
 refine bodyPost_ret (v:=.agg #[.int .i64 c,.slice oa on oc]) (by simp [results,results71,go_sem,R0,R1,b8,b1]) rfl ⟨_,rfl,?_,?_⟩
 · exact (((HF.out.setCell fI).setCell fI)).wide gD
 exact (EW.setCell bC0 _).setCell bC0 _
theorem kRb {w:World} {cs:List Value} {x:kg} {g:FuncId} {cp:Array Value} (p:kr→Bool) (hg:jb prog g) (hx:kN.rd w cs x)
    (N:∀ wr,Below w.heap.size w wr→∀ y ds,kw.raw wr ds y→Calls prog g (#[.agg ds.toArray]++cp) wr (fun e w'=>e=.returned (.bool (p y))∧Below wr.heap.size wr w')) :
    Calls prog 71 #[.agg cs.toArray,.func (.func g) #[] cp] w (kAn kN (x.1,x.2.filter p) w) :=
  (kJi p hg hx N).mono fun _ _ h=>h.made (x:=(x.1,x.2.filter p)) (store_hr (x:=x) hx) (Nat.le_trans (List.length_filter_le _ _) hx.2.2.1)
theorem kPc {w:World} {ds:List Value} {y:kr} (hy:kw.raw w ds y):Calls prog 101 (#[.agg ds.toArray]++#[]) w (bQ w (.bool true)):=by
 obtain ⟨ez,bh,e9,rfl,ac,ay,a3,a5,ba,bg,b2,da,dd⟩:=jv hy
 obtain ⟨cl,b6,rfl,e1⟩:=kE.sl a3
 obtain ⟨av,au,rfl,bi⟩:=kE.sl a5
 obtain ⟨c6,c5,rfl,fa⟩:=kE.sl bg
 clear hy ac ay a3 a5 ba bg b2 da dd
 show Calls prog 101 #[_] w _
 go_enter func101,ntmps101
 go_wp2
 go_ret
 exact ⟨rfl,bI⟩
theorem kLc:jb prog 101:=zY func101 bB4 bB4
theorem kJj {w:World} {cs:List Value} {x:kg} (hx:kN.rd w cs x):Calls prog 63 #[.agg cs.toArray] w (kAn kN x w):=by
 have HX:=yD hx
 obtain ⟨hx,a9⟩:=hx
 obtain ⟨sv,rfl,ei,hl⟩:=jQ hx
 obtain ⟨la,lp,rfl,_⟩:=kE.sl hl
 obtain ⟨c,l⟩:=x
 obtain ⟨HL,bj,cg⟩:=AU
 clear hx ei hl a9
 have E:Hid (l.filter (fun _=>true)=l):=yD bC0
 go_enter func63,ntmps63
 go_wp2_with fail
 generalize H:World.alloc (World.alloc w _) _=N
 have Z:Below w.heap.size w N:=by rw [← H];exact bI
 have XR:Hid (N.heap[w.heap.size + 1]?=some (.cells #[.int .i64 0,.slice none 0 0] 27 (0,0))):=yD sD
 clear H
 have b8:=Z.size
 refine (kRb (fun _=>true) kLc (HX.out.below Z) (fun wr _ y ds hy=>kPc hy)).mono ?_
 rintro e w1 ⟨oc,rfl,O1,O⟩
 replace O1:=show kN.own w1 oc (c,l) _ from E.out ▸ O1
 obtain ⟨G,rfl,ae,D⟩:=jQ O1.raw
 obtain ⟨oa,op,rfl,_⟩:=kE.sl D
 have X1:=kD XR.out O
 have M0:=kF (b:=w.heap.size + 1) X1 (j:=0) rfl
 have M1:=kF (b:=w.heap.size + 1) X1 (j:=1) rfl
 have F0:=frozen_of_row w1 (w.heap.size + 1) 0 _ _ X1
 have F1:=frozen_of_row w1 (w.heap.size + 1) 1 _ _ X1
 have X:=yD O1
 have E1:=(tQ Z O)
 have F:w.heap.size + 2≤N.heap.size:=by have:=(Array.getElem?_eq_some_iff.1 XR.out).1;omega
 clear ae D O1 O
 go_wp2
 refine bodyPost_ret (v:=.agg #[.int .i64 c,.slice oa l.length op]) (by simp [results,results63,go_sem,M0,M1,F0,F1]) rfl ⟨[_,_],rfl,?_,?_⟩
 · exact ((X.out.setCell fI).setCell fI).wide gD
 exact (E1.setCell bC0 _).setCell bC0 _
def isC (n:kQ) (x:kr):Bool:=eqN x.1.1 n
theorem kEv {w:World} {vl:Value} {l:(List kr)} (hl:(kE.slice 98 kw).raw w [vl] l) {cn:List Value} {n:kQ} (hn:kM.raw w cn n) :
    Calls prog 54 #[vl,.agg cn.toArray] w (bQ w (.int .i64 (idxOf (isC n) l))):=by
 obtain ⟨al,pl,rfl,ll⟩:=kE.sl hl
 have Hn:=yD hn
 obtain ⟨Y,rfl,R⟩:=kU hn
 obtain ⟨V,L,rfl,aa⟩:=kE.sl R
 go_enter func54,ntmps54
 go_wp2
 generalize H:World.alloc w _=N
 obtain ⟨Z,F⟩:=u6
 clear H
 replace hl:=hl.below Z
 go_loopw [5] (fun i wr=>∃ k:Nat,k≤l.length∧i=.int .i64 k∧Hid (∀ j,(h:j < k)→(h2:j < l.length)→(isC n) l[j]=false)∧Below N.heap.size N wr) (fun i _=>l.length - (intOf i).toNat)
 case atStart=>exact ⟨0,Nat.zero_le _,rfl,yD (fun _ h=>by omega),bR⟩
 obtain ⟨k,hk,rfl,HN,D⟩:=hrel
 replace F:=cL D F
 by_cases hlt:k < l.length
 · obtain ⟨qb,qo,rfl,ah,ai,aj,ck,co,bx,qr,a1,a4,bb,b0,b4,ba⟩:=kE.get6 (hl.below D) (i:=k) bB9 rfl
   obtain ⟨J,I⟩:=xR
   generalize l[k]=x at *
   have HD:=yD J;have HX:=yD I;clear J I
   obtain ⟨x0,x1⟩:=x
   obtain ⟨bq,cc,cj,aq,ar,ax,ap,bc,bv,bz,ci,bg,bp⟩:=jv qr
   simp only [List.cons.injEq,and_true] at aq
   obtain ⟨rfl,rfl,rfl,rfl,rfl,rfl⟩:=aq
   obtain ⟨ae,be,rfl,az⟩:=kE.sl ap
   obtain ⟨ao,br,rfl,bn⟩:=kE.sl bc
   obtain ⟨am,bt,rfl,bo⟩:=kE.sl bz
   go_upto_region 4 with fail
   have FX:=yD (fun (W:World) (hW:Below wr.heap.size wr W)=>cLs7 hW F a1 a4 bb b0 b4 ba)
   refine kW (fun W=>Below wr.heap.size wr W) [true,true,true,true,true,true,true,false] bB4 bB4 qD (bR.drew) ?_
   intro wS E
   iterate 7
    all_goals refine kS ?_
   all_goals first | refine wkB (kAe (kE.raw.below ax E) (kE.raw.below Hn.out ((tQ Z (tQ D E))))) (fun wS1 E=>?_) | refine kS ?_
   all_goals refine kZ ?_
   all_goals cases af:eqN x0.1 n
   all_goals have G:=(tQ D E)
   all_goals first
     | (have U:=yD (HD.out (show _=true by simp only [isC,Bool.not_true,Bool.not_false,Bool.and_true,Bool.true_and,Bool.and_false,Bool.false_and,Bool.or_true,Bool.true_or,Bool.or_false,Bool.false_or,Bool.not_not,af]));clear HD HX;go_wp2;go_ret;exact ⟨jW U.out.symm,(tQ Z G)⟩)
     | (have U:=yD (HX.out (show _=false by simp only [isC,Bool.not_true,Bool.not_false,Bool.and_true,Bool.true_and,Bool.and_false,Bool.false_and,Bool.or_true,Bool.true_or,Bool.or_false,Bool.false_or,Bool.not_not,af]));clear HD HX;go_wp2;go_roundw;(case rel=>exact ⟨k + 1,by omega,by go_num,U,G⟩);(case measure=>simp [intOf];omega))
 exact iT
theorem kHh {w:World} {cx:List Value} {x:kr} (hx:kw.raw w cx x) {y:kr} {ay bd a9 am ar a4:Value} {O:Nat} (yr:kw.raw w [ay,bd,a9,am,ar,a4] y) (ac:w.cell? ⟨O,0,none⟩=some ay) (aw:w.cell? ⟨O,1,none⟩=some bd) (ag:w.cell? ⟨O,2,none⟩=some a9) (D:w.cell? ⟨O,3,none⟩=some am) (I:w.cell? ⟨O,4,none⟩=some ar) (a3:w.cell? ⟨O,5,none⟩=some a4) :
    Calls prog 48 (#[.agg cx.toArray]++#[.pointer (some ⟨O,0,none⟩)]) w (bQ w (.bool (isC y.1.1 x))):=by
 have Hx:=yD hx
 obtain ⟨aq,a2,au,rfl,ah,ab,ai,aj,ak,ap,av,a5,a6⟩:=jv hx
 obtain ⟨ae,L,rfl,ao⟩:=kE.sl ai
 obtain ⟨an,X,rfl,a1⟩:=kE.sl aj
 obtain ⟨al,F,rfl,ax⟩:=kE.sl ap
 obtain ⟨dp,ea,d9,b2,bj,bu,b1,ce,cq,cv,cw,a8,a7⟩:=jv yr
 simp only [List.cons.injEq,and_true] at b2
 obtain ⟨rfl,rfl,rfl,rfl,rfl,rfl⟩:=b2
 obtain ⟨bl,b0,rfl,ef⟩:=kE.sl b1
 obtain ⟨co,cl,rfl,ee⟩:=kE.sl ce
 obtain ⟨cj,b4,rfl,eh⟩:=kE.sl cv
 show Calls prog 48 #[_,_] w _
 go_enter func48,ntmps48
 go_upto_region 1 with fail
 generalize H:World.alloc w _=N
 have Z:Below w.heap.size w N:=by rw [← H];exact bI
 have R:N.cell? ⟨w.heap.size,0,none⟩=some (.slice ae (x.1.1).length L):=tN
 have V:N.cell? ⟨w.heap.size,1,none⟩=some (.slice an (x.1.2.1).length X):=tN
 have J:N.cell? ⟨w.heap.size,2,none⟩=some (.slice al (x.1.2.2.1).length F):=tN
 have Y:N.cell? ⟨w.heap.size,3,none⟩=some (.int .i64 x.1.2.2.2.1):=tN
 have aa:N.cell? ⟨w.heap.size,4,none⟩=some (.int .i64 x.1.2.2.2.2):=tN
 have az:N.cell? ⟨w.heap.size,5,none⟩=some (.int .i64 x.2):=tN
 clear H
 replace ac:=cL Z ac
 replace aw:=cL Z aw
 replace ag:=cL Z ag
 replace D:=cL Z D
 replace I:=cL Z I
 replace a3:=cL Z a3
 have FX:=yD (fun (W:World) (hW:Below N.heap.size N W)=>cLs12 hW R V J Y aa az ac aw ag D I a3)
 refine kz (fun W=>Below N.heap.size N W) [true,true,true,true,true,true,false,true] bR ?_
 intro wS E
 iterate 6
  all_goals refine kS ?_
 all_goals first | refine wkB (ym (kE.raw.below ab (tQ Z E)) (kE.raw.below bu (tQ Z E))) (fun wS1 E=>?_) | refine kS ?_
 all_goals (have af:=True.intro;first|(refine yT (fun b af=>?_);cases b;all_goals first | exact Bool.noConfusion af | simp only [zU,zV] at af | skip) | refine kS ?_)
 all_goals refine kX ?_
 all_goals refine kZ ?_
 all_goals have G:=(tQ Z E)
 all_goals first
   | (have U:=yD (show (isC y.1.1 x)=false by simp only [isC,Bool.not_true,Bool.not_false,Bool.and_true,Bool.true_and,Bool.and_false,Bool.false_and,Bool.or_true,Bool.true_or,Bool.or_false,Bool.false_or,Bool.not_not,af]);go_wp2;go_ret;exact ⟨kR U.out.symm,G⟩)
   | (have U:=yD (show (isC y.1.1 x)=true by simp only [isC,Bool.not_true,Bool.not_false,Bool.and_true,Bool.true_and,Bool.and_false,Bool.false_and,Bool.or_true,Bool.true_or,Bool.or_false,Bool.false_or,Bool.not_not,af]);go_wp2;go_ret;exact ⟨kR U.out.symm,G⟩)
theorem kDw:jb prog 48:=zY func48 bB4 bB4
theorem kHq {w:World} {v:Value} {l:List kr} {S:Nat→Prop} (h:kE.ku 98 kw w v l S) {k:Nat} (aa:k < l.length) (bj:l.length≤16777216) :
    Calls prog 145 #[v,.int .i64 k] w fun e w'=>∃ v',e=.returned v'∧kE.ku 98 kw w' v' (l.take k++l.drop (k + 1)) (fun j=>S j∨jR w.heap.size w'.heap.size j)∧Below w.heap.size w w':=by
 obtain ⟨b,oc,rfl,D⟩:=kE.kFm h aa
 rw [List.drop_eq_getElem_cons aa] at D
 have ak:=D.len
 simp only [List.length_take,List.length_cons,List.length_drop] at ak
 obtain ⟨on,F⟩:∃ on,Hid (l.length=on):=⟨_,yD rfl⟩
 have G:Hid (kE.gap 98 kw w b oc l.length (l.take k) 1 (l.drop (k + 1)) S):=yD D.skip
 have ao:on≤oc:=by have:=ak.2.1;have:=F.out;omega
 have a4:oc≤9223372036854775807:=nX
 have a5:k < on:=by have:=F.out;omega
 have ac:on≤16777216:=by have:=F.out;omega
 have HK:Hid ((l.take k).length=k):=yD bB5
 rw [F.out]
 have H:=yD bj
 clear D ak h aa bj
 obtain ⟨a8,be⟩:=AR
 have du:k + 1≤oc:=bB9
 have en:k + 1≤on:=bB9
 have g8:(k:Int) + 1≤on:=bB9
 have ar:(0:Int)≤(k:Int) + 1:=bB9
 have b0:k≤oc:=bB9
 have hw:IntKind.i64.wrap ((k:Int) + 1)=(k:Int) + 1:=IntWalk.i64_in _ bB9
 go_enter func145,ntmps145
 by_cases cc:oc=k + 1
 · have HR:Hid ((l.drop (k + 1)).length=0):=yD (by have:=F.out;simp;omega)
   obtain rfl:on=k + 1:=bB9
   subst cc
   have av:(k:Int)≤(k:Int) + 1:=bB9
   go_upto_region 1 with fail
   refine yQ (fun W=>Below w.heap.size w W) [(1,true),(2,true),(3,true),(5,true),(6,true),(7,true),(8,true),(0,false),(4,false),(9,false),(10,true)] bB4 bB4 qD (bR.drew) ?_
   intro wS E
   simp only [jD,List.getElem?_cons_succ,List.getElem?_cons_zero,List.map_cons,List.map_nil]
   iterate 7
    all_goals refine kS ?_
   all_goals first|(refine kK rfl E ?_)|(refine ko rfl (fun K J=>?_);go_simp;generalize aw:World.alloc wS _=wU;replace E:Below w.heap.size w wU:=(by rw [← aw];exact E.alloc E.size _);clear aw;refine J _ _ E ?_;clear J K)
   all_goals refine kX ?_
   all_goals first|(refine kK rfl E ?_)|(refine ko rfl (fun K J=>?_);obtain ⟨v3,u3,ba,Y,v4,u4,aq,ax,X⟩:=kE.kGm (P:=prog) (t:=25) underlying25 yL rfl bB8 bB8 G.out E (a0:=some ⟨wS.heap.size,0,none⟩) H.out (k + 1) 0 25 25 (q:=0) (kl:=k) (rl:=0) (fun hne=>absurd (List.eq_nil_of_length_eq_zero HR.out) hne) HK.out.symm HR.out.symm;have ap:=(tQ E Y);refine kE.jP _ _ _ rfl bC1 bC1 ba ?_;refine J _ _ ap ?_;clear J K)
   all_goals refine kX ?_
   all_goals first|(refine kK rfl E ?_)|(refine ko rfl (fun K J=>?_);have R:=(tQ E X);refine kE.jP _ _ _ rfl bC1 bC1 aq ?_;refine J _ _ R ?_;clear J K)
   all_goals refine kX ?_
   all_goals refine kS ?_
   all_goals refine kZ ?_
   exact oF
 have HR:Hid ((l.drop (k + 1)).length=on - (k + 1)):=yD (by have:=F.out;simp;omega)
 go_upto_region 1 with fail
 refine yQ (fun W=>Below w.heap.size w W) [(1,true),(2,true),(3,true),(5,true),(6,true),(7,true),(8,true),(0,false),(4,false),(9,false),(10,true)] bB4 bB4 qD (bR.drew) ?_
 intro wS E
 simp only [jD,List.getElem?_cons_succ,List.getElem?_cons_zero,List.map_cons,List.map_nil]
 iterate 7
  all_goals refine kS ?_
 all_goals first|(refine kK rfl E ?_)|(refine ko rfl (fun K J=>?_);go_simp;generalize aw:World.alloc wS _=wU;replace E:Below w.heap.size w wU:=(by rw [← aw];exact E.alloc E.size _);clear aw;refine J _ _ E ?_;clear J K)
 all_goals refine kX ?_
 all_goals first|(refine kK rfl E ?_)|(refine ko rfl (fun K J=>?_);obtain ⟨v3,u3,ba,Y,v4,u4,aq,ax,X⟩:=kE.kGm (P:=prog) (t:=25) underlying25 yL rfl bB8 bB8 G.out E (a0:=some ⟨wS.heap.size,0,none⟩) H.out oc (oc - (k + 1)) 25 25 (q:=((k + 1) * 6)) (kl:=k) (rl:=(on - (k + 1))) tV HK.out.symm HR.out.symm;have ap:=(tQ E Y);refine kE.jP _ _ _ rfl bC1 bC1 ba ?_;refine J _ _ ap ?_;clear J K)
 all_goals refine kX ?_
 all_goals first|(refine kK rfl E ?_)|(refine ko rfl (fun K J=>?_);have R:=(tQ E X);refine kE.jP _ _ _ rfl bC1 bC1 aq ?_;refine J _ _ R ?_;clear J K)
 all_goals refine kX ?_
 all_goals refine kS ?_
 all_goals refine kZ ?_
 exact oF
end Go.Proofs.YtonmjkmaadgceaaGreat

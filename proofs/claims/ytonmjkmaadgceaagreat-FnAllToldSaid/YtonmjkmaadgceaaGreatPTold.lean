/-
  Who is told, and how often. Plain.
-/
import Derived.Test.YtonmjkmaadgceaaGreatActN
set_option linter.unusedVariables false
set_option linter.unusedSimpArgs false
set_option linter.unnecessarySimpa false
set_option maxRecDepth 100000
set_option maxHeartbeats 4000000
namespace Go.Proofs.YtonmjkmaadgceaaGreat
open Go.RowKit _root_.Go.Proofs.Tryz
def zN (t:jS) (now:Int):Nat→jG→Bool
  | 0,_=>false
  | f + 1,x=>if (verS t.1 x && kBq t.2.1 x.1 x.2.2.1)=true then (if isAnc t x.2.2.1=true then true else if kBp t x.2.2.1 now < 0 then false else zN t now f (t.2.2.2.getD (kBp t x.2.2.1 now).toNat kRr)) else false
def trusted (t:jS) (x:jG) (now:Int):Bool:=kBc x && zN t now 4 x
def hasP (l:List kI) (n:kQ):Bool:=decide (0≤idxOf (jV n) l)
def kBt (x:yI) (t:jS) (y:jG) (now:Int):Bool:=hasP x.2.2.1 y.1 && trusted t y now
def slen:Value→Nat
  | .slice _ n _=>n
  | _=>0
section
variable {t:jS} {now:Int} {f:Nat} {x:jG}
theorem ch_ver (h:verS t.1 x=false):zN t now (f + 1) x=false:=by unfold zN;rw [h];rfl
theorem ch_all (h:kBq t.2.1 x.1 x.2.2.1=false):zN t now (f + 1) x=false:=by unfold zN;rw [h,Bool.and_false];rfl
theorem ch_anc (h:verS t.1 x=true) (h2:kBq t.2.1 x.1 x.2.2.1=true) (h3:isAnc t x.2.2.1=true):zN t now (f + 1) x=true:=by unfold zN;rw [h,h2,h3];rfl
theorem ch_none (h3:isAnc t x.2.2.1=false) (h4:kBp t x.2.2.1 now < 0):zN t now (f + 1) x=false:=by
 unfold zN
 rw [h3,if_pos h4]
 split <;> rfl
theorem ch_next (h:verS t.1 x=true) (h2:kBq t.2.1 x.1 x.2.2.1=true) (h3:isAnc t x.2.2.1=false) {j:Nat} (I:j < t.2.2.2.length) (h4:kBp t x.2.2.1 now=j):zN t now (f + 1) x=zN t now f t.2.2.2[j]:=by
 show (if (verS t.1 x && kBq t.2.1 x.1 x.2.2.1)=true then _ else _)=_
 rw [h,h2,h3,h4,Int.toNat_natCast,jM I]
 simp
theorem fc_ge {n:kQ} (h:¬ kBp t n now < 0):∃ j:Nat,j < t.2.2.2.length∧kBp t n now=(j:Int):=by
 by_cases h0:zJ t.1 n=0
 · rw [fc_no h0] at h;omega
 rw [fc_yes h0] at h ⊢;exact kNz h
end
theorem kPg {w:World} {ct:List Value} {t:jS} (D:je.rd w ct t) (hB:∀ k (h:k < t.2.2.2.length),t.2.2.2[k].2.1.length≤2000000) {cx:List Value} {x0:jG} (hx:jA.rd w cx x0) (b8:x0.2.1.length≤2000000) {now:Int} :
    Calls prog 59 #[.agg ct.toArray,.agg cx.toArray,.int .i64 now] w fun e w'=>∃ v,e=.returned (.tuple #[v,.bool (zN t now 4 x0)])∧Below w.heap.size w w':=by
 have ht:=D.1
 have hy:=hx.1
 have c4:=yD (show ∀ k (h:k < t.2.2.2.length),jA.bdd Big t.2.2.2[k] from fun k h=>D.2.2.2.2.2 _ (List.getElem_mem h))
 have af:=yD hB
 obtain ⟨dh,el,eu,c6,rfl,a2,bk,bm,b7⟩:=zb ht
 obtain ⟨av,bh,rfl,et⟩:=kE.sl a2
 obtain ⟨bd,cu,rfl,er⟩:=kE.sl bk
 obtain ⟨aw,bi,rfl,eo⟩:=kE.sl bm
 obtain ⟨ag,ac,rfl,c9⟩:=kE.sl b7
 obtain ⟨c7,d1,dl,rfl,bw,ba,b3,b5,W,cz,cf⟩:=jN hy
 obtain ⟨bg,J,rfl,dq⟩:=kE.sl ba
 obtain ⟨ay,bx,rfl,du⟩:=kE.sl b3
 obtain ⟨bf,E,rfl,dr⟩:=kE.sl W
 have c5:=yD D;have df:=yD hx;have au:=yD a2;have dc:=yD bk;have db:=yD b7
 clear D hB hx ht hy a2 bk bm b7 bw ba b3 b5 W cz cf
 go_enter func59,ntmps59
 go_upto_region 1 with fail
 generalize H:World.alloc (World.alloc w _) _=N
 have Z:Below w.heap.size w N:=by rw [← H];exact bI
 have zB:N.heap.size=w.heap.size + 2:=bA4
 have BT:N.heap[w.heap.size]?=some (.cells #[.slice av t.1.length bh,.slice bd t.2.1.length cu,.slice aw t.2.2.1.length bi,.slice ag t.2.2.2.length ac] 38 (0,0)):=sP
 have BX:N.heap[w.heap.size + 1]?=some (.cells #[.slice bg x0.1.length J,.slice ay x0.2.1.length bx,.slice bf x0.2.2.1.length E,.int .i64 x0.2.2.2.1,.int .i64 x0.2.2.2.2] 43 (0,0)):=by rw [← H];exact kG bC0
 clear H
 go_wp2
 go_loopw [8] (fun v wr=>∃ (n:Nat) (out:List kQ) (x:jG) (oa:Option Addr) (oc:Nat) (bg ay bf:Option Addr) (J bx E:Nat),v=.slice oa n oc∧n≤4∧Hid (n=out.length)∧Hid (zN t now 4 x0=zN t now (4 - n) x)∧Hid (kE.ku 41 kM wr (.slice oa n oc) out (jR (w.heap.size + 2) wr.heap.size))∧wr.heap[w.heap.size]?=some (.cells #[.slice av t.1.length bh,.slice bd t.2.1.length cu,.slice aw t.2.2.1.length bi,.slice ag t.2.2.2.length ac] 38 (0,0))∧wr.heap[w.heap.size + 1]?=some (.cells #[.slice bg x.1.length J,.slice ay x.2.1.length bx,.slice bf x.2.2.1.length E,.int .i64 x.2.2.2.1,.int .i64 x.2.2.2.2] 43 (0,0))∧Hid (jA.rd w [.slice bg x.1.length J,.slice ay x.2.1.length bx,.slice bf x.2.2.1.length E,.int .i64 x.2.2.2.1,.int .i64 x.2.2.2.2] x)∧x.2.1.length≤2000000∧w.heap.size + 2≤wr.heap.size∧Below w.heap.size w wr) (fun v _=>5 - slen v)
 case atStart=>exact ⟨0,[],x0,_,0,bg,ay,bf,J,bx,E,rfl,by omega,yD rfl,yD rfl,yD kE.ku.void,jC BT,jC BX,df,b8,by simp;omega,Z.trans (bR.alloc Z.size _)⟩
 clear BT BX Z zB df b8
 obtain ⟨n,out,x,oa,oc,bg,ay,bf,J,bx,E,rfl,d5,bl,R,L,BT,BX,a3,b8,zr,X⟩:=hrel
 obtain ⟨dp,ea,d9,b2,bj,bu,b1,ce,cq,cv,cw⟩:=jN a3.out.1
 simp only [List.cons.injEq,and_true] at b2
 obtain ⟨rfl,rfl,rfl⟩:=b2
 have dx:=yD bj;have b6:=yD ce
 have dz:=yD (show kM.rd w _ x.2.2.1 from ⟨ce,a3.out.2.2.2.1⟩)
 clear bj bu b1 ce cq cv cw
 by_cases hlt:n < 4
 · have cg:(n:Int) < 4:=bB9
   have d3:((n:Int)==4)=false:=bB5
   have d4:(n==4)=false:=bB5
   replace R:=yD (R.out.trans (by rw [show 4 - n=(3 - n) + 1 by omega]))
   obtain ⟨a8,az,a7,a6⟩:=kAh BT
   obtain ⟨aa,ab,an,ak,al⟩:=jU BX
   go_wp2_with fail
   refine (kBw (au.out.below X) (a3.out.below X) b8 (cx:=[.slice bg x.1.length J,.slice ay x.2.1.length bx,.slice bf x.2.2.1.length E,.int .i64 x.2.2.2.1,.int .i64 x.2.2.2.2])).mono ?_
   rintro e w1 ⟨rfl,hb⟩
   have bn:=hb.size
   obtain ⟨BT,BX,L,X⟩:=xN
   clear a8 az a7 a6 aa ab an ak al
   clear hb
   obtain ⟨a8,az,a7,a6⟩:=kAh BT
   obtain ⟨aa,ab,an,ak,al⟩:=jU BX
   cases hv:verS t.1 x
   · have HF:Hid (zN t now 4 x0=false):=yD (R.out.trans (ch_ver hv))
     exact aG
   have HV:=yD hv
   clear hv
   go_wp2_with fail
   refine (kLy (dc.out.below X) (dx.out.below X) (b6.out.below X) (cn:=[.slice bg x.1.length J]) (cm:=[.slice bf x.2.2.1.length E])).mono ?_
   rintro e V ⟨rfl,hb⟩
   have bo:=hb.size
   obtain ⟨BT,BX,L,X⟩:=xN
   clear a8 az a7 a6 aa ab an ak al
   clear hb
   cases ha:kBq t.2.1 x.1 x.2.2.1
   · have HF:Hid (zN t now 4 x0=false):=yD (R.out.trans (ch_all ha))
     exact aH
   have HA:=yD ha
   clear ha
   obtain ⟨aa,ab,an,ak,al⟩:=jU BX
   go_wp2_with fail
   refine (zG (dz.out.below X) (ca:=[.slice bf x.2.2.1.length E])).mono ?_
   rintro e w3 ⟨cs,rfl,O,hb⟩
   have bp:=hb.size
   obtain ⟨BT,BX,L,X⟩:=xN
   clear aa ab an ak al
   clear hb
   obtain ⟨v0,rfl,fv⟩:=kU O.raw
   obtain ⟨na,nc,rfl,_⟩:=kE.sl fv
   clear fv
   have HN:=yD O
   clear O
   have RB:=yD HN.out.jY
   obtain ⟨a8,az,a7,a6⟩:=kAh BT
   obtain ⟨aa,ab,an,ak,al⟩:=jU BX
   go_wp2_with (at_builtin;refine kE.kAr rfl _ _ 36 rfl (r:=kM) (e:=41) underlying36 infName rfl bB8 bB8 (w:=w3) L.out bC1 bC1 rfl HN.out rfl nW vP ?_)
   intro v5 w4 hQ ch
   have Y:Touch (fun k=>w.heap.size + 2≤k∧k < wr.heap.size) w3 w4:=(Touch.of_below (bR.alloc nL _)).trans (ch.wide (fun j q=>q.2))
   have b9:=Y.size
   obtain ⟨de,n5,dv,c3,c1⟩:=hQ.parts
   obtain rfl:=c3
   have d0:n5=n + 1:=by have h1:=c1.out;have h2:=bl.out;simp at h1;omega
   have dy:=yD c1.out
   clear c1
   have HQ:=yD (hQ.wide (T:=jR (w.heap.size + 2) w4.heap.size) (fun j q=>by rcases q with q | q | q <;> (have:=q.1;have:=q.2;exact ⟨by omega,by omega⟩)))
   clear hQ ch L HN
   replace BT:=Y.kD BT bB9
   replace BX:=Y.kD BX bB9
   replace RB:=yD (RB.out.touch Y qB)
   replace X:=X.trans (Y.below X.size wB)
   clear a8 az a7 a6 aa ab an ak al
   clear Y
   subst d0
   obtain ⟨a8,az,a7,a6⟩:=kAh BT
   obtain ⟨aa,ab,an,ak,al⟩:=jU BX
   go_wp2_with fail
   refine (kTj (c5.out.1.below X) (b6.out.below X) (cn:=[.slice bf x.2.2.1.length E]) (ct:=[.slice av t.1.length bh,.slice bd t.2.1.length cu,.slice aw t.2.2.1.length bi,.slice ag t.2.2.2.length ac])).mono ?_
   rintro e w5 ⟨rfl,hb⟩
   have cd:=hb.size
   replace BT:=kD BT hb
   replace BX:=kD BX hb
   replace RB:=yD (RB.out.below hb)
   replace HQ:=yD (HQ.out.below hb)
   replace X:=(tQ X hb)
   clear a8 az a7 a6 aa ab an ak al
   clear hb
   cases U:isAnc t x.2.2.1
   case true =>
    have HF:Hid (zN t now 4 x0=true):=yD (R.out.trans (ch_anc HV.out HA.out U))
    clear U
    go_wp2
    refine bodyPost_ret (v:=.tuple #[.slice de (n + 1) dv,.bool true]) qF rfl ?_
    exact ⟨_,by rw [HF.out],X⟩
   have dw:=yD U
   clear U
   obtain ⟨a8,az,a7,a6⟩:=kAh BT
   obtain ⟨aa,ab,an,ak,al⟩:=jU BX
   go_wp2_with fail
   refine (kJp (c5.out.below X) af.out (b6.out.below X) (cn:=[.slice bf x.2.2.1.length E]) (ct:=[.slice av t.1.length bh,.slice bd t.2.1.length cu,.slice aw t.2.2.1.length bi,.slice ag t.2.2.2.length ac])).mono ?_
   rintro e w6 ⟨rfl,hb⟩
   have c8:=hb.size
   replace BT:=kD BT hb
   replace BX:=kD BX hb
   replace RB:=yD (RB.out.below hb)
   replace HQ:=yD (HQ.out.below hb)
   replace X:=(tQ X hb)
   clear a8 az a7 a6 aa ab an ak al
   clear hb
   by_cases hi:kBp t x.2.2.1 now < 0
   · have HF:Hid (zN t now 4 x0=false):=yD (R.out.trans (ch_none dw.out hi))
     go_wp2
     refine bodyPost_ret (v:=.tuple #[.slice none 0 0,.bool false]) qF rfl ?_
     exact ⟨_,by rw [HF.out],X⟩
   obtain ⟨j,I,G⟩:=fc_ge hi
   have fy:=yD (R.out.trans (ch_next HV.out HA.out dw.out I G))
   have a9:=c4.out j I
   have c2:=af.out j I
   obtain ⟨qb,qo,cl,ah,ai,aj,ck,co,qr,a1,a4,bb,b0,b4⟩:=kE.get5 db.out I rfl
   obtain rfl:=cl
   rw [G]
   clear G hi
   generalize t.2.2.2[j]=y at *
   have dd:=yD (show jA.rd w _ y from ⟨qr,a9⟩)
   obtain ⟨bq,cc,cj,aq,ar,ax,ap,bc,bv,bz,ci⟩:=jN qr
   simp only [List.cons.injEq,and_true] at aq
   obtain ⟨rfl,rfl,rfl,rfl,rfl⟩:=aq
   obtain ⟨ae,be,rfl,_⟩:=kE.sl ax
   obtain ⟨ao,br,rfl,_⟩:=kE.sl ap
   obtain ⟨am,bt,rfl,_⟩:=kE.sl bv
   clear ar ax ap bc bv bz ci qr a9
   replace a1:=cL X a1
   replace a4:=cL X a4
   replace bb:=cL X bb
   replace b0:=cL X b0
   replace b4:=cL X b4
   have dn:(j:Int) < t.2.2.2.length:=bB9
   have d2:=Int.natCast_nonneg j
   have da:¬ ((j:Int) < 0):=bB9
   obtain ⟨a8,az,a7,a6⟩:=kAh BT
   obtain ⟨aa,ab,an,ak,al⟩:=jU BX
   obtain ⟨dt,di,dj,dm,dk⟩:=zh BX
   go_wp2
   generalize F:World.setCell (World.setCell (World.setCell (World.setCell (World.setCell w6 _ _) _ _) _ _) _ _) _ _=w7
   have a5:Touch (fun k=>k=w.heap.size + 1) w6 w7:=bW
   have BY:w7.heap[w.heap.size + 1]?=some (.cells #[.slice ae y.1.length be,.slice ao y.2.1.length br,.slice am y.2.2.1.length bt,.int .i64 y.2.2.2.1,.int .i64 y.2.2.2.2] 43 (0,0)):=by rw [← F];exact kH (kH (kH (kH (kH (BX) 0) 1) 2) 3) 4
   have dg:=a5.size
   clear F a1 a4 bb b0 b4
   replace BT:=a5.kD BT bB9
   replace RB:=yD (RB.out.touch a5 qB)
   replace HQ:=yD (HQ.out.touch a5 qB)
   replace X:=X.trans (a5.below X.size wB)
   clear a8 az a7 a6 aa ab an ak al dt di dj dm dk
   go_roundw
   case rel=>exact ⟨n + 1,_,y,de,dv,ae,ao,am,be,br,bt,rfl,by omega,dy,yD (fy.out.trans (by rw [show 3 - n=4 - (n + 1) by omega])),yD (HQ.out.wide rE),BT,BY,dd,c2,by omega,X⟩
   simp [slen];omega
 obtain rfl:n=4:=bB9
 skip
 replace R:=yD (show zN t now 4 x0=false from R.out)
 obtain ⟨a8,az,a7,a6⟩:=kAh BT
 obtain ⟨aa,ab,an,ak,al⟩:=jU BX
 go_wp2_with fail
 refine (kBw (au.out.below X) (a3.out.below X) b8 (cx:=[.slice bg x.1.length J,.slice ay x.2.1.length bx,.slice bf x.2.2.1.length E,.int .i64 x.2.2.2.1,.int .i64 x.2.2.2.2])).mono ?_
 rintro e w1 ⟨rfl,hb⟩
 have bn:=hb.size
 obtain ⟨BT,BX,L,X⟩:=xN
 clear a8 az a7 a6 aa ab an ak al
 clear hb
 obtain ⟨a8,az,a7,a6⟩:=kAh BT
 obtain ⟨aa,ab,an,ak,al⟩:=jU BX
 cases hv:verS t.1 x
 · have HF:Hid (zN t now 4 x0=false):=yD (R.out)
   exact aG
 have HV:=yD hv
 clear hv
 go_wp2_with fail
 refine (kLy (dc.out.below X) (dx.out.below X) (b6.out.below X) (cn:=[.slice bg x.1.length J]) (cm:=[.slice bf x.2.2.1.length E])).mono ?_
 rintro e V ⟨rfl,hb⟩
 have bo:=hb.size
 obtain ⟨BT,BX,L,X⟩:=xN
 clear a8 az a7 a6 aa ab an ak al
 clear hb
 cases ha:kBq t.2.1 x.1 x.2.2.1
 · have HF:Hid (zN t now 4 x0=false):=yD (R.out)
   exact aH
 have HA:=yD ha
 clear ha
 go_wp2
 refine bodyPost_ret (v:=.tuple #[.slice none 0 0,.bool false]) qF rfl ?_
 exact ⟨_,by rw [R.out],X⟩
theorem kRf {w:World} {ct:List Value} {t:jS} (D:je.rd w ct t) (hB:∀ k (h:k < t.2.2.2.length),t.2.2.2[k].2.1.length≤2000000) {cx:List Value} {x:jG} (hx:jA.rd w cx x) (b8:x.2.1.length≤2000000) {now:Int} :
    Calls prog 28 #[.agg ct.toArray,.agg cx.toArray,.int .i64 now] w (bQ w (.bool (trusted t x now))):=by
 have ht:=D.1
 have hy:=hx.1
 obtain ⟨dh,el,eu,c6,rfl,a2,bk,bm,b7⟩:=zb ht
 obtain ⟨av,bh,rfl,et⟩:=kE.sl a2
 obtain ⟨bd,cu,rfl,er⟩:=kE.sl bk
 obtain ⟨aw,bi,rfl,eo⟩:=kE.sl bm
 obtain ⟨ag,ac,rfl,c9⟩:=kE.sl b7
 obtain ⟨c7,d1,dl,rfl,bw,ba,b3,b5,W,cz,cf⟩:=jN hy
 obtain ⟨bg,J,rfl,dq⟩:=kE.sl ba
 obtain ⟨ay,bx,rfl,du⟩:=kE.sl b3
 obtain ⟨bf,E,rfl,dr⟩:=kE.sl W
 have c5:=yD D;have a3:=yD hx;have af:=yD hB
 have U:=yD (show trusted t x now=(kBc x && zN t now 4 x) from rfl)
 clear D hB hx ht hy a2 bk bm b7 bw ba b3 b5 W cz cf
 go_enter func28,ntmps28
 go_upto_region 1 with fail
 generalize H:World.alloc (World.alloc w _) _=N
 have X:Below w.heap.size w N:=by rw [← H];exact bI
 have BT:N.heap[w.heap.size]?=some (.cells #[.slice av t.1.length bh,.slice bd t.2.1.length cu,.slice aw t.2.2.1.length bi,.slice ag t.2.2.2.length ac] 38 (0,0)):=sP
 have BX:N.heap[w.heap.size + 1]?=some (.cells #[.slice bg x.1.length J,.slice ay x.2.1.length bx,.slice bf x.2.2.1.length E,.int .i64 x.2.2.2.1,.int .i64 x.2.2.2.2] 43 (0,0)):=by rw [← H];exact kG bC0
 clear H
 obtain ⟨a8,az,a7,a6⟩:=kAh BT
 obtain ⟨aa,ab,an,ak,al⟩:=jU BX
 go_wp2_with fail
 refine (kPg (c5.out.below X) af.out (a3.out.below X) b8 (ct:=[.slice av t.1.length bh,.slice bd t.2.1.length cu,.slice aw t.2.2.1.length bi,.slice ag t.2.2.2.length ac]) (cx:=[.slice bg x.1.length J,.slice ay x.2.1.length bx,.slice bf x.2.2.1.length E,.int .i64 x.2.2.2.1,.int .i64 x.2.2.2.2])).mono ?_
 rintro e w1 ⟨v_,rfl,hb⟩
 have bn:=hb.size
 replace BT:=kD BT hb
 replace BX:=kD BX hb
 replace X:=(tQ X hb)
 clear a8 az a7 a6 aa ab an ak al
 clear hb
 generalize zN t now 4 x=I at *
 obtain ⟨a8,az,a7,a6⟩:=kAh BT
 obtain ⟨aa,ab,an,ak,al⟩:=jU BX
 cases I
 · have HU:Hid (trusted t x now=false):=yD wC
   go_wp2
   go_ret
   exact ⟨kR HU.out.symm,X⟩
 have HU:Hid (trusted t x now=kBc x):=yD wC
 go_wp2_with fail
 refine (kDf (a3.out.1.below X) (cx:=[.slice bg x.1.length J,.slice ay x.2.1.length bx,.slice bf x.2.2.1.length E,.int .i64 x.2.2.2.1,.int .i64 x.2.2.2.2])).mono ?_
 rintro e V ⟨rfl,hb⟩
 have bo:=hb.size
 exact aI
theorem kGu {w:World} {cx:List Value} {x:yI} (hx:yA.rd w cx x) {ct:List Value} {t:jS} (D:je.rd w ct t) (hB:∀ k (h:k < t.2.2.2.length),t.2.2.2[k].2.1.length≤2000000) {cy:List Value} {y:jG} (b6:jA.rd w cy y) (O:y.2.1.length≤2000000) {now:Int} :
    Calls prog 8 #[.agg cx.toArray,.agg ct.toArray,.agg cy.toArray,.int .i64 now] w (bQ w (.bool (kBt x t y now))):=by
 have ht:=D.1
 have hy:=b6.1
 have hn:=hx.1
 obtain ⟨c7,dl,a5,a3,a9,a4,rfl,bw,ba,b3,b5,W,cz,cf,F,I⟩:=zf hn
 obtain ⟨bg,J,rfl,dq⟩:=kE.sl bw
 obtain ⟨bf,E,rfl,dr⟩:=kE.sl b5
 obtain ⟨ay,au,rfl,a1⟩:=kE.sl W
 obtain ⟨L,ax,rfl,be⟩:=kE.sl cz
 obtain ⟨ao,Y,rfl,bc⟩:=kE.sl cf
 obtain ⟨aq,ap,rfl,bp⟩:=kE.sl F
 obtain ⟨dh,el,eu,c6,rfl,a2,bk,bm,b7⟩:=zb ht
 obtain ⟨av,bh,rfl,et⟩:=kE.sl a2
 obtain ⟨bd,cu,rfl,er⟩:=kE.sl bk
 obtain ⟨aw,bi,rfl,eo⟩:=kE.sl bm
 obtain ⟨ag,ac,rfl,c9⟩:=kE.sl b7
 obtain ⟨dp,ea,d9,rfl,bj,bu,b1,ce,cq,cv,cw⟩:=jN hy
 obtain ⟨bl,b0,rfl,ef⟩:=kE.sl bu
 obtain ⟨co,cl,rfl,ee⟩:=kE.sl b1
 obtain ⟨cj,b4,rfl,eh⟩:=kE.sl cq
 have c5:=yD D;have dd:=yD b6;have af:=yD hB;have HP:=yD W;have ar:=yD bj
 have U:=yD (show kBt x t y now=(hasP x.2.2.1 y.1 && trusted t y now) from rfl)
 clear D hB hx ht hy hn b6 bw ba b3 b5 W cz cf F I a2 bk bm b7 bj bu b1 ce cq cv cw
 go_enter func8,ntmps8
 go_upto_region 1 with fail
 generalize H:World.alloc (World.alloc (World.alloc w _) _) _=N
 have X:Below w.heap.size w N:=by rw [← H];exact bI
 have BN:N.heap[w.heap.size]?=some (.cells #[.slice bg (x.1).length J,.int .i64 x.2.1.1,.slice bf (x.2.1.2).length E,.slice ay (x.2.2.1).length au,.slice L (x.2.2.2.1).length ax,.slice ao (x.2.2.2.2.1).length Y,.slice aq (x.2.2.2.2.2.1).length ap,.int .i64 x.2.2.2.2.2.2] 33 (0,0)):=by rw [← H];exact jC (jC (kG rfl))
 have BT:N.heap[w.heap.size + 1]?=some (.cells #[.slice av t.1.length bh,.slice bd t.2.1.length cu,.slice aw t.2.2.1.length bi,.slice ag t.2.2.2.length ac] 38 (0,0)):=by rw [← H];exact jC (kG bC0)
 have BX:N.heap[w.heap.size + 1 + 1]?=some (.cells #[.slice bl y.1.length b0,.slice co y.2.1.length cl,.slice cj y.2.2.1.length b4,.int .i64 y.2.2.2.1,.int .i64 y.2.2.2.2] 43 (0,0)):=by rw [← H];exact kG bC0
 clear H
 obtain ⟨bb,am,ae,R,Z,aj,ai,ah⟩:=zt BN
 obtain ⟨a8,az,a7,a6⟩:=kAh BT
 obtain ⟨aa,ab,an,ak,al⟩:=jU BX
 go_wp2_with fail
 refine (kPi (HP.out.below X) (ar.out.below X) (cn:=[.slice bl y.1.length b0])).mono ?_
 rintro e w1 ⟨rfl,hb⟩
 have bn:=hb.size
 replace BN:=kD BN hb
 replace BT:=kD BT hb
 replace BX:=kD BX hb
 replace X:=(tQ X hb)
 clear bb am ae R Z aj ai ah a8 az a7 a6 aa ab an ak al
 clear hb
 cases hh:hasP x.2.2.1 y.1
 · have HU:Hid (kBt x t y now=false):=yD (by rw [U.out,hh];rfl)
   have G:decide (0≤idxOf (jV y.1) x.2.2.1)=false:=hh
   clear hh
   go_wp2
   go_ret
   exact ⟨kR HU.out.symm,X⟩
 have HU:Hid (kBt x t y now=trusted t y now):=yD (by rw [U.out,hh];rfl)
 have G:decide (0≤idxOf (jV y.1) x.2.2.1)=true:=hh
 clear hh
 obtain ⟨a8,az,a7,a6⟩:=kAh BT
 obtain ⟨aa,ab,an,ak,al⟩:=jU BX
 go_wp2_with fail
 refine (kRf (c5.out.below X) af.out (dd.out.below X) O (ct:=[.slice av t.1.length bh,.slice bd t.2.1.length cu,.slice aw t.2.2.1.length bi,.slice ag t.2.2.2.length ac]) (cx:=[.slice bl y.1.length b0,.slice co y.2.1.length cl,.slice cj y.2.2.1.length b4,.int .i64 y.2.2.2.1,.int .i64 y.2.2.2.2])).mono ?_
 rintro e V ⟨rfl,hb⟩
 have bo:=hb.size
 replace BN:=kD BN hb
 exact aI
def kAd (f:Int) (y:jG) (D:List kP):List yO:=(D.filter (fun r=>!decide (r.1=f))).map (fun r=>(r.1,false,zI,y))
theorem kPq (f:Int) (y:jG) (D:List kP):(kAd f y D).length≤D.length:=by
 unfold kAd
 rw [List.length_map]
 exact List.length_filter_le _ _
theorem kVw {f:Int} {y:jG} {D:List kP} {k:Nat} (h:k < D.length) (hf:¬ D[k].1=f):kAd f y (D.take (k + 1))=kAd f y (D.take k)++[(D[k].1,false,zI,y)]:=by
 exact lD
theorem dataQ_no {f:Int} {y:jG} {D:List kP} {k:Nat} (h:k < D.length) (hf:D[k].1=f):kAd f y (D.take (k + 1))=kAd f y (D.take k):=by
 exact lD
def kGl (n:kQ) (s:List jI) (D:List kP):List jI:=D.foldl (fun s r=>zF s n r.2.1) s
theorem seenF_next {n:kQ} {D:List kP} {s:List jI} {j:Nat} (h:j < D.length):kGl n s (D.take (j + 1))=zF (kGl n s (D.take j)) n D[j].2.1:=kUi h
theorem seenF_len (n:kQ) (s:List jI) (D:List kP):(kGl n s D).length≤max s.length 24:=kNh D s
def kHl (y:jG) (t:Int) (x0:List jG) (x1:kg):kg:=if idxOf (isD y.1) x0 < 0 then kAb y t x1 else x1
def recN (f:Int) (n:kQ) (x4:List jL) (x5:List kT):List kT:=if mOk n x4 then kKb (kNp n x4) f x5 else x5
def kQi (x:yI) (p:jS) (f:Int) (y:jG) (t:Int):kXh :=
  if kBt x p y t then
    ((x.1,kHl y t x.1 x.2.1,satP y.1 x.2.2.1,kGl y.1 x.2.2.2.1 (kFt y.1 x.2.2.1),x.2.2.2.2.1,recN f y.1 x.2.2.2.2.1 x.2.2.2.2.2.1,x.2.2.2.2.2.2),kAd f y (kFt y.1 x.2.2.1))
  else (dropN x,[])
theorem procD_no {x:yI} {p:jS} {f:Int} {y:jG} {t:Int} (h:kBt x p y t=false):kQi x p f y t=(dropN x,[]):=by unfold kQi;rw [h];rfl
theorem kHu {x:yI} {p:jS} {f:Int} {y:jG} {t:Int} (h:kBt x p y t=true):kQi x p f y t =
    ((x.1,kHl y t x.1 x.2.1,satP y.1 x.2.2.1,kGl y.1 x.2.2.2.1 (kFt y.1 x.2.2.1),x.2.2.2.2.1,recN f y.1 x.2.2.2.2.1 x.2.2.2.2.2.1,x.2.2.2.2.2.2),kAd f y (kFt y.1 x.2.2.1)):=by unfold kQi;rw [h];rfl
theorem cachePut_eq (y:jG) (t:Int) (c:Int) (l:List kr):∃ k,kAb y t (c,l)=(c,k):=by
 unfold kAb
 split
 · exact ⟨_,rfl⟩
 exact ⟨_,rfl⟩
theorem cacheN_yes {y:jG} {t:Int} {x0:List jG} {x1:kg} (h:idxOf (isD y.1) x0 < 0):kHl y t x0 x1=kAb y t x1:=by unfold kHl;rw [if_pos h]
theorem cacheN_no {y:jG} {t:Int} {x0:List jG} {x1:kg} (h:¬ idxOf (isD y.1) x0 < 0):kHl y t x0 x1=x1:=by unfold kHl;rw [if_neg h]
theorem recN_yes {f:Int} {n:kQ} {x4:List jL} {x5:List kT} (h:mOk n x4=true):recN f n x4 x5=kKb (kNp n x4) f x5:=by unfold recN;rw [h];rfl
theorem recN_no {f:Int} {n:kQ} {x4:List jL} {x5:List kT} (h:mOk n x4=false):recN f n x4 x5=x5:=by unfold recN;rw [h];rfl
def kEq (f:Int) (x:yO):Bool:=x.1==f
def sentT (f:Int) (l:List yO):List yO:=l.filter (kEq f)
theorem kIw {w:World} {vl:Value} {l:List yO} (hl:(kE.slice 81 ze).rd w [vl] l) {f:Int} :
    Calls prog 11 #[vl,.int .i64 f] w (zz 81 ze (l.filter (kEq f)) w):=by
 have HL:=yD hl
 obtain ⟨la,lp,rfl,ll⟩:=kE.sl hl.1
 have bj:l.length≤16777216:=hl.2.1
 clear hl
 go_enter func11,ntmps11
 go_wp2
 go_loopw [5,11] (fun v i wr=>∃ k:Nat,k≤l.length∧i=.int .i64 k∧Hid (kE.ku 81 ze wr v ((l.take k).filter (kEq f)) (jR w.heap.size wr.heap.size))∧Below w.heap.size w wr) (fun _ i _=>l.length - (intOf i).toNat)
 case atStart=>exact ⟨0,Nat.zero_le _,rfl,yD kE.ku.void,bR.alloc nL _⟩
 obtain ⟨k,hk,rfl,L,D⟩:=hrel
 obtain ⟨oa,on,oc,ho,bl⟩:=L.out.parts;obtain rfl:=ho
 have a7:((l.take k).filter (kEq f)).length≤k:=by exact kGa hk
 have a5:=D.size
 by_cases hlt:k < l.length
 · obtain ⟨qb,qo,rfl,ah,ai,aj,ck,co,bx,c9,cq,cv,c4,cf,qr,a1,a4,bb,b0,b4,ba,cw,cl,c8,da,ce⟩:=kE.get11 (HL.out.1.below D) hlt rfl
   have a9:=kE.zM HL.out hlt
   have a8:=fun q=>kMp (p:=(kEq f)) hlt q
   have bw:=fun q=>kPp (p:=(kEq f)) hlt q
   generalize l[k]=x at *
   have ay:=yD a8;have ab:=yD bw;clear a8 bw
   obtain ⟨x0,x1,x2,x3⟩:=x
   obtain ⟨cj,c5,c6,db,aq,ar,ax,ap,bc,bv,bz,ci,bg,bp,b2,a3,cc,ae,b9,b8⟩:=kMb qr
   simp only [List.cons.injEq,and_true] at aq
   obtain ⟨rfl,rfl,rfl,rfl,rfl,rfl,rfl,rfl,rfl,rfl,rfl⟩:=aq
   obtain ⟨am,bt,rfl,bo⟩:=kE.sl bc
   obtain ⟨bq,b5,rfl,c1⟩:=kE.sl b2
   obtain ⟨b1,bn,rfl,c3⟩:=kE.sl a3
   obtain ⟨b6,br,rfl,cz⟩:=kE.sl ae
   have px:ze.rd wr _ (x0,x1,x2,x3):=⟨qr,a9⟩
   go_upto_region 5 with fail
   generalize F:World.alloc wr _=R
   obtain ⟨EC,ac,M0,M1,M2,M3,M4,M5,M6,M7,M8,M9,cd⟩:=q9
   clear F
   obtain ⟨L,ak⟩:=D7
   cases hq:x0==f
   · have U:=yD (ab.out hq)
     exact l9
   have bu:=yD (ay.out hq)
   clear ay ab
   go_upto_region 6 with fail
   have pI:zg.rd wr _ x2:=⟨ax,a9.2.2.1⟩
   have pD:jA.rd wr _ x3:=⟨bg,a9.2.2.2⟩
   have FX:=yD (fun (W:World) (hW:Below R.heap.size R W)=>cLs11 hW M0 M1 M2 M3 M4 M5 M6 M7 M8 M9 cd)
   refine jO (fun W=>Below R.heap.size R W) [(0,true),(1,true),(2,true),(3,true),(4,true),(5,true),(6,true),(8,true),(9,true),(7,false),(10,false),(11,true),(12,false)] bB4 bB4 qD (bR.drew) ?_
   intro wS E
   simp only [jD,List.length_cons,List.length_nil,List.getElem?_cons_succ,List.getElem?_cons_zero,List.map_cons,List.map_nil,List.cons_append,List.nil_append,List.drop_succ_cons,List.drop_zero]
   iterate 9
    all_goals refine kS ?_
   all_goals first|(refine kK rfl E ?_)|(refine ko rfl (fun K J=>?_);go_simp;refine (kMm (pI.below (tQ EC E))).mono ?_;rintro e av ⟨tc,rfl,O,au⟩;obtain ⟨bd,rfl,al,bf,ch,bi,bk⟩:=kCz O.raw;obtain ⟨Z,N,rfl,ao⟩:=kE.sl bf;skip;clear al bf ch bi bk;have X:=yD O;have az:=au.size;have b3:=E.size;replace E:=(tQ E au);refine J _ _ E ?_;clear J K au O)
   all_goals refine kX ?_
   all_goals first|(refine kK rfl E ?_)|(refine ko rfl (fun K J=>?_);go_simp;refine (kAj (pD.below (tQ EC E))).mono ?_;rintro e aw ⟨tc,rfl,O,au⟩;obtain ⟨de,df,di,rfl,bm,a2,be,bh,a6,cg,b7⟩:=jN O.raw;obtain ⟨dl,dd,rfl,dc⟩:=kE.sl a2;skip;obtain ⟨c2,cu,rfl,dj⟩:=kE.sl be;skip;obtain ⟨dk,dg,rfl,dh⟩:=kE.sl a6;skip;clear bm a2 be bh a6 cg b7;have ag:=yD O;replace X:=yD (X.out.below au);have an:=au.size;have c7:=E.size;replace E:=(tQ E au);refine J _ _ E ?_;clear J K au O)
   all_goals refine kX ?_
   all_goals refine kS ?_
   all_goals first|(refine kK rfl E ?_)|(refine ko rfl (fun K J=>?_);go_simp;refine J _ _ (E.alloc E.size _) ?_;clear J K)
   all_goals refine kX ?_
   all_goals refine jq ?_
   have af:Below R.heap.size R aw:=E
   replace L:=yD (L.out.below E)
   have aa:=(tQ ak af)
   go_wp2_with (at_builtin;refine kE.jK rfl _ _ 50 rfl (r:=ze) (e:=81) underlying50 kQm rfl bB8 bB8 (B:=w.heap.size) L.out bC1 bC1 rfl (kE.own.wide (T:=jR R.heap.size aw.heap.size) (kE.kBe (r:=kE.int) (q:=kE.pair kE.bool (kE.pair zg jA)) (cs:=[.int .i64 x0]) (x:=x0) (y:=(x1,x2,x3)) (kE.ky ar) (kE.kBe (r:=kE.bool) (q:=kE.pair zg jA) (cs:=[.bool x1]) (x:=x1) (y:=(x2,x3)) (kE.kVu x1) (kE.ja (S:=jR wS.heap.size aw.heap.size) (A:=jR wS.heap.size av.heap.size) (B:=jR av.heap.size aw.heap.size) X.out ag.out rE rF mW))) mR) rfl mW rE mR bB9 bB9 ?_)
   exact aP
 exact aO
def kKh (x:yO):Bool:=!x.2.1 && (x.1==0)
def locD (l:List yO):List jG:=(l.filter kKh).map (fun x=>x.2.2.2)
theorem kJo {w:World} {vl:Value} {l:List yO} (hl:(kE.slice 81 ze).rd w [vl] l) :
    Calls prog 12 #[vl] w (zz 43 jA ((l.filter kKh).map (fun x:yO=>x.2.2.2)) w):=by
 have HL:=yD hl
 obtain ⟨la,lp,rfl,ll⟩:=kE.sl hl.1
 have bj:l.length≤16777216:=hl.2.1
 clear hl
 go_enter func12,ntmps12
 go_wp2
 go_loopw [3,9] (fun v i wr=>∃ k:Nat,k≤l.length∧i=.int .i64 k∧Hid (kE.ku 43 jA wr v (((l.take k).filter kKh).map (fun x:yO=>x.2.2.2)) (jR w.heap.size wr.heap.size))∧Below w.heap.size w wr) (fun _ i _=>l.length - (intOf i).toNat)
 case atStart=>exact ⟨0,Nat.zero_le _,rfl,yD kE.ku.void,bR.alloc nL _⟩
 obtain ⟨k,hk,rfl,L,D⟩:=hrel
 obtain ⟨oa,on,oc,ho,bl⟩:=L.out.parts;obtain rfl:=ho
 have a7:(((l.take k).filter kKh).map (fun x:yO=>x.2.2.2)).length≤k:=by exact fm_le hk
 have a5:=D.size
 by_cases hlt:k < l.length
 · obtain ⟨qb,qo,rfl,ah,ai,aj,ck,co,bx,c9,cq,cv,c4,cf,qr,a1,a4,bb,b0,b4,ba,cw,cl,c8,da,ce⟩:=kE.get11 (HL.out.1.below D) hlt rfl
   have a9:=kE.zM HL.out hlt
   have a8:=fun q=>fm_yes (p:=kKh) (g:=(fun x:yO=>x.2.2.2)) hlt q
   have bw:=fun q=>fm_no (p:=kKh) (g:=(fun x:yO=>x.2.2.2)) hlt q
   generalize l[k]=x at *
   have ay:=yD a8;have ab:=yD bw;clear a8 bw
   obtain ⟨x0,x1,x2,x3⟩:=x
   obtain ⟨cj,c5,c6,db,aq,ar,ax,ap,bc,bv,bz,ci,bg,bp,b2,a3,cc,ae,b9,b8⟩:=kMb qr
   simp only [List.cons.injEq,and_true] at aq
   obtain ⟨rfl,rfl,rfl,rfl,rfl,rfl,rfl,rfl,rfl,rfl,rfl⟩:=aq
   obtain ⟨am,bt,rfl,bo⟩:=kE.sl bc
   obtain ⟨bq,b5,rfl,c1⟩:=kE.sl b2
   obtain ⟨b1,bn,rfl,c3⟩:=kE.sl a3
   obtain ⟨b6,br,rfl,cz⟩:=kE.sl ae
   have px:jA.rd wr _ x3:=⟨bg,a9.2.2.2⟩
   go_upto_region 5 with fail
   generalize F:World.alloc wr _=R
   obtain ⟨EC,ac,M0,M1,M2,M3,M4,M5,M6,M7,M8,M9,cd⟩:=q9
   clear F
   obtain ⟨L,ak⟩:=D7
   cases x1
   · cases hq:(x0==0)
     · have U:=yD (ab.out (by simp [kKh,hq]))
       exact l9
     have bu:=yD (ay.out (by simp [kKh,hq]))
     clear ay ab
     exact aN
   have U:=yD (ab.out (by simp [kKh]))
   exact l9
 exact aO
def kBa (l:List kP):List Int:=l.map (·.1)
def kIy (n:kQ) (x:yI):List Int:=if idxOf (jV n) x.2.2.1 < 0 then [] else kBa (x.2.2.1.getD (idxOf (jV n) x.2.2.1).toNat ([],[],0)).2.1
theorem facesP_no {n:kQ} {x:yI} (h:idxOf (jV n) x.2.2.1 < 0):kIy n x=[]:=by unfold kIy;rw [if_pos h]
theorem facesP_yes {n:kQ} {x:yI} {k:Nat} (h:idxOf (jV n) x.2.2.1=k) (hk:k < x.2.2.1.length):kIy n x=kBa x.2.2.1[k].2.1:=by
 unfold kIy
 exact aB
theorem kWv {l:List kP} {k:Nat} (h:k < l.length):kBa (l.take (k + 1))=kBa (l.take k)++[l[k].1]:=by
 unfold kBa;rw [List.take_succ_eq_append_getElem h,List.map_append];rfl
theorem kQq (l:List kP):(kBa l).length=l.length:=by simp [kBa]
theorem kMo {w:World} {cx:List Value} {x:yI} (hx:yA.rd w cx x) {cn:List Value} {n:kQ} (hn:kM.rd w cn n) :
    Calls prog 9 #[.agg cx.toArray,.agg cn.toArray] w (kCk (kE.slice 3 kE.int) (kIy n x) w):=by
 obtain ⟨nv,rfl,am⟩:=kU hn.1
 obtain ⟨na,np,rfl,_⟩:=kE.sl am
 have HN:=yD hn
 have c4:=yD hx.2.2.2.1
 obtain ⟨ez,e9,f9,f8,f2,f1,rfl,ac,ay,a3,a5,ba,bg,b2,da,dd⟩:=zf hx.1
 obtain ⟨cl,b6,rfl,e1⟩:=kE.sl ac
 obtain ⟨c6,c5,rfl,fa⟩:=kE.sl a5
 obtain ⟨dq,dp,rfl,f3⟩:=kE.sl ba
 obtain ⟨ee,eb,rfl,f7⟩:=kE.sl bg
 obtain ⟨d3,dw,rfl,gd⟩:=kE.sl b2
 obtain ⟨d4,dr,rfl,f5⟩:=kE.sl da
 have HP:=yD ba
 have ae:x.2.2.1.length≤16777216:=c4.out.1
 clear am hn hx ac ay a3 a5 bg b2 da dd ba
 go_enter func9,ntmps9
 go_upto_region 1 with fail
 generalize H:World.alloc (World.alloc w _) _=N
 have Z:Below w.heap.size w N:=by rw [← H];exact bI
 have J:N.cell? ⟨w.heap.size,3,none⟩=some (.slice dq x.2.2.1.length dp):=tN
 have KN:N.cell? ⟨w.heap.size + 1,0,none⟩=some (.slice na n.length np):=tN
 have b8:N.heap.size=w.heap.size + 2:=bA4
 clear H
 go_upto_region 2 with fail
 generalize F:World.alloc N _=R
 have EC:Below N.heap.size N R:=rX
 have bo:R.heap.size=N.heap.size + 1:=bA3
 clear F
 replace J:=cL EC J
 replace KN:=cL EC KN
 have ED:=(tQ Z EC)
 go_wp2_with fail
 refine (kDd (HP.out.below ED) (HN.out.1.below ED)).mono ?_
 rintro e V ⟨rfl,ab⟩
 have E2:=(tQ ED ab)
 have an:=ab.size
 replace J:=cL ab J
 clear KN ab ED Z
 by_cases hk:idxOf (jV n) x.2.2.1 < 0
 · have U:=yD (facesP_no hk)
   have en:¬ (0≤idxOf (jV n) x.2.2.1):=bB9
   generalize hq:idxOf (jV n) x.2.2.1=q at *
   clear hq
   go_wp2
   go_ret
   exact ⟨_,rfl,by rw [U.out];exact kE.jf,E2⟩
 obtain ⟨k,aa,aj⟩:=kEj hk
 have bb:=yD aj
 rw [aj]
 have U:=yD (facesP_yes aj aa)
 clear hk aj
 have a8:(0:Int)≤k:=bB9
 have be:(k:Int) < x.2.2.1.length:=bB9
 have EZ:=E2
 obtain ⟨qb,qo,qE,c0,c1,c2,qr,Q0,Q1,Q2⟩:=kE.kDv (HP.out.below EZ) aa rfl
 obtain ⟨bq,cc,aq,ar,ax,ap,bc⟩:=jo qr
 simp only [List.cons.injEq,and_true] at aq
 obtain ⟨rfl,rfl,rfl⟩:=aq
 obtain ⟨sa,sp,rfl,_⟩:=kE.sl ap
 have HB:=yD (c4.out.2 _ (List.getElem_mem aa))
 clear qr ar ax bc Q0 Q2
 generalize x.2.2.1[k]=y at *
 have e7:y.2.1.length≤16777216:=HB.out.2.1.1
 subst qE
 go_wp2
 go_loopw [5,23] (fun v i wr=>∃ j:Nat,j≤y.2.1.length∧i=.int .i64 j∧Hid (kE.ku 3 kE.int wr v (kBa (y.2.1.take j)) (jR V.heap.size wr.heap.size))∧Below V.heap.size V wr) (fun _ i _=>y.2.1.length - (intOf i).toNat)
 case atStart=>exact ⟨0,Nat.zero_le _,rfl,yD kE.ku.void,bR⟩
 obtain ⟨j,I,rfl,L,D⟩:=hrel
 have dn:(0:Int)≤j:=bB9
 have af:(j:Int)≤y.2.1.length:=bB9
 have dh:=D.size
 replace J:=cL D J
 replace Q1:=cL D Q1
 obtain ⟨oa,on,oc,ho,bl⟩:=L.out.parts;obtain rfl:=ho
 have a7:(kBa (y.2.1.take j)).length≤j:=by rw [kQq];simp;omega
 have ao:w.heap.size≤V.heap.size:=E2.size
 by_cases hlt:j < y.2.1.length
 · have cg:(j:Int) < y.2.1.length:=bB9
   have bu:=yD (kWv hlt)
   obtain ⟨rb,ro,rfl,d0,W,d2,Y,R0,R1,R2⟩:=kE.kDv (ap.below D) hlt rfl
   obtain ⟨ag,al,ai,a1⟩:=zP Y
   simp only [List.cons.injEq,and_true] at ag
   obtain ⟨rfl,rfl,rfl⟩:=ag
   clear Y
   generalize y.2.1[j]=z at *
   go_upto_region 7 with fail
   generalize E:World.alloc wr _=wE
   have X:Below wr.heap.size wr wE:=by rw [← E];exact bR.alloc nL _
   have M0:wE.cell? ⟨wr.heap.size,0,none⟩=some (.int .i64 z.1):=by rw [← E];simp [go_sem]
   have ah:=X.size
   clear E
   replace L:=yD (L.out.below X)
   go_wp2_with (at_builtin;refine kE.jK rfl _ _ 48 rfl (r:=kE.int) (e:=3) underlying48 zu rfl bB8 bB8 (B:=V.heap.size) L.out bC1 bC1 rfl (kE.ky (n:=z.1) al wE) rfl (fun _ _ h=>h) rE (fun _ h=>h.elim) bB9 sN ?_)
   intro v5 w5 G ak bi
   have O:Below V.heap.size V w5:=(tQ D X).trans ak
   have aw:=yD (G.cast bu.out.symm)
   clear G ak L bu
   go_wp2
   go_roundw
   case rel=>exact ⟨j + 1,by omega,by go_num,aw,O⟩
   simp [intOf];omega
 have cg:¬ (j:Int) < y.2.1.length:=bB9
 have av:y.2.1.take j=y.2.1:=List.take_of_length_le bB9
 have HR:=yD ((L.out.cast (congrArg kBa av)).cast U.out.symm)
 clear av
 go_wp2
 go_ret
 exact ⟨_,rfl,(HR.out.own (by rw [U.out,kQq];exact e7)).wide rF,(tQ E2 D)⟩
theorem one_only {α:Type} {key:α→Int}:∀ {l:List α},l.Pairwise (fun a b=>key a < key b)→∀ {x:α},x∈l→l.filter (fun r=>key r==key x)=[x]
  | [],_,x,h=>by simp at h
  | a :: l,hp,x,h=>by
    obtain ⟨h1,h2⟩:=List.pairwise_cons.1 hp
    rcases List.mem_cons.1 h with rfl | h
    · rw [List.filter_cons_of_pos bC0,List.filter_eq_nil_iff.2 (fun y hy=>by have:=h1 y hy;simp;omega)]
    · rw [List.filter_cons_of_neg (by have:=h1 x h;simp;omega),one_only h2 h]
theorem told_one {f:Int} {y:jG} {D:List kP} (hr:rising D) {r:kP} (h:r∈D):(sentT r.1 (kAd f y D)).length=if r.1=f then 0 else 1:=by
 unfold sentT kAd
 rw [List.filter_map,List.length_map,List.filter_filter]
 split
 · next e =>
   rw [List.length_eq_zero_iff,List.filter_eq_nil_iff]
   intro q hq
   simp [kEq]
   intro h1;omega
 next e =>
 have:D.filter (fun q=>(kEq r.1 ∘ fun r=>(r.1,false,zI,y)) q && !decide (q.1=f))=D.filter (fun q=>q.1==r.1):=by
  apply List.filter_congr
  intro q hq
  by_cases h1:q.1=r.1
  · simp [kEq,h1,e]
  simp [kEq,h1]
 rw [this,one_only (key:=fun r:kP=>r.1) hr h];rfl
theorem told_all {f:Int} {y:jG} {D:List kP} {k:Nat} (h:k < D.length):(kAd f y (D.take (k + 1))).length=(kAd f y (D.take k)).length + if D[k].1=f then 0 else 1:=by
 split
 · next e=>unfold kAd;rw [List.take_succ_eq_append_getElem h,List.filter_append];simp [e]
 next e=>rw [kVw h e];simp
theorem told_home {f:Int} {y:jG} {D:List kP}:(locD (kAd f y D)).length=(sentT 0 (kAd f y D)).length:=by
 unfold locD sentT
 rw [List.length_map]
 congr 1
 apply List.filter_congr
 intro q hq
 unfold kAd at hq
 obtain ⟨r,_,rfl⟩:=List.mem_map.1 hq
 simp [kKh,kEq]
theorem facesP_sat {n:kQ} {x:yI}:kIy n x=kBa (kFt n x.2.2.1):=by
 unfold kIy kFt
 split <;> rfl
theorem satR_rising {n:kQ} {l:List kI} (h:kDh l=true):rising (kFt n l):=by
 by_cases hi:idxOf (jV n) l < 0
 · rw [(sat_no hi).2];exact List.Pairwise.nil
 obtain ⟨k,hk,e⟩:=kEj hi
 rw [(sat_yes e hk).2]
 exact (vAsk_iff.1 ((vPends_iff.1 h).2.1 _ (List.getElem_mem hk)).2.2.1).2.2
structure Told (D:List yO) (fl:List Int) (f:Int) (cnt:Nat→Nat):Prop where
  zero:cnt 0=0
  all:cnt fl.length=D.length
  one:∀ j (h:j < fl.length),(D.filter (kEq fl[j])).length=if fl[j]=f then 0 else 1
  next:∀ j (h:j < fl.length),cnt (j + 1)=cnt j + if fl[j]=f then 0 else 1
  most:∀ j,cnt j≤D.length
  home:((D.filter kKh).map (fun x:yO=>x.2.2.2)).length=(D.filter (kEq 0)).length
  len:D.length≤fl.length
theorem told_plan {x:yI} {p:jS} {f t:Int} {y:jG} (hv:kBd x=true) (hs:kBt x p y t=true):∃ cnt:Nat→Nat,Told (kQi x p f y t).2 (kIy y.1 x) f cnt:=by
 have hp:kDh x.2.2.1=true:=(nodeOk_iff.1 hv).2.2.2.1
 have hr:=satR_rising (n:=y.1) hp
 have ho:(kQi x p f y t).2=kAd f y (kFt y.1 x.2.2.1):=by rw [kHu hs]
 rw [ho,facesP_sat]
 generalize kFt y.1 x.2.2.1=D at *
 have hl:(kBa D).length=D.length:=by unfold kBa;simp
 have hg:∀ j (h:j < (kBa D).length),(kBa D)[j]=(D[j]'bB9).1:=by intro j h;exact List.getElem_map _
 refine ⟨fun j=>(kAd f y (D.take j)).length,?_,?_,?_,?_,?_,told_home,?_⟩
 · simp [kAd]
 · show (kAd f y (D.take (kBa D).length)).length=_
   rw [hl,List.take_length]
 · intro j h
   rw [hg j h]
   exact told_one hr (List.getElem_mem bB9)
 · intro j h
   rw [hg j h]
   exact told_all bB9
 · intro j
   show (kAd f y (D.take j)).length≤(kAd f y D).length
   unfold kAd
   rw [List.length_map,List.length_map]
   exact ((List.take_sublist j D).filter _).length_le
 rw [hl];exact kPq f y D
end Go.Proofs.YtonmjkmaadgceaaGreat

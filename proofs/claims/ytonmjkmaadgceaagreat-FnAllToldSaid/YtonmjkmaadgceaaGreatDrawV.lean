/-
  A thing that a node may wait for: drawn.
-/
import Derived.Test.YtonmjkmaadgceaaGreatDrawF
set_option linter.unusedVariables false
set_option linter.unusedSimpArgs false
set_option linter.unnecessarySimpa false
set_option maxRecDepth 100000
set_option maxHeartbeats 8000000
namespace Go.Proofs.YtonmjkmaadgceaaGreat
open Go.RowKit _root_.Go.Proofs.Tryz
theorem two_parts {ps:kQ} (h:ps.length=2):0 < ps.length:=by omega
theorem kSg {w0 w:World} {p:Nat} (hc:yK w0 w p) {cx:List Value} {x:yI} (hx:yA.jY w cx x (fun k=>¬ k=p)) (ci:x.2.2.1.length≤200) (db:∀ y∈x.2.2.1,yM y.1) {ct:List Value} {tp:jS} (ht:je.jY w ct tp (fun k=>¬ k=p)) :
    Calls prog 40 #[.pointer (some ⟨p,0,none⟩),.agg cx.toArray,.agg ct.toArray] w fun e w'=>kXj 10 w0 w p e w':=by
 obtain ⟨b7,cj⟩:=hc.lt
 obtain ⟨a0,c0,a1,c1,a2,c2,a3,c3,a4,c4,a5,c5,rfl⟩:=kDu hx.rd.1
 obtain ⟨x0,⟨kc,xe⟩,x2,x3,x4,x5,x6⟩:=x
 have hl:=(kDt (c0:=.slice a0 x0.length c0) hx).2.2.1
 have HL:=yD (hl.live.wide (T:=(fun k=>k < w.heap.size∧¬ k=p)) (fun k q=>⟨q.2,q.1⟩))
 replace ci:x2.length≤200:=ci
 have ah:=yD (show ∀ y∈x2,yM y.1 from db)
 clear hl hx db
 obtain ⟨av,br,bd,bw,aw,bz,ag,bt,rfl⟩:=kDj ht.rd.1
 obtain ⟨af,bx,ba,bq⟩:=tp
 have U:=yD (show je.jY w [.slice av af.length br,.slice bd bx.length bw,.slice aw ba.length bz,.slice ag bq.length bt] (af,bx,ba,bq) (fun k=>k < w.heap.size∧¬ k=p) from ht.live.wide (fun k q=>⟨q.2,q.1⟩))
 clear ht
 go_enter func40,ntmps40
 go_upto_region 1 with fail
 generalize F:World.alloc (World.alloc (World.alloc w _) _) _=w1
 have hb:Below w.heap.size w w1:=by rw [← F];exact ((bR.alloc nL _).alloc bC0 _).alloc wF _
 have BX:w1.heap[w.heap.size]?=some (.cells #[.slice a0 x0.length c0,.int .i64 kc,.slice a1 xe.length c1,.slice a2 x2.length c2,.slice a3 x3.length c3,.slice a4 x4.length c4,.slice a5 x5.length c5,.int .i64 x6] 33 (0,0)):=rA
 have BT:w1.heap[w.heap.size + 1]?=some (.cells #[.slice av af.length br,.slice bd bx.length bw,.slice aw ba.length bz,.slice ag bq.length bt] 38 (0,0)):=by rw [← F];exact jC (kG bC0)
 have R:w1.heap[w.heap.size + 2]?=some (.cells #[.slice none 0 0,.slice none 0 0,.slice none 0 0,.int .i64 0,.int .i64 0] 43 (0,0)):=by rw [← F];exact kG bC0
 have bn:w.heap.size + 3≤w1.heap.size:=bA3
 clear F
 replace HL:=yD (HL.out.below hb)
 replace U:=yD (U.out.below hb)
 obtain ⟨hc,H⟩:=CQ
 clear hb
 obtain ⟨a8,az,a7,a6⟩:=kAh BT
 go_wp2_with fail
 refine (kHc hc (ct:=[.slice av af.length br,.slice bd bx.length bw,.slice aw ba.length bz,.slice ag bq.length bt]) U.out (fun k q=>q.2)).mono ?_
 rintro e V ⟨ds,y,rfl,hY,dh,G,D⟩
 have bo:=D.size
 replace BX:=D.kD BX bB9
 replace BT:=D.kD BT bB9
 replace R:=D.kD R bB9
 replace HL:=yD (HL.out.touch D qB)
 replace U:=yD (U.out.touch D qB)
 replace H:=H.trans D
 clear a8 az a7 a6
 clear hc D
 have hc:=G
 clear G
 obtain ⟨ai,b2,b5,b8,b3,cd,rfl⟩:=yN hY.raw
 have HY:=yD (show jA.own _ [.slice ai y.1.length b2,.slice b5 y.2.1.length b8,.slice b3 y.2.2.1.length cd,.int .i64 y.2.2.2.1,.int .i64 y.2.2.2.2] y (jR w1.heap.size V.heap.size) from hY)
 clear hY
 go_upto_region 2 with fail
 generalize F:World.alloc V _=w3
 have ap:Below V.heap.size V w3:=rX
 have BY:w3.heap[V.heap.size]?=some (.cells #[.slice ai y.1.length b2,.slice b5 y.2.1.length b8,.slice b3 y.2.2.1.length cd,.int .i64 y.2.2.2.1,.int .i64 y.2.2.2.2] 43 (0,0)):=tX
 have bp:V.heap.size + 1≤w3.heap.size:=bA3
 clear F
 replace BX:=kD BX ap
 replace BT:=kD BT ap
 replace R:=kD R ap
 replace HL:=yD (HL.out.below ap)
 replace U:=yD (U.out.below ap)
 replace HY:=yD (HY.out.below ap)
 replace hc:=hc.below ap
 replace H:=H.trans (Touch.of_below ap)
 clear ap
 obtain ⟨aa,ab,an,ak,al,aj,am,ao⟩:=zt BX
 have HK:=yD (kSa U.out)
 clear U
 by_cases da:0 < x2.length
 · have de:(0:Int) < x2.length:=bB9
   go_wp2_with fail
   refine (zk (n:=2) hc bB8).mono ?_
   rintro e w4 ⟨b_,rfl,G,D⟩
   have b9:=D.size
   replace BX:=D.kD BX bB9
   replace BT:=D.kD BT bB9
   replace R:=D.kD R bB9
   replace BY:=D.kD BY bB9
   replace HL:=yD (HL.out.touch D qB)
   replace HY:=yD (HY.out.touch D qB)
   replace HK:=yD (HK.out.touch D qB)
   replace H:=H.trans D
   clear aa ab an ak al aj am ao
   clear hc D
   have hc:=G
   clear G
   cases b_
   · have ac:w4.cell? ⟨w.heap.size + 2,0,none⟩=some (.slice none 0 0):=kF R rfl
     have au:w4.cell? ⟨w.heap.size + 2,1,none⟩=some (.slice none 0 0):=kF R rfl
     have bi:w4.cell? ⟨w.heap.size + 2,2,none⟩=some (.slice none 0 0):=kF R rfl
     have bm:w4.cell? ⟨w.heap.size + 2,3,none⟩=some (.int .i64 0):=kF R rfl
     have bv:w4.cell? ⟨w.heap.size + 2,4,none⟩=some (.int .i64 0):=kF R rfl
     obtain ⟨be,bf,bc,bg,a9⟩:=jU BY
     exact eU
   go_upto_region 3 with fail
   have ej:=hc.lt.2
   obtain ⟨bb,off,rfl,dg⟩:=rdB_at HL.out da
   have ck:=dg.2
   have bk:=dg.1
   clear dg
   have FX:=yD (fun (W:World) (hW:Touch (fun k=>k=p) w4 W∧yK w0 W p)=>kF (hW.1.kD BX bB9) (j:=3) (v:=.slice (some ⟨bb,off,none⟩) x2.length c2) rfl)
   refine kAf (fun W=>Touch (fun k=>k=p) w4 W∧yK w0 W p) bB4 (⟨Touch.of_below bR.drew,hc.below bR.drew⟩) ?_
   intro t E
   have eb:=E.1.size
   refine jB 0 ?_
   refine kX ?_
   refine jB 1 ?_
   refine kX ?_
   refine jB 2 ?_
   refine kX ?_
   refine jB 3 ?_
   refine kX ?_
   refine jB 4 ?_
   refine kX ?_
   refine jB 5 ?_
   refine kX ?_
   refine kFp ?_
   intro T A Y hA
   have dz:∀ (k:Nat),∀ (na:Option Addr),∀ (nc:Nat),∀ (z:kI),∀ (b:Nat),∀ (W:World),Touch (fun k=>k=p) w4 W∧yK w0 W p→(k < x2.length)→(w4.cell? ⟨bb,off + k * 3,none⟩=some (.slice na z.1.length nc))→(Hid (kM.jY w4 [.slice na z.1.length nc] z.1 (fun k=>k < w.heap.size∧¬ k=p)))→(Hid (yM z.1))→(w4.heap.size≤b∧b < W.heap.size)→(W.heap[b]?=some (.cells #[.slice na z.1.length nc] 41 (0,0)))→T 0 [true,true,true,true,true,true,true,true,true,true,true,true] (Act.put (Act.put (Act.put (Act.put (Act.put A (some 26) (.int .i64 k)) (some 27) (.pointer (some ⟨bb,off + k * 3,none⟩))) (some 28) (.pointer (some ⟨bb,off + k * 3,none⟩))) (some 29) (.agg #[.slice na z.1.length nc])) (some 8) (.pointer (some ⟨b,0,none⟩))) W:=by
    intro k na nc z b W E hk L HN HZ N BB
    have b6:=E.1.size
    subst Y
    subst hA
    simp only [Act.put,zA,zB,zC]
    refine yR bB4 ?_
    replace R:=E.1.kD R bB9
    replace BY:=E.1.kD BY bB9
    replace BT:=E.1.kD BT bB9
    replace H:=H.trans E.1
    replace HN:=yD (HN.out.touch E.1 (fun k q h=>q.2 h))
    replace HK:=yD (HK.out.touch E.1 (fun k q h=>q.2 h))
    replace HY:=yD (HY.out.touch E.1 sK)
    have zW:=E.1.size
    clear hc
    have hc:=E.2
    have X:=BB
    clear E BB BX HL ah
    have c8:W.cell? ⟨b,0,none⟩=some (.slice na z.1.length nc):=kF X rfl
    by_cases h2:z.1.length=2
    · have ea:(z.1.length:Int)=2:=bB9
      have em:((z.1.length:Int)==2)=true:=by simpa using ea
      have eh:=two_parts h2
      clear h2 ea
      go_upto_region 5 with fail
      clear c8
      obtain ⟨nb,no,rfl,eg⟩:=rdB_at HN.out eh
      have d2:=eg.2
      have cq:=eg.1
      clear eg
      obtain ⟨en,eo,b1,n0,cf,N0⟩:=kE.kBo HN.out.rd.1 (i:=0) eh rfl
      simp only [Option.some.injEq,Addr.mk.injEq,and_true] at b1
      obtain ⟨rfl,rfl⟩:=b1
      have d4:[n0]=[.string z.1[0]]:=(kE.yY cf).1
      obtain rfl:n0=.string z.1[0]:=by simpa using d4
      have b0:=HZ.out _ (List.getElem_mem eh)
      obtain ⟨s0,dt⟩:∃ s,z.1[0]=s:=⟨_,rfl⟩
      rw [dt] at N0 b0
      simp only [Nat.zero_mul,Nat.add_zero] at N0
      clear cf d4 dt HZ
      have d6:(({ data:=#[47] }:ByteArray)++s0).size≤65:=dO
      have dy:((({ data:=#[47] }:ByteArray)++s0)++({ data:=#[47,107,101,121] }:ByteArray)).size≤69:=dF
      refine kAp (fun U_=>Touch (fun k=>k=p∨k=V.heap.size) W U_) bB4 (Touch.of_below bR.drew) ?_
      intro t1 dj E
      have bD:Below W.heap.size W t1:=(by rw [dj];exact bR.drew)
      replace BY:=kD BY bD
      replace hc:=hc.below bD
      have ee:=bD.size
      clear bD dj
      refine jB 0 ?_
      refine kX ?_
      refine yB (k:=1) (v:=?_) rfl bB4 qD rfl E (fun W hW=>?_) ?_
      rotate_left
      · have cg:=kF (hW.kD BT bB9) (j:=0) (v:=.slice av af.length br) rfl;have c9:=kF (hW.kD BT bB9) (j:=1) (v:=.slice bd bx.length bw) rfl;have di:=kF (hW.kD BT bB9) (j:=2) (v:=.slice aw ba.length bz) rfl;have df:=kF (hW.kD BT bB9) (j:=3) (v:=.slice ag bq.length bt) rfl;have dd:=kF (hW.kD X bB9) (j:=0) (v:=.slice (some ⟨nb,no,none⟩) z.1.length nc) rfl;have dk:=hW.kJl N0 bB9;clear hW;go_simp;try with_reducible rfl
      refine kX ?_
      refine jB 2 ?_
      refine kX ?_
      refine yB (k:=3) (v:=?_) rfl bB4 qD rfl E (fun W hW=>?_) ?_
      rotate_left
      · have cg:=kF (hW.kD BT bB9) (j:=0) (v:=.slice av af.length br) rfl;have c9:=kF (hW.kD BT bB9) (j:=1) (v:=.slice bd bx.length bw) rfl;have di:=kF (hW.kD BT bB9) (j:=2) (v:=.slice aw ba.length bz) rfl;have df:=kF (hW.kD BT bB9) (j:=3) (v:=.slice ag bq.length bt) rfl;have dd:=kF (hW.kD X bB9) (j:=0) (v:=.slice (some ⟨nb,no,none⟩) z.1.length nc) rfl;have dk:=hW.kJl N0 bB9;clear hW;go_simp;try with_reducible rfl
      refine kX ?_
      refine jB 4 ?_
      refine kX ?_
      refine yB (k:=5) (v:=?_) rfl bB4 qD rfl E (fun W hW=>?_) ?_
      rotate_left
      · have cg:=kF (hW.kD BT bB9) (j:=0) (v:=.slice av af.length br) rfl;have c9:=kF (hW.kD BT bB9) (j:=1) (v:=.slice bd bx.length bw) rfl;have di:=kF (hW.kD BT bB9) (j:=2) (v:=.slice aw ba.length bz) rfl;have df:=kF (hW.kD BT bB9) (j:=3) (v:=.slice ag bq.length bt) rfl;have dd:=kF (hW.kD X bB9) (j:=0) (v:=.slice (some ⟨nb,no,none⟩) z.1.length nc) rfl;have dk:=hW.kJl N0 bB9;clear hW;go_simp;try with_reducible rfl
      refine kX ?_
      refine yB (k:=6) (v:=?_) rfl bB4 qD rfl E (fun W hW=>?_) ?_
      rotate_left
      · go_simp;(try rw [if_neg (by simp [ByteArray.size_append];omega)]);try with_reducible rfl
      refine kX ?_
      refine yB (k:=7) (v:=?_) rfl bB4 qD rfl E (fun W hW=>?_) ?_
      rotate_left
      · go_simp;(try rw [if_neg (by simp [ByteArray.size_append];omega)]);try with_reducible rfl
      refine kX ?_
      refine yB (k:=9) (v:=?_) rfl bB4 qD rfl E (fun W hW=>?_) ?_
      rotate_left
      · have cg:=kF (hW.kD BT bB9) (j:=0) (v:=.slice av af.length br) rfl;have c9:=kF (hW.kD BT bB9) (j:=1) (v:=.slice bd bx.length bw) rfl;have di:=kF (hW.kD BT bB9) (j:=2) (v:=.slice aw ba.length bz) rfl;have df:=kF (hW.kD BT bB9) (j:=3) (v:=.slice ag bq.length bt) rfl;have dd:=kF (hW.kD X bB9) (j:=0) (v:=.slice (some ⟨nb,no,none⟩) z.1.length nc) rfl;have dk:=hW.kJl N0 bB9;clear hW;go_simp;try with_reducible rfl
      refine kX ?_
      refine yG (i:=8) (j:=10) rfl rfl bB4 rfl rfl (fun K J=>?_) (fun K J=>?_)
      · go_simp
        generalize ({ data:=#[47] }:ByteArray)++s0=s2 at *
        generalize s2++({ data:=#[47,107,101,121] }:ByteArray)=s3 at *
        refine (kMd (M:=69) (s:=s3) bB8 dy).mono ?_
        rintro e t2 ⟨ya,yc,ys,rfl,hr,ek,dr,hb⟩
        have d7:=hb.size
        replace BY:=kD BY hb
        obtain ⟨hc,E⟩:=DR
        clear hb
        have HM:=yD (hr)
        refine J _ _ E ?_
        clear J K
        refine kX ?_
        refine kY (k:=10) rfl bB4 rfl (fun K J=>?_)
        go_simp
        generalize F:World.alloc t2 _=t3
        have hb:Below t2.heap.size t2 t3:=(by rw [← F];exact bR.alloc nL _)
        have O:Hid ((kE.slice 5 kE.byte).own t3 [.slice (some ⟨t2.heap.size,0,none⟩) 1 1] [(7:UInt8)] (fun k=>k=t2.heap.size)):=(by rw [← F];exact yD (kE.ku.own (kE.kGr (e:=5) t2 (kE.kVt 7)) (by unfold Big;simp)))
        have d5:t2.heap.size + 1≤t3.heap.size:=(by rw [← F];simp)
        clear F
        replace BY:=kD BY hb
        replace HM:=yD (HM.out.below hb)
        replace hc:=hc.below hb
        obtain ⟨lb,bj⟩:∃ b_,b_=t2.heap.size:=⟨_,rfl⟩
        rw [← bj] at O ⊢
        obtain ⟨O,ed,ec⟩:=DT
        clear bj
        replace E:=E.trans (Touch.of_below hb)
        clear hb
        refine J _ _ E ?_
        clear J K
        refine kX ?_
        refine kY (k:=11) rfl bB4 rfl (fun K J=>?_)
        go_simp
        refine (kAs (l:=af) (HK.out.touch E nO).rd.1 (cb:=[.slice ya ys.length yc]) HM.out.rd (cn:=[.slice (some ⟨nb,no,none⟩) z.1.length nc]) (HN.out.touch E nO).rd O.out.rd bC0 (tl:=4000) bB8).mono ?_
        rintro e t4 ⟨ds,z_,ok,rfl,hO,d0,hb⟩
        have d3:=hb.size
        replace BY:=kD BY hb
        replace HM:=yD (HM.out.below hb)
        replace O:=yD (O.out.below hb)
        obtain ⟨hc,E⟩:=DR
        clear hb
        obtain ⟨dx,dn,du,dc,dv,dw,rfl⟩:=yN hO.raw
        have d1:z_.2.1.length≤10:=Nat.le_trans d0 bC0
        have HZ:=yD (hO)
        refine J _ _ E ?_
        clear J K
        refine kX ?_
        refine jB 12 ?_
        refine kX ?_
        refine jB 13 ?_
        refine kX ?_
        refine jB 14 ?_
        refine kX ?_
        refine kY (k:=15) rfl bB4 rfl (fun K J=>?_)
        obtain ⟨ch,cv,cl,cz,dm⟩:=jU BY
        obtain ⟨cw,co,cu,c7,dl⟩:=zh BY
        go_simp
        generalize F:World.setCell (World.setCell (World.setCell (World.setCell (World.setCell t4 _ _) _ _) _ _) _ _) _ _=t5
        obtain ⟨Y,BY,d9⟩:=uX
        clear F ch cw cv co cl cu cz c7 dm dl
        replace HM:=yD (HM.out.touch Y nO)
        replace O:=yD (O.out.touch Y nO)
        exact eX
      go_simp
      generalize F:World.alloc t1 _=t2
      have hb:Below t1.heap.size t1 t2:=(by rw [← F];exact bR.alloc nL _)
      have O:Hid ((kE.slice 5 kE.byte).own t2 [.slice (some ⟨t1.heap.size,0,none⟩) 1 1] [(7:UInt8)] (fun k=>k=t1.heap.size)):=(by rw [← F];exact yD (kE.ku.own (kE.kGr (e:=5) t1 (kE.kVt 7)) (by unfold Big;simp)))
      have d7:t1.heap.size + 1≤t2.heap.size:=(by rw [← F];simp)
      clear F
      replace BY:=kD BY hb
      replace hc:=hc.below hb
      obtain ⟨lb,bj⟩:∃ b_,b_=t1.heap.size:=⟨_,rfl⟩
      rw [← bj] at O ⊢
      obtain ⟨O,ed,ec⟩:=DT
      clear bj
      replace E:=E.trans (Touch.of_below hb)
      clear hb
      refine J _ _ E ?_
      clear J K
      refine kX ?_
      refine kY (k:=8) rfl bB4 rfl (fun K J=>?_)
      go_simp
      generalize ({ data:=#[47] }:ByteArray)++s0=s2 at *
      generalize s2++({ data:=#[47,107,101,121] }:ByteArray)=s3 at *
      refine (kMd (M:=69) (s:=s3) bB8 dy).mono ?_
      rintro e t3 ⟨ya,yc,ys,rfl,hr,ek,dr,hb⟩
      have d5:=hb.size
      replace BY:=kD BY hb
      replace O:=yD (O.out.below hb)
      obtain ⟨hc,E⟩:=DR
      clear hb
      have HM:=yD (hr)
      refine J _ _ E ?_
      clear J K
      refine kX ?_
      refine kY (k:=11) rfl bB4 rfl (fun K J=>?_)
      go_simp
      refine (kAs (l:=af) (HK.out.touch E nO).rd.1 (cb:=[.slice ya ys.length yc]) HM.out.rd (cn:=[.slice (some ⟨nb,no,none⟩) z.1.length nc]) (HN.out.touch E nO).rd O.out.rd bC0 (tl:=4000) bB8).mono ?_
      rintro e t4 ⟨ds,z_,ok,rfl,hO,d0,hb⟩
      have d3:=hb.size
      replace BY:=kD BY hb
      replace O:=yD (O.out.below hb)
      replace HM:=yD (HM.out.below hb)
      obtain ⟨hc,E⟩:=DR
      clear hb
      obtain ⟨dx,dn,du,dc,dv,dw,rfl⟩:=yN hO.raw
      have d1:z_.2.1.length≤10:=Nat.le_trans d0 bC0
      have HZ:=yD (hO)
      refine J _ _ E ?_
      clear J K
      refine kX ?_
      refine jB 12 ?_
      refine kX ?_
      refine jB 13 ?_
      refine kX ?_
      refine jB 14 ?_
      refine kX ?_
      refine kY (k:=15) rfl bB4 rfl (fun K J=>?_)
      obtain ⟨ch,cv,cl,cz,dm⟩:=jU BY
      obtain ⟨cw,co,cu,c7,dl⟩:=zh BY
      go_simp
      generalize F:World.setCell (World.setCell (World.setCell (World.setCell (World.setCell t4 _ _) _ _) _ _) _ _) _ _=t5
      obtain ⟨Y,BY,d9⟩:=uX
      clear F ch cw cv co cl cu cz c7 dm dl
      replace O:=yD (O.out.touch Y nO)
      replace HM:=yD (HM.out.touch Y nO)
      exact eX
    have ea:¬ (z.1.length:Int)=2:=bB9
    have em:((z.1.length:Int)==2)=false:=by simpa using ea
    clear c8
    obtain ⟨ac,au,bi,bm,bv⟩:=jU R
    obtain ⟨be,bf,bc,bg,a9⟩:=jU BY
    have c8:W.cell? ⟨b,0,none⟩=some (.slice na z.1.length nc):=kF X rfl
    exact eU
   have d8:∀ (k:Nat),∀ (na:Option Addr),∀ (nc:Nat),∀ (z:kI),∀ (b:Nat),∀ (W:World),Touch (fun k=>k=p) w4 W∧yK w0 W p→(k < x2.length)→(w4.cell? ⟨bb,off + k * 3,none⟩=some (.slice na z.1.length nc))→(Hid (kM.jY w4 [.slice na z.1.length nc] z.1 (fun k=>k < w.heap.size∧¬ k=p)))→(Hid (yM z.1))→(w4.heap.size≤b∧b < W.heap.size)→(W.heap[b]?=some (.cells #[.slice none 0 0] 41 (0,0)))→T 1 [true,true,true,true,true,true,true,true,true,true,true,false] (Act.put (Act.put (Act.put (Act.put (Act.put A (some 26) (.int .i64 k)) (some 27) (.pointer (some ⟨bb,off + k * 3,none⟩))) (some 28) (.pointer (some ⟨bb,off + k * 3,none⟩))) (some 29) (.agg #[.slice na z.1.length nc])) (some 8) (.pointer (some ⟨b,0,none⟩))) W:=by
    intro k na nc z b W E hk L HN HZ N BB
    have b6:=E.1.size
    subst Y
    subst hA
    simp only [Act.put,zA,zB,zC]
    refine kY (k:=11) rfl bB4 rfl (fun K J=>?_)
    have dp:=kF BB (j:=0) rfl
    have dq:W.frozen? ⟨b,0,none⟩=false:=frozen_of_row W b 0 _ _ BB
    go_simp
    generalize F:World.setCell W _ _=v
    have Y:Touch (fun k=>k=b) W v:=(by rw [← F];exact kC _ _ _ _)
    replace BB:v.heap[b]?=some (.cells #[.slice na z.1.length nc] 41 (0,0)):=(by rw [← F];exact kH (BB) 0)
    clear F dp dq
    have zv:=Y.size
    replace N:w4.heap.size≤b∧b < v.heap.size:=⟨N.1,Nat.lt_of_lt_of_le N.2 Y.size⟩
    replace E:=And.intro (E.1.jJ Y bB9) (E.2.touch Y bB9 qK)
    refine J _ _ E ?_
    clear J K
    try simp only [Act.put,zA,zB,zC]
    have h_:=dz k na nc z b v E hk L HN HZ N BB
    exact dD
   have T6:∀ (k:Nat),∀ (na:Option Addr),∀ (nc:Nat),∀ (z:kI),∀ (W:World),Touch (fun k=>k=p) w4 W∧yK w0 W p→(k < x2.length)→(w4.cell? ⟨bb,off + k * 3,none⟩=some (.slice na z.1.length nc))→(Hid (kM.jY w4 [.slice na z.1.length nc] z.1 (fun k=>k < w.heap.size∧¬ k=p)))→(Hid (yM z.1))→T 2 [true,true,true,true,true,true,true,true,true,true,false,false] (Act.put (Act.put (Act.put (Act.put A (some 26) (.int .i64 k)) (some 27) (.pointer (some ⟨bb,off + k * 3,none⟩))) (some 28) (.pointer (some ⟨bb,off + k * 3,none⟩))) (some 29) (.agg #[.slice na z.1.length nc])) W:=by
    intro k na nc z W E hk L HN HZ
    have b6:=E.1.size
    subst Y
    subst hA
    simp only [Act.put,zA,zB,zC]
    refine kY (k:=10) rfl bB4 rfl (fun K J=>?_)
    go_simp
    generalize F:World.alloc W _=v
    have hb:Below W.heap.size W v:=(by rw [← F];exact bR.alloc nL _)
    have BB:v.heap[W.heap.size]?=some (.cells #[.slice none 0 0] 41 (0,0)):=(by rw [← F];exact kG rfl)
    have zv:W.heap.size + 1≤v.heap.size:=(by rw [← F];simp)
    clear F
    obtain ⟨b,ay⟩:∃ b_,b_=W.heap.size:=⟨_,rfl⟩
    rw [← ay] at BB ⊢
    obtain ⟨N,E⟩:=DY
    refine J _ _ E ?_
    clear J K
    exact eY
   have el:∀ (b:Nat),∀ (W:World),Touch (fun k=>k=p) w4 W∧yK w0 W p→(w4.heap.size≤b∧b < W.heap.size)→(W.heap[b]?=some (.cells #[.slice none 0 0] 41 (0,0)))→T 5 [true,true,true,true,true,true,false,false,false,false,true,false] (Act.put A (some 8) (.pointer (some ⟨b,0,none⟩))) W:=by
    intro b W E N BB
    have b6:=E.1.size
    subst Y
    subst hA
    simp only [Act.put,zA,zB,zC]
    refine kY (k:=6) rfl bB4 rfl (fun K J=>?_)
    go_simp
    refine (kV (n:=(x2.length:Int)) E.2 bB9).mono ?_
    rintro e v ⟨x_,ax,Z,b4,rfl,G,D⟩
    have zv:=D.size
    have c6:=N.2
    replace BB:=D.kD BB bB9
    replace N:w4.heap.size≤b∧b < v.heap.size:=⟨N.1,Nat.lt_of_lt_of_le N.2 D.size⟩
    replace Z:=Z de
    clear b4
    obtain ⟨k,rfl⟩:=Int.eq_ofNat_of_zero_le ax
    have hk:k < x2.length:=bB9
    obtain ⟨ei,ef,b1,ce,cc,ae⟩:=kE.rdB_get HL.out hk
    simp only [Option.some.injEq,Addr.mk.injEq,and_true] at b1
    obtain ⟨rfl,rfl⟩:=b1
    obtain ⟨v0,v1,rfl,hN,hR,hs⟩:=pend_rdB cc
    obtain ⟨na,nc,rfl,_⟩:=kE.sl hN.rd.1
    have L:=ae 0 _ rfl
    simp only [Nat.add_zero,kGd] at L
    have HN:=yD hN
    have HZ:=yD (ah.out _ (List.getElem_mem hk))
    obtain ⟨z,hz⟩:∃ z_,x2[k]=z_:=⟨_,rfl⟩
    rw [hz] at L HN HZ
    clear ae cc hN hR hs hz
    replace E:=And.intro (E.1.trans D) G
    refine J _ _ E ?_
    clear J K
    try simp only [Act.put,zA,zB,zC]
    refine yB (k:=7) (v:=?_) rfl bB4 qD rfl E (fun W hW=>?_) ?_
    rotate_left
    · go_simp;try with_reducible rfl
    try simp only [Act.put,zA,zB,zC]
    refine yB (k:=8) (v:=?_) rfl bB4 qD rfl E (fun W hW=>?_) ?_
    rotate_left
    · go_simp;try with_reducible rfl
    try simp only [Act.put,zA,zB,zC]
    refine yB (k:=9) (v:=?_) rfl bB4 qD rfl E (fun W hW=>?_) ?_
    rotate_left
    · have cg:=hW.1.kJl L bB9;clear hW;go_simp;try with_reducible rfl
    exact eY
   subst Y
   subst hA
   refine yG (i:=6) (j:=10) rfl rfl bB4 rfl rfl (fun K J=>?_) (fun K J=>?_)
   · go_simp
     refine (kV (n:=(x2.length:Int)) E.2 bB9).mono ?_
     rintro e v ⟨x_,ax,Z,b4,rfl,G,D⟩
     have zv:=D.size
     replace Z:=Z de
     clear b4
     obtain ⟨k,rfl⟩:=Int.eq_ofNat_of_zero_le ax
     have hk:k < x2.length:=bB9
     obtain ⟨ei,ef,b1,ce,cc,ae⟩:=kE.rdB_get HL.out hk
     simp only [Option.some.injEq,Addr.mk.injEq,and_true] at b1
     obtain ⟨rfl,rfl⟩:=b1
     obtain ⟨v0,v1,rfl,hN,hR,hs⟩:=pend_rdB cc
     obtain ⟨na,nc,rfl,_⟩:=kE.sl hN.rd.1
     have L:=ae 0 _ rfl
     simp only [Nat.add_zero,kGd] at L
     have HN:=yD hN
     have HZ:=yD (ah.out _ (List.getElem_mem hk))
     obtain ⟨z,hz⟩:∃ z_,x2[k]=z_:=⟨_,rfl⟩
     rw [hz] at L HN HZ
     clear ae cc hN hR hs hz
     replace E:=And.intro (E.1.trans D) G
     refine J _ _ E ?_
     clear J K
     try simp only [Act.put,zA,zB,zC]
     refine yB (k:=7) (v:=?_) rfl bB4 qD rfl E (fun W hW=>?_) ?_
     rotate_left
     · go_simp;try with_reducible rfl
     try simp only [Act.put,zA,zB,zC]
     refine yB (k:=8) (v:=?_) rfl bB4 qD rfl E (fun W hW=>?_) ?_
     rotate_left
     · go_simp;try with_reducible rfl
     try simp only [Act.put,zA,zB,zC]
     refine yB (k:=9) (v:=?_) rfl bB4 qD rfl E (fun W hW=>?_) ?_
     rotate_left
     · have cg:=hW.1.kJl L bB9;clear hW;go_simp;try with_reducible rfl
     try simp only [Act.put,zA,zB,zC]
     have h_:=T6 k na nc z v E hk L HN HZ
     exact dD
   go_simp
   generalize F:World.alloc t _=v
   have hb:Below t.heap.size t v:=(by rw [← F];exact bR.alloc nL _)
   have BB:v.heap[t.heap.size]?=some (.cells #[.slice none 0 0] 41 (0,0)):=(by rw [← F];exact kG rfl)
   have zv:t.heap.size + 1≤v.heap.size:=(by rw [← F];simp)
   clear F
   obtain ⟨b,ay⟩:∃ b_,b_=t.heap.size:=⟨_,rfl⟩
   rw [← ay] at BB ⊢
   obtain ⟨N,E⟩:=DY
   refine J _ _ E ?_
   clear J K
   try simp only [Act.put,zA,zB,zC]
   have h_:=el b v E N BB
   exact dD
 have de:¬ (0:Int) < x2.length:=bB9
 clear aa ab an ak al aj am ao
 obtain ⟨ac,au,bi,bm,bv⟩:=jU R
 obtain ⟨be,bf,bc,bg,a9⟩:=jU BY
 obtain ⟨aa,ab,an,ak,al,aj,am,ao⟩:=zt BX
 exact eU
def DrawnAr (w0 w:World) (e:Ending) (w':World):Prop:=∃ p cs x ct tr ds y,e=.returned (.tuple #[.pointer (some ⟨p,0,none⟩),.agg cs.toArray,.agg ct.toArray,.agg ds.toArray])∧yA.jY w' cs x (fun k=>p < k∧k < w'.heap.size)∧kGj x∧je.jY w' ct tr (fun k=>p < k∧k < w'.heap.size)∧lenT tr∧jA.jY w' ds y (fun k=>p < k∧k < w'.heap.size)∧y.2.1.length≤10∧w.heap.size≤p∧yK w0 w' p∧Below w.heap.size w w'
def DrawnPD (w:World) (e:Ending) (w':World):Prop:=∃ cs x ct tr f ds y,e=.returned (.tuple #[.agg cs.toArray,.agg ct.toArray,.int .i64 f,.agg ds.toArray,.int .i64 50])∧yA.jY w' cs x (jR w.heap.size w'.heap.size)∧kGj x∧je.jY w' ct tr (jR w.heap.size w'.heap.size)∧lenT tr∧(0≤f∧f≤4)∧jA.jY w' ds y (jR w.heap.size w'.heap.size)∧y.2.1.length≤10∧Below w.heap.size w w'
theorem kTz {w0 w:World} {v:Value} {ac:List UInt8} (N:(kE.slice 5 kE.byte).raw w0 [v] ac) (dc:Below w0.heap.size w0 w) :
    Calls prog 13 #[v] w fun e w'=>DrawnAr w0 w e w':=by
 obtain ⟨ca,cc,rfl,_⟩:=kE.sl N
 go_enter func13,ntmps13
 go_upto_region 1 with fail
 generalize F:World.alloc (World.alloc (World.alloc w _) _) _=w1
 obtain ⟨hb,R,RT,RD,bn⟩:=qV
 clear F
 have X:=hb
 clear hb
 go_wp2_with fail
 refine (specl1New_o N (tQ dc X)).mono ?_
 rintro e V ⟨p,rfl,hc,b7,O⟩
 have bo:=O.size
 have cj:=hc.lt.2
 have I:=dc.size
 replace R:=kD R O
 replace RT:=kD RT O
 replace RD:=kD RD O
 have H:Touch (fun k=>k=p) w V:=Touch.of_below (tQ X O)
 clear O X
 go_wp2_with fail
 refine (kWg hc).mono ?_
 rintro e w3 ⟨cs,x,ct,tr,tb,rfl,hO,hx,Y,hlt,⟨e9,fb⟩,G,D⟩
 have bp:=D.size
 replace R:=D.kD R bB9
 replace RT:=D.kD RT bB9
 replace RD:=D.kD RD bB9
 replace H:=H.trans D
 clear hc D
 have hc:=G
 clear G
 obtain ⟨a0,c0,a1,c1,a2,c2,a3,c3,a4,c4,a5,c5,rfl⟩:=kDu hO.rd.1
 obtain ⟨x0,⟨kc,xe⟩,x2,x3,x4,x5,x6⟩:=x
 obtain ⟨hO,L⟩:=A8
 have HX:=yD hx
 clear hO hx
 obtain ⟨av,br,bd,bw,aw,bz,ag,bt,rfl⟩:=kDj Y.rd.1
 obtain ⟨af,bx,ba,bq⟩:=tr
 obtain ⟨Y,U,dn⟩:=DU
 clear Y hlt
 go_upto_region 3 with fail
 generalize F:World.alloc (World.alloc w3 _) _=w4
 have hb:Below w3.heap.size w3 w4:=by rw [← F];exact (bR.alloc nL _).alloc bC0 _
 have BX:w4.heap[w3.heap.size]?=some (.cells #[.slice a0 x0.length c0,.int .i64 kc,.slice a1 xe.length c1,.slice a2 x2.length c2,.slice a3 x3.length c3,.slice a4 x4.length c4,.slice a5 x5.length c5,.int .i64 x6] 33 (0,0)):=sO
 have BT:w4.heap[w3.heap.size + 1]?=some (.cells #[.slice av af.length br,.slice bd bx.length bw,.slice aw ba.length bz,.slice ag bq.length bt] 38 (0,0)):=by rw [← F];exact kG bC0
 have b9:w3.heap.size + 2≤w4.heap.size:=bA3
 clear F
 replace R:=kD R hb
 replace RT:=kD RT hb
 replace RD:=kD RD hb
 obtain ⟨L,U⟩:=BV
 obtain ⟨hc,H⟩:=oP
 clear hb
 refine kAp (fun U_=>Touch (fun k=>k=p∨k=w.heap.size∨k=w.heap.size + 1∨k=w.heap.size + 2) w4 U_) bB4 (Touch.of_below bR.drew) ?_
 intro t1 dj E
 have bD:Below w4.heap.size w4 t1:=(by rw [dj];exact bR.drew)
 replace R:=kD R bD
 replace RT:=kD RT bD
 replace RD:=kD RD bD
 replace hc:=hc.below bD
 have ee:=bD.size
 clear bD dj
 refine yB (k:=0) (v:=?_) rfl bB4 qD rfl E (fun W hW=>?_) ?_
 rotate_left
 · go_simp;try with_reducible rfl
 try simp only [Act.put,zA,zB,zC]
 refine yB (k:=1) (v:=?_) rfl bB4 qD rfl E (fun W hW=>?_) ?_
 rotate_left
 · have cg:=kF (hW.kD BX bB9) (j:=0) (v:=.slice a0 x0.length c0) rfl;have c9:=kF (hW.kD BX bB9) (j:=1) (v:=.int .i64 kc) rfl;have di:=kF (hW.kD BX bB9) (j:=2) (v:=.slice a1 xe.length c1) rfl;have df:=kF (hW.kD BX bB9) (j:=3) (v:=.slice a2 x2.length c2) rfl;have dd:=kF (hW.kD BX bB9) (j:=4) (v:=.slice a3 x3.length c3) rfl;have dk:=kF (hW.kD BX bB9) (j:=5) (v:=.slice a4 x4.length c4) rfl;have dr:=kF (hW.kD BX bB9) (j:=6) (v:=.slice a5 x5.length c5) rfl;have dw:=kF (hW.kD BX bB9) (j:=7) (v:=.int .i64 x6) rfl;have d8:=kF (hW.kD BT bB9) (j:=0) (v:=.slice av af.length br) rfl;have d6:=kF (hW.kD BT bB9) (j:=1) (v:=.slice bd bx.length bw) rfl;have da:=kF (hW.kD BT bB9) (j:=2) (v:=.slice aw ba.length bz) rfl;have dq:=kF (hW.kD BT bB9) (j:=3) (v:=.slice ag bq.length bt) rfl;clear hW;go_simp;try with_reducible rfl
 try simp only [Act.put,zA,zB,zC]
 refine yB (k:=2) (v:=?_) rfl bB4 qD rfl E (fun W hW=>?_) ?_
 rotate_left
 · have cg:=kF (hW.kD BX bB9) (j:=0) (v:=.slice a0 x0.length c0) rfl;have c9:=kF (hW.kD BX bB9) (j:=1) (v:=.int .i64 kc) rfl;have di:=kF (hW.kD BX bB9) (j:=2) (v:=.slice a1 xe.length c1) rfl;have df:=kF (hW.kD BX bB9) (j:=3) (v:=.slice a2 x2.length c2) rfl;have dd:=kF (hW.kD BX bB9) (j:=4) (v:=.slice a3 x3.length c3) rfl;have dk:=kF (hW.kD BX bB9) (j:=5) (v:=.slice a4 x4.length c4) rfl;have dr:=kF (hW.kD BX bB9) (j:=6) (v:=.slice a5 x5.length c5) rfl;have dw:=kF (hW.kD BX bB9) (j:=7) (v:=.int .i64 x6) rfl;have d8:=kF (hW.kD BT bB9) (j:=0) (v:=.slice av af.length br) rfl;have d6:=kF (hW.kD BT bB9) (j:=1) (v:=.slice bd bx.length bw) rfl;have da:=kF (hW.kD BT bB9) (j:=2) (v:=.slice aw ba.length bz) rfl;have dq:=kF (hW.kD BT bB9) (j:=3) (v:=.slice ag bq.length bt) rfl;clear hW;go_simp;try with_reducible rfl
 try simp only [Act.put,zA,zB,zC]
 refine yB (k:=3) (v:=?_) rfl bB4 qD rfl E (fun W hW=>?_) ?_
 rotate_left
 · go_simp;try with_reducible rfl
 try simp only [Act.put,zA,zB,zC]
 refine yB (k:=4) (v:=?_) rfl bB4 qD rfl E (fun W hW=>?_) ?_
 rotate_left
 · have cg:=kF (hW.kD BX bB9) (j:=0) (v:=.slice a0 x0.length c0) rfl;have c9:=kF (hW.kD BX bB9) (j:=1) (v:=.int .i64 kc) rfl;have di:=kF (hW.kD BX bB9) (j:=2) (v:=.slice a1 xe.length c1) rfl;have df:=kF (hW.kD BX bB9) (j:=3) (v:=.slice a2 x2.length c2) rfl;have dd:=kF (hW.kD BX bB9) (j:=4) (v:=.slice a3 x3.length c3) rfl;have dk:=kF (hW.kD BX bB9) (j:=5) (v:=.slice a4 x4.length c4) rfl;have dr:=kF (hW.kD BX bB9) (j:=6) (v:=.slice a5 x5.length c5) rfl;have dw:=kF (hW.kD BX bB9) (j:=7) (v:=.int .i64 x6) rfl;have d8:=kF (hW.kD BT bB9) (j:=0) (v:=.slice av af.length br) rfl;have d6:=kF (hW.kD BT bB9) (j:=1) (v:=.slice bd bx.length bw) rfl;have da:=kF (hW.kD BT bB9) (j:=2) (v:=.slice aw ba.length bz) rfl;have dq:=kF (hW.kD BT bB9) (j:=3) (v:=.slice ag bq.length bt) rfl;clear hW;go_simp;try with_reducible rfl
 try simp only [Act.put,zA,zB,zC]
 refine yB (k:=5) (v:=?_) rfl bB4 qD rfl E (fun W hW=>?_) ?_
 rotate_left
 · have cg:=kF (hW.kD BX bB9) (j:=0) (v:=.slice a0 x0.length c0) rfl;have c9:=kF (hW.kD BX bB9) (j:=1) (v:=.int .i64 kc) rfl;have di:=kF (hW.kD BX bB9) (j:=2) (v:=.slice a1 xe.length c1) rfl;have df:=kF (hW.kD BX bB9) (j:=3) (v:=.slice a2 x2.length c2) rfl;have dd:=kF (hW.kD BX bB9) (j:=4) (v:=.slice a3 x3.length c3) rfl;have dk:=kF (hW.kD BX bB9) (j:=5) (v:=.slice a4 x4.length c4) rfl;have dr:=kF (hW.kD BX bB9) (j:=6) (v:=.slice a5 x5.length c5) rfl;have dw:=kF (hW.kD BX bB9) (j:=7) (v:=.int .i64 x6) rfl;have d8:=kF (hW.kD BT bB9) (j:=0) (v:=.slice av af.length br) rfl;have d6:=kF (hW.kD BT bB9) (j:=1) (v:=.slice bd bx.length bw) rfl;have da:=kF (hW.kD BT bB9) (j:=2) (v:=.slice aw ba.length bz) rfl;have dq:=kF (hW.kD BT bB9) (j:=3) (v:=.slice ag bq.length bt) rfl;clear hW;go_simp;try with_reducible rfl
 try simp only [Act.put,zA,zB,zC]
 refine kY (k:=6) rfl bB4 rfl (fun K J=>?_)
 go_simp
 refine (kSg hc (cx:=[.slice a0 x0.length c0,.int .i64 kc,.slice a1 xe.length c1,.slice a2 x2.length c2,.slice a3 x3.length c3,.slice a4 x4.length c4,.slice a5 x5.length c5,.int .i64 x6]) ((L.out.touch E nO).wide sZ) (by have:=HX.out.2.2.1.1;exact Nat.le_trans this bB8) (fun y hy=>(HX.out.2.2.1.2 y hy).2.2) (ct:=[.slice av af.length br,.slice bd bx.length bw,.slice aw ba.length bz,.slice ag bq.length bt]) ((U.out.touch E nO).wide sZ)).mono ?_
 rintro e t2 ⟨ds,y,rfl,hY,dh,G,D⟩
 have d7:=D.size
 replace R:=D.kD R bB9
 replace RT:=D.kD RT bB9
 replace RD:=D.kD RD bB9
 clear hc
 have hc:=G
 clear G
 replace E:=E.trans (D.wide (fun k q=>.inl q))
 clear D
 obtain ⟨ai,b2,b5,b8,b3,cd,rfl⟩:=yN hY.raw
 have HY:=yD (hY.jY)
 refine J _ _ E ?_
 clear J K
 try simp only [Act.put,zA,zB,zC]
 refine yB (k:=7) (v:=?_) rfl bB4 qD rfl E (fun W hW=>?_) ?_
 rotate_left
 · go_simp;try with_reducible rfl
 try simp only [Act.put,zA,zB,zC]
 refine kY (k:=8) rfl bB4 rfl (fun K J=>?_)
 obtain ⟨ch,cv,cl,cz,dm,ea,ed,eg⟩:=zt R
 obtain ⟨cw,co,cu,c7,dl,eb,ef,ec⟩:=kGn R
 go_simp
 generalize F:World.setCell (World.setCell (World.setCell (World.setCell (World.setCell (World.setCell (World.setCell (World.setCell t2 _ _) _ _) _ _) _ _) _ _) _ _) _ _) _ _=t3
 obtain ⟨Y,R,d5⟩:=uA
 clear F ch cw cv co cl cu cz c7 dm dl ea eb ed ef eg ec
 replace RT:=Y.kD RT bB9
 replace RD:=Y.kD RD bB9
 replace HY:=yD (HY.out.touch Y nO)
 replace hc:=hc.touch Y bB9 wB
 replace E:=E.trans (Y.wide (fun k q=>.inr (.inl q)))
 clear Y
 refine J _ _ E ?_
 clear J K
 try simp only [Act.put,zA,zB,zC]
 refine kY (k:=9) rfl bB4 rfl (fun K J=>?_)
 obtain ⟨ch,cv,cl,cz⟩:=kAh RT
 obtain ⟨cw,co,cu,c7⟩:=kNk RT
 go_simp
 generalize F:World.setCell (World.setCell (World.setCell (World.setCell t3 _ _) _ _) _ _) _ _=t4
 obtain ⟨Y,RT,d3⟩:=xB
 clear F ch cw cv co cl cu cz c7
 replace R:=Y.kD R bB9
 replace RD:=Y.kD RD bB9
 replace HY:=yD (HY.out.touch Y nO)
 replace hc:=hc.touch Y bB9 wB
 replace E:=E.trans (Y.wide (fun k q=>.inr (.inr (.inl q))))
 clear Y
 refine J _ _ E ?_
 clear J K
 try simp only [Act.put,zA,zB,zC]
 refine kY (k:=10) rfl bB4 rfl (fun K J=>?_)
 obtain ⟨ch,cv,cl,cz,dm⟩:=jU RD
 obtain ⟨cw,co,cu,c7,dl⟩:=zh RD
 go_simp
 generalize F:World.setCell (World.setCell (World.setCell (World.setCell (World.setCell t4 _ _) _ _) _ _) _ _) _ _=t5
 obtain ⟨Y,RD,d9⟩:=uV
 clear F ch cw cv co cl cu cz c7 dm dl
 replace R:=Y.kD R bB9
 replace RT:=Y.kD RT bB9
 replace HY:=yD (HY.out.touch Y nO)
 replace hc:=hc.touch Y bB9 wB
 replace E:=E.trans (Y.wide (fun k q=>.inr (.inr (.inr (q)))))
 clear Y
 refine J _ _ E ?_
 clear J K
 try simp only [Act.put,zA,zB,zC]
 refine yR bB4 ?_
 obtain ⟨a6,az,a9,a7,a8,ay,ax,au⟩:=zt R
 obtain ⟨Z,ae,ak,am⟩:=kAh RT
 obtain ⟨ab,aj,ah,al,aa⟩:=jU RD
 have zS:=E.size
 go_wp2
 refine bodyPost_ret (v:=.tuple #[.pointer (some ⟨p,0,none⟩),.agg #[.slice a0 x0.length c0,.int .i64 kc,.slice a1 xe.length c1,.slice a2 x2.length c2,.slice a3 x3.length c3,.slice a4 x4.length c4,.slice a5 x5.length c5,.int .i64 x6],.agg #[.slice av af.length br,.slice bd bx.length bw,.slice aw ba.length bz,.slice ag bq.length bt],.agg #[.slice ai y.1.length b2,.slice b5 y.2.1.length b8,.slice b3 y.2.2.1.length cd,.int .i64 y.2.2.2.1,.int .i64 y.2.2.2.2]]) (by simp [results,results13,go_sem,a6,az,a9,a7,a8,ay,ax,au,Z,ae,ak,am,ab,aj,ah,al,aa]) rfl ⟨p,[.slice a0 x0.length c0,.int .i64 kc,.slice a1 xe.length c1,.slice a2 x2.length c2,.slice a3 x3.length c3,.slice a4 x4.length c4,.slice a5 x5.length c5,.int .i64 x6],(x0,(kc,xe),x2,x3,x4,x5,x6),[.slice av af.length br,.slice bd bx.length bw,.slice aw ba.length bz,.slice ag bq.length bt],(af,bx,ba,bq),[.slice ai y.1.length b2,.slice b5 y.2.1.length b8,.slice b3 y.2.2.1.length cd,.int .i64 y.2.2.2.1,.int .i64 y.2.2.2.2],y,rfl,?_,HX.out,?_,dn.out,HY.out.wide (T:=fun k=>p < k∧k < _) mU,dh,by omega,hc,?_⟩
 · exact (L.out.touch E nO).wide (T:=fun k=>p < k∧k < _) mU
 · exact (U.out.touch E nO).wide (T:=fun k=>p < k∧k < _) mU
 exact (H.jZ (S:=fun k=>k=p) E wG).below nL wB
theorem kJm {w:World} {v:Value} {ac:List UInt8} (N:(kE.slice 5 kE.byte).raw w [v] ac) :
    Calls prog 5 #[v] w (DrawnPD w):=by
 obtain ⟨ca,cc,rfl,_⟩:=kE.sl N
 go_enter func5,ntmps5
 go_upto_region 1 with fail
 generalize F:World.alloc (World.alloc (World.alloc w _) _) _=w1
 obtain ⟨hb,R,RT,RD,bn⟩:=qV
 clear F
 have X:=hb
 clear hb
 go_wp2_with fail
 refine (kTz N X).mono ?_
 rintro e V ⟨p,cs,x,ct,tr,ds,y,rfl,hO,hx,Y,hlt,hY,dh,b7,hc,O⟩
 have bo:=O.size
 have cj:=hc.lt.2
 replace R:=kD R O
 replace RT:=kD RT O
 replace RD:=kD RD O
 have H:Touch (fun k=>k=p) w V:=Touch.of_below (tQ X O)
 clear O X
 obtain ⟨a0,c0,a1,c1,a2,c2,a3,c3,a4,c4,a5,c5,rfl⟩:=kDu hO.rd.1
 obtain ⟨x0,⟨kc,xe⟩,x2,x3,x4,x5,x6⟩:=x
 obtain ⟨hO,L⟩:=A8
 have HX:=yD hx
 clear hO hx
 obtain ⟨av,br,bd,bw,aw,bz,ag,bt,rfl⟩:=kDj Y.rd.1
 obtain ⟨af,bx,ba,bq⟩:=tr
 obtain ⟨Y,U,dn⟩:=DU
 clear Y hlt
 obtain ⟨ai,b2,b5,b8,b3,cd,rfl⟩:=yN hY.rd.1
 have HY:=yD (show jA.jY _ [.slice ai y.1.length b2,.slice b5 y.2.1.length b8,.slice b3 y.2.2.1.length cd,.int .i64 y.2.2.2.1,.int .i64 y.2.2.2.2] y _ from hY)
 clear hY
 go_upto_region 2 with fail
 generalize F:World.alloc (World.alloc (World.alloc V _) _) _=w3
 obtain ⟨hb,BX⟩:=xG
 have BT:w3.heap[V.heap.size + 1]?=some (.cells #[.slice av af.length br,.slice bd bx.length bw,.slice aw ba.length bz,.slice ag bq.length bt] 38 (0,0)):=by rw [← F];exact jC (kG bC0)
 have BD:w3.heap[V.heap.size + 2]?=some (.cells #[.slice ai y.1.length b2,.slice b5 y.2.1.length b8,.slice b3 y.2.2.1.length cd,.int .i64 y.2.2.2.1,.int .i64 y.2.2.2.2] 43 (0,0)):=by rw [← F];exact kG bC0
 have bp:V.heap.size + 3≤w3.heap.size:=bA3
 clear F
 replace R:=kD R hb
 replace RT:=kD RT hb
 replace RD:=kD RD hb
 obtain ⟨L,U⟩:=BV
 replace HY:=yD (HY.out.below hb)
 obtain ⟨hc,H⟩:=oP
 clear hb
 refine kAp (fun U_=>Touch (fun k=>k=p∨k=w.heap.size∨k=w.heap.size + 1∨k=w.heap.size + 2) w3 U_) bB4 (Touch.of_below bR.drew) ?_
 intro t1 dj E
 have bD:Below w3.heap.size w3 t1:=(by rw [dj];exact bR.drew)
 replace R:=kD R bD
 replace RT:=kD RT bD
 replace RD:=kD RD bD
 replace hc:=hc.below bD
 have ee:=bD.size
 clear bD dj
 refine yB (k:=0) (v:=?_) rfl bB4 qD rfl E (fun W hW=>?_) ?_
 rotate_left
 · have cg:=kF (hW.kD BX bB9) (j:=0) (v:=.slice a0 x0.length c0) rfl;have c9:=kF (hW.kD BX bB9) (j:=1) (v:=.int .i64 kc) rfl;have di:=kF (hW.kD BX bB9) (j:=2) (v:=.slice a1 xe.length c1) rfl;have df:=kF (hW.kD BX bB9) (j:=3) (v:=.slice a2 x2.length c2) rfl;have dd:=kF (hW.kD BX bB9) (j:=4) (v:=.slice a3 x3.length c3) rfl;have dk:=kF (hW.kD BX bB9) (j:=5) (v:=.slice a4 x4.length c4) rfl;have dr:=kF (hW.kD BX bB9) (j:=6) (v:=.slice a5 x5.length c5) rfl;have dw:=kF (hW.kD BX bB9) (j:=7) (v:=.int .i64 x6) rfl;have d8:=kF (hW.kD BT bB9) (j:=0) (v:=.slice av af.length br) rfl;have d6:=kF (hW.kD BT bB9) (j:=1) (v:=.slice bd bx.length bw) rfl;have da:=kF (hW.kD BT bB9) (j:=2) (v:=.slice aw ba.length bz) rfl;have dq:=kF (hW.kD BT bB9) (j:=3) (v:=.slice ag bq.length bt) rfl;have ao:=kF (hW.kD BD bB9) (j:=0) (v:=.slice ai y.1.length b2) rfl;have aq:=kF (hW.kD BD bB9) (j:=1) (v:=.slice b5 y.2.1.length b8) rfl;have ap:=kF (hW.kD BD bB9) (j:=2) (v:=.slice b3 y.2.2.1.length cd) rfl;have ar:=kF (hW.kD BD bB9) (j:=3) (v:=.int .i64 y.2.2.2.1) rfl;have an:=kF (hW.kD BD bB9) (j:=4) (v:=.int .i64 y.2.2.2.2) rfl;clear hW;go_simp;try with_reducible rfl
 try simp only [Act.put,zA,zB,zC]
 refine yB (k:=1) (v:=?_) rfl bB4 qD rfl E (fun W hW=>?_) ?_
 rotate_left
 · have cg:=kF (hW.kD BX bB9) (j:=0) (v:=.slice a0 x0.length c0) rfl;have c9:=kF (hW.kD BX bB9) (j:=1) (v:=.int .i64 kc) rfl;have di:=kF (hW.kD BX bB9) (j:=2) (v:=.slice a1 xe.length c1) rfl;have df:=kF (hW.kD BX bB9) (j:=3) (v:=.slice a2 x2.length c2) rfl;have dd:=kF (hW.kD BX bB9) (j:=4) (v:=.slice a3 x3.length c3) rfl;have dk:=kF (hW.kD BX bB9) (j:=5) (v:=.slice a4 x4.length c4) rfl;have dr:=kF (hW.kD BX bB9) (j:=6) (v:=.slice a5 x5.length c5) rfl;have dw:=kF (hW.kD BX bB9) (j:=7) (v:=.int .i64 x6) rfl;have d8:=kF (hW.kD BT bB9) (j:=0) (v:=.slice av af.length br) rfl;have d6:=kF (hW.kD BT bB9) (j:=1) (v:=.slice bd bx.length bw) rfl;have da:=kF (hW.kD BT bB9) (j:=2) (v:=.slice aw ba.length bz) rfl;have dq:=kF (hW.kD BT bB9) (j:=3) (v:=.slice ag bq.length bt) rfl;have ao:=kF (hW.kD BD bB9) (j:=0) (v:=.slice ai y.1.length b2) rfl;have aq:=kF (hW.kD BD bB9) (j:=1) (v:=.slice b5 y.2.1.length b8) rfl;have ap:=kF (hW.kD BD bB9) (j:=2) (v:=.slice b3 y.2.2.1.length cd) rfl;have ar:=kF (hW.kD BD bB9) (j:=3) (v:=.int .i64 y.2.2.2.1) rfl;have an:=kF (hW.kD BD bB9) (j:=4) (v:=.int .i64 y.2.2.2.2) rfl;clear hW;go_simp;try with_reducible rfl
 try simp only [Act.put,zA,zB,zC]
 refine yB (k:=2) (v:=?_) rfl bB4 qD rfl E (fun W hW=>?_) ?_
 rotate_left
 · go_simp;try with_reducible rfl
 try simp only [Act.put,zA,zB,zC]
 refine yB (k:=4) (v:=?_) rfl bB4 qD rfl E (fun W hW=>?_) ?_
 rotate_left
 · have cg:=kF (hW.kD BX bB9) (j:=0) (v:=.slice a0 x0.length c0) rfl;have c9:=kF (hW.kD BX bB9) (j:=1) (v:=.int .i64 kc) rfl;have di:=kF (hW.kD BX bB9) (j:=2) (v:=.slice a1 xe.length c1) rfl;have df:=kF (hW.kD BX bB9) (j:=3) (v:=.slice a2 x2.length c2) rfl;have dd:=kF (hW.kD BX bB9) (j:=4) (v:=.slice a3 x3.length c3) rfl;have dk:=kF (hW.kD BX bB9) (j:=5) (v:=.slice a4 x4.length c4) rfl;have dr:=kF (hW.kD BX bB9) (j:=6) (v:=.slice a5 x5.length c5) rfl;have dw:=kF (hW.kD BX bB9) (j:=7) (v:=.int .i64 x6) rfl;have d8:=kF (hW.kD BT bB9) (j:=0) (v:=.slice av af.length br) rfl;have d6:=kF (hW.kD BT bB9) (j:=1) (v:=.slice bd bx.length bw) rfl;have da:=kF (hW.kD BT bB9) (j:=2) (v:=.slice aw ba.length bz) rfl;have dq:=kF (hW.kD BT bB9) (j:=3) (v:=.slice ag bq.length bt) rfl;have ao:=kF (hW.kD BD bB9) (j:=0) (v:=.slice ai y.1.length b2) rfl;have aq:=kF (hW.kD BD bB9) (j:=1) (v:=.slice b5 y.2.1.length b8) rfl;have ap:=kF (hW.kD BD bB9) (j:=2) (v:=.slice b3 y.2.2.1.length cd) rfl;have ar:=kF (hW.kD BD bB9) (j:=3) (v:=.int .i64 y.2.2.2.1) rfl;have an:=kF (hW.kD BD bB9) (j:=4) (v:=.int .i64 y.2.2.2.2) rfl;clear hW;go_simp;try with_reducible rfl
 try simp only [Act.put,zA,zB,zC]
 refine kY (k:=3) rfl bB4 rfl (fun K J=>?_)
 go_simp
 refine (kV (n:=5) hc bB8).mono ?_
 rintro e t2 ⟨f,el,dt,d4,rfl,G,D⟩
 have d7:=D.size
 replace R:=D.kD R bB9
 replace RT:=D.kD RT bB9
 replace RD:=D.kD RD bB9
 clear hc
 have hc:=G
 clear G
 replace E:=E.trans (D.wide (fun k q=>.inl q))
 clear D
 replace dt:=dt bB8
 clear d4
 refine J _ _ E ?_
 clear J K
 try simp only [Act.put,zA,zB,zC]
 refine kY (k:=5) rfl bB4 rfl (fun K J=>?_)
 obtain ⟨ch,cv,cl,cz,dm,ea,ed,eg⟩:=zt R
 obtain ⟨cw,co,cu,c7,dl,eb,ef,ec⟩:=kGn R
 go_simp
 generalize F:World.setCell (World.setCell (World.setCell (World.setCell (World.setCell (World.setCell (World.setCell (World.setCell t2 _ _) _ _) _ _) _ _) _ _) _ _) _ _) _ _=t3
 obtain ⟨Y,R,d5⟩:=uA
 clear F ch cw cv co cl cu cz c7 dm dl ea eb ed ef eg ec
 replace RT:=Y.kD RT bB9
 replace RD:=Y.kD RD bB9
 replace hc:=hc.touch Y bB9 wB
 replace E:=E.trans (Y.wide (fun k q=>.inr (.inl q)))
 clear Y
 refine J _ _ E ?_
 clear J K
 try simp only [Act.put,zA,zB,zC]
 refine kY (k:=6) rfl bB4 rfl (fun K J=>?_)
 obtain ⟨ch,cv,cl,cz⟩:=kAh RT
 obtain ⟨cw,co,cu,c7⟩:=kNk RT
 go_simp
 generalize F:World.setCell (World.setCell (World.setCell (World.setCell t3 _ _) _ _) _ _) _ _=t4
 obtain ⟨Y,RT,d3⟩:=xB
 clear F ch cw cv co cl cu cz c7
 replace R:=Y.kD R bB9
 replace RD:=Y.kD RD bB9
 replace hc:=hc.touch Y bB9 wB
 replace E:=E.trans (Y.wide (fun k q=>.inr (.inr (.inl q))))
 clear Y
 refine J _ _ E ?_
 clear J K
 try simp only [Act.put,zA,zB,zC]
 refine yB (k:=7) (v:=?_) rfl bB4 qD rfl E (fun W hW=>?_) ?_
 rotate_left
 · go_simp;try with_reducible rfl
 try simp only [Act.put,zA,zB,zC]
 refine kY (k:=8) rfl bB4 rfl (fun K J=>?_)
 obtain ⟨ch,cv,cl,cz,dm⟩:=jU RD
 obtain ⟨cw,co,cu,c7,dl⟩:=zh RD
 go_simp
 generalize F:World.setCell (World.setCell (World.setCell (World.setCell (World.setCell t4 _ _) _ _) _ _) _ _) _ _=t5
 obtain ⟨Y,RD,d9⟩:=uV
 clear F ch cw cv co cl cu cz c7 dm dl
 replace R:=Y.kD R bB9
 replace RT:=Y.kD RT bB9
 replace hc:=hc.touch Y bB9 wB
 replace E:=E.trans (Y.wide (fun k q=>.inr (.inr (.inr (q)))))
 clear Y
 refine J _ _ E ?_
 clear J K
 try simp only [Act.put,zA,zB,zC]
 refine yB (k:=9) (v:=?_) rfl bB4 qD rfl E (fun W hW=>?_) ?_
 rotate_left
 · go_simp;try with_reducible rfl
 try simp only [Act.put,zA,zB,zC]
 refine yR bB4 ?_
 obtain ⟨a6,az,a9,a7,a8,ay,ax,au⟩:=zt R
 obtain ⟨Z,ae,ak,am⟩:=kAh RT
 obtain ⟨ab,aj,ah,al,aa⟩:=jU RD
 have zS:=E.size
 go_wp2
 refine bodyPost_ret (v:=.tuple #[.agg #[.slice a0 x0.length c0,.int .i64 kc,.slice a1 xe.length c1,.slice a2 x2.length c2,.slice a3 x3.length c3,.slice a4 x4.length c4,.slice a5 x5.length c5,.int .i64 x6],.agg #[.slice av af.length br,.slice bd bx.length bw,.slice aw ba.length bz,.slice ag bq.length bt],.int .i64 f,.agg #[.slice ai y.1.length b2,.slice b5 y.2.1.length b8,.slice b3 y.2.2.1.length cd,.int .i64 y.2.2.2.1,.int .i64 y.2.2.2.2],.int .i64 50]) (by simp [results,results5,go_sem,a6,az,a9,a7,a8,ay,ax,au,Z,ae,ak,am,ab,aj,ah,al,aa]) rfl ⟨[.slice a0 x0.length c0,.int .i64 kc,.slice a1 xe.length c1,.slice a2 x2.length c2,.slice a3 x3.length c3,.slice a4 x4.length c4,.slice a5 x5.length c5,.int .i64 x6],(x0,(kc,xe),x2,x3,x4,x5,x6),[.slice av af.length br,.slice bd bx.length bw,.slice aw ba.length bz,.slice ag bq.length bt],(af,bx,ba,bq),f,[.slice ai y.1.length b2,.slice b5 y.2.1.length b8,.slice b3 y.2.2.1.length cd,.int .i64 y.2.2.2.1,.int .i64 y.2.2.2.2],y,rfl,?_,HX.out,?_,dn.out,⟨by omega,by omega⟩,?_,dh,?_⟩
 · exact (L.out.touch E nO).wide (T:=jR w.heap.size _) mR
 · exact (U.out.touch E nO).wide (T:=jR w.heap.size _) mR
 · exact (HY.out.touch E nO).wide (T:=jR w.heap.size _) mR
 exact (H.jZ (S:=fun k=>k=p) E wG).below nL wB
end Go.Proofs.YtonmjkmaadgceaaGreat

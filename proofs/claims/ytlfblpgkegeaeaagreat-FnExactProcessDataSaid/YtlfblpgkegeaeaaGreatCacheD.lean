/-
  Data kept: the entries of the name go, the one least lately used goes if there is no room.
-/
import Derived.Test.YtlfblpgkegeaeaaGreatVData
set_option linter.unusedVariables false
set_option linter.unusedSimpArgs false
set_option linter.unnecessarySimpa false
set_option maxRecDepth 100000
set_option maxHeartbeats 4000000
namespace Go.Proofs.YtlfblpgkegeaeaaGreat
open Go.RowKit
def lastU (l:List ko) (k:Nat):Int:=(l.map Prod.snd).getD k 0
theorem kJf {l:List ko} {k:Nat} (h:k < l.length):lastU l k=l[k].2:=by
 unfold lastU
 rw [List.getD_eq_getElem?_getD,List.getElem?_eq_getElem rD]
 simp
def kCv (l:List ko):Nat→Nat
  | 0=>0
  | k + 1=>if lastU l k < lastU l (kCv l k) then k else kCv l k
theorem leastA_one (l:List ko):kCv l 1=0:=by simp [kCv]
theorem kRx {l:List ko} {k b:Nat} (hb:kCv l k=b) (hk:k < l.length) (hbl:b < l.length) (h:l[k].2 < l[b].2):kCv l (k + 1)=k:=by
 unfold kCv;rw [hb,kJf hk,kJf hbl,if_pos h]
theorem kUv {l:List ko} {k b:Nat} (hb:kCv l k=b) (hk:k < l.length) (hbl:b < l.length) (h:¬ l[k].2 < l[b].2):kCv l (k + 1)=b:=by
 unfold kCv;rw [hb,kJf hk,kJf hbl,if_neg h]
def kCd (y:jJ) (x:kr):Bool:=decide (x.1 < 1) || !kCi y
def kCt (n:kW) (l:List ko):List ko:=l.filter (fun e=>!isC n e)
def kFo (c:Int) (l:List ko):List ko:=if c≤l.length then l.take (kCv l l.length)++l.drop (kCv l l.length + 1) else l
def kBa (y:jJ) (t:Int) (x:kr):kr:=if kCd y x then x else (x.1,kFo x.1 (kCt y.1 x.2)++[(y,t)])
theorem kMm {y:jJ} {t:Int} {x:kr} (h:kCd y x=true):kBa y t x=x:=by unfold kBa;rw [h];rfl
theorem kFs {y:jJ} {t:Int} {x:kr} (h:kCd y x=false):kBa y t x=(x.1,kFo x.1 (kCt y.1 x.2)++[(y,t)]):=by unfold kBa;rw [h];rfl
theorem kRm {c:Int} {l:List ko} {b:Nat} (hb:kCv l l.length=b) (h:c≤l.length):kFo c l=l.take b++l.drop (b + 1):=by unfold kFo;rw [if_pos h,hb]
theorem kRn {c:Int} {l:List ko} (h:¬ c≤l.length):kFo c l=l:=by unfold kFo;rw [if_neg h]
theorem kUq (c:Int) (l:List ko):(kFo c l).length≤l.length:=by
 unfold kFo
 split
 · simp;omega
 exact Nat.le_refl _
def lenAt (w:World) (b j:Nat):Nat:=match w.cell? ⟨b,j,none⟩ with
  | some (.slice _ n _)=>n
  | _=>0
theorem lenAt_eq {w:World} {b:Nat} {c:Value} {a:Option Addr} {n cap:Nat} {t:TypeId} (h:w.heap[b]?=some (.cells #[c,.slice a n cap] t (0,0))):lenAt w b 1=n:=by
 unfold lenAt
 rw [kK h (j:=1) (v:=.slice a n cap) rfl]
theorem otherC_len (n:kW) (l:List ko):(kCt n l).length≤l.length:=List.length_filter_le _ _
theorem otherC_no {n:kW} {l:List ko} (h:idxOf (isC n) l < 0):kCt n l=l:=by
 unfold kCt
 rw [List.filter_eq_self]
 intro a ha
 unfold idxOf at h
 cases hf:l.findIdx? (isC n) with
 | none=>rw [List.findIdx?_eq_none_iff.1 hf a ha];rfl
 | some j=>rw [hf] at h;simp only at h;omega
theorem otherC_step {n:kW} {l:List ko} {k:Nat} (hk:k < l.length) (h:idxOf (isC n) l=k):kCt n (l.take k++l.drop (k + 1))=kCt n l:=by
 unfold idxOf at h
 cases hf:l.findIdx? (isC n) with
 | none=>rw [hf] at h;simp only at h;omega
 | some j =>
   rw [hf] at h
   simp only at h
   obtain rfl:j=k:=rP
   have hp:=(List.findIdx?_eq_some_iff_getElem.1 hf).2.1
   unfold kCt
   conv=>rhs;rw [← List.take_append_drop j l,List.drop_eq_getElem_cons hk]
   rw [List.filter_append,List.filter_append,List.filter_cons,hp]
   simp
theorem kOa {w:World} {cc:List Value} {c:ko} (hc:kH.raw w cc c) {y:jJ} {yc0 yc1 yc2 yc3 yc4:Value} {By:Nat} (yr:kP.raw w [yc0,yc1,yc2,yc3,yc4] y) (Ay0:w.cell? ⟨By,0,none⟩=some yc0) (Ay1:w.cell? ⟨By,1,none⟩=some yc1) (Ay2:w.cell? ⟨By,2,none⟩=some yc2) (Ay3:w.cell? ⟨By,3,none⟩=some yc3) (Ay4:w.cell? ⟨By,4,none⟩=some yc4) :
    Calls Tryz.prog 148 (#[.agg cc.toArray]++#[.pointer (some ⟨By,0,none⟩)]) w fun e w'=>e=.returned (.bool (!isC y.1 c))∧Below w.heap.size w w':=by
 have Hc:=yD hc
 obtain ⟨fcv0,fcv1,fcv2,rfl,fc_0,fc_1,fc_2,fc_3,fc_4,fc_5,fc_6,fc_7,fc_8⟩:=jQ hc
 obtain ⟨fca0,fcp0,rfl,fcl0⟩:=Rep.sl fc_2
 obtain ⟨fca1,fcp1,rfl,fcl1⟩:=Rep.sl fc_3
 obtain ⟨fca2,fcp2,rfl,fcl2⟩:=Rep.sl fc_5
 obtain ⟨yv0,yv1,yv2,yhe,y_0,y_1,y_2,y_3,y_4,y_5,y_6⟩:=kY yr
 simp only [List.cons.injEq,and_true] at yhe
 obtain ⟨rfl,rfl,rfl,rfl,rfl⟩:=yhe
 obtain ⟨ya0,yp0,rfl,yl0⟩:=Rep.sl y_1
 obtain ⟨ya1,yp1,rfl,yl1⟩:=Rep.sl y_2
 obtain ⟨ya2,yp2,rfl,yl2⟩:=Rep.sl y_4
 show Calls Tryz.prog 148 #[_,_] w _
 go_enter Tryz.func148,Tryz.ntmps148
 go_upto_region 1 with fail
 generalize hwB:World.alloc w _=wB
 have EB:Below w.heap.size w wB:=by rw [← hwB];exact bH
 have K2_0:wB.cell? ⟨w.heap.size,0,none⟩=some (.slice fca0 (c.1.1).length fcp0):=nV
 have K2_1:wB.cell? ⟨w.heap.size,1,none⟩=some (.slice fca1 (c.1.2.1).length fcp1):=nV
 have K2_2:wB.cell? ⟨w.heap.size,2,none⟩=some (.slice fca2 (c.1.2.2.1).length fcp2):=nV
 have K2_3:wB.cell? ⟨w.heap.size,3,none⟩=some (.int .i64 c.1.2.2.2.1):=nV
 have K2_4:wB.cell? ⟨w.heap.size,4,none⟩=some (.int .i64 c.1.2.2.2.2):=nV
 have K2_5:wB.cell? ⟨w.heap.size,5,none⟩=some (.int .i64 c.2):=nV
 clear hwB
 replace Ay0:=cL EB Ay0
 replace Ay1:=cL EB Ay1
 replace Ay2:=cL EB Ay2
 replace Ay3:=cL EB Ay3
 replace Ay4:=cL EB Ay4
 have FX:=yD (fun (W:World) (hW:Below wB.heap.size wB W)=>cLs11 hW K2_0 K2_1 K2_2 K2_3 K2_4 K2_5 Ay0 Ay1 Ay2 Ay3 Ay4)
 refine jE (fun W=>Below wB.heap.size wB W) [true,true,true,true,true,false,true,true] bR ?_
 intro wS HS
 iterate 5
  all_goals refine wkR ?_
 all_goals first | refine wkB (zq (Rep.raw.below fc_1 (tQ EB HS)) (Rep.raw.below y_0 (tQ EB HS))) (fun wS1 HS=>?_) | refine wkR ?_
 all_goals refine wkR ?_
 all_goals (have hg7:=True.intro;first|(refine wkG (fun b hg7=>?_);cases b;all_goals first | exact Bool.noConfusion hg7 | simp only [zU,zV] at hg7 | skip) | refine wkR ?_)
 all_goals refine wkP ?_
 all_goals refine jA ?_
 all_goals have EG:=(tQ EB HS)
 all_goals first
   | (have HT:=yD (show (!isC y.1 c)=false by simp only [isC,Bool.not_true,Bool.not_false,Bool.and_true,Bool.true_and,Bool.and_false,Bool.false_and,Bool.or_true,Bool.true_or,Bool.or_false,Bool.false_or,Bool.not_not,hg7]);go_wp2;go_ret;exact ⟨kG HT.out.symm,EG⟩)
   | (have HT:=yD (show (!isC y.1 c)=true by simp only [isC,Bool.not_true,Bool.not_false,Bool.and_true,Bool.true_and,Bool.and_false,Bool.false_and,Bool.or_true,Bool.true_or,Bool.or_false,Bool.false_or,Bool.not_not,hg7]);go_wp2;go_ret;exact ⟨kG HT.out.symm,EG⟩)
theorem kFn:jm Tryz.prog 148:=kAn Tryz.func148 rF rF
theorem kPq {w:World} {cx:List Value} {x:kr} (hx:kI.rd w cx x) {cy:List Value} {y:jJ} (hy:kP.rd w cy y) {t:Int} (ht:-9223372036854775808≤t∧t≤9223372036854775807) (hB:x.2.length≤16777215) :
    Calls Tryz.prog 67 #[.agg cx.toArray,.agg cy.toArray,.int .i64 t] w (yM kI (kBa y t x) w):=by
 obtain ⟨xc,xe⟩:=x
 obtain ⟨y0,y1,y2,y3,y4⟩:=y
 have HX:=yD hx
 have HY:=yD hy
 have HF:=yD ht
 have hxl:xe.length≤16777215:=hB
 obtain ⟨xv1,rfl,x_r,x_l⟩:=jI hx.1
 obtain ⟨xa1,xp1,rfl,xl⟩:=Rep.sl x_l
 have hxr:-9223372036854775808≤xc∧xc≤9223372036854775807:=x_r
 have hxr0:=hxr.1
 have hxr1:=hxr.2
 obtain ⟨yv0,yv1,yv2,rfl,y_0,y_1,y_2,y_3,y_4,y_5,y_6⟩:=kY hy.1
 obtain ⟨ya0,yp0,rfl,yl0⟩:=Rep.sl y_1
 obtain ⟨ya1,yp1,rfl,yl1⟩:=Rep.sl y_2
 obtain ⟨ya2,yp2,rfl,yl2⟩:=Rep.sl y_4
 have HYR:Hid (kP.raw w [.slice ya0 y0.length yp0,.slice ya1 y1.length yp1,.slice ya2 y2.length yp2,.int .i64 y3,.int .i64 y4] (y0,y1,y2,y3,y4)):=yD hy.1
 have HNY:Hid (kL.raw w [.slice ya0 y0.length yp0] y0):=yD y_0
 clear hx hy ht hB x_r x_l xl y_0 y_1 y_2 y_3 y_4 y_5 y_6
 go_enter Tryz.func67,Tryz.ntmps67
 go_upto_region 1 with fail
 generalize hw_:World.alloc (World.alloc (World.alloc w _) _) _=w1
 have EE:Below w.heap.size w w1:=by rw [← hw_];exact bH
 have BX:w1.heap[w.heap.size]?=some (.cells #[.int .i64 xc,.slice xa1 xe.length xp1] 50 (0,0)):=by rw [← hw_];exact jD (jD (kN rfl))
 have BY:w1.heap[w.heap.size + 1]?=some (.cells #[.slice ya0 y0.length yp0,.slice ya1 y1.length yp1,.slice ya2 y2.length yp2,.int .i64 y3,.int .i64 y4] 66 (0,0)):=by rw [← hw_];exact jD (kN rQ)
 have BR:w1.heap[w.heap.size + 2]?=some (.cells #[.int .i64 0,.slice none 0 0] 50 (0,0)):=by rw [← hw_];exact kN rQ
 have z_w1:w.heap.size + 3≤w1.heap.size:=qJ
 clear hw_
 obtain ⟨KBX_0,KBX_1⟩:=yY BX
 go_wp2_with fail
 refine (kKg (HX.out.below EE)).mono ?_
 rintro e w2 ⟨kv,rfl,O,hb⟩
 have z_w2:=hb.size
 replace BX:=kD BX hb
 replace BY:=kD BY hb
 replace BR:=kD BR hb
 replace EE:=(tQ EE hb)
 clear KBX_0 KBX_1
 clear hb
 replace O:=Rep.kg.cast O (show _=xe from rfl)
 obtain ⟨oa,oc,rfl⟩:=O.ym
 have HO:=yD (O.wide (T:=(fun j=>w.heap.size + 3≤j∧j < w2.heap.size)) (fun j q=>⟨by have:=q.1;omega,q.2⟩))
 clear O
 go_upto_region 2 with fail
 generalize hw_:World.alloc w2 _=w3
 have E_w3:Below w2.heap.size w2 w3:=nC
 have BO:w3.heap[w2.heap.size]?=some (.cells #[.int .i64 xc,.slice oa xe.length oc] 50 (0,0)):=pF
 have z_w3:w2.heap.size + 1≤w3.heap.size:=qJ
 clear hw_
 replace BX:=kD BX E_w3
 replace BY:=kD BY E_w3
 replace BR:=kD BR E_w3
 replace HO:=yD (HO.out.below E_w3)
 replace EE:=(tQ EE E_w3)
 clear E_w3
 obtain ⟨KBX_0,KBX_1⟩:=yY BX
 obtain ⟨KBY_0,KBY_1,KBY_2,KBY_3,KBY_4⟩:=jh BY
 go_upto_region 2 with fail
 have FX:=yD (fun (W:World) (hW:Below w3.heap.size w3 W)=>cLs6 hW KBX_0 KBY_0 KBY_1 KBY_2 KBY_3 KBY_4)
 refine jE (fun W=>Below w3.heap.size w3 W) [true,true,true,true,true,false,true,true] bR ?_
 intro wS HS
 iterate 3
  all_goals refine wkR ?_
 all_goals (have hg3:=True.intro;first|(refine wkG (fun b hg3=>?_);cases b;all_goals first | exact Bool.noConfusion hg3 | simp only [zU,zV] at hg3 | skip) | refine wkR ?_)
 all_goals refine wkP ?_
 all_goals refine wkR ?_
 all_goals first | refine wkB (kHi (HYR.out.below (tQ EE HS))) (fun wS1 HS=>?_) | refine wkR ?_
 all_goals refine wkR ?_
 all_goals (have hg7:=True.intro;first|(refine wkG (fun b hg7=>?_);cases b;all_goals first | exact Bool.noConfusion hg7 | simp only [zU,zV] at hg7 | skip) | refine wkR ?_)
 all_goals refine wkP ?_
 all_goals refine jA ?_
 all_goals rename World=>w4
 all_goals have z_w4:=HS.size
 all_goals replace BX:=kD BX HS
 all_goals replace BY:=kD BY HS
 all_goals replace BR:=kD BR HS
 all_goals replace BO:=kD BO HS
 all_goals replace HO:=yD (HO.out.below HS)
 all_goals replace EE:=(tQ EE HS)
 all_goals clear KBX_0 KBX_1 KBY_0 KBY_1 KBY_2 KBY_3 KBY_4
 all_goals clear HS
 all_goals first
   | (have HT := yD (kMm (t := t) (show kCd (y0, y1, y2, y3, y4) (xc, xe) = true by simp only [kCd, Bool.not_true, Bool.not_false, Bool.and_true, Bool.true_and, Bool.and_false, Bool.false_and, Bool.or_true, Bool.true_or, Bool.or_false, Bool.false_or, Bool.not_not, hg3, hg7]))
      obtain ⟨KBO_0,KBO_1⟩:=yY BO
      obtain ⟨KBR_0,KBR_1⟩:=yY BR
      obtain ⟨FBR_0,FBR_1⟩:=kGl BR
      go_wp2
      refine bodyPost_ret (v:=.agg #[.int .i64 xc,.slice oa xe.length oc]) dV rfl ⟨[.int .i64 xc,.slice oa xe.length oc],rfl,?_,?_⟩
      · rw [HT.out];exact ((show kI.own _ _ (xc,xe) _ from Rep.kCc (r:=Rep.int) (q:=(Rep.slice 212 kH)) (cs:=[.int .i64 xc]) (Rep.jG hxr) (HO.out.own qF)).touch ((kC _ _ _ _).trans (kC _ _ _ _)) nJ).wide dQ
      · exact EE.trans (Touch.below ((kC _ _ _ _).trans (kC _ _ _ _)) EE.size qI))
   | skip
 all_goals
   (have HBAD:=yD (show kCd (y0,y1,y2,y3,y4) (xc,xe)=false by simp only [kCd,Bool.not_true,Bool.not_false,Bool.and_true,Bool.true_and,Bool.and_false,Bool.false_and,Bool.or_true,Bool.true_or,Bool.or_false,Bool.false_or,Bool.not_not,hg3,hg7])
    have hxc:¬ xc < 1:=by simpa using hg3
    clear hg3 hg7
    obtain ⟨KBO_0,KBO_1⟩:=yY BO
    obtain ⟨KBY_0,KBY_1,KBY_2,KBY_3,KBY_4⟩:=jh BY
    go_wp2_with fail
    refine (kKf (HO.out.own qF).raw (cn:=[.slice ya0 y0.length yp0]) (HNY.out.below EE)).mono ?_
    rintro e w5 ⟨rfl,hb⟩
    have z_w5:=hb.size
    replace BX:=kD BX hb
    replace BY:=kD BY hb
    replace BR:=kD BR hb
    replace BO:=kD BO hb
    replace HO:=yD (HO.out.below hb)
    replace EE:=(tQ EE hb)
    clear KBO_0 KBO_1 KBY_0 KBY_1 KBY_2 KBY_3 KBY_4
    clear hb
    go_wp2
    go_loopw [8] (fun i wr=>∃ (C:List ko) (ca:Option Addr) (cc:Nat),i=.int .i64 (idxOf (isC y0) C)∧Hid (kCt y0 C=kCt y0 xe)∧C.length≤xe.length∧Hid (Rep.kg 212 kH wr (.slice ca C.length cc) C (fun j=>w.heap.size + 3≤j∧j < wr.heap.size∧j≠w2.heap.size))∧wr.heap[w.heap.size]?=some (.cells #[.int .i64 xc,.slice xa1 xe.length xp1] 50 (0,0))∧wr.heap[w.heap.size + 1]?=some (.cells #[.slice ya0 y0.length yp0,.slice ya1 y1.length yp1,.slice ya2 y2.length yp2,.int .i64 y3,.int .i64 y4] 66 (0,0))∧wr.heap[w.heap.size + 2]?=some (.cells #[.int .i64 0,.slice none 0 0] 50 (0,0))∧wr.heap[w2.heap.size]?=some (.cells #[.int .i64 xc,.slice ca C.length cc] 50 (0,0))∧w5.heap.size≤wr.heap.size∧Below w.heap.size w wr) (fun _ wr=>lenAt wr (w2.heap.size) 1)
    case atStart=>exact ⟨xe,oa,oc,rfl,yD rfl,Nat.le_refl _,yD (HO.out.wide (fun j q=>⟨q.1,by have:=q.2;omega,by have:=q.2;omega⟩)),BX,BY,BR,BO,Nat.le_refl _,EE⟩
    case round =>
      rename World=>wq
      clear EE BX BY BR BO HO
      obtain ⟨C,ca,cc,rfl,HA,hC,HO,BX,BY,BR,BO,hzq,EE⟩:=hrel
      have HM0:=yD (lenAt_eq BO)
      by_cases hf:idxOf (isC y0) C < 0
      · have hf2:¬ (0≤idxOf (isC y0) C):=rP
        have HK:=yD (HA.out.symm.trans (otherC_no hf))
        generalize idxOf (isC y0) C=ix at *
        have hKl:=hC
        obtain ⟨K,hKC⟩:∃ K,K=C:=⟨_,rfl⟩
        subst hKC
        obtain ⟨ka,hka⟩:∃ k,k=ca:=⟨_,rfl⟩
        subst hka
        obtain ⟨kc,hkc⟩:∃ k,k=cc:=⟨_,rfl⟩
        subst hkc
        obtain ⟨KBX_0,KBX_1⟩:=yY BX
        obtain ⟨KBO_0,KBO_1⟩:=yY BO
        by_cases hfull:xc≤(K.length:Int)
        · have hKp:0 < K.length:=rP
          obtain ⟨kb,kcc,hv,hkb,hkbl,hcap2,hcap3⟩:=Rep.kNl HO.out hKp
          simp only [Value.slice.injEq,true_and] at hv
          obtain ⟨rfl,rfl⟩:=hv
          clear hkb
          clear KBX_0 KBX_1 KBO_0 KBO_1
          obtain ⟨KBX_0,KBX_1⟩:=yY BX
          obtain ⟨KBO_0,KBO_1⟩:=yY BO
          go_wp2
          go_loopw [9,10] (fun b i wr=>∃ (k m:Nat),i=.int .i64 k∧b=.int .i64 m∧1≤k∧k≤K.length∧m < K.length∧Hid (kCv K k=m)∧Hid (Rep.kg 212 kH wr (.slice (some ⟨kb,0,none⟩) K.length kc) K (fun j=>w.heap.size + 3≤j∧j < wq.heap.size∧j≠w2.heap.size))∧wr.heap[w.heap.size + 1]?=some (.cells #[.slice ya0 y0.length yp0,.slice ya1 y1.length yp1,.slice ya2 y2.length yp2,.int .i64 y3,.int .i64 y4] 66 (0,0))∧wr.heap[w.heap.size + 2]?=some (.cells #[.int .i64 0,.slice none 0 0] 50 (0,0))∧wr.heap[w2.heap.size]?=some (.cells #[.int .i64 xc,.slice (some ⟨kb,0,none⟩) K.length kc] 50 (0,0))∧wq.heap.size≤wr.heap.size∧Below w.heap.size w wr) (fun _ i _=>K.length - (intOf i).toNat)
          case atStart=>exact ⟨1,0,rfl,rfl,by omega,by omega,hKp,yD (leastA_one K),HO,BY,BR,BO,Nat.le_refl _,EE⟩
          case round =>
            rename World=>wq2
            clear EE BX BY BR BO HO
            obtain ⟨k,m,rfl,rfl,hk1,hk,hm,HA,HO,BY,BR,BO,hzq,EE⟩:=hrel
            have hk0:=Int.natCast_nonneg k
            have hm0:=Int.natCast_nonneg m
            have hm2:=Int.ofNat_lt.2 hm
            by_cases hlt:k < K.length
            · have hk2:=Int.ofNat_lt.2 hlt
              have HR:=yD (HO.out.own qF)
              obtain ⟨pc0,pc1,pc2,pc3,pc4,pc5,pr,pA0,pA1,pA2,pA3,pA4,pA5⟩:=Rep.at6 HR.out.raw hlt rfl
              obtain ⟨py,ph⟩:∃ z,K[k]=z:=⟨_,rfl⟩
              rw [ph] at pr
              have pH:=yD ph
              clear ph
              obtain ⟨pu0,pu1,pu2,pe,pr_0,pr_1,pr_2,pr_3,pr_4,pr_5,pr_6,pr_7,pr_8⟩:=jQ pr
              simp only [List.cons.injEq,and_true] at pe
              obtain ⟨rfl,rfl,rfl,rfl,rfl,rfl⟩:=pe
              obtain ⟨pa0,pp0,rfl,_⟩:=Rep.sl pr_2
              obtain ⟨pa1,pp1,rfl,_⟩:=Rep.sl pr_3
              obtain ⟨pa2,pp2,rfl,_⟩:=Rep.sl pr_5
              clear pr pr_0 pr_1 pr_2 pr_3 pr_4 pr_5 pr_6 pr_7 pr_8
              obtain ⟨sc0,sc1,sc2,sc3,sc4,sc5,sr,sA0,sA1,sA2,sA3,sA4,sA5⟩:=Rep.at6 HR.out.raw hm rfl
              obtain ⟨sy,sh⟩:∃ z,K[m]=z:=⟨_,rfl⟩
              rw [sh] at sr
              have sH:=yD sh
              clear sh
              obtain ⟨su0,su1,su2,se,sr_0,sr_1,sr_2,sr_3,sr_4,sr_5,sr_6,sr_7,sr_8⟩:=jQ sr
              simp only [List.cons.injEq,and_true] at se
              obtain ⟨rfl,rfl,rfl,rfl,rfl,rfl⟩:=se
              obtain ⟨sa0,sp0,rfl,_⟩:=Rep.sl sr_2
              obtain ⟨sa1,sp1,rfl,_⟩:=Rep.sl sr_3
              obtain ⟨sa2,sp2,rfl,_⟩:=Rep.sl sr_5
              clear sr sr_0 sr_1 sr_2 sr_3 sr_4 sr_5 sr_6 sr_7 sr_8
              clear HR
              obtain ⟨KBO_0,KBO_1⟩:=yY BO
              go_upto_region 13 with fail
              have FX:=yD (fun (W:World) (hW:Below wq2.heap.size wq2 W)=>cLs3 hW KBO_1 pA5 sA5)
              refine jB (fun W=>Below wq2.heap.size wq2 W) [true,true,true,true,true,true,true,true,true,true,true,true,true] rF rF gX (bR.drew) ?_
              intro wS HS
              iterate 12
               all_goals refine wkR ?_
              all_goals (have hg12:=True.intro;first|(refine wkG (fun b hg12=>?_);cases b;all_goals first | exact Bool.noConfusion hg12 | simp only [zU,zV] at hg12 | skip) | refine wkR ?_)
              all_goals refine wkP ?_
              all_goals refine jA ?_
              all_goals rename World=>w8
              all_goals have z_w8:=HS.size
              all_goals replace BY:=kD BY HS
              all_goals replace BR:=kD BR HS
              all_goals replace BO:=kD BO HS
              all_goals replace pA5:=cL HS pA5
              all_goals replace sA5:=cL HS sA5
              all_goals replace HO:=yD (HO.out.below HS)
              all_goals replace EE:=(tQ EE HS)
              all_goals clear KBO_0 KBO_1
              all_goals clear HS
              all_goals first
                | (have hcm : K[k].2 < K[m].2 := by rw [pH.out, sH.out]; simpa using hg12
                   clear hg12
                   have HB:=yD (kRx HA.out hlt hm hcm)
                   go_wp2
                   go_roundw
                   case rel=>exact ⟨k + 1,k,by go_num,rfl,by omega,by omega,hlt,HB,HO,BY,BR,BO,by omega,EE⟩
                   case measure=>simp [intOf];omega)
                | skip
              all_goals
                (have hcm:¬ K[k].2 < K[m].2:=by rw [pH.out,sH.out];simpa using hg12
                 clear hg12
                 have HB:=yD (kUv HA.out hlt hm hcm)
                 go_wp2
                 go_roundw
                 case rel=>exact ⟨k + 1,m,by go_num,rfl,by omega,by omega,hm,HB,HO,BY,BR,BO,by omega,EE⟩
                 case measure=>simp [intOf];omega)
            · obtain rfl:k=K.length:=rP
              have hk3:¬ ((K.length:Int) < K.length):=rP
              have HRM0:=yD (kRm HA.out hfull)
              have hw:IntKind.i64.wrap ((m:Int) + 1)=(m:Int) + 1:=IntWalk.i64_in _ rP
              obtain ⟨KBO_0,KBO_1⟩:=yY BO
              go_wp2_with fail
              refine (kGi HO.out hm rP).mono ?_
              rintro e w8 ⟨v5,rfl,O5,hb⟩
              have z_w8:=hb.size
              replace BY:=kD BY hb
              replace BR:=kD BR hb
              replace BO:=kD BO hb
              replace EE:=(tQ EE hb)
              clear KBO_0 KBO_1
              clear hb
              clear HO
              obtain ⟨R,hR⟩:∃ R,kFo xc K=R:=⟨_,rfl⟩
              replace O5:=Rep.kg.cast O5 (HRM0.out.symm.trans hR)
              have hRl:R.length≤K.length:=by rw [← hR];exact kUq _ _
              have HRM:=yD hR
              clear hR HRM0
              obtain ⟨ra,rc,rfl⟩:=O5.ym
              have HO:=yD (O5.wide (T:=(fun j=>w.heap.size + 3≤j∧j < w8.heap.size∧j≠w2.heap.size)) (fun j q=>q.elim (fun q=>⟨q.1,by have:=q.2.1;omega,q.2.2⟩) (fun q=>⟨by have:=q.1;omega,q.2,by have:=q.1;omega⟩)))
              clear O5
              obtain ⟨KBO_0,KBO_1⟩:=yY BO
              obtain ⟨FBO_0,FBO_1⟩:=kGl BO
              go_upto_region 16 with fail
              generalize hw_:World.setCell w8 _ _=w9
              have T_w9:Touch (fun k=>k=w2.heap.size) w8 w9:=by rw [← hw_];exact kC w8 (w2.heap.size) 1 _
              replace BO:w9.heap[w2.heap.size]?=some (.cells #[.int .i64 xc,.slice ra R.length rc] 50 (0,0)):=nY
              have z_w9:=T_w9.size
              clear hw_
              replace BY:=T_w9.kD BY rP
              replace BR:=T_w9.kD BR rP
              replace HO:=yD (HO.out.touch T_w9 gN)
              replace EE:=EE.trans (T_w9.below EE.size qI)
              clear KBO_0 KBO_1 FBO_0 FBO_1
              clear T_w9
              obtain ⟨KBY_0,KBY_1,KBY_2,KBY_3,KBY_4⟩:=jh BY
              obtain ⟨KBO_0,KBO_1⟩:=yY BO
              go_wp2_with fail
              refine (kDj (HY.out.below EE)).mono ?_
              rintro e w10 ⟨tc,rfl,O,hb⟩
              have z_w10:=hb.size
              replace BY:=kD BY hb
              replace BR:=kD BR hb
              replace BO:=kD BO hb
              replace HO:=yD (HO.out.below hb)
              replace EE:=(tQ EE hb)
              clear KBY_0 KBY_1 KBY_2 KBY_3 KBY_4 KBO_0 KBO_1
              clear hb
              obtain ⟨tv0,tv1,tv2,rfl,t_0,t_1,t_2,t_3,t_4,t_5,t_6⟩:=kY O.raw
              obtain ⟨ta0,tp0,rfl,tl0⟩:=Rep.sl t_1
              obtain ⟨ta1,tp1,rfl,tl1⟩:=Rep.sl t_2
              obtain ⟨ta2,tp2,rfl,tl2⟩:=Rep.sl t_4
              clear t_0 t_1 t_2 t_3 t_4 t_5 t_6
              have HOT:=yD O
              clear O
              go_upto_region 17 with fail
              generalize hw_:World.alloc w10 _=w11
              have E_w11:Below w10.heap.size w10 w11:=nC
              have BD:w11.heap[w10.heap.size]?=some (.cells #[.slice ta0 y0.length tp0,.slice ta1 y1.length tp1,.slice ta2 y2.length tp2,.int .i64 y3,.int .i64 y4] 66 (0,0)):=pF
              have z_w11:w10.heap.size + 1≤w11.heap.size:=qJ
              clear hw_
              replace BY:=kD BY E_w11
              replace BR:=kD BR E_w11
              replace BO:=kD BO E_w11
              replace HO:=yD (HO.out.below E_w11)
              replace HOT:=yD (HOT.out.below E_w11)
              replace EE:=(tQ EE E_w11)
              clear E_w11
              obtain ⟨KBO_0,KBO_1⟩:=yY BO
              obtain ⟨KBD_0,KBD_1,KBD_2,KBD_3,KBD_4⟩:=jh BD
              have hRb:R.length + 1≤1000000000:=rP
              go_wp2_with (at_builtin;refine Rep.kAi rfl _ _ 48 rfl (r:=kH) (e:=212) Tryz.underlying48 yX rfl rM rM (w:=w11) (HO.out) rR rR rfl (Rep.jy (r:=kP) (q:=Rep.int) (cs:=[.slice ta0 y0.length tp0,.slice ta1 y1.length tp1,.slice ta2 y2.length tp2,.int .i64 y3,.int .i64 y4]) (ds:=[.int .i64 t]) (x:=(y0,y1,y2,y3,y4)) (y:=t) HOT.out (Rep.jG HF.out)) rfl fV hRb ?_)
              intro v2 w12 hQ hTQ
              have hT:Touch (fun j=>w.heap.size + 3≤j∧j < w8.heap.size∧j≠w2.heap.size) w11 w12:=(Touch.of_below (bR.alloc nL _)).trans (hTQ.wide (fun j q=>q.2))
              have z_w12:=hT.size
              have zT_:=hTQ.size
              have zT2_:w11.heap.size + 1≤w12.heap.size:=qM
              clear hTQ zT_
              obtain ⟨Z,hZ⟩:∃ Z,R++[((y0,y1,y2,y3,y4),t)]=Z:=⟨_,rfl⟩
              have HZL:=yD (show Z.length=R.length + 1 by rw [← hZ];simp)
              replace hQ:=Rep.kg.cast hQ hZ
              have HZ:=yD hZ
              clear hZ
              obtain ⟨ga,gc,rfl⟩:=hQ.ym
              have HQ:=yD (Rep.kg.wide (T:=fun j=>w.heap.size + 3≤j∧j < w12.heap.size∧j≠w2.heap.size) hQ dD)
              clear hQ HO
              replace BY:=hT.kD BY rP
              replace BR:=hT.kD BR rP
              replace BO:=hT.kD BO rP
              replace BD:=hT.kD BD rP
              replace EE:=EE.trans (hT.below EE.size qI)
              clear KBO_0 KBO_1 KBD_0 KBD_1 KBD_2 KBD_3 KBD_4
              clear hT
              obtain ⟨KBO_0,KBO_1⟩:=yY BO
              obtain ⟨FBO_0,FBO_1⟩:=kGl BO
              go_upto_region 18 with fail
              generalize hw_:World.setCell w12 _ _=w13
              have T_w13:Touch (fun k=>k=w2.heap.size) w12 w13:=by rw [← hw_];exact kC w12 (w2.heap.size) 1 _
              replace BO:w13.heap[w2.heap.size]?=some (.cells #[.int .i64 xc,.slice ga Z.length gc] 50 (0,0)):=nY
              have z_w13:=T_w13.size
              clear hw_
              replace BY:=T_w13.kD BY rP
              replace BR:=T_w13.kD BR rP
              replace BD:=T_w13.kD BD rP
              replace HQ:=yD (HQ.out.touch T_w13 gN)
              replace EE:=EE.trans (T_w13.below EE.size qI)
              clear KBO_0 KBO_1 FBO_0 FBO_1
              clear T_w13
              have HT:=yD (show kBa (y0,y1,y2,y3,y4) t (xc,xe)=(xc,Z) from (kFs HBAD.out).trans dF)
              obtain ⟨KBO_0,KBO_1⟩:=yY BO
              obtain ⟨KBR_0,KBR_1⟩:=yY BR
              obtain ⟨FBR_0,FBR_1⟩:=kGl BR
              go_wp2
              refine bodyPost_ret (v:=.agg #[.int .i64 xc,.slice ga Z.length gc]) dV rfl ⟨[.int .i64 xc,.slice ga Z.length gc],rfl,?_,?_⟩
              · rw [HT.out];exact ((show kI.own _ _ (xc,Z) _ from Rep.kCc (r:=Rep.int) (q:=(Rep.slice 212 kH)) (cs:=[.int .i64 xc]) (Rep.jG hxr) (HQ.out.own nH)).touch ((kC _ _ _ _).trans (kC _ _ _ _)) nJ).wide dQ
              · exact EE.trans (Touch.below ((kC _ _ _ _).trans (kC _ _ _ _)) EE.size qI)
        · have HRM:=yD (kRn hfull)
          clear KBX_0 KBX_1 KBO_0 KBO_1
          obtain ⟨KBX_0,KBX_1⟩:=yY BX
          obtain ⟨KBY_0,KBY_1,KBY_2,KBY_3,KBY_4⟩:=jh BY
          obtain ⟨KBO_0,KBO_1⟩:=yY BO
          go_wp2_with fail
          refine (kDj (HY.out.below EE)).mono ?_
          rintro e w7 ⟨tc,rfl,O,hb⟩
          have z_w7:=hb.size
          replace BX:=kD BX hb
          replace BY:=kD BY hb
          replace BR:=kD BR hb
          replace BO:=kD BO hb
          replace HO:=yD (HO.out.below hb)
          replace EE:=(tQ EE hb)
          clear KBX_0 KBX_1 KBY_0 KBY_1 KBY_2 KBY_3 KBY_4 KBO_0 KBO_1
          clear hb
          obtain ⟨tv0,tv1,tv2,rfl,t_0,t_1,t_2,t_3,t_4,t_5,t_6⟩:=kY O.raw
          obtain ⟨ta0,tp0,rfl,tl0⟩:=Rep.sl t_1
          obtain ⟨ta1,tp1,rfl,tl1⟩:=Rep.sl t_2
          obtain ⟨ta2,tp2,rfl,tl2⟩:=Rep.sl t_4
          clear t_0 t_1 t_2 t_3 t_4 t_5 t_6
          have HOT:=yD O
          clear O
          go_upto_region 17 with fail
          generalize hw_:World.alloc w7 _=w8
          have E_w8:Below w7.heap.size w7 w8:=nC
          have BD:w8.heap[w7.heap.size]?=some (.cells #[.slice ta0 y0.length tp0,.slice ta1 y1.length tp1,.slice ta2 y2.length tp2,.int .i64 y3,.int .i64 y4] 66 (0,0)):=pF
          have z_w8:w7.heap.size + 1≤w8.heap.size:=qJ
          clear hw_
          replace BX:=kD BX E_w8
          replace BY:=kD BY E_w8
          replace BR:=kD BR E_w8
          replace BO:=kD BO E_w8
          replace HO:=yD (HO.out.below E_w8)
          replace HOT:=yD (HOT.out.below E_w8)
          replace EE:=(tQ EE E_w8)
          clear E_w8
          obtain ⟨KBO_0,KBO_1⟩:=yY BO
          obtain ⟨KBD_0,KBD_1,KBD_2,KBD_3,KBD_4⟩:=jh BD
          have hRb:K.length + 1≤1000000000:=rP
          go_wp2_with (at_builtin;refine Rep.kAi rfl _ _ 48 rfl (r:=kH) (e:=212) Tryz.underlying48 yX rfl rM rM (w:=w8) (HO.out) rR rR rfl (Rep.jy (r:=kP) (q:=Rep.int) (cs:=[.slice ta0 y0.length tp0,.slice ta1 y1.length tp1,.slice ta2 y2.length tp2,.int .i64 y3,.int .i64 y4]) (ds:=[.int .i64 t]) (x:=(y0,y1,y2,y3,y4)) (y:=t) HOT.out (Rep.jG HF.out)) rfl fV hRb ?_)
          intro v2 w9 hQ hTQ
          have hT:Touch (fun j=>w.heap.size + 3≤j∧j < wq.heap.size∧j≠w2.heap.size) w8 w9:=(Touch.of_below (bR.alloc nL _)).trans (hTQ.wide (fun j q=>q.2))
          have z_w9:=hT.size
          have zT_:=hTQ.size
          have zT2_:w8.heap.size + 1≤w9.heap.size:=qM
          clear hTQ zT_
          obtain ⟨Z,hZ⟩:∃ Z,K++[((y0,y1,y2,y3,y4),t)]=Z:=⟨_,rfl⟩
          have HZL:=yD (show Z.length=K.length + 1 by rw [← hZ];simp)
          replace hQ:=Rep.kg.cast hQ hZ
          have HZ:=yD hZ
          clear hZ
          obtain ⟨ga,gc,rfl⟩:=hQ.ym
          have HQ:=yD (Rep.kg.wide (T:=fun j=>w.heap.size + 3≤j∧j < w9.heap.size∧j≠w2.heap.size) hQ dD)
          clear hQ HO
          replace BX:=hT.kD BX rP
          replace BY:=hT.kD BY rP
          replace BR:=hT.kD BR rP
          replace BO:=hT.kD BO rP
          replace BD:=hT.kD BD rP
          replace EE:=EE.trans (hT.below EE.size qI)
          clear KBO_0 KBO_1 KBD_0 KBD_1 KBD_2 KBD_3 KBD_4
          clear hT
          obtain ⟨KBO_0,KBO_1⟩:=yY BO
          obtain ⟨FBO_0,FBO_1⟩:=kGl BO
          go_upto_region 18 with fail
          generalize hw_:World.setCell w9 _ _=w10
          have T_w10:Touch (fun k=>k=w2.heap.size) w9 w10:=by rw [← hw_];exact kC w9 (w2.heap.size) 1 _
          replace BO:w10.heap[w2.heap.size]?=some (.cells #[.int .i64 xc,.slice ga Z.length gc] 50 (0,0)):=nY
          have z_w10:=T_w10.size
          clear hw_
          replace BX:=T_w10.kD BX rP
          replace BY:=T_w10.kD BY rP
          replace BR:=T_w10.kD BR rP
          replace BD:=T_w10.kD BD rP
          replace HQ:=yD (HQ.out.touch T_w10 gN)
          replace EE:=EE.trans (T_w10.below EE.size qI)
          clear KBO_0 KBO_1 FBO_0 FBO_1
          clear T_w10
          have HT:=yD (show kBa (y0,y1,y2,y3,y4) t (xc,xe)=(xc,Z) from (kFs HBAD.out).trans dF)
          obtain ⟨KBO_0,KBO_1⟩:=yY BO
          obtain ⟨KBR_0,KBR_1⟩:=yY BR
          obtain ⟨FBR_0,FBR_1⟩:=kGl BR
          go_wp2
          refine bodyPost_ret (v:=.agg #[.int .i64 xc,.slice ga Z.length gc]) dV rfl ⟨[.int .i64 xc,.slice ga Z.length gc],rfl,?_,?_⟩
          · rw [HT.out];exact ((show kI.own _ _ (xc,Z) _ from Rep.kCc (r:=Rep.int) (q:=(Rep.slice 212 kH)) (cs:=[.int .i64 xc]) (Rep.jG hxr) (HQ.out.own nH)).touch ((kC _ _ _ _).trans (kC _ _ _ _)) nJ).wide dQ
          · exact EE.trans (Touch.below ((kC _ _ _ _).trans (kC _ _ _ _)) EE.size qI)
      · obtain ⟨k,hlt,hki⟩:=kSg hf
        rw [hki]
        have HST:=yD ((otherC_step hlt hki).trans HA.out)
        clear hf
        have hk0:(0:Int)≤k:=rP
        obtain ⟨KBO_0,KBO_1⟩:=yY BO
        go_wp2_with fail
        refine (kGi HO.out hlt rP).mono ?_
        rintro e w7 ⟨v5,rfl,O5,hb⟩
        have z_w7:=hb.size
        replace BX:=kD BX hb
        replace BY:=kD BY hb
        replace BR:=kD BR hb
        replace BO:=kD BO hb
        replace EE:=(tQ EE hb)
        clear KBO_0 KBO_1
        clear hb
        have hcl:(C.take k++C.drop (k + 1)).length < C.length:=rG
        clear HO
        generalize C.take k++C.drop (k + 1)=D at *
        obtain ⟨da,dc,rfl⟩:=O5.ym
        have HO:=yD (O5.wide (T:=(fun j=>w.heap.size + 3≤j∧j < w7.heap.size∧j≠w2.heap.size)) (fun j q=>q.elim (fun q=>⟨q.1,by have:=q.2.1;omega,q.2.2⟩) (fun q=>⟨by have:=q.1;omega,q.2,by have:=q.1;omega⟩)))
        clear O5
        obtain ⟨KBO_0,KBO_1⟩:=yY BO
        obtain ⟨FBO_0,FBO_1⟩:=kGl BO
        go_upto_region 6 with fail
        generalize hw_:World.setCell w7 _ _=w8
        have T_w8:Touch (fun k=>k=w2.heap.size) w7 w8:=by rw [← hw_];exact kC w7 (w2.heap.size) 1 _
        replace BO:w8.heap[w2.heap.size]?=some (.cells #[.int .i64 xc,.slice da D.length dc] 50 (0,0)):=nY
        have z_w8:=T_w8.size
        clear hw_
        replace BX:=T_w8.kD BX rP
        replace BY:=T_w8.kD BY rP
        replace BR:=T_w8.kD BR rP
        replace HO:=yD (HO.out.touch T_w8 gN)
        replace EE:=EE.trans (T_w8.below EE.size qI)
        clear KBO_0 KBO_1 FBO_0 FBO_1
        clear T_w8
        obtain ⟨KBO_0,KBO_1⟩:=yY BO
        obtain ⟨KBY_0,KBY_1,KBY_2,KBY_3,KBY_4⟩:=jh BY
        go_wp2_with fail
        refine (kKf (HO.out.own qF).raw (cn:=[.slice ya0 y0.length yp0]) (HNY.out.below EE)).mono ?_
        rintro e w9 ⟨rfl,hb⟩
        have z_w9:=hb.size
        replace BX:=kD BX hb
        replace BY:=kD BY hb
        replace BR:=kD BR hb
        replace BO:=kD BO hb
        replace HO:=yD (HO.out.below hb)
        replace EE:=(tQ EE hb)
        clear KBO_0 KBO_1 KBY_0 KBY_1 KBY_2 KBY_3 KBY_4
        clear hb
        have HM1:=yD (lenAt_eq BO)
        go_wp2
        go_roundw
        case rel=>exact ⟨D,da,dc,rfl,HST,by omega,yD (HO.out.wide gL),BX,BY,BR,BO,by omega,EE⟩
        case measure=>rw [HM0.out,HM1.out];exact hcl)
theorem kPz {w:World} {cx:List Value} {x:kr} (hx:kI.rd w cx x) {cy:List Value} {y:jJ} (hy:kP.rd w cy y) {t:Int} (ht:-9223372036854775808≤t∧t≤9223372036854775807) (hB:x.2.length≤16777215) :
    Calls Tryz.prog 75 #[.agg cx.toArray,.agg cy.toArray,.int .i64 t] w (yM kI (kBa y t x) w):=by
 obtain ⟨xc,xe⟩:=x
 obtain ⟨y0,y1,y2,y3,y4⟩:=y
 have HX:=yD hx
 have HY:=yD hy
 have HF:=yD ht
 have hxl:xe.length≤16777215:=hB
 obtain ⟨xv1,rfl,x_r,x_l⟩:=jI hx.1
 obtain ⟨xa1,xp1,rfl,xl⟩:=Rep.sl x_l
 have hxr:-9223372036854775808≤xc∧xc≤9223372036854775807:=x_r
 have hxr0:=hxr.1
 have hxr1:=hxr.2
 obtain ⟨yv0,yv1,yv2,rfl,y_0,y_1,y_2,y_3,y_4,y_5,y_6⟩:=kY hy.1
 obtain ⟨ya0,yp0,rfl,yl0⟩:=Rep.sl y_1
 obtain ⟨ya1,yp1,rfl,yl1⟩:=Rep.sl y_2
 obtain ⟨ya2,yp2,rfl,yl2⟩:=Rep.sl y_4
 have HYR:Hid (kP.raw w [.slice ya0 y0.length yp0,.slice ya1 y1.length yp1,.slice ya2 y2.length yp2,.int .i64 y3,.int .i64 y4] (y0,y1,y2,y3,y4)):=yD hy.1
 have HNY:Hid (kL.raw w [.slice ya0 y0.length yp0] y0):=yD y_0
 clear hx hy ht hB x_r x_l xl y_0 y_1 y_2 y_3 y_4 y_5 y_6
 go_enter Tryz.func75,Tryz.ntmps75
 go_upto_region 1 with fail
 generalize hw_:World.alloc (World.alloc (World.alloc w _) _) _=w1
 have EE:Below w.heap.size w w1:=by rw [← hw_];exact bH
 have BX:w1.heap[w.heap.size]?=some (.cells #[.int .i64 xc,.slice xa1 xe.length xp1] 50 (0,0)):=by rw [← hw_];exact jD (jD (kN rfl))
 have BY:w1.heap[w.heap.size + 1]?=some (.cells #[.slice ya0 y0.length yp0,.slice ya1 y1.length yp1,.slice ya2 y2.length yp2,.int .i64 y3,.int .i64 y4] 66 (0,0)):=by rw [← hw_];exact jD (kN rQ)
 have BR:w1.heap[w.heap.size + 2]?=some (.cells #[.int .i64 0,.slice none 0 0] 50 (0,0)):=by rw [← hw_];exact kN rQ
 have z_w1:w.heap.size + 3≤w1.heap.size:=qJ
 clear hw_
 obtain ⟨KBX_0,KBX_1⟩:=yY BX
 obtain ⟨KBY_0,KBY_1,KBY_2,KBY_3,KBY_4⟩:=jh BY
 go_upto_region 1 with fail
 have FX:=yD (fun (W:World) (hW:Below w1.heap.size w1 W)=>cLs6 hW KBX_0 KBY_0 KBY_1 KBY_2 KBY_3 KBY_4)
 refine jE (fun W=>Below w1.heap.size w1 W) [true,true,true,true,true,false,true,true] bR ?_
 intro wS HS
 iterate 3
  all_goals refine wkR ?_
 all_goals (have hg3:=True.intro;first|(refine wkG (fun b hg3=>?_);cases b;all_goals first | exact Bool.noConfusion hg3 | simp only [zU,zV] at hg3 | skip) | refine wkR ?_)
 all_goals refine wkP ?_
 all_goals refine wkR ?_
 all_goals first | refine wkB (kHq (HYR.out.below (tQ EE HS))) (fun wS1 HS=>?_) | refine wkR ?_
 all_goals refine wkR ?_
 all_goals (have hg7:=True.intro;first|(refine wkG (fun b hg7=>?_);cases b;all_goals first | exact Bool.noConfusion hg7 | simp only [zU,zV] at hg7 | skip) | refine wkR ?_)
 all_goals refine wkP ?_
 all_goals refine jA ?_
 all_goals rename World=>w2
 all_goals have z_w2:=HS.size
 all_goals replace BX:=kD BX HS
 all_goals replace BY:=kD BY HS
 all_goals replace BR:=kD BR HS
 all_goals replace EE:=(tQ EE HS)
 all_goals clear KBX_0 KBX_1 KBY_0 KBY_1 KBY_2 KBY_3 KBY_4
 all_goals clear HS
 all_goals first
   | (have HT := yD (kMm (t := t) (show kCd (y0, y1, y2, y3, y4) (xc, xe) = true by simp only [kCd, Bool.not_true, Bool.not_false, Bool.and_true, Bool.true_and, Bool.and_false, Bool.false_and, Bool.or_true, Bool.true_or, Bool.or_false, Bool.false_or, Bool.not_not, hg3, hg7]))
      obtain ⟨KBX_0,KBX_1⟩:=yY BX
      go_wp2_with fail
      refine (kHo (HX.out.below EE)).mono ?_
      rintro e w3 ⟨cs,rfl,O,hb⟩
      have z_w3:=hb.size
      replace BX:=kD BX hb
      replace BY:=kD BY hb
      replace BR:=kD BR hb
      replace EE:=(tQ EE hb)
      clear KBX_0 KBX_1
      clear hb
      obtain ⟨ov1,rfl,o_r,o_l⟩:=jI O.raw
      obtain ⟨oa,op,rfl,_⟩:=Rep.sl o_l
      clear o_r o_l
      obtain ⟨KBR_0,KBR_1⟩:=yY BR
      obtain ⟨FBR_0,FBR_1⟩:=kGl BR
      go_wp2
      refine bodyPost_ret (v:=.agg #[.int .i64 xc,.slice oa xe.length op]) dW rfl ⟨[.int .i64 xc,.slice oa xe.length op],rfl,?_,?_⟩
      · rw [HT.out];exact (O.touch ((kC _ _ _ _).trans (kC _ _ _ _)) nJ).wide dQ
      · exact EE.trans (Touch.below ((kC _ _ _ _).trans (kC _ _ _ _)) EE.size qI))
   | skip
 all_goals
   (have HBAD:=yD (show kCd (y0,y1,y2,y3,y4) (xc,xe)=false by simp only [kCd,Bool.not_true,Bool.not_false,Bool.and_true,Bool.true_and,Bool.and_false,Bool.false_and,Bool.or_true,Bool.true_or,Bool.or_false,Bool.false_or,Bool.not_not,hg3,hg7])
    have hxc:¬ xc < 1:=by simpa using hg3
    clear hg3 hg7
    obtain ⟨KBX_0,KBX_1⟩:=yY BX
    obtain ⟨KBY_0,KBY_1,KBY_2,KBY_3,KBY_4⟩:=jh BY
    go_wp2_with fail
    refine (kHn (fun c=>!isC y0 c) kFn (HX.out.below EE) (fun wr hwr c ds hc=>kOa (y:=(y0,y1,y2,y3,y4)) hc (HYR.out.below (tQ EE hwr)) (cL hwr KBY_0) (cL hwr KBY_1) (cL hwr KBY_2) (cL hwr KBY_3) (cL hwr KBY_4))).mono ?_
    rintro e w3 ⟨kv,rfl,O,hb⟩
    have z_w3:=hb.size
    replace BX:=kD BX hb
    replace BY:=kD BY hb
    replace BR:=kD BR hb
    replace EE:=(tQ EE hb)
    clear KBX_0 KBX_1 KBY_0 KBY_1 KBY_2 KBY_3 KBY_4
    clear hb
    obtain ⟨K,hK⟩:∃ K,kCt y0 xe=K:=⟨_,rfl⟩
    replace O:=Rep.kg.cast O (show _=K from hK)
    have hKl:K.length≤xe.length:=by rw [← hK];exact otherC_len _ _
    have HK:=yD hK
    clear hK
    obtain ⟨ka,kc,rfl⟩:=O.ym
    have HO:=yD (O.wide (T:=(fun j=>w.heap.size + 3≤j∧j < w3.heap.size)) (fun j q=>⟨by have:=q.1;omega,q.2⟩))
    clear O
    go_upto_region 4 with fail
    generalize hw_:World.alloc w3 _=w4
    have E_w4:Below w3.heap.size w3 w4:=nC
    have BO:w4.heap[w3.heap.size]?=some (.cells #[.int .i64 xc,.slice ka K.length kc] 50 (0,0)):=pF
    have z_w4:w3.heap.size + 1≤w4.heap.size:=qJ
    clear hw_
    replace BX:=kD BX E_w4
    replace BY:=kD BY E_w4
    replace BR:=kD BR E_w4
    replace HO:=yD (HO.out.below E_w4)
    replace EE:=(tQ EE E_w4)
    clear E_w4
    obtain ⟨KBX_0,KBX_1⟩:=yY BX
    obtain ⟨KBO_0,KBO_1⟩:=yY BO
    by_cases hfull:xc≤(K.length:Int)
    · have hKp:0 < K.length:=rP
      obtain ⟨kb,kcc,hv,hkb,hkbl,hcap2,hcap3⟩:=Rep.kNl HO.out hKp
      simp only [Value.slice.injEq,true_and] at hv
      obtain ⟨rfl,rfl⟩:=hv
      clear hkb
      clear KBX_0 KBX_1 KBO_0 KBO_1
      obtain ⟨KBX_0,KBX_1⟩:=yY BX
      obtain ⟨KBO_0,KBO_1⟩:=yY BO
      go_wp2
      go_loopw [8,33] (fun b i wr=>∃ (k m:Nat),i=.int .i64 k∧b=.int .i64 m∧0≤k∧k≤K.length∧m < K.length∧Hid (kCv K k=m)∧Hid (Rep.kg 212 kH wr (.slice (some ⟨kb,0,none⟩) K.length kc) K (fun j=>w.heap.size + 3≤j∧j < w3.heap.size))∧wr.heap[w.heap.size + 1]?=some (.cells #[.slice ya0 y0.length yp0,.slice ya1 y1.length yp1,.slice ya2 y2.length yp2,.int .i64 y3,.int .i64 y4] 66 (0,0))∧wr.heap[w.heap.size + 2]?=some (.cells #[.int .i64 0,.slice none 0 0] 50 (0,0))∧wr.heap[w3.heap.size]?=some (.cells #[.int .i64 xc,.slice (some ⟨kb,0,none⟩) K.length kc] 50 (0,0))∧w4.heap.size≤wr.heap.size∧Below w.heap.size w wr) (fun _ i _=>K.length - (intOf i).toNat)
      case atStart=>exact ⟨0,0,rfl,rfl,by omega,by omega,hKp,yD (rfl),HO,BY,BR,BO,Nat.le_refl _,EE⟩
      case round =>
        rename World=>wq2
        clear EE BX BY BR BO HO
        obtain ⟨k,m,rfl,rfl,hk1,hk,hm,HA,HO,BY,BR,BO,hzq,EE⟩:=hrel
        have hk0:=Int.natCast_nonneg k
        have hm0:=Int.natCast_nonneg m
        have hm2:=Int.ofNat_lt.2 hm
        by_cases hlt:k < K.length
        · have hk2:=Int.ofNat_lt.2 hlt
          have HR:=yD (HO.out.own qF)
          obtain ⟨pc0,pc1,pc2,pc3,pc4,pc5,pr,pA0,pA1,pA2,pA3,pA4,pA5⟩:=Rep.at6 HR.out.raw hlt rfl
          obtain ⟨py,ph⟩:∃ z,K[k]=z:=⟨_,rfl⟩
          rw [ph] at pr
          have pH:=yD ph
          clear ph
          obtain ⟨pu0,pu1,pu2,pe,pr_0,pr_1,pr_2,pr_3,pr_4,pr_5,pr_6,pr_7,pr_8⟩:=jQ pr
          simp only [List.cons.injEq,and_true] at pe
          obtain ⟨rfl,rfl,rfl,rfl,rfl,rfl⟩:=pe
          obtain ⟨pa0,pp0,rfl,_⟩:=Rep.sl pr_2
          obtain ⟨pa1,pp1,rfl,_⟩:=Rep.sl pr_3
          obtain ⟨pa2,pp2,rfl,_⟩:=Rep.sl pr_5
          clear pr pr_0 pr_1 pr_2 pr_3 pr_4 pr_5 pr_6 pr_7 pr_8
          obtain ⟨sc0,sc1,sc2,sc3,sc4,sc5,sr,sA0,sA1,sA2,sA3,sA4,sA5⟩:=Rep.at6 HR.out.raw hm rfl
          obtain ⟨sy,sh⟩:∃ z,K[m]=z:=⟨_,rfl⟩
          rw [sh] at sr
          have sH:=yD sh
          clear sh
          obtain ⟨su0,su1,su2,se,sr_0,sr_1,sr_2,sr_3,sr_4,sr_5,sr_6,sr_7,sr_8⟩:=jQ sr
          simp only [List.cons.injEq,and_true] at se
          obtain ⟨rfl,rfl,rfl,rfl,rfl,rfl⟩:=se
          obtain ⟨sa0,sp0,rfl,_⟩:=Rep.sl sr_2
          obtain ⟨sa1,sp1,rfl,_⟩:=Rep.sl sr_3
          obtain ⟨sa2,sp2,rfl,_⟩:=Rep.sl sr_5
          clear sr sr_0 sr_1 sr_2 sr_3 sr_4 sr_5 sr_6 sr_7 sr_8
          clear HR
          go_upto_region 9 with fail
          generalize hw_:World.alloc wq2 _=w6
          have E_w6:Below wq2.heap.size wq2 w6:=nC
          have BT:w6.heap[wq2.heap.size]?=some (.cells #[.slice pa0 py.1.1.length pp0,.slice pa1 py.1.2.1.length pp1,.slice pa2 py.1.2.2.1.length pp2,.int .i64 py.1.2.2.2.1,.int .i64 py.1.2.2.2.2,.int .i64 py.2] 212 (0,0)):=pF
          have z_w6:wq2.heap.size + 1≤w6.heap.size:=qJ
          clear hw_
          replace BY:=kD BY E_w6
          replace BR:=kD BR E_w6
          replace BO:=kD BO E_w6
          replace pA5:=cL E_w6 pA5
          replace sA5:=cL E_w6 sA5
          replace HO:=yD (HO.out.below E_w6)
          replace EE:=(tQ EE E_w6)
          clear E_w6
          obtain ⟨KBT_0,KBT_1,KBT_2,KBT_3,KBT_4,KBT_5⟩:=rowC6 BT
          obtain ⟨KBO_0,KBO_1⟩:=yY BO
          go_upto_region 9 with fail
          have FX:=yD (fun (W:World) (hW:Below w6.heap.size w6 W)=>cLs3 hW KBO_1 KBT_5 sA5)
          refine jB (fun W=>Below w6.heap.size w6 W) [true,true,true,true,true,true,true,true,true] rF rF gX (bR.drew) ?_
          intro wS HS
          iterate 8
           all_goals refine wkR ?_
          all_goals (have hg8:=True.intro;first|(refine wkG (fun b hg8=>?_);cases b;all_goals first | exact Bool.noConfusion hg8 | simp only [zU,zV] at hg8 | skip) | refine wkR ?_)
          all_goals refine wkP ?_
          all_goals refine jA ?_
          all_goals rename World=>w7
          all_goals have z_w7:=HS.size
          all_goals replace BY:=kD BY HS
          all_goals replace BR:=kD BR HS
          all_goals replace BO:=kD BO HS
          all_goals replace BT:=kD BT HS
          all_goals replace pA5:=cL HS pA5
          all_goals replace sA5:=cL HS sA5
          all_goals replace HO:=yD (HO.out.below HS)
          all_goals replace EE:=(tQ EE HS)
          all_goals clear KBT_0 KBT_1 KBT_2 KBT_3 KBT_4 KBT_5 KBO_0 KBO_1
          all_goals clear HS
          all_goals first
            | (have hcm : K[k].2 < K[m].2 := by rw [pH.out, sH.out]; simpa using hg8
               clear hg8
               have HB:=yD (kRx HA.out hlt hm hcm)
               go_wp2
               go_roundw
               case rel=>exact ⟨k + 1,k,by go_num,rfl,by omega,by omega,hlt,HB,HO,BY,BR,BO,by omega,EE⟩
               case measure=>simp [intOf];omega)
            | skip
          all_goals
            (have hcm:¬ K[k].2 < K[m].2:=by rw [pH.out,sH.out];simpa using hg8
             clear hg8
             have HB:=yD (kUv HA.out hlt hm hcm)
             go_wp2
             go_roundw
             case rel=>exact ⟨k + 1,m,by go_num,rfl,by omega,by omega,hm,HB,HO,BY,BR,BO,by omega,EE⟩
             case measure=>simp [intOf];omega)
        · obtain rfl:k=K.length:=rP
          have hk3:¬ ((K.length:Int) < K.length):=rP
          have HRM0:=yD (kRm HA.out hfull)
          have hw:IntKind.i64.wrap ((m:Int) + 1)=(m:Int) + 1:=IntWalk.i64_in _ rP
          obtain ⟨KBO_0,KBO_1⟩:=yY BO
          go_wp2_with fail
          refine (kJx HO.out rP hm).mono ?_
          rintro e w6 ⟨v5,rfl,O5,T5⟩
          have z_w6:=T5.size
          replace BY:=T5.kD BY rP
          replace BR:=T5.kD BR rP
          replace BO:=T5.kD BO rP
          replace EE:=EE.trans (T5.below EE.size qI)
          clear KBO_0 KBO_1
          clear T5
          clear HO
          obtain ⟨R,hR⟩:∃ R,kFo xc K=R:=⟨_,rfl⟩
          replace O5:=Rep.kg.cast O5 (HRM0.out.symm.trans hR)
          have hRl:R.length≤K.length:=by rw [← hR];exact kUq _ _
          have HRM:=yD hR
          clear hR HRM0
          obtain ⟨ra,rc,rfl⟩:=O5.ym
          have HO:=yD O5
          clear O5
          obtain ⟨KBO_0,KBO_1⟩:=yY BO
          obtain ⟨FBO_0,FBO_1⟩:=kGl BO
          go_upto_region 13 with fail
          generalize hw_:World.setCell w6 _ _=w7
          have T_w7:Touch (fun k=>k=w3.heap.size) w6 w7:=by rw [← hw_];exact kC w6 (w3.heap.size) 1 _
          replace BO:w7.heap[w3.heap.size]?=some (.cells #[.int .i64 xc,.slice ra R.length rc] 50 (0,0)):=nY
          have z_w7:=T_w7.size
          clear hw_
          replace BY:=T_w7.kD BY rP
          replace BR:=T_w7.kD BR rP
          replace HO:=yD (HO.out.touch T_w7 gN)
          replace EE:=EE.trans (T_w7.below EE.size qI)
          clear KBO_0 KBO_1 FBO_0 FBO_1
          clear T_w7
          obtain ⟨KBO_0,KBO_1⟩:=yY BO
          obtain ⟨KBY_0,KBY_1,KBY_2,KBY_3,KBY_4⟩:=jh BY
          go_upto_region 13 with fail
          have FX:=yD (fun (W:World) (hW:Below w7.heap.size w7 W)=>cLs6 hW KBO_1 KBY_0 KBY_1 KBY_2 KBY_3 KBY_4)
          refine jf (fun W=>Below w7.heap.size w7 W) [(0,true),(1,true),(2,true),(4,true),(3,false),(5,true),(6,false)] rF rF gX (bR.drew) ?_
          intro wS HS
          simp only [jY,List.length_cons,List.length_nil,List.getElem?_cons_succ,List.getElem?_cons_zero,List.map_cons,List.map_nil,List.cons_append,List.nil_append,List.drop_succ_cons,List.drop_zero]
          iterate 4
           all_goals refine wkR ?_
          all_goals first|(refine kU rfl HS ?_)|(refine ky rfl (fun K hK=>?_);go_simp;refine (kCb (HY.out.below (tQ EE HS))).mono ?_;rintro e wT ⟨tc,rfl,O,hbT⟩;obtain ⟨tv0,tv1,tv2,rfl,t_0,t_1,t_2,t_3,t_4,t_5,t_6⟩:=kY O.raw;obtain ⟨ta0,tp0,rfl,tl0⟩:=Rep.sl t_1;skip;obtain ⟨ta1,tp1,rfl,tl1⟩:=Rep.sl t_2;skip;obtain ⟨ta2,tp2,rfl,tl2⟩:=Rep.sl t_4;skip;clear t_0 t_1 t_2 t_3 t_4 t_5 t_6;have HOT:=yD O;have hzT:=hbT.size;have hsT:=HS.size;replace HS:=(tQ HS hbT);refine hK _ _ HS ?_;clear hK K hbT O)
          all_goals refine wkP ?_
          all_goals refine wkR ?_
          all_goals first|(refine kU rfl HS ?_)|(refine ky rfl (fun K hK=>?_);go_simp;refine hK _ _ (HS.alloc HS.size _) ?_;clear hK K)
          all_goals refine wkP ?_
          all_goals refine jv ?_
          have hRb:R.length + 1≤1000000000:=rP
          go_wp2_with (at_builtin;refine Rep.kAi rfl _ _ 48 rfl (r:=kH) (e:=212) Tryz.underlying48 yX rfl rM rM (w:=wT) (HO.out.below HS) rR rR rfl (Rep.jy (r:=kP) (q:=Rep.int) (cs:=[.slice ta0 y0.length tp0,.slice ta1 y1.length tp1,.slice ta2 y2.length tp2,.int .i64 y3,.int .i64 y4]) (ds:=[.int .i64 t]) (x:=(y0,y1,y2,y3,y4)) (y:=t) HOT.out (Rep.jG HF.out)) rfl gK hRb ?_)
          intro v2 w8 hQ hTQ
          have hT:Touch (fun j=>w.heap.size + 3≤j∧j < w3.heap.size) w7 w8:=(Touch.of_below (HS.alloc HS.size _)).trans (hTQ.wide (fun j q=>q.2))
          have z_w8:=hT.size
          have zT_:=hTQ.size
          have zT2_:wT.heap.size + 1≤w8.heap.size:=qM
          clear hTQ zT_
          obtain ⟨Z,hZ⟩:∃ Z,R++[((y0,y1,y2,y3,y4),t)]=Z:=⟨_,rfl⟩
          have HZL:=yD (show Z.length=R.length + 1 by rw [← hZ];simp)
          replace hQ:=Rep.kg.cast hQ hZ
          have HZ:=yD hZ
          clear hZ
          obtain ⟨ga,gc,rfl⟩:=hQ.ym
          have HQ:=yD (Rep.kg.wide (T:=fun j=>w.heap.size + 3≤j∧j < w8.heap.size∧j≠w3.heap.size) hQ dD)
          clear hQ HO
          replace BY:=hT.kD BY rP
          replace BR:=hT.kD BR rP
          replace BO:=hT.kD BO rP
          replace EE:=EE.trans (hT.below EE.size qI)
          clear KBO_0 KBO_1 KBY_0 KBY_1 KBY_2 KBY_3 KBY_4
          clear hT
          obtain ⟨KBO_0,KBO_1⟩:=yY BO
          obtain ⟨FBO_0,FBO_1⟩:=kGl BO
          go_upto_region 14 with fail
          generalize hw_:World.setCell w8 _ _=w9
          have T_w9:Touch (fun k=>k=w3.heap.size) w8 w9:=by rw [← hw_];exact kC w8 (w3.heap.size) 1 _
          replace BO:w9.heap[w3.heap.size]?=some (.cells #[.int .i64 xc,.slice ga Z.length gc] 50 (0,0)):=nY
          have z_w9:=T_w9.size
          clear hw_
          replace BY:=T_w9.kD BY rP
          replace BR:=T_w9.kD BR rP
          replace HQ:=yD (HQ.out.touch T_w9 gN)
          replace EE:=EE.trans (T_w9.below EE.size qI)
          clear KBO_0 KBO_1 FBO_0 FBO_1
          clear T_w9
          have HT:=yD (show kBa (y0,y1,y2,y3,y4) t (xc,xe)=(xc,Z) from (kFs HBAD.out).trans dF)
          obtain ⟨KBO_0,KBO_1⟩:=yY BO
          obtain ⟨KBR_0,KBR_1⟩:=yY BR
          obtain ⟨FBR_0,FBR_1⟩:=kGl BR
          go_wp2
          refine bodyPost_ret (v:=.agg #[.int .i64 xc,.slice ga Z.length gc]) dW rfl ⟨[.int .i64 xc,.slice ga Z.length gc],rfl,?_,?_⟩
          · rw [HT.out];exact ((show kI.own _ _ (xc,Z) _ from Rep.kCc (r:=Rep.int) (q:=(Rep.slice 212 kH)) (cs:=[.int .i64 xc]) (Rep.jG hxr) (HQ.out.own nH)).touch ((kC _ _ _ _).trans (kC _ _ _ _)) nJ).wide dQ
          · exact EE.trans (Touch.below ((kC _ _ _ _).trans (kC _ _ _ _)) EE.size qI)
    · have HRM:=yD (kRn hfull)
      clear KBX_0 KBX_1 KBO_0 KBO_1
      obtain ⟨KBX_0,KBX_1⟩:=yY BX
      obtain ⟨KBO_0,KBO_1⟩:=yY BO
      obtain ⟨KBY_0,KBY_1,KBY_2,KBY_3,KBY_4⟩:=jh BY
      go_upto_region 13 with fail
      have FX:=yD (fun (W:World) (hW:Below w4.heap.size w4 W)=>cLs6 hW KBO_1 KBY_0 KBY_1 KBY_2 KBY_3 KBY_4)
      refine jf (fun W=>Below w4.heap.size w4 W) [(0,true),(1,true),(2,true),(4,true),(3,false),(5,true),(6,false)] rF rF gX (bR.drew) ?_
      intro wS HS
      simp only [jY,List.length_cons,List.length_nil,List.getElem?_cons_succ,List.getElem?_cons_zero,List.map_cons,List.map_nil,List.cons_append,List.nil_append,List.drop_succ_cons,List.drop_zero]
      iterate 4
       all_goals refine wkR ?_
      all_goals first|(refine kU rfl HS ?_)|(refine ky rfl (fun K hK=>?_);go_simp;refine (kCb (HY.out.below (tQ EE HS))).mono ?_;rintro e wT ⟨tc,rfl,O,hbT⟩;obtain ⟨tv0,tv1,tv2,rfl,t_0,t_1,t_2,t_3,t_4,t_5,t_6⟩:=kY O.raw;obtain ⟨ta0,tp0,rfl,tl0⟩:=Rep.sl t_1;skip;obtain ⟨ta1,tp1,rfl,tl1⟩:=Rep.sl t_2;skip;obtain ⟨ta2,tp2,rfl,tl2⟩:=Rep.sl t_4;skip;clear t_0 t_1 t_2 t_3 t_4 t_5 t_6;have HOT:=yD O;have hzT:=hbT.size;have hsT:=HS.size;replace HS:=(tQ HS hbT);refine hK _ _ HS ?_;clear hK K hbT O)
      all_goals refine wkP ?_
      all_goals refine wkR ?_
      all_goals first|(refine kU rfl HS ?_)|(refine ky rfl (fun K hK=>?_);go_simp;refine hK _ _ (HS.alloc HS.size _) ?_;clear hK K)
      all_goals refine wkP ?_
      all_goals refine jv ?_
      have hRb:K.length + 1≤1000000000:=rP
      go_wp2_with (at_builtin;refine Rep.kAi rfl _ _ 48 rfl (r:=kH) (e:=212) Tryz.underlying48 yX rfl rM rM (w:=wT) (HO.out.below HS) rR rR rfl (Rep.jy (r:=kP) (q:=Rep.int) (cs:=[.slice ta0 y0.length tp0,.slice ta1 y1.length tp1,.slice ta2 y2.length tp2,.int .i64 y3,.int .i64 y4]) (ds:=[.int .i64 t]) (x:=(y0,y1,y2,y3,y4)) (y:=t) HOT.out (Rep.jG HF.out)) rfl gK hRb ?_)
      intro v2 w5 hQ hTQ
      have hT:Touch (fun j=>w.heap.size + 3≤j∧j < w3.heap.size) w4 w5:=(Touch.of_below (HS.alloc HS.size _)).trans (hTQ.wide (fun j q=>q.2))
      have z_w5:=hT.size
      have zT_:=hTQ.size
      have zT2_:wT.heap.size + 1≤w5.heap.size:=qM
      clear hTQ zT_
      obtain ⟨Z,hZ⟩:∃ Z,K++[((y0,y1,y2,y3,y4),t)]=Z:=⟨_,rfl⟩
      have HZL:=yD (show Z.length=K.length + 1 by rw [← hZ];simp)
      replace hQ:=Rep.kg.cast hQ hZ
      have HZ:=yD hZ
      clear hZ
      obtain ⟨ga,gc,rfl⟩:=hQ.ym
      have HQ:=yD (Rep.kg.wide (T:=fun j=>w.heap.size + 3≤j∧j < w5.heap.size∧j≠w3.heap.size) hQ dD)
      clear hQ HO
      replace BX:=hT.kD BX rP
      replace BY:=hT.kD BY rP
      replace BR:=hT.kD BR rP
      replace BO:=hT.kD BO rP
      replace EE:=EE.trans (hT.below EE.size qI)
      clear KBX_0 KBX_1 KBO_0 KBO_1 KBY_0 KBY_1 KBY_2 KBY_3 KBY_4
      clear hT
      obtain ⟨KBO_0,KBO_1⟩:=yY BO
      obtain ⟨FBO_0,FBO_1⟩:=kGl BO
      go_upto_region 14 with fail
      generalize hw_:World.setCell w5 _ _=w6
      have T_w6:Touch (fun k=>k=w3.heap.size) w5 w6:=by rw [← hw_];exact kC w5 (w3.heap.size) 1 _
      replace BO:w6.heap[w3.heap.size]?=some (.cells #[.int .i64 xc,.slice ga Z.length gc] 50 (0,0)):=nY
      have z_w6:=T_w6.size
      clear hw_
      replace BX:=T_w6.kD BX rP
      replace BY:=T_w6.kD BY rP
      replace BR:=T_w6.kD BR rP
      replace HQ:=yD (HQ.out.touch T_w6 gN)
      replace EE:=EE.trans (T_w6.below EE.size qI)
      clear KBO_0 KBO_1 FBO_0 FBO_1
      clear T_w6
      have HT:=yD (show kBa (y0,y1,y2,y3,y4) t (xc,xe)=(xc,Z) from (kFs HBAD.out).trans dF)
      obtain ⟨KBO_0,KBO_1⟩:=yY BO
      obtain ⟨KBR_0,KBR_1⟩:=yY BR
      obtain ⟨FBR_0,FBR_1⟩:=kGl BR
      go_wp2
      refine bodyPost_ret (v:=.agg #[.int .i64 xc,.slice ga Z.length gc]) dW rfl ⟨[.int .i64 xc,.slice ga Z.length gc],rfl,?_,?_⟩
      · rw [HT.out];exact ((show kI.own _ _ (xc,Z) _ from Rep.kCc (r:=Rep.int) (q:=(Rep.slice 212 kH)) (cs:=[.int .i64 xc]) (Rep.jG hxr) (HQ.out.own nH)).touch ((kC _ _ _ _).trans (kC _ _ _ _)) nJ).wide dQ
      · exact EE.trans (Touch.below ((kC _ _ _ _).trans (kC _ _ _ _)) EE.size qI))
end Go.Proofs.YtlfblpgkegeaeaaGreat

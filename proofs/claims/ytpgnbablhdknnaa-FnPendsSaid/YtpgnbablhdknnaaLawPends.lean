/-
  The law FnPends: a requester waits until it is satisfied or its time has expired; all requesters are satisfied together.
-/
import Derived.Test.YtpgnbablhdknnaaDrawR
import Derived.Test.YtpgnbablhdknnaaSamePend
import Derived.Test.YtpgnbablhdknnaaExp
import Derived.Test.YtpgnbablhdknnaaVPendI
import Derived.Test.YtpgnbablhdknnaaSoftF
set_option linter.unusedVariables false
set_option linter.unusedSimpArgs false
set_option linter.unnecessarySimpa false
set_option maxRecDepth 100000
set_option maxHeartbeats 40000000
namespace Go.Proofs.Ytpgnbablhdknnaa
open Go.ChangeShapes Go.WideShapes Go.ChangeAt Go.RowKit
def hitQ (s n t:Int) (r:kH):Bool:=(decide (r.1=s) && decide (r.2.1=n)) && decide (r.2.2=50 + t)
theorem hitQ_has {X:List kH} {ps:kw} {n h t s:Int} (ht:0≤t∧t≤21) (hm:yn (ps,n,h,t) s 50∈X):X.any (hitQ s n t)=true:=by
 refine List.any_eq_true.2 ⟨_,hm,?_⟩
 have e:wrap64 (50 + t)=50 + t:=by unfold wrap64;omega
 unfold hitQ yn
 simp [e]
theorem any_take {α:Type} {p:α→Bool} {l:List α} {k:Nat} (h:k < l.length):(l.take (k + 1)).any p=((l.take k).any p || p l[k]):=by
 rw [List.take_succ_eq_append_getElem h,List.any_append];simp
theorem kHk {w:World} {v:Value} {ps:kw} {n h t:Int} {S:Nat→Prop} (k:jl.own w [v,.int .i64 n,.int .i64 h,.int .i64 t] (ps,n,h,t) S):kZ.rd w [v] ps:=by
 obtain ⟨c,d,A,B,e,h1,h2,hA,hB,_⟩:=Rep.kEk (r:=kZ) (q:=.pair .int (.pair .int .int)) k
 have hl:=kZ.len h1.1
 match c,hl with
 | [v0],_ =>
   simp only [List.cons_append,List.nil_append,List.cons.injEq] at e
   obtain ⟨rfl,_⟩:=e
   exact h1.rd
theorem kJh {w:World} {v:Value} {code:List UInt8} (hcode:(Rep.slice 5 Rep.byte).raw w [v] code) :
    Calls Try.prog 3 #[v] w (LawPost w):=by
 obtain ⟨ca,cc,rfl,_⟩:=Rep.sl hcode
 go_enter Try.func3,Try.ntmps3
 go_wp2_with fail
 refine (lawsbig_c hcode).mono ?_
 rintro e w1 ⟨rfl,hb⟩
 have EE:=hb
 have z_w1:=hb.size
 clear hb
 by_cases hbig:(code.length:Int) > 1048576
 · go_wp2
   go_ret
   exact ⟨rfl,EE⟩
 go_wp2_with fail
 refine (kBl (hcode.below EE)).mono ?_
 rintro e w2 ⟨a,c,l,ia,ic,ps,n,h,t,s,rfl,hsm,hO,hr,hn,hh,ht,hs,hb⟩
 have z_w2:=hb.size
 replace EE:=(tQ EE hb)
 clear hb
 have LO:=yD (hO)
 have XO:=yD (int_own2 hr hn hh ht)
 clear hO hr
 go_upto_region 4 with fail
 generalize hw_:World.alloc w2 _=w3
 have E_w3:Below w2.heap.size w2 w3:=dH
 have BW:w3.heap[w2.heap.size]?=some (.cells #[.slice ia ps.length ic,.int .i64 n,.int .i64 h,.int .i64 t] 29 (0,0)):=fC
 have z_w3:w2.heap.size + 1≤w3.heap.size:=fU
 clear hw_
 replace LO:=yD (LO.out.below E_w3)
 replace XO:=yD (XO.out.below E_w3)
 replace EE:=(tQ EE E_w3)
 clear E_w3
 obtain ⟨KBW_0,KBW_1,KBW_2,KBW_3⟩:=jL BW
 go_wp2_with fail
 refine (kDz LO.out.rd (fun y hy=>by have:=hsm.2 y hy;omega) (cx:=[.slice ia ps.length ic,.int .i64 n,.int .i64 h,.int .i64 t]) (x:=(ps,n,h,t)) XO.out.rd (f:=s) gV (t:=50) gV).mono ?_
 rintro e w4 ⟨v1,rfl,hO,hb⟩
 have z_w4:=hb.size
 replace BW:=kI BW hb
 replace LO:=yD (LO.out.below hb)
 replace XO:=yD (XO.out.below hb)
 replace EE:=(tQ EE hb)
 clear KBW_0 KBW_1 KBW_2 KBW_3
 clear hb
 obtain ⟨KBW_0,KBW_1,KBW_2,KBW_3⟩:=jL BW
 have X1:=yD hO
 clear hO
 go_wp2_with fail
 refine (zu LO.out.rd (fun y hy=>by have:=hsm.2 y hy;omega) (cx:=[.slice ia ps.length ic,.int .i64 n,.int .i64 h,.int .i64 t]) (x:=(ps,n,h,t)) XO.out.rd (f:=s) gV (t:=50) gV).mono ?_
 rintro e w5 ⟨v2,rfl,hO,hb⟩
 have z_w5:=hb.size
 replace BW:=kI BW hb
 replace LO:=yD (LO.out.below hb)
 replace XO:=yD (XO.out.below hb)
 replace X1:=yD (X1.out.below hb)
 replace EE:=(tQ EE hb)
 clear KBW_0 KBW_1 KBW_2 KBW_3
 clear hb
 have X2:=yD hO
 clear hO
 have FA:=fun q V=>addQ_valid (x:=(ps,n,h,t)) (f:=s) (t:=50) (l:=l) q V
 have FB:=fun q=>addQ_has (x:=(ps,n,h,t)) (f:=s) (t:=50) (l:=l) q
 have FC:=fun q=>hitQ_has (h:=h) (s:=s) ht (addQ_met (x:=(ps,n,h,t)) (f:=s) (t:=50) (l:=l) q)
 have FD:=fun q=>addQ_loop (x:=(ps,n,h,t)) (f:=s) (t:=50) (l:=l) q []
 have FE:=fun q=>(kDb (x:=(ps,n,h,t)) (f:=s) (t:=50) (l:=l) q).1
 generalize zG (ps,n,h,t) s 50 l=X at *
 generalize jF (ps,n,h,t) s l=K at *
 have FA:=yD FA;have FB:=yD FB;have FC:=yD FC;have FD:=yD FD;have FE:=yD FE
 obtain ⟨xa,xc,rfl,_⟩:=Rep.sl X1.out.raw
 obtain ⟨ya,yc,rfl,_⟩:=Rep.sl X2.out.raw
 go_wp2_with fail
 refine (kEf (hcode.below EE)).mono ?_
 rintro e w6 ⟨pa,pc,p,na,nc,nm,rfl,phsm,hO,hr,hb⟩
 have z_w6:=hb.size
 replace BW:=kI BW hb
 replace LO:=yD (LO.out.below hb)
 replace XO:=yD (XO.out.below hb)
 replace X1:=yD (X1.out.below hb)
 replace X2:=yD (X2.out.below hb)
 replace EE:=(tQ EE hb)
 clear hb
 have PO:=yD (hO)
 have NO:=yD (hr)
 clear hO hr
 go_upto_region 7 with fail
 generalize hw_:World.alloc w6 _=w7
 have E_w7:Below w6.heap.size w6 w7:=dH
 have BN:w7.heap[w6.heap.size]?=some (.cells #[.slice na nm.length nc] 27 (0,0)):=fC
 have z_w7:w6.heap.size + 1≤w7.heap.size:=fU
 clear hw_
 replace BW:=kI BW E_w7
 replace LO:=yD (LO.out.below E_w7)
 replace XO:=yD (XO.out.below E_w7)
 replace X1:=yD (X1.out.below E_w7)
 replace X2:=yD (X2.out.below E_w7)
 replace PO:=yD (PO.out.below E_w7)
 replace NO:=yD (NO.out.below E_w7)
 replace EE:=(tQ EE E_w7)
 clear E_w7
 have KBN_0:w7.cell? ⟨w6.heap.size,0,none⟩=some (.slice na nm.length nc):=kL BN rfl
 go_wp2_with fail
 refine (kDm PO.out.rd (cn:=[.slice na nm.length nc]) NO.out.rd).mono ?_
 rintro e w8 ⟨v_,u_,rfl,hO,hb⟩
 have z_w8:=hb.size
 replace BW:=kI BW hb
 replace BN:=kI BN hb
 replace LO:=yD (LO.out.below hb)
 replace XO:=yD (XO.out.below hb)
 replace X1:=yD (X1.out.below hb)
 replace X2:=yD (X2.out.below hb)
 replace PO:=yD (PO.out.below hb)
 replace NO:=yD (NO.out.below hb)
 replace EE:=(tQ EE hb)
 clear KBN_0
 clear hb
 obtain ⟨A_,B_,hA,hB,hAS,hBS,_⟩:=Rep.kFg hO
 have SA:=yD (hA.wide hAS)
 have SB:=yD (hB.wide hBS)
 clear hA hB hO hAS hBS
 obtain ⟨saa,sac,rfl,_⟩:=Rep.sl SA.out.raw
 obtain ⟨sba,sbc,rfl,_⟩:=Rep.sl SB.out.raw
 have KBN_0:w8.cell? ⟨w6.heap.size,0,none⟩=some (.slice na nm.length nc):=kL BN rfl
 go_wp2_with fail
 refine (kIa PO.out.rd (cn:=[.slice na nm.length nc]) NO.out.rd).mono ?_
 rintro e w9 ⟨v_,u_,rfl,hO,hb⟩
 have z_w9:=hb.size
 replace BW:=kI BW hb
 replace BN:=kI BN hb
 replace LO:=yD (LO.out.below hb)
 replace XO:=yD (XO.out.below hb)
 replace X1:=yD (X1.out.below hb)
 replace X2:=yD (X2.out.below hb)
 replace PO:=yD (PO.out.below hb)
 replace NO:=yD (NO.out.below hb)
 replace SA:=yD (SA.out.below hb)
 replace SB:=yD (SB.out.below hb)
 replace EE:=(tQ EE hb)
 clear KBN_0
 clear hb
 obtain ⟨A_,B_,hA,hB,hAS,hBS,_⟩:=Rep.kFg hO
 have TA:=yD (hA.wide hAS)
 have TB:=yD (hB.wide hBS)
 clear hA hB hO hAS hBS
 obtain ⟨taa,tac,rfl,_⟩:=Rep.sl TA.out.raw
 obtain ⟨tba,tbc,rfl,_⟩:=Rep.sl TB.out.raw
 generalize satP nm p=P1 at *
 generalize satR nm p=R1 at *
 go_wp2_with fail
 refine (kAw (hcode.below EE)).mono ?_
 rintro e w10 ⟨ea,ec,el,et,rfl,ehsm,hO,het,hb⟩
 have z_w10:=hb.size
 replace BW:=kI BW hb
 replace BN:=kI BN hb
 replace LO:=yD (LO.out.below hb)
 replace XO:=yD (XO.out.below hb)
 replace X1:=yD (X1.out.below hb)
 replace X2:=yD (X2.out.below hb)
 replace PO:=yD (PO.out.below hb)
 replace NO:=yD (NO.out.below hb)
 replace SA:=yD (SA.out.below hb)
 replace SB:=yD (SB.out.below hb)
 replace TA:=yD (TA.out.below hb)
 replace TB:=yD (TB.out.below hb)
 replace EE:=(tQ EE hb)
 clear hb
 have EO:=yD (hO)
 clear hO
 go_wp2_with fail
 refine (kBk (hcode.below EE)).mono ?_
 rintro e w11 ⟨fa,fc,fl,ga,gc,gl,rfl,fhsm,hO,ghsm,hr,hb⟩
 have z_w11:=hb.size
 replace BW:=kI BW hb
 replace BN:=kI BN hb
 replace LO:=yD (LO.out.below hb)
 replace XO:=yD (XO.out.below hb)
 replace X1:=yD (X1.out.below hb)
 replace X2:=yD (X2.out.below hb)
 replace PO:=yD (PO.out.below hb)
 replace NO:=yD (NO.out.below hb)
 replace SA:=yD (SA.out.below hb)
 replace SB:=yD (SB.out.below hb)
 replace TA:=yD (TA.out.below hb)
 replace TB:=yD (TB.out.below hb)
 replace EO:=yD (EO.out.below hb)
 replace EE:=(tQ EE hb)
 clear hb
 have FO:=yD (hO)
 have GO:=yD (hr)
 clear hO hr
 go_wp2_with fail
 refine (kFc (hcode.below EE)).mono ?_
 rintro e w12 ⟨ma,mc,ml,qa,qc,ql,ja,jc,js,jn,jh,jt,rfl,mhsm,hO,hq,hqs,hr,hjn,hjh,hjt,hb⟩
 have z_w12:=hb.size
 replace BW:=kI BW hb
 replace BN:=kI BN hb
 replace LO:=yD (LO.out.below hb)
 replace XO:=yD (XO.out.below hb)
 replace X1:=yD (X1.out.below hb)
 replace X2:=yD (X2.out.below hb)
 replace PO:=yD (PO.out.below hb)
 replace NO:=yD (NO.out.below hb)
 replace SA:=yD (SA.out.below hb)
 replace SB:=yD (SB.out.below hb)
 replace TA:=yD (TA.out.below hb)
 replace TB:=yD (TB.out.below hb)
 replace EO:=yD (EO.out.below hb)
 replace FO:=yD (FO.out.below hb)
 replace GO:=yD (GO.out.below hb)
 replace EE:=(tQ EE hb)
 clear hb
 have MO:=yD (hO)
 have QO:=yD (hq)
 have JO:=yD (int_own2 hr hjn hjh hjt)
 clear hO hq hr
 go_upto_region 12 with fail
 generalize hw_:World.alloc w12 _=w13
 have E_w13:Below w12.heap.size w12 w13:=dH
 have BJ:w13.heap[w12.heap.size]?=some (.cells #[.slice ja js.length jc,.int .i64 jn,.int .i64 jh,.int .i64 jt] 29 (0,0)):=fC
 have z_w13:w12.heap.size + 1≤w13.heap.size:=fU
 clear hw_
 replace BW:=kI BW E_w13
 replace BN:=kI BN E_w13
 replace LO:=yD (LO.out.below E_w13)
 replace XO:=yD (XO.out.below E_w13)
 replace X1:=yD (X1.out.below E_w13)
 replace X2:=yD (X2.out.below E_w13)
 replace PO:=yD (PO.out.below E_w13)
 replace NO:=yD (NO.out.below E_w13)
 replace SA:=yD (SA.out.below E_w13)
 replace SB:=yD (SB.out.below E_w13)
 replace TA:=yD (TA.out.below E_w13)
 replace TB:=yD (TB.out.below E_w13)
 replace EO:=yD (EO.out.below E_w13)
 replace FO:=yD (FO.out.below E_w13)
 replace GO:=yD (GO.out.below E_w13)
 replace MO:=yD (MO.out.below E_w13)
 replace QO:=yD (QO.out.below E_w13)
 replace JO:=yD (JO.out.below E_w13)
 replace EE:=(tQ EE E_w13)
 clear E_w13
 go_wp2_with fail
 refine (kCj (hcode.below EE)).mono ?_
 rintro e w14 ⟨ra,rc,rl,oa,oc,om,rfl,rhsm,hO,hr,hb⟩
 have z_w14:=hb.size
 replace BW:=kI BW hb
 replace BN:=kI BN hb
 replace BJ:=kI BJ hb
 replace LO:=yD (LO.out.below hb)
 replace XO:=yD (XO.out.below hb)
 replace X1:=yD (X1.out.below hb)
 replace X2:=yD (X2.out.below hb)
 replace PO:=yD (PO.out.below hb)
 replace NO:=yD (NO.out.below hb)
 replace SA:=yD (SA.out.below hb)
 replace SB:=yD (SB.out.below hb)
 replace TA:=yD (TA.out.below hb)
 replace TB:=yD (TB.out.below hb)
 replace EO:=yD (EO.out.below hb)
 replace FO:=yD (FO.out.below hb)
 replace GO:=yD (GO.out.below hb)
 replace MO:=yD (MO.out.below hb)
 replace QO:=yD (QO.out.below hb)
 replace JO:=yD (JO.out.below hb)
 replace EE:=(tQ EE hb)
 clear hb
 have RO:=yD (hO)
 have OO:=yD (hr)
 clear hO hr
 go_upto_region 13 with fail
 generalize hw_:World.alloc w14 _=w15
 have E_w15:Below w14.heap.size w14 w15:=dH
 have BO:w15.heap[w14.heap.size]?=some (.cells #[.slice oa om.length oc] 27 (0,0)):=fC
 have z_w15:w14.heap.size + 1≤w15.heap.size:=fU
 clear hw_
 replace BW:=kI BW E_w15
 replace BN:=kI BN E_w15
 replace BJ:=kI BJ E_w15
 replace LO:=yD (LO.out.below E_w15)
 replace XO:=yD (XO.out.below E_w15)
 replace X1:=yD (X1.out.below E_w15)
 replace X2:=yD (X2.out.below E_w15)
 replace PO:=yD (PO.out.below E_w15)
 replace NO:=yD (NO.out.below E_w15)
 replace SA:=yD (SA.out.below E_w15)
 replace SB:=yD (SB.out.below E_w15)
 replace TA:=yD (TA.out.below E_w15)
 replace TB:=yD (TB.out.below E_w15)
 replace EO:=yD (EO.out.below E_w15)
 replace FO:=yD (FO.out.below E_w15)
 replace GO:=yD (GO.out.below E_w15)
 replace MO:=yD (MO.out.below E_w15)
 replace QO:=yD (QO.out.below E_w15)
 replace JO:=yD (JO.out.below E_w15)
 replace RO:=yD (RO.out.below E_w15)
 replace OO:=yD (OO.out.below E_w15)
 replace EE:=(tQ EE E_w15)
 clear E_w15
 go_wp2_with fail
 refine (kDp (hcode.below EE)).mono ?_
 rintro e w16 ⟨ua,uc,ul,ka,kc,km,rfl,uhsm,hO,hr,hb⟩
 have z_w16:=hb.size
 replace BW:=kI BW hb
 replace BN:=kI BN hb
 replace BJ:=kI BJ hb
 replace BO:=kI BO hb
 replace LO:=yD (LO.out.below hb)
 replace XO:=yD (XO.out.below hb)
 replace X1:=yD (X1.out.below hb)
 replace X2:=yD (X2.out.below hb)
 replace PO:=yD (PO.out.below hb)
 replace NO:=yD (NO.out.below hb)
 replace SA:=yD (SA.out.below hb)
 replace SB:=yD (SB.out.below hb)
 replace TA:=yD (TA.out.below hb)
 replace TB:=yD (TB.out.below hb)
 replace EO:=yD (EO.out.below hb)
 replace FO:=yD (FO.out.below hb)
 replace GO:=yD (GO.out.below hb)
 replace MO:=yD (MO.out.below hb)
 replace QO:=yD (QO.out.below hb)
 replace JO:=yD (JO.out.below hb)
 replace RO:=yD (RO.out.below hb)
 replace OO:=yD (OO.out.below hb)
 replace EE:=(tQ EE hb)
 clear hb
 have UO:=yD (hO)
 have KO:=yD (hr)
 clear hO hr
 go_upto_region 14 with fail
 generalize hw_:World.alloc w16 _=w17
 have E_w17:Below w16.heap.size w16 w17:=dH
 have BK:w17.heap[w16.heap.size]?=some (.cells #[.slice ka km.length kc] 27 (0,0)):=fC
 have z_w17:w16.heap.size + 1≤w17.heap.size:=fU
 clear hw_
 replace BW:=kI BW E_w17
 replace BN:=kI BN E_w17
 replace BJ:=kI BJ E_w17
 replace BO:=kI BO E_w17
 replace LO:=yD (LO.out.below E_w17)
 replace XO:=yD (XO.out.below E_w17)
 replace X1:=yD (X1.out.below E_w17)
 replace X2:=yD (X2.out.below E_w17)
 replace PO:=yD (PO.out.below E_w17)
 replace NO:=yD (NO.out.below E_w17)
 replace SA:=yD (SA.out.below E_w17)
 replace SB:=yD (SB.out.below E_w17)
 replace TA:=yD (TA.out.below E_w17)
 replace TB:=yD (TB.out.below E_w17)
 replace EO:=yD (EO.out.below E_w17)
 replace FO:=yD (FO.out.below E_w17)
 replace GO:=yD (GO.out.below E_w17)
 replace MO:=yD (MO.out.below E_w17)
 replace QO:=yD (QO.out.below E_w17)
 replace JO:=yD (JO.out.below E_w17)
 replace RO:=yD (RO.out.below E_w17)
 replace OO:=yD (OO.out.below E_w17)
 replace UO:=yD (UO.out.below E_w17)
 replace KO:=yD (KO.out.below E_w17)
 replace EE:=(tQ EE E_w17)
 clear E_w17
 obtain ⟨KBJ_0,KBJ_1,KBJ_2,KBJ_3⟩:=jL BJ
 have KBN_0:w17.cell? ⟨w6.heap.size,0,none⟩=some (.slice na nm.length nc):=kL BN rfl
 have KBO_0:w17.cell? ⟨w14.heap.size,0,none⟩=some (.slice oa om.length oc):=kL BO rfl
 have KBK_0:w17.cell? ⟨w16.heap.size,0,none⟩=some (.slice ka km.length kc):=kL BK rfl
 obtain ⟨bv,hbv⟩:∃ b_,yR l=b_:=⟨_,rfl⟩
 have Hbv:=yD hbv
 clear hbv
 obtain ⟨b1,hb1⟩:∃ b_,decide (fl=gl)=b_:=⟨_,rfl⟩
 have Hb1:=yD hb1
 clear hb1
 obtain ⟨b2,hb2⟩:∃ b_,kDl (js,jn,jh,jt) ml ql=b_:=⟨_,rfl⟩
 have Hb2:=yD hb2
 clear hb2
 obtain ⟨b3,hb3⟩:∃ b_,decide (0≤idxOf (kR nm) p)=b_:=⟨_,rfl⟩
 have Hb3:=yD hb3
 clear hb3
 have FX:=yD (fun (W:World) (hW:Below w17.heap.size w17 W)=>cLs7 hW KBJ_0 KBJ_1 KBJ_2 KBJ_3 KBN_0 KBO_0 KBK_0)
 refine jX (fun W=>Below w17.heap.size w17 W) [(0,true),(1,true),(2,false),(3,true),(4,true),(5,true),(6,true),(7,true),(8,true),(9,true),(10,true),(11,true),(12,false),(13,true),(14,true),(15,true),(16,true),(17,true),(18,true),(19,true),(20,true),(21,true),(22,true),(23,true),(24,true),(26,true),(27,true),(25,false),(28,false),(29,false),(30,true),(31,true),(32,true),(33,true),(34,true),(36,true),(37,true),(35,false),(38,false),(39,true),(40,true),(41,true),(42,true),(43,true),(44,true),(46,true),(47,true),(48,true),(45,false),(49,false),(50,true),(51,true),(52,true),(53,true),(54,true),(56,true),(57,true),(55,false),(58,false),(59,true),(60,true),(61,true),(62,true),(63,true),(65,true),(66,true),(64,false),(67,false),(68,true),(69,true),(70,true),(71,true),(72,true),(73,true),(75,true),(76,true),(77,true),(74,false),(78,false),(79,false),(80,true),(81,true),(82,true),(83,true),(85,true),(84,false),(86,false),(87,true),(88,true)] gP (softP_ok gP) bX (bR.drew) ?_
 intro wS HS
 simp only [kg,List.getElem?_cons_succ,List.getElem?_cons_zero,List.map_cons,List.map_nil]
 all_goals refine wkR ?_
 all_goals refine wkR ?_
 all_goals first|(refine kG rfl HS ?_)|(refine kQ rfl (fun K hK=>?_);go_simp;refine (jg (X1.out.below HS).raw (X2.out.below HS).raw).mono ?_;rintro e wS1 ⟨he_,hbS⟩;have he2_:e=.returned (.bool true):=he_.trans gW;subst he2_;clear he_;replace HS:=(tQ HS hbS);refine hK _ _ HS ?_;clear hK K hbS)
 all_goals refine wkP ?_
 all_goals refine wkR ?_
 all_goals (have hg4:=True.intro;first|(refine wkG (fun b hg4=>?_);cases b;all_goals first | exact Bool.noConfusion hg4 | simp only [zU,zV] at hg4 | skip) | refine wkR ?_)
 all_goals refine wkP ?_
 iterate 4
  all_goals refine wkR ?_
 all_goals (have hg9:=True.intro;first|(refine wkG (fun b hg9=>?_);cases b;all_goals first | exact Bool.noConfusion hg9 | simp only [zU,zV] at hg9 | skip) | refine wkR ?_)
 all_goals refine wkP ?_
 all_goals refine wkR ?_
 all_goals refine wkR ?_
 all_goals first|(refine kG rfl HS ?_)|(refine kQ rfl (fun K hK=>?_);go_simp;refine (jg (SA.out.below HS).raw (TA.out.below HS).raw).mono ?_;rintro e wS1 ⟨he_,hbS⟩;have he2_:e=.returned (.bool true):=he_.trans gW;subst he2_;clear he_;replace HS:=(tQ HS hbS);refine hK _ _ HS ?_;clear hK K hbS)
 all_goals refine wkP ?_
 all_goals refine wkR ?_
 all_goals refine wkR ?_
 all_goals (have hg15:=True.intro;first|(refine wkG (fun b hg15=>?_);cases b;all_goals first | exact Bool.noConfusion hg15 | simp only [zU,zV] at hg15 | skip) | refine wkR ?_)
 all_goals refine wkP ?_
 iterate 6
  all_goals refine wkR ?_
 all_goals (have hg22:=True.intro;first|(refine wkG (fun b hg22=>?_);cases b;all_goals first | exact Bool.noConfusion hg22 | simp only [zU,zV] at hg22 | skip) | refine wkR ?_)
 all_goals refine wkP ?_
 iterate 4
  all_goals refine wkR ?_
 all_goals first|(refine kG rfl HS ?_)|(refine kQ rfl (fun K hK=>?_);go_simp;refine (kDd (EO.out.below HS).rd (by have:=ehsm.1;omega) (fun y hy=>by have:=ehsm.2 y hy;omega) (now:=et)).mono ?_;rintro e wS1 ⟨v_,rfl,OS_,hbS⟩;obtain ⟨S25a,S25c,rfl,_⟩:=Rep.sl OS_.raw;skip;have S25:=yD OS_;clear OS_;replace HS:=(tQ HS hbS);refine hK _ _ HS ?_;clear hK K hbS)
 all_goals refine wkP ?_
 all_goals first|(refine kG rfl HS ?_)|(refine kQ rfl (fun K hK=>?_);go_simp;refine (kDc (EO.out.below HS).rd (by have:=ehsm.1;omega) (fun y hy=>by have:=ehsm.2 y hy;omega) (now:=et)).mono ?_;rintro e wS1 ⟨v_,rfl,OS_,hbS⟩;obtain ⟨S28a,S28c,rfl,_⟩:=Rep.sl OS_.raw;skip;have S28:=yD OS_;clear OS_;replace S25:=yD (S25.out.below hbS);replace HS:=(tQ HS hbS);refine hK _ _ HS ?_;clear hK K hbS)
 all_goals refine wkP ?_
 all_goals first|(refine kG rfl HS ?_)|(refine kQ rfl (fun K hK=>?_);go_simp;refine (jg S25.out.raw S28.out.raw).mono ?_;rintro e wS1 ⟨he_,hbS⟩;have he2_:e=.returned (.bool true):=he_.trans gW;subst he2_;clear he_;replace HS:=(tQ HS hbS);refine hK _ _ HS ?_;clear hK K hbS)
 all_goals refine wkP ?_
 all_goals refine wkR ?_
 all_goals refine wkR ?_
 all_goals (have hg32:=True.intro;first|(refine wkG (fun b hg32=>?_);cases b;all_goals first | exact Bool.noConfusion hg32 | simp only [zU,zV] at hg32 | skip) | refine wkR ?_)
 all_goals refine wkP ?_
 iterate 4
  all_goals refine wkR ?_
 all_goals first|(refine kG rfl HS ?_)|(refine kQ rfl (fun K hK=>?_);go_simp;refine (kDy (FO.out.below HS).rd.1 (GO.out.below HS).rd.1).mono ?_;rintro e wS1 ⟨he_,hbS⟩;have he2_:e=.returned (.bool b1):=he_.trans (by rw [Hb1.out]);subst he2_;clear he_;replace HS:=(tQ HS hbS);refine hK _ _ HS ?_;clear hK K hbS)
 all_goals refine wkP ?_
 all_goals first|(refine kG rfl HS ?_)|(refine kQ rfl (fun K hK=>?_);go_simp;refine (jg (FO.out.below HS).rd.1 (GO.out.below HS).rd.1).mono ?_;rintro e wS1 ⟨he_,hbS⟩;have he2_:e=.returned (.bool b1):=he_.trans (by rw [Hb1.out]);subst he2_;clear he_;replace HS:=(tQ HS hbS);refine hK _ _ HS ?_;clear hK K hbS)
 all_goals refine wkP ?_
 all_goals refine wkR ?_
 all_goals refine wkR ?_
 all_goals (have hg41:=True.intro;first|(refine wkG (fun b hg41=>?_);cases b;all_goals first | exact Bool.noConfusion hg41 | simp only [zU,zV] at hg41 | skip) | refine wkR ?_)
 all_goals refine wkP ?_
 iterate 6
  all_goals refine wkR ?_
 all_goals first|(refine kG rfl HS ?_)|(refine kQ rfl (fun K hK=>?_);go_simp;refine (kEr (MO.out.below HS).rd (QO.out.below HS).rd (cx:=[.slice ja js.length jc,.int .i64 jn,.int .i64 jh,.int .i64 jt]) (x:=(js,jn,jh,jt)) (JO.out.below HS).rd).mono ?_;rintro e wS1 ⟨he_,hbS⟩;have he2_:e=.returned (.bool b2):=he_.trans (by rw [Hb2.out]);subst he2_;clear he_;replace HS:=(tQ HS hbS);refine hK _ _ HS ?_;clear hK K hbS)
 all_goals refine wkP ?_
 all_goals first|(refine kG rfl HS ?_)|(refine kQ rfl (fun K hK=>?_);go_simp;refine (kJe (MO.out.below HS).rd (QO.out.below HS).rd (cx:=[.slice ja js.length jc,.int .i64 jn,.int .i64 jh,.int .i64 jt]) (x:=(js,jn,jh,jt)) (JO.out.below HS).rd).mono ?_;rintro e wS1 ⟨he_,hbS⟩;have he2_:e=.returned (.bool b2):=he_.trans (by rw [Hb2.out]);subst he2_;clear he_;replace HS:=(tQ HS hbS);refine hK _ _ HS ?_;clear hK K hbS)
 all_goals refine wkP ?_
 all_goals refine wkR ?_
 all_goals refine wkR ?_
 all_goals (have hg52:=True.intro;first|(refine wkG (fun b hg52=>?_);cases b;all_goals first | exact Bool.noConfusion hg52 | simp only [zU,zV] at hg52 | skip) | refine wkR ?_)
 all_goals refine wkP ?_
 iterate 4
  all_goals refine wkR ?_
 all_goals first|(refine kG rfl HS ?_)|(refine kQ rfl (fun K hK=>?_);go_simp;refine (zD (PO.out.below HS).rd.1 (cn:=[.slice na nm.length nc]) (NO.out.below HS).raw).mono ?_;rintro e wS1 ⟨he_,hbS⟩;have he2_:e=.returned (.bool b3):=he_.trans (by rw [Hb3.out]);subst he2_;clear he_;replace HS:=(tQ HS hbS);refine hK _ _ HS ?_;clear hK K hbS)
 all_goals refine wkP ?_
 all_goals first|(refine kG rfl HS ?_)|(refine kQ rfl (fun K hK=>?_);go_simp;refine (kFb (PO.out.below HS).rd.1 (cn:=[.slice na nm.length nc]) (NO.out.below HS).raw).mono ?_;rintro e wS1 ⟨he_,hbS⟩;have he2_:e=.returned (.bool b3):=he_.trans (by rw [Hb3.out]);subst he2_;clear he_;replace HS:=(tQ HS hbS);refine hK _ _ HS ?_;clear hK K hbS)
 all_goals refine wkP ?_
 all_goals refine wkR ?_
 all_goals refine wkR ?_
 all_goals (have hg61:=True.intro;first|(refine wkG (fun b hg61=>?_);cases b;all_goals first | exact Bool.noConfusion hg61 | simp only [zU,zV] at hg61 | skip) | refine wkR ?_)
 all_goals refine wkP ?_
 iterate 4
  all_goals refine wkR ?_
 all_goals first | refine wkB (kFn (RO.out.below HS).rd.1 (cn:=[.slice oa om.length oc]) (OO.out.below HS).raw) (fun wS1 HS=>?_) | refine wkR ?_
 all_goals first | refine wkB (kFa (RO.out.below HS).rd.1 (cn:=[.slice oa om.length oc]) (OO.out.below HS).raw) (fun wS1 HS=>?_) | refine wkR ?_
 all_goals refine wkR ?_
 all_goals refine wkR ?_
 all_goals (have hg70:=True.intro;first|(refine wkG (fun b hg70=>?_);cases b;all_goals first | exact Bool.noConfusion hg70 | simp only [zU,zV] at hg70 | skip) | refine wkR ?_)
 all_goals refine wkP ?_
 iterate 6
  all_goals refine wkR ?_
 all_goals first|(refine kG rfl HS ?_)|(refine kQ rfl (fun K hK=>?_);go_simp;refine (kHl (UO.out.below HS).rd (cn:=[.slice ka km.length kc]) (KO.out.below HS).rd (t:=50) gV).mono ?_;rintro e wS1 ⟨v_,rfl,OS_,hbS⟩;obtain ⟨S74a,S74c,rfl,_⟩:=Rep.sl OS_.raw;skip;have S74:=yD OS_;clear OS_;replace HS:=(tQ HS hbS);refine hK _ _ HS ?_;clear hK K hbS)
 all_goals refine wkP ?_
 all_goals first|(refine kG rfl HS ?_)|(refine kQ rfl (fun K hK=>?_);go_simp;refine (kCi (UO.out.below HS).rd (cn:=[.slice ka km.length kc]) (KO.out.below HS).rd (t:=50) gV).mono ?_;rintro e wS1 ⟨v_,rfl,OS_,hbS⟩;obtain ⟨S78a,S78c,rfl,_⟩:=Rep.sl OS_.raw;skip;have S78:=yD OS_;clear OS_;replace S74:=yD (S74.out.below hbS);replace HS:=(tQ HS hbS);refine hK _ _ HS ?_;clear hK K hbS)
 all_goals refine wkP ?_
 all_goals first|(refine kG rfl HS ?_)|(refine kQ rfl (fun K hK=>?_);go_simp;refine (jg S74.out.raw S78.out.raw).mono ?_;rintro e wS1 ⟨he_,hbS⟩;have he2_:e=.returned (.bool true):=he_.trans gW;subst he2_;clear he_;replace HS:=(tQ HS hbS);refine hK _ _ HS ?_;clear hK K hbS)
 all_goals refine wkP ?_
 all_goals refine wkR ?_
 all_goals refine wkR ?_
 all_goals (have hg82:=True.intro;first|(refine wkG (fun b hg82=>?_);cases b;all_goals first | exact Bool.noConfusion hg82 | simp only [zU,zV] at hg82 | skip) | refine wkR ?_)
 all_goals refine wkP ?_
 all_goals refine wkR ?_
 all_goals refine wkR ?_
 all_goals first|(refine kG rfl HS ?_)|(refine kQ rfl (fun K hK=>?_);go_simp;refine (yS (LO.out.below HS).rd.1).mono ?_;rintro e wS1 ⟨he_,hbS⟩;have he2_:e=.returned (.bool bv):=he_.trans (by rw [Hbv.out]);subst he2_;clear he_;replace HS:=(tQ HS hbS);refine hK _ _ HS ?_;clear hK K hbS)
 all_goals refine wkP ?_
 all_goals first|(refine kG rfl HS ?_)|(refine kQ rfl (fun K hK=>?_);go_simp;refine (kDo (LO.out.below HS).rd.1).mono ?_;rintro e wS1 ⟨he_,hbS⟩;have he2_:e=.returned (.bool bv):=he_.trans (by rw [Hbv.out]);subst he2_;clear he_;replace HS:=(tQ HS hbS);refine hK _ _ HS ?_;clear hK K hbS)
 all_goals refine wkP ?_
 all_goals refine wkR ?_
 all_goals refine wkR ?_
 all_goals refine kN ?_
 replace BW:=kI BW HS
 replace BN:=kI BN HS
 replace BJ:=kI BJ HS
 replace BO:=kI BO HS
 replace BK:=kI BK HS
 replace LO:=yD (LO.out.below HS)
 replace XO:=yD (XO.out.below HS)
 replace X1:=yD (X1.out.below HS)
 replace X2:=yD (X2.out.below HS)
 replace PO:=yD (PO.out.below HS)
 replace NO:=yD (NO.out.below HS)
 replace SA:=yD (SA.out.below HS)
 replace SB:=yD (SB.out.below HS)
 replace TA:=yD (TA.out.below HS)
 replace TB:=yD (TB.out.below HS)
 replace EO:=yD (EO.out.below HS)
 replace FO:=yD (FO.out.below HS)
 replace GO:=yD (GO.out.below HS)
 replace MO:=yD (MO.out.below HS)
 replace QO:=yD (QO.out.below HS)
 replace JO:=yD (JO.out.below HS)
 replace RO:=yD (RO.out.below HS)
 replace OO:=yD (OO.out.below HS)
 replace UO:=yD (UO.out.below HS)
 replace KO:=yD (KO.out.below HS)
 replace EE:=(tQ EE HS)
 clear HS
 try clear S25
 try clear S28
 try clear S74
 try clear S78
 clear SA SB TA TB EO FO GO MO QO JO BJ RO OO BO UO KO BK PO NO BN X2
 go_wp2_with fail
 refine (yS LO.out.rd.1).mono ?_
 rintro e w18 ⟨he_,hb⟩
 have he2_:e=.returned (.bool bv):=he_.trans (by rw [Hbv.out])
 subst he2_
 clear he_
 have z_w18:=hb.size
 replace BW:=kI BW hb
 replace LO:=yD (LO.out.below hb)
 replace XO:=yD (XO.out.below hb)
 replace X1:=yD (X1.out.below hb)
 replace EE:=(tQ EE hb)
 clear hb
 cases bv
 · go_wp2
   go_ret
   exact ⟨rfl,EE⟩
 cases K
 · have hX:=FE.out (by trivial)
   subst hX
   go_wp2_with fail
   refine (jg X1.out.raw LO.out.rd.1).mono ?_
   rintro e w19 ⟨he_,hb⟩
   have he2_:e=.returned (.bool true):=he_.trans gW
   subst he2_
   clear he_
   have z_w19:=hb.size
   replace BW:=kI BW hb
   replace LO:=yD (LO.out.below hb)
   replace XO:=yD (XO.out.below hb)
   replace X1:=yD (X1.out.below hb)
   replace EE:=(tQ EE hb)
   clear hb
   go_wp2
   go_ret
   exact ⟨rfl,EE⟩
 obtain ⟨KBW_0,KBW_1,KBW_2,KBW_3⟩:=jL BW
 have HNX:=yD (show kZ.rd w18 [.slice ia ps.length ic] ps from (kHk XO.out))
 go_wp2_with fail
 refine (kDm X1.out.rd (cn:=[.slice ia ps.length ic]) HNX.out).mono ?_
 rintro e w19 ⟨v_,u_,rfl,hO,hb⟩
 have z_w19:=hb.size
 replace BW:=kI BW hb
 replace LO:=yD (LO.out.below hb)
 replace XO:=yD (XO.out.below hb)
 replace X1:=yD (X1.out.below hb)
 replace EE:=(tQ EE hb)
 clear KBW_0 KBW_1 KBW_2 KBW_3
 clear hb
 obtain ⟨A_,B_,hA,hB,hAS,hBS,_⟩:=Rep.kFg hO
 have LA:=yD (hA.wide hAS)
 have LB:=yD (hB.wide hBS)
 clear hA hB hO hAS hBS
 obtain ⟨laa,lac,rfl,_⟩:=Rep.sl LA.out.raw
 obtain ⟨lba,lbc,rfl,_⟩:=Rep.sl LB.out.raw
 clear HNX
 have FG:=sat_gone (n:=ps) (FA.out (by trivial) Hbv.out)
 have FM:=FC.out (by trivial)
 generalize satP ps X=LF at *
 generalize satR ps X=AS at *
 have FG:=yD FG;have FM:=yD FM
 go_wp2
 go_loopw [31,32] (fun m i wr=>∃ (j:Nat) (b:Bool),m=.bool b∧i=.int .i64 j∧j≤AS.length∧Hid (b=(AS.take j).any (hitQ s n t))∧Below w19.heap.size w19 wr) (fun _ i _=>AS.length - (intOf i).toNat)
 case atStart=>exact ⟨0,false,rfl,rfl,Nat.zero_le _,yD gW,bR⟩
 obtain ⟨j,b,rfl,rfl,hj,HM,hbel⟩:=hrel
 have hj0:=Int.natCast_nonneg j
 replace BW:=kI BW hbel
 replace LO:=yD (LO.out.below hbel)
 replace XO:=yD (XO.out.below hbel)
 replace X1:=yD (X1.out.below hbel)
 replace LA:=yD (LA.out.below hbel)
 replace LB:=yD (LB.out.below hbel)
 replace EE:=(tQ EE hbel)
 by_cases hlt:j < AS.length
 · obtain ⟨qb,qo,rfl,c0,c1,c2,hcr,AC0,AC1,AC2⟩:=Rep.yP LB.out.raw hlt rfl
   obtain ⟨he,r0,r1,r2⟩:=ko hcr
   simp only [List.cons.injEq,and_true] at he
   obtain ⟨rfl,rfl,rfl⟩:=he
   clear hcr
   have HT:=yD (any_take (p:=hitQ s n t) hlt)
   generalize AS[j]=y at *
   obtain ⟨y0,y1,y2⟩:=y
   have hltI:(j:Int) < AS.length:=gV
   have hw:IntKind.i64.wrap (50 + t)=50 + t:=IntWalk.i64_in _ gV
   go_upto_region 25 with fail
   obtain ⟨KBW_0,KBW_1,KBW_2,KBW_3⟩:=jL BW
   have FX:=yD (fun (W:World) (hW:Below wr.heap.size wr W)=>cLs7 hW KBW_0 KBW_1 KBW_2 KBW_3 AC0 AC1 AC2)
   refine jX (fun W=>Below wr.heap.size wr W) [(0,true),(1,true),(2,true),(3,true),(4,true),(5,true),(6,true),(7,true),(8,true),(9,true),(10,true),(11,true),(12,true),(13,true),(14,true),(15,true),(16,true),(17,true),(18,true),(19,true),(20,true),(21,true),(22,true),(23,true),(24,true),(25,true),(26,true),(27,true),(28,true),(29,true),(30,true),(31,true),(32,true)] gP (softP_ok gP) bX (bR.drew) ?_
   intro wS HS
   simp only [kg,List.getElem?_cons_succ,List.getElem?_cons_zero,List.map_cons,List.map_nil]
   all_goals refine wkR ?_
   all_goals (have hg1:=True.intro;first|(refine wkG (fun b hg1=>?_);cases b;all_goals first | exact Bool.noConfusion hg1 | simp only [zU,zV] at hg1 | skip) | refine wkR ?_)
   all_goals refine wkP ?_
   iterate 7
    all_goals refine wkR ?_
   all_goals (have hg9:=True.intro;first|(refine wkG (fun b hg9=>?_);cases b;all_goals first | exact Bool.noConfusion hg9 | simp only [zU,zV] at hg9 | skip) | refine wkR ?_)
   all_goals refine wkP ?_
   iterate 9
    all_goals refine wkR ?_
   all_goals (have hg19:=True.intro;first|(refine wkG (fun b hg19=>?_);cases b;all_goals first | exact Bool.noConfusion hg19 | simp only [zU,zV] at hg19 | skip) | refine wkR ?_)
   all_goals refine wkP ?_
   iterate 13
    all_goals refine wkR ?_
   all_goals refine kN ?_
   all_goals have hbS:=(tQ hbel HS)
   all_goals clear HS AC0 AC1 AC2
   all_goals (go_wp2;go_roundw;(case rel=>exact ⟨j + 1,_,rfl,by go_num,by omega,yD (by rw [HT.out,← HM.out];(simp_all [hitQ] <;> rfl)),hbS⟩);(case measure=>simp [intOf];omega))
 have hltI:¬ (j:Int) < AS.length:=gV
 have hb:b=true:=by rw [HM.out,List.take_of_length_le gV];exact FM.out
 subst hb
 clear hbel HM
 go_wp2_with fail
 refine (yS X1.out.raw).mono ?_
 rintro e w20 ⟨he_,hb⟩
 have he2_:e=.returned (.bool true):=he_.trans (by rw [FA.out (by trivial) Hbv.out])
 subst he2_
 clear he_
 have z_w20:=hb.size
 replace BW:=kI BW hb
 replace LO:=yD (LO.out.below hb)
 replace XO:=yD (XO.out.below hb)
 replace X1:=yD (X1.out.below hb)
 replace LA:=yD (LA.out.below hb)
 replace LB:=yD (LB.out.below hb)
 replace EE:=(tQ EE hb)
 clear hb
 obtain ⟨KBW_0,KBW_1,KBW_2,KBW_3⟩:=jL BW
 go_wp2_with fail
 refine (zD LA.out.raw (cn:=[.slice ia ps.length ic]) (kHk XO.out).1).mono ?_
 rintro e w21 ⟨he_,hb⟩
 have he2_:e=.returned (.bool false):=he_.trans (by have:=FG.out;rw [decide_eq_false gV])
 subst he2_
 clear he_
 have z_w21:=hb.size
 replace BW:=kI BW hb
 replace LO:=yD (LO.out.below hb)
 replace XO:=yD (XO.out.below hb)
 replace X1:=yD (X1.out.below hb)
 replace LA:=yD (LA.out.below hb)
 replace LB:=yD (LB.out.below hb)
 replace EE:=(tQ EE hb)
 clear KBW_0 KBW_1 KBW_2 KBW_3
 clear hb
 obtain ⟨KBW_0,KBW_1,KBW_2,KBW_3⟩:=jL BW
 have AW_0:=cL (Rep.jB w21 (.cells #[] 77)) KBW_0
 have AW_1:=cL (Rep.jB w21 (.cells #[] 77)) KBW_1
 have AW_2:=cL (Rep.jB w21 (.cells #[] 77)) KBW_2
 have AW_3:=cL (Rep.jB w21 (.cells #[] 77)) KBW_3
 go_wp2_with fail
 clear AW_0 AW_1 AW_2 AW_3
 generalize hw_:World.alloc w21 _=w22
 have E_w22:Below w21.heap.size w21 w22:=dH
 have z_w22:w21.heap.size + 1≤w22.heap.size:=fU
 clear hw_
 replace BW:=kI BW E_w22
 replace LO:=yD (LO.out.below E_w22)
 replace XO:=yD (XO.out.below E_w22)
 replace X1:=yD (X1.out.below E_w22)
 replace LA:=yD (LA.out.below E_w22)
 replace LB:=yD (LB.out.below E_w22)
 replace EE:=(tQ EE E_w22)
 clear KBW_0 KBW_1 KBW_2 KBW_3
 clear E_w22
 refine (kEr X1.out.rd (Rep.jd (S:=fun _=>False)).rd (cx:=[.slice ia ps.length ic,.int .i64 n,.int .i64 h,.int .i64 t]) (x:=(ps,n,h,t)) XO.out.rd).mono ?_
 rintro e w23 ⟨he_,hb⟩
 have he2_:e=.returned (.bool true):=he_.trans (by rw [FD.out (by trivial)])
 subst he2_
 clear he_
 have z_w23:=hb.size
 replace BW:=kI BW hb
 replace LO:=yD (LO.out.below hb)
 replace XO:=yD (XO.out.below hb)
 replace X1:=yD (X1.out.below hb)
 replace LA:=yD (LA.out.below hb)
 replace LB:=yD (LB.out.below hb)
 replace EE:=(tQ EE hb)
 clear hb
 obtain ⟨KBW_0,KBW_1,KBW_2,KBW_3⟩:=jL BW
 go_wp2_with fail
 refine (zD X1.out.raw (cn:=[.slice ia ps.length ic]) (kHk XO.out).1).mono ?_
 rintro e w24 ⟨he_,hb⟩
 have he2_:e=.returned (.bool true):=he_.trans (by have:=FB.out (by trivial);rw [decide_eq_true this])
 subst he2_
 clear he_
 have z_w24:=hb.size
 replace BW:=kI BW hb
 replace LO:=yD (LO.out.below hb)
 replace XO:=yD (XO.out.below hb)
 replace X1:=yD (X1.out.below hb)
 replace LA:=yD (LA.out.below hb)
 replace LB:=yD (LB.out.below hb)
 replace EE:=(tQ EE hb)
 clear KBW_0 KBW_1 KBW_2 KBW_3
 clear hb
 go_wp2
 go_ret
 exact ⟨rfl,EE⟩
theorem lawFnPends_lifted (os:Os) (started:os.Started) (H:Type) (enc:TypeId × Value→H) :
    ReturnsInHanded {} Try.checked os 3 .any (Rows.fnPendsSpec.pre6 enc Try.prog Try.f3 Rows.fnPendsRow.domain false) (Rows.fnPendsSpec.post enc Try.prog Try.f3 false true false false):=by
 refine returnsInHanded_of_change (C:=Try.checked) law_own started gP Try.func3
   (ChangeSpec.witness6 (enc:=enc) (C:=Try.checked) false ⟨#[],#[.slice none 0 0],[]⟩ 8 gP gP gP gP) ?_
 intro W base args ds gs before hval0 hW _ _
 have hval:∀ (j:Nat) t v,Try.f3.params[j]?=some t→args[j]?=some v→Value.okWide Try.prog W .any base t v:=hval0
 have hW0:DataW.Whole enc Try.prog Try.f3.params.toList Rows.fnPendsSpec.vars false W args.toList ds gs before:=hW
 obtain ⟨p,q,hA0,hV,rfl,hfz,hnd⟩:=hW
 have hA:DataW.TrodAll enc Try.prog W 0 (fun _=>true) true Try.f3.params.toList args.toList ds p:=hA0
 rw [Try.params3] at hA hval
 obtain ⟨v0,vs0,d0,ds0,p0,q0,hargs,rfl,rfl,g0,s0⟩:=trodAll_cons hA
 obtain ⟨rfl,rfl,rfl⟩:=trodAll_nil s0
 obtain rfl:args=#[v0]:=by cases args;simp_all
 obtain ⟨rfl,rfl⟩:=trodVars_none hV
 obtain ⟨a0,len0,cap0,rfl⟩:=okWide_slice Try.underlying22 (hval 0 22 v0 rfl rfl)
 obtain ⟨fu0,hf0⟩:=g0
 obtain ⟨x0,h0⟩:=kJk (w:=W) hf0
 have h0:(Rep.slice 5 Rep.byte).raw W [.slice a0 len0 cap0] x0:=by simpa [Value.cells] using h0
 refine (kJh h0).mono fun e W' ⟨he,hb⟩=>?_
 subst he
 refine ⟨_,rfl,law_post (tb:=4) hW0 rfl rfl Try.underlying4 ⟨rfl,rfl,rfl⟩ ?_ hb⟩
 rw [Try.params3]
 intro t ht
 have hall:([22].all fun t=>Try.prog.readableRec t && decide (t < Try.prog.types.size))=true:=gP
 have h1:=List.all_eq_true.1 hall t ht
 simpa using h1
theorem lawFnPends_holds : Rows.FnPendsSaid :=
  OpenClaim.holds_of_wide 3 Try.f3 rfl rfl rfl rfl rfl rfl rfl ⟨rfl, rfl, rfl, rfl, rfl⟩ rfl rfl rfl rfl rfl gP Try.func3 gP
    (of_decide_eq_true gP) (by unfold Func.isWrapper; first | (rw [if_pos (by decide +kernel)]; kernel_rfl) | (rw [if_neg (by decide +kernel)]; exact ⟨rfl, rfl⟩))
    (fun os started H enc _ => lawFnPends_lifted os started H enc)
end Go.Proofs.Ytpgnbablhdknnaa

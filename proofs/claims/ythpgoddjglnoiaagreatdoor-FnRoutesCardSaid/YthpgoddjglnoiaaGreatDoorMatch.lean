/-
  The longest prefix among routes.
-/
import Derived.Test.YthpgoddjglnoiaaGreatDoorMin
set_option linter.unusedVariables false
set_option linter.unusedSimpArgs false
set_option linter.unnecessarySimpa false
set_option maxRecDepth 100000
set_option maxHeartbeats 4000000
namespace Go.Proofs.YthpgoddjglnoiaaGreatDoor
open Go.RowKit
def zD (n p:kR):Bool:=decide ((p.length:Int)≤n.length) && eqN (n.take p.length) p
theorem prefN_no {n p:kR} (h:¬ p.length≤n.length):zD n p=false:=by unfold zD;rw [decide_eq_false fV];rfl
theorem kIa {n p:kR} (h:p.length≤n.length):zD n p=eqN (n.take p.length) p:=by unfold zD;rw [decide_eq_true fV];rfl
theorem clip {n:kR} (k:Int):∃ m:Nat,max 0 (min k n.length)=(m:Int)∧m≤n.length∧n.take k.toNat=n.take m:=by
 refine ⟨(max 0 (min k n.length)).toNat,by omega,by omega,?_⟩
 by_cases h:k.toNat≤n.length
 · congr 1;omega
 rw [List.take_of_length_le fV,List.take_of_length_le fV]
def mB (n:kR) (l:List kD):Nat→Int
  | 0=>-1
  | k + 1=>if zD n (l.getD k ([],0,0)).1=true∧(mB n l k < 0∨(l.getD (mB n l k).toNat ([],0,0)).1.length < (l.getD k ([],0,0)).1.length) then k else mB n l k
theorem mB_rng (n:kR) (l:List kD):∀ k:Nat,mB n l k=-1∨∃ j:Nat,j < k∧mB n l k=j
  | 0=>.inl rfl
  | k + 1=>by
    by_cases h:zD n (l.getD k ([],0,0)).1=true∧(mB n l k < 0∨(l.getD (mB n l k).toNat ([],0,0)).1.length < (l.getD k ([],0,0)).1.length)
    · exact .inr ⟨k,by omega,by unfold mB;rw [if_pos h]⟩
    · have e:mB n l (k + 1)=mB n l k:=by conv=>lhs;unfold mB;rw [if_neg h]
      rw [e]
      rcases mB_rng n l k with h|⟨j,hj,h⟩
      · exact .inl h
      · exact .inr ⟨j,by omega,h⟩
theorem mB_no {n:kR} {l:List kD} {k:Nat} (hk:k < l.length) (h:zD n l[k].1=false):mB n l (k + 1)=mB n l k:=by
 conv=>lhs;unfold mB
 rw [jC hk,if_neg (by simp [h])]
theorem mB_new {n:kR} {l:List kD} {k:Nat} (hk:k < l.length) (h:zD n l[k].1=true) (h2:mB n l k=-1):mB n l (k + 1)=k:=by
 conv=>lhs;unfold mB
 rw [jC hk,if_pos ⟨h,.inl fV⟩]
theorem mB_up {n:kR} {l:List kD} {k j:Nat} (hk:k < l.length) (h:zD n l[k].1=true) (hj:j < l.length) (h2:mB n l k=j) (h3:l[j].1.length < l[k].1.length):mB n l (k + 1)=k:=by
 conv=>lhs;unfold mB
 rw [jC hk,h2,Int.toNat_natCast,jC hj,if_pos ⟨h,.inr h3⟩]
theorem mB_keep {n:kR} {l:List kD} {k j:Nat} (hk:k < l.length) (hj:j < l.length) (h2:mB n l k=j) (h3:¬ l[j].1.length < l[k].1.length):mB n l (k + 1)=j:=by
 conv=>lhs;unfold mB
 rw [jC hk,h2,Int.toNat_natCast,jC hj,if_neg (fun q=>by rcases q.2 with h | h;omega;exact h3 h)]
def mOk (n:kR) (l:List kD):Bool:=!decide (mB n l l.length < 0)
def yM (n:kR) (l:List kD):kR:=if mB n l l.length < 0 then [] else (l.getD (mB n l l.length).toNat ([],0,0)).1
theorem m_no {n:kR} {l:List kD} (h:mB n l l.length=-1):mOk n l=false∧yM n l=[]:=by simp [mOk,yM,h]
theorem m_yes {n:kR} {l:List kD} {j:Nat} (hj:j < l.length) (h:mB n l l.length=j):mOk n l=true∧yM n l=l[j].1:=by
 unfold mOk yM
 rw [h,Int.toNat_natCast,jC hj,if_neg fV,decide_eq_false fV]
 exact ⟨rfl,rfl⟩
theorem kGj {w:World} {ca:List Value} {x:kR} {k:Int} (ha:kV.rd w ca x):Calls Tryz.prog 73 #[.agg ca.toArray,.int .i64 k] w (kJk kV (x.take k.toNat) w):=by
 have HA:=yD ha
 obtain ⟨av,rfl,a_0⟩:=kN ha.1
 obtain ⟨aa,capa,rfl,la⟩:=Rep.sl a_0
 have hcap:=Rep.kBi a_0
 have hb:x.length≤16777216:=ha.2.1
 obtain ⟨m,hm,hmx,htk⟩:=clip (n:=x) k
 have HTK:=yD htk
 clear ha a_0 htk
 go_enter Tryz.func73,Tryz.ntmps73
 go_wp2_with fail
 refine specMin_c.mono ?_
 rintro e w1 ⟨rfl,rfl⟩
 go_wp2_with fail
 refine specMax_c.mono ?_
 rintro e w1 ⟨rfl,rfl⟩
 rw [hm]
 have HS_:=yD (Rep.kIo (e:=9) (r:=Rep.str) HA.out hmx)
 have hl:(x.take m).length=m:=fQ
 generalize x.take m=y at *
 subst hl
 have hm1:(y.length:Int)≤capa:=fV
 have O0:Rep.kH 9 Rep.str (((w.alloc (.cells #[.slice aa x.length capa] 27)).alloc (.cells #[.slice none 0 0] 27)).alloc (.cells #[] 9)) (.slice (some ⟨w.heap.size + 1 + 1,0,none⟩) 0 0) [] (fun k=>k=w.heap.size + 1 + 1):=by
  have h:=Rep.je (e:=9) (r:=Rep.str) (w:=(w.alloc (.cells #[.slice aa x.length capa] 27)).alloc (.cells #[.slice none 0 0] 27)) (cs:=[]) (xs:=[]) (T:=fun _=>False) (S:=fun k=>k=w.heap.size + 1 + 1) fZ fZ rfl (fun _ h=>h.elim) fZ
  simpa using h
 go_wp2_with (at_builtin;refine Rep.yP rfl _ _ 25 rfl (r:=Rep.str) (e:=9) Tryz.underlying25 jW rfl fU fU Rep.yL (B:=w.heap.size + 1 + 1) O0 gB gB (HS_.out.below bB) dB fZ fQ ?_)
 intro v2 w2 hown hbel hz
 obtain ⟨a2,c2,hv⟩:=hown.zG
 obtain rfl:=hv
 have hw:=hown.own (by simp [Big];omega)
 have HO:Hid (kV.own w2 [.slice a2 y.length c2] y (Btw (w.heap.size + 1 + 1) w2.heap.size)):=yD hw
 have EG:Below w.heap.size w w2:=Below.trans bB (hbel.mono dF)
 clear hown O0 hw
 have R0:w2.cell? ⟨w.heap.size + 1,0,none⟩=some (.slice none 0 0):=(hbel.cell (p:=⟨w.heap.size + 1,0,none⟩) fZ).trans fO
 have F0:w2.frozen? ⟨w.heap.size + 1,0,none⟩=false:=(hbel.frozen (p:=⟨w.heap.size + 1,0,none⟩) fZ).trans fO
 clear hbel
 go_wp2
 refine bodyPost_ret (v:=.agg #[.slice a2 y.length c2]) (by simp [results,Tryz.results73,go_sem,R0,F0]) rfl ⟨[_],rfl,?_,?_⟩
 · rw [HTK.out]
   exact (HO.out.setCell bF).wide bG
 exact EG.setCell fZ _
theorem zJ {w:World} {ca cb:List Value} {a b:kR} (ha:kV.rd w ca a) (hb:kV.rd w cb b) :
    Calls Tryz.prog 46 #[.agg ca.toArray,.agg cb.toArray] w fun e w'=>e=.returned (.bool (zD a b))∧Below w.heap.size w w':=by
 have HA:=yD ha
 have HB:=yD hb
 obtain ⟨av,rfl,a_0⟩:=kN ha.1
 obtain ⟨bv,rfl,b_0⟩:=kN hb.1
 clear ha hb
 obtain ⟨aa,capa,rfl,la⟩:=Rep.sl a_0
 obtain ⟨ab,capb,rfl,lb⟩:=Rep.sl b_0
 have hcap:=Rep.kBi a_0
 go_enter Tryz.func46,Tryz.ntmps46
 go_wp2_with fail
 generalize hwB:World.alloc (World.alloc w _) _=wB
 have EB:Below w.heap.size w wB:=by rw [← hwB];exact bB
 have K0:wB.cell? ⟨w.heap.size,0,none⟩=some (.slice aa a.length capa):=dL
 have K1:wB.cell? ⟨w.heap.size + 1,0,none⟩=some (.slice ab b.length capb):=dL
 clear hwB
 by_cases hc:b.length≤a.length
 · have hd:decide ((b.length:Int)≤a.length)=true:=fG
   have hdn:decide (b.length≤a.length)=true:=fG
   have hci:(b.length:Int)≤a.length:=fV
   have hc1:(b.length:Int)≤capa:=fV
   have HT:=yD (kIa hc)
   have FX:=yD (fun (W:World) (hW:Below wB.heap.size wB W)=>cLs2 hW K0 K1)
   refine jc (fun W=>Below wB.heap.size wB W) [(0,true),(1,true),(2,true),(3,true),(4,true),(5,true),(6,true),(7,true),(8,true),(9,true),(10,true),(11,true),(13,true),(12,false),(14,false),(15,true),(16,true)] fP fP bW (bR.drew) ?_
   intro wS HS
   simp only [kK,List.getElem?_cons_succ,List.getElem?_cons_zero,List.map_cons,List.map_nil]
   iterate 7
    all_goals refine wkR ?_
   all_goals (have hg7:=True.intro;first|(refine wkG (fun b hg7=>?_);cases b;all_goals first | exact Bool.noConfusion hg7 | simp only [zU,zV] at hg7 | skip) | refine wkR ?_)
   all_goals refine wkP ?_
   iterate 5
    all_goals refine wkR ?_
   all_goals first|(refine kJ rfl HS ?_)|(refine jF rfl (fun K hK=>?_);go_simp;refine (kGj (HA.out.below (tQ EB HS))).mono ?_;rintro e wT ⟨tc,rfl,OT,hbT⟩;replace HS:=(tQ HS hbT);refine hK _ _ HS ?_;clear hK K hbT)
   all_goals refine wkP ?_
   all_goals first | refine wkB (yY OT.raw (HB.out.1.below (tQ EB HS))) (fun wS1 HS=>?_) | refine wkR ?_
   all_goals refine wkR ?_
   all_goals refine wkR ?_
   all_goals refine kQ ?_
   have EG:=(tQ EB HS)
   go_wp2
   go_ret
   exact ⟨kP HT.out.symm,EG⟩
 have hd:decide ((b.length:Int)≤a.length)=false:=fG
 have hdn:decide (b.length≤a.length)=false:=fG
 have HT:=yD (prefN_no hc)
 have FX:=yD (fun (W:World) (hW:Below wB.heap.size wB W)=>cLs2 hW K0 K1)
 refine jc (fun W=>Below wB.heap.size wB W) [(0,true),(1,true),(2,true),(3,true),(4,true),(5,true),(6,true),(7,true),(8,true),(9,true),(10,true),(11,true),(13,true),(12,false),(14,false),(15,true),(16,true)] fP fP bW (bR.drew) ?_
 intro wS HS
 simp only [kK,List.getElem?_cons_succ,List.getElem?_cons_zero,List.map_cons,List.map_nil]
 iterate 7
  all_goals refine wkR ?_
 all_goals (have hg7:=True.intro;first|(refine wkG (fun b hg7=>?_);cases b;all_goals first | exact Bool.noConfusion hg7 | simp only [zU,zV] at hg7 | skip) | refine wkR ?_)
 all_goals refine wkP ?_
 iterate 5
  all_goals refine wkR ?_
 iterate 2
  all_goals first|(refine kJ rfl HS ?_)|(fail)
  all_goals refine wkP ?_
 all_goals refine wkR ?_
 all_goals refine wkR ?_
 all_goals refine kQ ?_
 have EG:=(tQ EB HS)
 go_wp2
 go_ret
 exact ⟨kP HT.out.symm,EG⟩
theorem yK {w:World} {ca cb:List Value} {a b:kR} (ha:kV.rd w ca a) (hb:kV.rd w cb b) :
    Calls Tryz.prog 26 #[.agg ca.toArray,.agg cb.toArray] w fun e w'=>e=.returned (.bool (zD a b))∧Below w.heap.size w w':=by
 have HA:=yD ha
 have HB:=yD hb
 obtain ⟨av,rfl,a_0⟩:=kN ha.1
 obtain ⟨bv,rfl,b_0⟩:=kN hb.1
 clear ha hb
 obtain ⟨aa,capa,rfl,la⟩:=Rep.sl a_0
 obtain ⟨ab,capb,rfl,lb⟩:=Rep.sl b_0
 have hcap:=Rep.kBi a_0
 go_enter Tryz.func26,Tryz.ntmps26
 go_wp2_with fail
 generalize hwB:World.alloc (World.alloc w _) _=wB
 have EB:Below w.heap.size w wB:=by rw [← hwB];exact bB
 have K0:wB.cell? ⟨w.heap.size,0,none⟩=some (.slice aa a.length capa):=dL
 have K1:wB.cell? ⟨w.heap.size + 1,0,none⟩=some (.slice ab b.length capb):=dL
 clear hwB
 by_cases hc:b.length≤a.length
 · have hd:decide ((b.length:Int)≤a.length)=true:=fG
   have hdn:decide (b.length≤a.length)=true:=fG
   have hci:(b.length:Int)≤a.length:=fV
   have hc1:(b.length:Int)≤capa:=fV
   have HT:=yD (kIa hc)
   have FX:=yD (fun (W:World) (hW:Below wB.heap.size wB W)=>cLs2 hW K0 K1)
   refine kI (fun W=>Below wB.heap.size wB W) [true,true,true,true,true,true,true,true,true,true,true,true,true,true,true,true,false,true,true] fP fP bW (bR.drew) ?_
   intro wS HS
   iterate 7
    all_goals refine wkR ?_
   all_goals (have hg7:=True.intro;first|(refine wkG (fun b hg7=>?_);cases b;all_goals first | exact Bool.noConfusion hg7 | simp only [zU,zV] at hg7 | skip) | refine wkR ?_)
   all_goals refine wkP ?_
   iterate 8
    all_goals refine wkR ?_
   all_goals first | refine wkB (kCa (Rep.kDi (e:=9) (r:=Rep.str) (HA.out.1.below (tQ EB HS)) hc) (HB.out.1.below (tQ EB HS))) (fun wS1 HS=>?_) | refine wkR ?_
   all_goals refine wkR ?_
   all_goals refine wkR ?_
   all_goals refine kQ ?_
   have EG:=(tQ EB HS)
   go_wp2
   go_ret
   exact ⟨kP HT.out.symm,EG⟩
 have hd:decide ((b.length:Int)≤a.length)=false:=fG
 have hdn:decide (b.length≤a.length)=false:=fG
 have HT:=yD (prefN_no hc)
 have FX:=yD (fun (W:World) (hW:Below wB.heap.size wB W)=>cLs2 hW K0 K1)
 refine kI (fun W=>Below wB.heap.size wB W) [true,true,true,true,true,true,true,true,true,true,true,true,true,true,true,true,false,true,true] fP fP bW (bR.drew) ?_
 intro wS HS
 iterate 7
  all_goals refine wkR ?_
 all_goals (have hg7:=True.intro;first|(refine wkG (fun b hg7=>?_);cases b;all_goals first | exact Bool.noConfusion hg7 | simp only [zU,zV] at hg7 | skip) | refine wkR ?_)
 all_goals refine wkP ?_
 iterate 8
  all_goals refine wkR ?_
 all_goals first|(refine kJ rfl HS ?_)|(fail)
 all_goals refine wkP ?_
 all_goals refine wkR ?_
 all_goals refine wkR ?_
 all_goals refine kQ ?_
 have EG:=(tQ EB HS)
 go_wp2
 go_ret
 exact ⟨kP HT.out.symm,EG⟩
theorem yz {w:World} {vl:Value} {l:List kD} (hl:(Rep.slice 29 kE).rd w [vl] l) {cn:List Value} {n:kR} (hn:kV.rd w cn n) :
    Calls Tryz.prog 11 #[vl,.agg cn.toArray] w fun e w'=>∃ cs,e=.returned (.tuple #[.agg cs.toArray,.bool (mOk n l)])∧kV.own w' cs (yM n l) (Btw w.heap.size w'.heap.size)∧Below w.heap.size w w':=by
 have HN:=yD hn
 have HL:=yD hl
 obtain ⟨av,rfl,n_0⟩:=kN hn.1
 obtain ⟨an,capn,rfl,ln⟩:=Rep.sl n_0
 obtain ⟨aa,capa,rfl,la⟩:=Rep.sl hl.1
 clear hn hl n_0
 go_enter Tryz.func11,Tryz.ntmps11
 go_wp2
 generalize hwB:World.alloc (World.alloc w _) _=wB
 have EB:Below w.heap.size w wB:=by rw [← hwB];exact bB
 have hsz:wB.heap.size=w.heap.size + 2:=fB
 have K0:wB.cell? ⟨w.heap.size,0,none⟩=some (.slice an n.length capn):=dL
 have K1:wB.cell? ⟨w.heap.size + 1,0,none⟩=some (.slice none 0 0):=dL
 have F1:wB.frozen? ⟨w.heap.size + 1,0,none⟩=false:=dL
 clear hwB
 go_loopw [6,7] (fun b i wr=>∃ (k:Nat) (m:Int),k≤l.length∧i=.int .i64 k∧b=.int .i64 m∧Hid (mB n l k=m)∧Hid (m=-1∨∃ j:Nat,j < k∧m=j)∧Below wB.heap.size wB wr) (fun _ i _=>l.length - (intOf i).toNat)
 case atStart=>exact ⟨0,-1,Nat.zero_le _,rfl,rfl,yD rfl,yD (.inl rfl),bR⟩
 obtain ⟨k,m,hk,rfl,rfl,HM,HR,hbel⟩:=hrel
 have rdl:=Rep.rd.below HL.out (tQ EB hbel)
 by_cases hlt:k < l.length
 · have hk0:=Int.natCast_nonneg k
   have hk2:=Int.ofNat_lt.2 hlt
   obtain ⟨xb,xo,rfl,xc0,xc1,xc2,xr,Ax0,Ax1,Ax2⟩:=Rep.yg rdl.1 hlt rfl
   obtain ⟨xv0,xhe,x_0,x_1,x_2,x_3⟩:=kG xr
   simp only [List.cons.injEq,and_true] at xhe
   obtain ⟨rfl,rfl,rfl⟩:=xhe
   obtain ⟨xa,xp,rfl,xl⟩:=Rep.sl x_1
   have px:kV.rd wr _ l[k].1:=⟨x_0,(Rep.yJ HL.out hlt).1⟩
   clear xr x_2 x_3 x_1 x_0
   rcases HR.out with rfl|⟨j,hjk,rfl⟩
   · have hno:=fun q=>(mB_no (n:=n) hlt q).trans HM.out
     have hnew:=fun q=>mB_new (n:=n) hlt q HM.out
     clear rdl
     generalize l[k]=x at *
     have HNO:=yD hno;have HNEW:=yD hnew;clear hno hnew
     replace K0:=cL hbel K0
     go_upto_region 5 with fail
     have FX:=yD (fun (W:World) (hW:Below wr.heap.size wr W)=>cLs4 hW K0 Ax0 Ax1 Ax2)
     refine kI (fun W=>Below wr.heap.size wr W) [true,true,true,true,true,true,false,true,true,true,true,true,true,true,true,true,true,true,true,true,true,true,true,true,true,true,true,true] fP fP bW (bR.drew) ?_
     intro wS HS
     iterate 6
      all_goals refine wkR ?_
     all_goals first | refine wkB (zJ (HN.out.below ((tQ EB (tQ hbel HS)))) (px.below HS)) (fun wS1 HS=>?_) | refine wkR ?_
     all_goals (have hg7:=True.intro;first|(refine wkG (fun b hg7=>?_);cases b;all_goals first | exact Bool.noConfusion hg7 | simp only [zU,zV] at hg7 | skip) | refine wkR ?_)
     all_goals refine wkP ?_
     all_goals refine wkR ?_
     all_goals refine wkR ?_
     all_goals (have hg10:=True.intro;first|(refine wkG (fun b hg10=>?_);cases b;all_goals first | exact Bool.noConfusion hg10 | simp only [zU,zV] at hg10 | skip) | refine wkR ?_)
     all_goals refine wkP ?_
     iterate 16
      all_goals refine wkR ?_
     all_goals (have hg27:=True.intro;first|(refine wkG (fun b hg27=>?_);cases b;all_goals first | exact Bool.noConfusion hg27 | simp only [zU,zV] at hg27 | skip) | refine wkR ?_)
     all_goals refine wkP ?_
     all_goals refine kQ ?_
     all_goals have EG:=(tQ hbel HS)
     all_goals first
       | (have HT:=yD (HNO.out hg7);go_wp2;go_roundw;(case rel=>exact ⟨k + 1,-1,by omega,by go_num,rfl,HT,yD (.inl rfl),EG⟩);(case measure=>simp [intOf];omega))
       | (have HT:=yD (HNEW.out hg7);go_wp2;go_roundw;(case rel=>exact ⟨k + 1,(k:Int),by omega,by go_num,rfl,HT,yD (.inr ⟨k,by omega,rfl⟩),EG⟩);(case measure=>simp [intOf];omega))
   have hj:j < l.length:=fV
   have hj0:=Int.natCast_nonneg j
   have hj2:=Int.ofNat_lt.2 hj
   obtain ⟨yb,yo,yE,yc0,yc1,yc2,yr,Ay0,Ay1,Ay2⟩:=Rep.yg rdl.1 hj rfl
   simp only [Option.some.injEq,Addr.mk.injEq,and_true] at yE
   obtain ⟨rfl,rfl⟩:=yE
   obtain ⟨yv0,yhe,y_0,y_1,y_2,y_3⟩:=kG yr
   simp only [List.cons.injEq,and_true] at yhe
   obtain ⟨rfl,rfl,rfl⟩:=yhe
   obtain ⟨ya,yp,rfl,yl⟩:=Rep.sl y_1
   have py:kV.rd wr _ l[j].1:=⟨y_0,(Rep.yJ HL.out hj).1⟩
   clear yr y_2 y_3 y_1 y_0
   have hno:=fun q=>(mB_no (n:=n) hlt q).trans HM.out
   have hup:=fun q q2=>mB_up (n:=n) hlt q hj HM.out q2
   have hkeep:=fun q2=>mB_keep (n:=n) hlt hj HM.out q2
   clear rdl py
   generalize l[k]=x at *
   generalize l[j]=y at *
   have HNO:=yD hno;have HUP:=yD hup;have HKEEP:=yD hkeep;clear hno hup hkeep
   by_cases h3:y.1.length < x.1.length
   · have hd:decide ((y.1.length:Int) < x.1.length)=true:=fF
     have hd2:decide ((x.1.length:Int) > y.1.length)=true:=fF
     have hdn:decide (y.1.length < x.1.length)=true:=fF
     replace K0:=cL hbel K0
     go_upto_region 5 with fail
     have FX:=yD (fun (W:World) (hW:Below wr.heap.size wr W)=>cLs5 hW K0 Ax0 Ax1 Ax2 Ay0)
     refine kI (fun W=>Below wr.heap.size wr W) [true,true,true,true,true,true,false,true,true,true,true,true,true,true,true,true,true,true,true,true,true,true,true,true,true,true,true,true] fP fP bW (bR.drew) ?_
     intro wS HS
     iterate 6
      all_goals refine wkR ?_
     all_goals first | refine wkB (zJ (HN.out.below ((tQ EB (tQ hbel HS)))) (px.below HS)) (fun wS1 HS=>?_) | refine wkR ?_
     all_goals (have hg7:=True.intro;first|(refine wkG (fun b hg7=>?_);cases b;all_goals first | exact Bool.noConfusion hg7 | simp only [zU,zV] at hg7 | skip) | refine wkR ?_)
     all_goals refine wkP ?_
     all_goals refine wkR ?_
     all_goals refine wkR ?_
     all_goals (have hg10:=True.intro;first|(refine wkG (fun b hg10=>?_);cases b;all_goals first | exact Bool.noConfusion hg10 | simp only [zU,zV] at hg10 | skip) | refine wkR ?_)
     all_goals refine wkP ?_
     iterate 16
      all_goals refine wkR ?_
     all_goals (have hg27:=True.intro;first|(refine wkG (fun b hg27=>?_);cases b;all_goals first | exact Bool.noConfusion hg27 | simp only [zU,zV] at hg27 | skip) | refine wkR ?_)
     all_goals refine wkP ?_
     all_goals refine kQ ?_
     all_goals have EG:=(tQ hbel HS)
     all_goals first
       | (have HT:=yD (HNO.out hg7);go_wp2;go_roundw;(case rel=>exact ⟨k + 1,(j:Int),by omega,by go_num,rfl,HT,yD (.inr ⟨j,by omega,rfl⟩),EG⟩);(case measure=>simp [intOf];omega))
       | (have HT:=yD ((fun q=>HUP.out q h3) hg7);go_wp2;go_roundw;(case rel=>exact ⟨k + 1,(k:Int),by omega,by go_num,rfl,HT,yD (.inr ⟨k,by omega,rfl⟩),EG⟩);(case measure=>simp [intOf];omega))
   have hd:decide ((y.1.length:Int) < x.1.length)=false:=fF
   have hd2:decide ((x.1.length:Int) > y.1.length)=false:=fF
   have hdn:decide (y.1.length < x.1.length)=false:=fF
   replace K0:=cL hbel K0
   go_upto_region 5 with fail
   have FX:=yD (fun (W:World) (hW:Below wr.heap.size wr W)=>cLs5 hW K0 Ax0 Ax1 Ax2 Ay0)
   refine kI (fun W=>Below wr.heap.size wr W) [true,true,true,true,true,true,false,true,true,true,true,true,true,true,true,true,true,true,true,true,true,true,true,true,true,true,true,true] fP fP bW (bR.drew) ?_
   intro wS HS
   iterate 6
    all_goals refine wkR ?_
   all_goals first | refine wkB (zJ (HN.out.below ((tQ EB (tQ hbel HS)))) (px.below HS)) (fun wS1 HS=>?_) | refine wkR ?_
   all_goals (have hg7:=True.intro;first|(refine wkG (fun b hg7=>?_);cases b;all_goals first | exact Bool.noConfusion hg7 | simp only [zU,zV] at hg7 | skip) | refine wkR ?_)
   all_goals refine wkP ?_
   all_goals refine wkR ?_
   all_goals refine wkR ?_
   all_goals (have hg10:=True.intro;first|(refine wkG (fun b hg10=>?_);cases b;all_goals first | exact Bool.noConfusion hg10 | simp only [zU,zV] at hg10 | skip) | refine wkR ?_)
   all_goals refine wkP ?_
   iterate 16
    all_goals refine wkR ?_
   all_goals (have hg27:=True.intro;first|(refine wkG (fun b hg27=>?_);cases b;all_goals first | exact Bool.noConfusion hg27 | simp only [zU,zV] at hg27 | skip) | refine wkR ?_)
   all_goals refine wkP ?_
   all_goals refine kQ ?_
   all_goals have EG:=(tQ hbel HS)
   all_goals first
     | (have HT:=yD (HNO.out hg7);go_wp2;go_roundw;(case rel=>exact ⟨k + 1,(j:Int),by omega,by go_num,rfl,HT,yD (.inr ⟨j,by omega,rfl⟩),EG⟩);(case measure=>simp [intOf];omega))
     | (have HT:=yD ((fun (_:zD n x.1=true)=>HKEEP.out h3) hg7);go_wp2;go_roundw;(case rel=>exact ⟨k + 1,(j:Int),by omega,by go_num,rfl,HT,yD (.inr ⟨j,by omega,rfl⟩),EG⟩);(case measure=>simp [intOf];omega))
 obtain rfl:k=l.length:=fV
 have EG:=(tQ EB hbel)
 have R0:=cL hbel K1
 have F0:wr.frozen? ⟨w.heap.size + 1,0,none⟩=false:=(hbel.frozen (p:=⟨w.heap.size + 1,0,none⟩) fQ).trans F1
 rcases HR.out with rfl|⟨j,hj,rfl⟩
 · have HT:=yD (m_no HM.out)
   clear rdl
   go_wp2
   refine bodyPost_ret (v:=.tuple #[.agg #[.slice none 0 0],.bool false]) (by simp [results,Tryz.results11,go_sem,R0,F0]) rfl ⟨[.slice none 0 0],by rw [HT.out.1],?_,?_⟩
   · rw [HT.out.2];exact Rep.yt
   exact EG.setCell fZ _
 have hj0:=Int.natCast_nonneg j
 have hj2:=Int.ofNat_lt.2 hj
 have HT:=yD (m_yes hj HM.out)
 obtain ⟨yb,yo,rfl,yc0,yc1,yc2,yr,Ay0,Ay1,Ay2⟩:=Rep.yg rdl.1 hj rfl
 obtain ⟨yv0,yhe,y_0,y_1,y_2,y_3⟩:=kG yr
 simp only [List.cons.injEq,and_true] at yhe
 obtain ⟨rfl,rfl,rfl⟩:=yhe
 obtain ⟨ya,yp,rfl,yl⟩:=Rep.sl y_1
 have py:kV.rd wr _ l[j].1:=⟨y_0,(Rep.yJ HL.out hj).1⟩
 clear yr y_2 y_3 y_1 y_0
 clear rdl
 generalize l[j]=y at *
 go_wp2_with fail
 refine (zO (py.below bB)).mono ?_
 rintro e w2 ⟨cs,rfl,O2,hb2⟩
 obtain ⟨cv,rfl,c_0⟩:=kN O2.raw
 obtain ⟨a2,c2,hv,_⟩:=Rep.yj c_0
 obtain rfl:cv=_:=by simpa using hv
 have HO:Hid (kV.own w2 [.slice a2 y.1.length c2] y.1 (Btw (w.heap.size + 1 + 1) w2.heap.size)):=yD (O2.wide (fun j hj=>⟨by have:=hj.1;have:=hbel.size;omega,hj.2⟩))
 have EF:Below w.heap.size w w2:=EG.trans (Below.mono (Below.trans bB hb2) EG.size)
 replace R0:=cL hb2 R0
 replace F0:w2.frozen? ⟨w.heap.size + 1,0,none⟩=false:=(hb2.frozen (p:=⟨w.heap.size + 1,0,none⟩) (by have:=hbel.size;simp;omega)).trans F0
 clear hv O2 c_0 hb2 EG
 go_wp2
 refine bodyPost_ret (v:=.tuple #[.agg #[.slice a2 y.1.length c2],.bool true]) (by simp [results,Tryz.results11,go_sem,R0,F0]) rfl ⟨[.slice a2 y.1.length c2],by rw [HT.out.1],?_,?_⟩
 · rw [HT.out.2]
   exact (HO.out.setCell bF).wide bG
 exact EF.setCell fZ _
theorem zH {w:World} {vl:Value} {l:List kD} (hl:(Rep.slice 29 kE).rd w [vl] l) {cn:List Value} {n:kR} (hn:kV.rd w cn n) :
    Calls Tryz.prog 10 #[vl,.agg cn.toArray] w fun e w'=>∃ cs,e=.returned (.tuple #[.agg cs.toArray,.bool (mOk n l)])∧kV.own w' cs (yM n l) (Btw w.heap.size w'.heap.size)∧Below w.heap.size w w':=by
 have HN:=yD hn
 have HL:=yD hl
 obtain ⟨av,rfl,n_0⟩:=kN hn.1
 obtain ⟨an,capn,rfl,ln⟩:=Rep.sl n_0
 obtain ⟨aa,capa,rfl,la⟩:=Rep.sl hl.1
 clear hn hl n_0
 go_enter Tryz.func10,Tryz.ntmps10
 go_wp2
 generalize hwB:World.alloc (World.alloc w _) _=wB
 have EB:Below w.heap.size w wB:=by rw [← hwB];exact bB
 have hsz:wB.heap.size=w.heap.size + 2:=fB
 have K0:wB.cell? ⟨w.heap.size,0,none⟩=some (.slice an n.length capn):=dL
 have K1:wB.cell? ⟨w.heap.size + 1,0,none⟩=some (.slice none 0 0):=dL
 have F1:wB.frozen? ⟨w.heap.size + 1,0,none⟩=false:=dL
 clear hwB
 go_loopw [6,11] (fun b i wr=>∃ (k:Nat) (m:Int),k≤l.length∧i=.int .i64 k∧b=.int .i64 m∧Hid (mB n l k=m)∧Hid (m=-1∨∃ j:Nat,j < k∧m=j)∧Below wB.heap.size wB wr) (fun _ i _=>l.length - (intOf i).toNat)
 case atStart=>exact ⟨0,-1,Nat.zero_le _,rfl,rfl,yD rfl,yD (.inl rfl),bR⟩
 obtain ⟨k,m,hk,rfl,rfl,HM,HR,hbel⟩:=hrel
 have rdl:=Rep.rd.below HL.out (tQ EB hbel)
 by_cases hlt:k < l.length
 · have hk0:=Int.natCast_nonneg k
   have hk2:=Int.ofNat_lt.2 hlt
   obtain ⟨xb,xo,rfl,xc0,xc1,xc2,xr,Ax0,Ax1,Ax2⟩:=Rep.yg rdl.1 hlt rfl
   obtain ⟨xv0,xhe,x_0,x_1,x_2,x_3⟩:=kG xr
   simp only [List.cons.injEq,and_true] at xhe
   obtain ⟨rfl,rfl,rfl⟩:=xhe
   obtain ⟨xa,xp,rfl,xl⟩:=Rep.sl x_1
   have px:kV.rd wr _ l[k].1:=⟨x_0,(Rep.yJ HL.out hlt).1⟩
   clear xr x_2 x_3 x_1 x_0
   rcases HR.out with rfl|⟨j,hjk,rfl⟩
   · have hno:=fun q=>(mB_no (n:=n) hlt q).trans HM.out
     have hnew:=fun q=>mB_new (n:=n) hlt q HM.out
     clear rdl
     generalize l[k]=x at *
     have HNO:=yD hno;have HNEW:=yD hnew;clear hno hnew
     replace K0:=cL hbel K0
     go_upto_region 5 with fail
     generalize hwC:World.alloc wr _=wC
     have EC:Below wr.heap.size wr wC:=dD
     have M0:wC.cell? ⟨wr.heap.size,0,none⟩=some (.slice xa x.1.length xp):=dM
     have M1:wC.cell? ⟨wr.heap.size,1,none⟩=some (.int .i64 x.2.1):=dM
     have M2:wC.cell? ⟨wr.heap.size,2,none⟩=some (.int .i64 x.2.2):=dM
     replace K0:=cL EC K0
     (try replace Ay0:=cL EC Ay0);(try replace Ay1:=cL EC Ay1);(try replace Ay2:=cL EC Ay2);clear hwC
     have FX:=yD (fun (W:World) (hW:Below wC.heap.size wC W)=>cLs4 hW K0 M0 M1 M2)
     refine kI (fun W=>Below wC.heap.size wC W) [true,true,true,false,true,true,true,true,true,true,true,true,true,true,true,true,true,true,true,true,true,true] fP fP bW (bR.drew) ?_
     intro wS HS
     iterate 3
      all_goals refine wkR ?_
     all_goals first | refine wkB (yK (HN.out.below ((tQ EB ((tQ hbel (tQ EC HS)))))) (px.below (tQ EC HS))) (fun wS1 HS=>?_) | refine wkR ?_
     all_goals (have hg4:=True.intro;first|(refine wkG (fun b hg4=>?_);cases b;all_goals first | exact Bool.noConfusion hg4 | simp only [zU,zV] at hg4 | skip) | refine wkR ?_)
     all_goals refine wkP ?_
     all_goals refine wkR ?_
     all_goals refine wkR ?_
     all_goals (have hg7:=True.intro;first|(refine wkG (fun b hg7=>?_);cases b;all_goals first | exact Bool.noConfusion hg7 | simp only [zU,zV] at hg7 | skip) | refine wkR ?_)
     all_goals refine wkP ?_
     iterate 13
      all_goals refine wkR ?_
     all_goals (have hg21:=True.intro;first|(refine wkG (fun b hg21=>?_);cases b;all_goals first | exact Bool.noConfusion hg21 | simp only [zU,zV] at hg21 | skip) | refine wkR ?_)
     all_goals refine wkP ?_
     all_goals refine kQ ?_
     all_goals have EG:=(tQ hbel (tQ EC HS))
     all_goals first
       | (have HT:=yD (HNO.out hg4);go_wp2;go_roundw;(case rel=>exact ⟨k + 1,-1,by omega,by go_num,rfl,HT,yD (.inl rfl),EG⟩);(case measure=>simp [intOf];omega))
       | (have HT:=yD (HNEW.out hg4);go_wp2;go_roundw;(case rel=>exact ⟨k + 1,(k:Int),by omega,by go_num,rfl,HT,yD (.inr ⟨k,by omega,rfl⟩),EG⟩);(case measure=>simp [intOf];omega))
   have hj:j < l.length:=fV
   have hj0:=Int.natCast_nonneg j
   have hj2:=Int.ofNat_lt.2 hj
   obtain ⟨yb,yo,yE,yc0,yc1,yc2,yr,Ay0,Ay1,Ay2⟩:=Rep.yg rdl.1 hj rfl
   simp only [Option.some.injEq,Addr.mk.injEq,and_true] at yE
   obtain ⟨rfl,rfl⟩:=yE
   obtain ⟨yv0,yhe,y_0,y_1,y_2,y_3⟩:=kG yr
   simp only [List.cons.injEq,and_true] at yhe
   obtain ⟨rfl,rfl,rfl⟩:=yhe
   obtain ⟨ya,yp,rfl,yl⟩:=Rep.sl y_1
   have py:kV.rd wr _ l[j].1:=⟨y_0,(Rep.yJ HL.out hj).1⟩
   clear yr y_2 y_3 y_1 y_0
   have hno:=fun q=>(mB_no (n:=n) hlt q).trans HM.out
   have hup:=fun q q2=>mB_up (n:=n) hlt q hj HM.out q2
   have hkeep:=fun q2=>mB_keep (n:=n) hlt hj HM.out q2
   clear rdl py
   generalize l[k]=x at *
   generalize l[j]=y at *
   have HNO:=yD hno;have HUP:=yD hup;have HKEEP:=yD hkeep;clear hno hup hkeep
   by_cases h3:y.1.length < x.1.length
   · have hd:decide ((y.1.length:Int) < x.1.length)=true:=fF
     have hd2:decide ((x.1.length:Int) > y.1.length)=true:=fF
     have hdn:decide (y.1.length < x.1.length)=true:=fF
     replace K0:=cL hbel K0
     go_upto_region 5 with fail
     generalize hwC:World.alloc wr _=wC
     have EC:Below wr.heap.size wr wC:=dD
     have M0:wC.cell? ⟨wr.heap.size,0,none⟩=some (.slice xa x.1.length xp):=dM
     have M1:wC.cell? ⟨wr.heap.size,1,none⟩=some (.int .i64 x.2.1):=dM
     have M2:wC.cell? ⟨wr.heap.size,2,none⟩=some (.int .i64 x.2.2):=dM
     replace K0:=cL EC K0
     (try replace Ay0:=cL EC Ay0);(try replace Ay1:=cL EC Ay1);(try replace Ay2:=cL EC Ay2);clear hwC
     have FX:=yD (fun (W:World) (hW:Below wC.heap.size wC W)=>cLs5 hW K0 M0 M1 M2 Ay0)
     refine kI (fun W=>Below wC.heap.size wC W) [true,true,true,false,true,true,true,true,true,true,true,true,true,true,true,true,true,true,true,true,true,true] fP fP bW (bR.drew) ?_
     intro wS HS
     iterate 3
      all_goals refine wkR ?_
     all_goals first | refine wkB (yK (HN.out.below ((tQ EB ((tQ hbel (tQ EC HS)))))) (px.below (tQ EC HS))) (fun wS1 HS=>?_) | refine wkR ?_
     all_goals (have hg4:=True.intro;first|(refine wkG (fun b hg4=>?_);cases b;all_goals first | exact Bool.noConfusion hg4 | simp only [zU,zV] at hg4 | skip) | refine wkR ?_)
     all_goals refine wkP ?_
     all_goals refine wkR ?_
     all_goals refine wkR ?_
     all_goals (have hg7:=True.intro;first|(refine wkG (fun b hg7=>?_);cases b;all_goals first | exact Bool.noConfusion hg7 | simp only [zU,zV] at hg7 | skip) | refine wkR ?_)
     all_goals refine wkP ?_
     iterate 13
      all_goals refine wkR ?_
     all_goals (have hg21:=True.intro;first|(refine wkG (fun b hg21=>?_);cases b;all_goals first | exact Bool.noConfusion hg21 | simp only [zU,zV] at hg21 | skip) | refine wkR ?_)
     all_goals refine wkP ?_
     all_goals refine kQ ?_
     all_goals have EG:=(tQ hbel (tQ EC HS))
     all_goals first
       | (have HT:=yD (HNO.out hg4);go_wp2;go_roundw;(case rel=>exact ⟨k + 1,(j:Int),by omega,by go_num,rfl,HT,yD (.inr ⟨j,by omega,rfl⟩),EG⟩);(case measure=>simp [intOf];omega))
       | (have HT:=yD ((fun q=>HUP.out q h3) hg4);go_wp2;go_roundw;(case rel=>exact ⟨k + 1,(k:Int),by omega,by go_num,rfl,HT,yD (.inr ⟨k,by omega,rfl⟩),EG⟩);(case measure=>simp [intOf];omega))
   have hd:decide ((y.1.length:Int) < x.1.length)=false:=fF
   have hd2:decide ((x.1.length:Int) > y.1.length)=false:=fF
   have hdn:decide (y.1.length < x.1.length)=false:=fF
   replace K0:=cL hbel K0
   go_upto_region 5 with fail
   generalize hwC:World.alloc wr _=wC
   have EC:Below wr.heap.size wr wC:=dD
   have M0:wC.cell? ⟨wr.heap.size,0,none⟩=some (.slice xa x.1.length xp):=dM
   have M1:wC.cell? ⟨wr.heap.size,1,none⟩=some (.int .i64 x.2.1):=dM
   have M2:wC.cell? ⟨wr.heap.size,2,none⟩=some (.int .i64 x.2.2):=dM
   replace K0:=cL EC K0
   (try replace Ay0:=cL EC Ay0);(try replace Ay1:=cL EC Ay1);(try replace Ay2:=cL EC Ay2);clear hwC
   have FX:=yD (fun (W:World) (hW:Below wC.heap.size wC W)=>cLs5 hW K0 M0 M1 M2 Ay0)
   refine kI (fun W=>Below wC.heap.size wC W) [true,true,true,false,true,true,true,true,true,true,true,true,true,true,true,true,true,true,true,true,true,true] fP fP bW (bR.drew) ?_
   intro wS HS
   iterate 3
    all_goals refine wkR ?_
   all_goals first | refine wkB (yK (HN.out.below ((tQ EB ((tQ hbel (tQ EC HS)))))) (px.below (tQ EC HS))) (fun wS1 HS=>?_) | refine wkR ?_
   all_goals (have hg4:=True.intro;first|(refine wkG (fun b hg4=>?_);cases b;all_goals first | exact Bool.noConfusion hg4 | simp only [zU,zV] at hg4 | skip) | refine wkR ?_)
   all_goals refine wkP ?_
   all_goals refine wkR ?_
   all_goals refine wkR ?_
   all_goals (have hg7:=True.intro;first|(refine wkG (fun b hg7=>?_);cases b;all_goals first | exact Bool.noConfusion hg7 | simp only [zU,zV] at hg7 | skip) | refine wkR ?_)
   all_goals refine wkP ?_
   iterate 13
    all_goals refine wkR ?_
   all_goals (have hg21:=True.intro;first|(refine wkG (fun b hg21=>?_);cases b;all_goals first | exact Bool.noConfusion hg21 | simp only [zU,zV] at hg21 | skip) | refine wkR ?_)
   all_goals refine wkP ?_
   all_goals refine kQ ?_
   all_goals have EG:=(tQ hbel (tQ EC HS))
   all_goals first
     | (have HT:=yD (HNO.out hg4);go_wp2;go_roundw;(case rel=>exact ⟨k + 1,(j:Int),by omega,by go_num,rfl,HT,yD (.inr ⟨j,by omega,rfl⟩),EG⟩);(case measure=>simp [intOf];omega))
     | (have HT:=yD ((fun (_:zD n x.1=true)=>HKEEP.out h3) hg4);go_wp2;go_roundw;(case rel=>exact ⟨k + 1,(j:Int),by omega,by go_num,rfl,HT,yD (.inr ⟨j,by omega,rfl⟩),EG⟩);(case measure=>simp [intOf];omega))
 obtain rfl:k=l.length:=fV
 have EG:=(tQ EB hbel)
 have R0:=cL hbel K1
 have F0:wr.frozen? ⟨w.heap.size + 1,0,none⟩=false:=(hbel.frozen (p:=⟨w.heap.size + 1,0,none⟩) fQ).trans F1
 rcases HR.out with rfl|⟨j,hj,rfl⟩
 · have HT:=yD (m_no HM.out)
   clear rdl
   go_wp2
   refine bodyPost_ret (v:=.tuple #[.agg #[.slice none 0 0],.bool false]) (by simp [results,Tryz.results10,go_sem,R0,F0]) rfl ⟨[.slice none 0 0],by rw [HT.out.1],?_,?_⟩
   · rw [HT.out.2];exact Rep.yt
   exact EG.setCell fZ _
 have hj0:=Int.natCast_nonneg j
 have hj2:=Int.ofNat_lt.2 hj
 have HT:=yD (m_yes hj HM.out)
 obtain ⟨yb,yo,rfl,yc0,yc1,yc2,yr,Ay0,Ay1,Ay2⟩:=Rep.yg rdl.1 hj rfl
 obtain ⟨yv0,yhe,y_0,y_1,y_2,y_3⟩:=kG yr
 simp only [List.cons.injEq,and_true] at yhe
 obtain ⟨rfl,rfl,rfl⟩:=yhe
 obtain ⟨ya,yp,rfl,yl⟩:=Rep.sl y_1
 have py:kV.rd wr _ l[j].1:=⟨y_0,(Rep.yJ HL.out hj).1⟩
 clear yr y_2 y_3 y_1 y_0
 clear rdl
 generalize l[j]=y at *
 go_wp2_with fail
 refine (zg (py.below bB)).mono ?_
 rintro e w2 ⟨cs,rfl,O2,hb2⟩
 obtain ⟨cv,rfl,c_0⟩:=kN O2.raw
 obtain ⟨a2,c2,hv,_⟩:=Rep.yj c_0
 obtain rfl:cv=_:=by simpa using hv
 have HO:Hid (kV.own w2 [.slice a2 y.1.length c2] y.1 (Btw (w.heap.size + 1 + 1) w2.heap.size)):=yD (O2.wide (fun j hj=>⟨by have:=hj.1;have:=hbel.size;omega,hj.2⟩))
 have EF:Below w.heap.size w w2:=EG.trans (Below.mono (Below.trans bB hb2) EG.size)
 replace R0:=cL hb2 R0
 replace F0:w2.frozen? ⟨w.heap.size + 1,0,none⟩=false:=(hb2.frozen (p:=⟨w.heap.size + 1,0,none⟩) (by have:=hbel.size;simp;omega)).trans F0
 clear hv O2 c_0 hb2 EG
 go_wp2
 refine bodyPost_ret (v:=.tuple #[.agg #[.slice a2 y.1.length c2],.bool true]) (by simp [results,Tryz.results10,go_sem,R0,F0]) rfl ⟨[.slice a2 y.1.length c2],by rw [HT.out.1],?_,?_⟩
 · rw [HT.out.2]
   exact (HO.out.setCell bF).wide bG
 exact EF.setCell fZ _
end Go.Proofs.YthpgoddjglnoiaaGreatDoor

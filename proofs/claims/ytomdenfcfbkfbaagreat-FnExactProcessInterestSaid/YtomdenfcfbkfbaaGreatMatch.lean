/-
  The lesser and the greater of two numbers.
  The longest prefix among routes.
-/
import Derived.Test.YtomdenfcfbkfbaaGreatCopyD
set_option linter.unusedVariables false
set_option linter.unusedSimpArgs false
set_option linter.unnecessarySimpa false
set_option maxRecDepth 100000
set_option maxHeartbeats 4000000
namespace Go.Proofs.YtomdenfcfbkfbaaGreat
open Go.RowKit
theorem specMin_c {w:World} {a b:Int}:Calls Tryz.prog 116 #[.int .i64 a,.int .i64 b] w fun e w'=>e=.returned (.int .i64 (min a b))∧w'=w:=by
 go_enter Tryz.func116,Tryz.ntmps116
 by_cases h:b < a
 · have hd:decide (b < a)=true:=qX
   have HT:=yD (show min a b=b by omega)
   go_wp2
   go_ret
   exact ⟨jI HT.out.symm,rfl⟩
 have hd:decide (b < a)=false:=qX
 have HT:=yD (show min a b=a by omega)
 go_wp2
 go_ret
 exact ⟨jI HT.out.symm,rfl⟩
theorem specMax_c {w:World} {a b:Int}:Calls Tryz.prog 224 #[.int .i64 a,.int .i64 b] w fun e w'=>e=.returned (.int .i64 (max a b))∧w'=w:=by
 go_enter Tryz.func224,Tryz.ntmps224
 by_cases h:b > a
 · have hd:decide (b > a)=true:=qX
   have HT:=yD (show max a b=b by omega)
   go_wp2
   go_ret
   exact ⟨jI HT.out.symm,rfl⟩
 have hd:decide (b > a)=false:=qX
 have HT:=yD (show max a b=a by omega)
 go_wp2
 go_ret
 exact ⟨jI HT.out.symm,rfl⟩
def kHa (n p:ky):Bool:=decide ((p.length:Int)≤n.length) && eqN (n.take p.length) p
theorem prefN_no {n p:ky} (h:¬ p.length≤n.length):kHa n p=false:=by unfold kHa;rw [decide_eq_false rJ];rfl
theorem kUs {n p:ky} (h:p.length≤n.length):kHa n p=eqN (n.take p.length) p:=by unfold kHa;rw [decide_eq_true rJ];rfl
theorem clip {n:ky} (k:Int):∃ m:Nat,max 0 (min k n.length)=(m:Int)∧m≤n.length∧n.take k.toNat=n.take m:=by
 refine ⟨(max 0 (min k n.length)).toNat,by omega,by omega,?_⟩
 by_cases h:k.toNat≤n.length
 · congr 1;omega
 rw [List.take_of_length_le rJ,List.take_of_length_le rJ]
def mB (n:ky) (l:List jD):Nat→Int
  | 0=>-1
  | k + 1=>if kHa n (l.getD k ([],0,0)).1=true∧(mB n l k < 0∨(l.getD (mB n l k).toNat ([],0,0)).1.length < (l.getD k ([],0,0)).1.length) then k else mB n l k
theorem mB_no {n:ky} {l:List jD} {k:Nat} (hk:k < l.length) (h:kHa n l[k].1=false):mB n l (k + 1)=mB n l k:=by
 conv=>lhs;unfold mB
 rw [zL hk,if_neg (by simp [h])]
theorem mB_new {n:ky} {l:List jD} {k:Nat} (hk:k < l.length) (h:kHa n l[k].1=true) (h2:mB n l k=-1):mB n l (k + 1)=k:=by
 conv=>lhs;unfold mB
 rw [zL hk,if_pos ⟨h,.inl rJ⟩]
theorem mB_up {n:ky} {l:List jD} {k j:Nat} (hk:k < l.length) (h:kHa n l[k].1=true) (hj:j < l.length) (h2:mB n l k=j) (h3:l[j].1.length < l[k].1.length):mB n l (k + 1)=k:=by
 conv=>lhs;unfold mB
 rw [zL hk,h2,Int.toNat_natCast,zL hj,if_pos ⟨h,.inr h3⟩]
theorem mB_keep {n:ky} {l:List jD} {k j:Nat} (hk:k < l.length) (hj:j < l.length) (h2:mB n l k=j) (h3:¬ l[j].1.length < l[k].1.length):mB n l (k + 1)=j:=by
 conv=>lhs;unfold mB
 rw [zL hk,h2,Int.toNat_natCast,zL hj,if_neg (fun q=>by rcases q.2 with h | h;omega;exact h3 h)]
def mOk (n:ky) (l:List jD):Bool:=!decide (mB n l l.length < 0)
def kCk (n:ky) (l:List jD):ky:=if mB n l l.length < 0 then [] else (l.getD (mB n l l.length).toNat ([],0,0)).1
theorem m_no {n:ky} {l:List jD} (h:mB n l l.length=-1):mOk n l=false∧kCk n l=[]:=by simp [mOk,kCk,h]
theorem m_yes {n:ky} {l:List jD} {j:Nat} (hj:j < l.length) (h:mB n l l.length=j):mOk n l=true∧kCk n l=l[j].1:=by
 unfold mOk kCk
 rw [h,Int.toNat_natCast,zL hj,if_neg rJ,decide_eq_false rJ]
 exact ⟨rfl,rfl⟩
theorem kRa {w:World} {ca:List Value} {x:ky} {k:Int} (ha:kZ.rd w ca x):Calls Tryz.prog 184 #[.agg ca.toArray,.int .i64 k] w (yK kZ (x.take k.toNat) w):=by
 have HA:=yD ha
 obtain ⟨av,rfl,a_0⟩:=kR ha.1
 obtain ⟨aa,capa,rfl,la⟩:=Rep.sl a_0
 have hcap:=Rep.kEb a_0
 have hb:x.length≤16777216:=ha.2.1
 obtain ⟨m,hm,hmx,htk⟩:=clip (n:=x) k
 have HTK:=yD htk
 clear ha a_0 htk
 go_enter Tryz.func184,Tryz.ntmps184
 go_wp2_with fail
 refine specMin_c.mono ?_
 rintro e w1 ⟨rfl,rfl⟩
 go_wp2_with fail
 refine specMax_c.mono ?_
 rintro e w1 ⟨rfl,rfl⟩
 rw [hm]
 have HS_:=yD (Rep.kLl (e:=9) (r:=Rep.str) HA.out hmx)
 have hl:(x.take m).length=m:=rC
 generalize x.take m=y at *
 subst hl
 have hm1:(y.length:Int)≤capa:=rJ
 have O0:Rep.kQ 9 Rep.str (((w.alloc (.cells #[.slice aa x.length capa] 58)).alloc (.cells #[.slice none 0 0] 58)).alloc (.cells #[] 9)) (.slice (some ⟨w.heap.size + 1 + 1,0,none⟩) 0 0) [] (fun k=>k=w.heap.size + 1 + 1):=by
  have h:=Rep.yS (e:=9) (r:=Rep.str) (w:=(w.alloc (.cells #[.slice aa x.length capa] 58)).alloc (.cells #[.slice none 0 0] 58)) (cs:=[]) (xs:=[]) (T:=fun _=>False) (S:=fun k=>k=w.heap.size + 1 + 1) rM rM rfl (fun _ h=>h.elim) rM
  simpa using h
 go_wp2_with (at_builtin;refine Rep.kAb rfl _ _ 48 rfl (r:=Rep.str) (e:=9) Tryz.underlying48 kNn rfl rG rG Rep.kKs (B:=w.heap.size + 1 + 1) O0 rO rO (HS_.out.below bD) gZ rM rC ?_)
 intro v2 w2 hown hbel hz
 obtain ⟨a2,c2,hv⟩:=hown.zR
 obtain rfl:=hv
 have hw:=hown.own (by simp [Big];omega)
 have HO:Hid (kZ.own w2 [.slice a2 y.length c2] y (Btw (w.heap.size + 1 + 1) w2.heap.size)):=yD hw
 have EG:Below w.heap.size w w2:=Below.trans bD (hbel.mono mH)
 clear hown O0 hw
 have R0:w2.cell? ⟨w.heap.size + 1,0,none⟩=some (.slice none 0 0):=(hbel.cell (p:=⟨w.heap.size + 1,0,none⟩) rM).trans qY
 have F0:w2.frozen? ⟨w.heap.size + 1,0,none⟩=false:=(hbel.frozen (p:=⟨w.heap.size + 1,0,none⟩) rM).trans qY
 clear hbel
 go_wp2
 refine bodyPost_ret (v:=.agg #[.slice a2 y.length c2]) (by simp [results,Tryz.results184,go_sem,R0,F0]) rfl ⟨[_],rfl,?_,?_⟩
 · rw [HTK.out]
   exact (HO.out.setCell cZ).wide dB
 exact EG.setCell rM _
theorem kDn {w:World} {ca cb:List Value} {a b:ky} (ha:kZ.rd w ca a) (hb:kZ.rd w cb b) :
    Calls Tryz.prog 111 #[.agg ca.toArray,.agg cb.toArray] w fun e w'=>e=.returned (.bool (kHa a b))∧Below w.heap.size w w':=by
 have HA:=yD ha
 have HB:=yD hb
 obtain ⟨av,rfl,a_0⟩:=kR ha.1
 obtain ⟨bv,rfl,b_0⟩:=kR hb.1
 clear ha hb
 obtain ⟨aa,capa,rfl,la⟩:=Rep.sl a_0
 obtain ⟨ab,capb,rfl,lb⟩:=Rep.sl b_0
 have hcap:=Rep.kEb a_0
 go_enter Tryz.func111,Tryz.ntmps111
 go_wp2_with fail
 generalize hwB:World.alloc (World.alloc w _) _=wB
 have EB:Below w.heap.size w wB:=by rw [← hwB];exact bD
 have K0:wB.cell? ⟨w.heap.size,0,none⟩=some (.slice aa a.length capa):=nJ
 have K1:wB.cell? ⟨w.heap.size + 1,0,none⟩=some (.slice ab b.length capb):=nJ
 clear hwB
 by_cases hc:b.length≤a.length
 · have hd:decide ((b.length:Int)≤a.length)=true:=qL
   have hdn:decide (b.length≤a.length)=true:=qL
   have hci:(b.length:Int)≤a.length:=rJ
   have hc1:(b.length:Int)≤capa:=rJ
   have HT:=yD (kUs hc)
   have FX:=yD (fun (W:World) (hW:Below wB.heap.size wB W)=>kIl hW K0 K1)
   refine zO (fun W=>Below wB.heap.size wB W) [(0,true),(1,true),(2,true),(3,true),(4,true),(5,true),(6,true),(7,true),(8,true),(9,true),(10,true),(11,true),(13,true),(12,false),(14,false),(15,true),(16,true)] rA rA gI (bR.drew) ?_
   intro wS HS
   simp only [jO,List.getElem?_cons_succ,List.getElem?_cons_zero,List.map_cons,List.map_nil]
   iterate 7
    all_goals refine wkR ?_
   all_goals (have hg7:=True.intro;first|(refine wkG (fun b hg7=>?_);cases b;all_goals first | exact Bool.noConfusion hg7 | simp only [zU,zV] at hg7 | skip) | refine wkR ?_)
   all_goals refine wkP ?_
   iterate 5
    all_goals refine wkR ?_
   all_goals first|(refine kL rfl HS ?_)|(refine jE rfl (fun K hK=>?_);go_simp;refine (kRa (HA.out.below (tQ EB HS))).mono ?_;rintro e wT ⟨tc,rfl,OT,hbT⟩;replace HS:=(tQ HS hbT);refine hK _ _ HS ?_;clear hK K hbT)
   all_goals refine wkP ?_
   all_goals first | refine wkB (je OT.raw (HB.out.1.below (tQ EB HS))) (fun wS1 HS=>?_) | refine wkR ?_
   all_goals refine wkR ?_
   all_goals refine wkR ?_
   all_goals refine ko ?_
   have EG:=(tQ EB HS)
   go_wp2
   go_ret
   exact ⟨kP HT.out.symm,EG⟩
 have hd:decide ((b.length:Int)≤a.length)=false:=qL
 have hdn:decide (b.length≤a.length)=false:=qL
 have HT:=yD (prefN_no hc)
 have FX:=yD (fun (W:World) (hW:Below wB.heap.size wB W)=>kIl hW K0 K1)
 refine zO (fun W=>Below wB.heap.size wB W) [(0,true),(1,true),(2,true),(3,true),(4,true),(5,true),(6,true),(7,true),(8,true),(9,true),(10,true),(11,true),(13,true),(12,false),(14,false),(15,true),(16,true)] rA rA gI (bR.drew) ?_
 intro wS HS
 simp only [jO,List.getElem?_cons_succ,List.getElem?_cons_zero,List.map_cons,List.map_nil]
 iterate 7
  all_goals refine wkR ?_
 all_goals (have hg7:=True.intro;first|(refine wkG (fun b hg7=>?_);cases b;all_goals first | exact Bool.noConfusion hg7 | simp only [zU,zV] at hg7 | skip) | refine wkR ?_)
 all_goals refine wkP ?_
 iterate 5
  all_goals refine wkR ?_
 iterate 2
  all_goals first|(refine kL rfl HS ?_)|(fail)
  all_goals refine wkP ?_
 all_goals refine wkR ?_
 all_goals refine wkR ?_
 all_goals refine ko ?_
 have EG:=(tQ EB HS)
 go_wp2
 go_ret
 exact ⟨kP HT.out.symm,EG⟩
theorem kDp {w:World} {ca cb:List Value} {a b:ky} (ha:kZ.rd w ca a) (hb:kZ.rd w cb b) :
    Calls Tryz.prog 135 #[.agg ca.toArray,.agg cb.toArray] w fun e w'=>e=.returned (.bool (kHa a b))∧Below w.heap.size w w':=by
 have HA:=yD ha
 have HB:=yD hb
 obtain ⟨av,rfl,a_0⟩:=kR ha.1
 obtain ⟨bv,rfl,b_0⟩:=kR hb.1
 clear ha hb
 obtain ⟨aa,capa,rfl,la⟩:=Rep.sl a_0
 obtain ⟨ab,capb,rfl,lb⟩:=Rep.sl b_0
 have hcap:=Rep.kEb a_0
 go_enter Tryz.func135,Tryz.ntmps135
 go_wp2_with fail
 generalize hwB:World.alloc (World.alloc w _) _=wB
 have EB:Below w.heap.size w wB:=by rw [← hwB];exact bD
 have K0:wB.cell? ⟨w.heap.size,0,none⟩=some (.slice aa a.length capa):=nJ
 have K1:wB.cell? ⟨w.heap.size + 1,0,none⟩=some (.slice ab b.length capb):=nJ
 clear hwB
 by_cases hc:b.length≤a.length
 · have hd:decide ((b.length:Int)≤a.length)=true:=qL
   have hdn:decide (b.length≤a.length)=true:=qL
   have hci:(b.length:Int)≤a.length:=rJ
   have hc1:(b.length:Int)≤capa:=rJ
   have HT:=yD (kUs hc)
   have FX:=yD (fun (W:World) (hW:Below wB.heap.size wB W)=>kIl hW K0 K1)
   refine kV (fun W=>Below wB.heap.size wB W) [true,true,true,true,true,true,true,true,true,true,true,true,true,true,true,true,false,true,true] rA rA gI (bR.drew) ?_
   intro wS HS
   iterate 7
    all_goals refine wkR ?_
   all_goals (have hg7:=True.intro;first|(refine wkG (fun b hg7=>?_);cases b;all_goals first | exact Bool.noConfusion hg7 | simp only [zU,zV] at hg7 | skip) | refine wkR ?_)
   all_goals refine wkP ?_
   iterate 8
    all_goals refine wkR ?_
   all_goals first | refine wkB (kIp (Rep.kQu (e:=9) (r:=Rep.str) (HA.out.1.below (tQ EB HS)) hc) (HB.out.1.below (tQ EB HS))) (fun wS1 HS=>?_) | refine wkR ?_
   all_goals refine wkR ?_
   all_goals refine wkR ?_
   all_goals refine ko ?_
   have EG:=(tQ EB HS)
   go_wp2
   go_ret
   exact ⟨kP HT.out.symm,EG⟩
 have hd:decide ((b.length:Int)≤a.length)=false:=qL
 have hdn:decide (b.length≤a.length)=false:=qL
 have HT:=yD (prefN_no hc)
 have FX:=yD (fun (W:World) (hW:Below wB.heap.size wB W)=>kIl hW K0 K1)
 refine kV (fun W=>Below wB.heap.size wB W) [true,true,true,true,true,true,true,true,true,true,true,true,true,true,true,true,false,true,true] rA rA gI (bR.drew) ?_
 intro wS HS
 iterate 7
  all_goals refine wkR ?_
 all_goals (have hg7:=True.intro;first|(refine wkG (fun b hg7=>?_);cases b;all_goals first | exact Bool.noConfusion hg7 | simp only [zU,zV] at hg7 | skip) | refine wkR ?_)
 all_goals refine wkP ?_
 iterate 8
  all_goals refine wkR ?_
 all_goals first|(refine kL rfl HS ?_)|(fail)
 all_goals refine wkP ?_
 all_goals refine wkR ?_
 all_goals refine wkR ?_
 all_goals refine ko ?_
 have EG:=(tQ EB HS)
 go_wp2
 go_ret
 exact ⟨kP HT.out.symm,EG⟩
theorem kDj {w:World} {vl:Value} {l:List jD} (hl:(Rep.slice 159 kM).rd w [vl] l) {cn:List Value} {n:ky} (hn:kZ.rd w cn n) :
    Calls Tryz.prog 31 #[vl,.agg cn.toArray] w fun e w'=>∃ cs,e=.returned (.tuple #[.agg cs.toArray,.bool (mOk n l)])∧kZ.own w' cs (kCk n l) (Btw w.heap.size w'.heap.size)∧Below w.heap.size w w':=by
 have HN:=yD hn
 have HL:=yD hl
 obtain ⟨av,rfl,n_0⟩:=kR hn.1
 obtain ⟨an,capn,rfl,ln⟩:=Rep.sl n_0
 obtain ⟨aa,capa,rfl,la⟩:=Rep.sl hl.1
 clear hn hl n_0
 go_enter Tryz.func31,Tryz.ntmps31
 go_wp2
 generalize hwB:World.alloc (World.alloc w _) _=wB
 have EB:Below w.heap.size w wB:=by rw [← hwB];exact bD
 have hsz:wB.heap.size=w.heap.size + 2:=qF
 have K0:wB.cell? ⟨w.heap.size,0,none⟩=some (.slice an n.length capn):=nJ
 have K1:wB.cell? ⟨w.heap.size + 1,0,none⟩=some (.slice none 0 0):=nJ
 have F1:wB.frozen? ⟨w.heap.size + 1,0,none⟩=false:=nJ
 clear hwB
 go_loopw [6,7] (fun b i wr=>∃ (k:Nat) (m:Int),k≤l.length∧i=.int .i64 k∧b=.int .i64 m∧Hid (mB n l k=m)∧Hid (m=-1∨∃ j:Nat,j < k∧m=j)∧Below wB.heap.size wB wr) (fun _ i _=>l.length - (intOf i).toNat)
 case atStart=>exact ⟨0,-1,Nat.zero_le _,rfl,rfl,yD rfl,yD (.inl rfl),bR⟩
 obtain ⟨k,m,hk,rfl,rfl,HM,HR,hbel⟩:=hrel
 have rdl:=Rep.rd.below HL.out (tQ EB hbel)
 by_cases hlt:k < l.length
 · have hk0:=Int.natCast_nonneg k
   have hk2:=Int.ofNat_lt.2 hlt
   obtain ⟨xb,xo,rfl,xc0,xc1,xc2,xr,Ax0,Ax1,Ax2⟩:=Rep.zT rdl.1 hlt rfl
   obtain ⟨xv0,xhe,x_0,x_1,x_2,x_3⟩:=jK xr
   simp only [List.cons.injEq,and_true] at xhe
   obtain ⟨rfl,rfl,rfl⟩:=xhe
   obtain ⟨xa,xp,rfl,xl⟩:=Rep.sl x_1
   have px:kZ.rd wr _ l[k].1:=⟨x_0,(Rep.jq HL.out hlt).1⟩
   clear xr x_2 x_3 x_1 x_0
   rcases HR.out with rfl|⟨j,hjk,rfl⟩
   · have hno:=fun q=>(mB_no (n:=n) hlt q).trans HM.out
     have hnew:=fun q=>mB_new (n:=n) hlt q HM.out
     clear rdl
     generalize l[k]=x at *
     have HNO:=yD hno;have HNEW:=yD hnew;clear hno hnew
     replace K0:=cL hbel K0
     go_upto_region 5 with fail
     have FX:=yD (fun (W:World) (hW:Below wr.heap.size wr W)=>kDa hW K0 Ax0 Ax1 Ax2)
     refine kV (fun W=>Below wr.heap.size wr W) [true,true,true,true,true,true,false,true,true,true,true,true,true,true,true,true,true,true,true,true,true,true,true,true,true,true,true,true] rA rA gI (bR.drew) ?_
     intro wS HS
     iterate 6
      all_goals refine wkR ?_
     all_goals first | refine wkB (kDn (HN.out.below ((tQ EB (tQ hbel HS)))) (px.below HS)) (fun wS1 HS=>?_) | refine wkR ?_
     all_goals (have hg7:=True.intro;first|(refine wkG (fun b hg7=>?_);cases b;all_goals first | exact Bool.noConfusion hg7 | simp only [zU,zV] at hg7 | skip) | refine wkR ?_)
     all_goals refine wkP ?_
     all_goals refine wkR ?_
     all_goals refine wkR ?_
     all_goals (have hg10:=True.intro;first|(refine wkG (fun b hg10=>?_);cases b;all_goals first | exact Bool.noConfusion hg10 | simp only [zU,zV] at hg10 | skip) | refine wkR ?_)
     all_goals refine wkP ?_
     iterate 16
      all_goals refine wkR ?_
     all_goals (have hg27:=True.intro;first|(refine wkG (fun b hg27=>?_);cases b;all_goals first | exact Bool.noConfusion hg27 | simp only [zU,zV] at hg27 | skip) | refine wkR ?_)
     all_goals refine wkP ?_
     all_goals refine ko ?_
     all_goals have EG:=(tQ hbel HS)
     all_goals first
       | (have HT:=yD (HNO.out hg7);go_wp2;go_roundw;(case rel=>exact ⟨k + 1,-1,by omega,by go_num,rfl,HT,yD (.inl rfl),EG⟩);(case measure=>simp [intOf];omega))
       | (have HT:=yD (HNEW.out hg7);go_wp2;go_roundw;(case rel=>exact ⟨k + 1,(k:Int),by omega,by go_num,rfl,HT,yD (.inr ⟨k,by omega,rfl⟩),EG⟩);(case measure=>simp [intOf];omega))
   have hj:j < l.length:=rJ
   have hj0:=Int.natCast_nonneg j
   have hj2:=Int.ofNat_lt.2 hj
   obtain ⟨yb,yo,yE,yc0,yc1,yc2,yr,Ay0,Ay1,Ay2⟩:=Rep.zT rdl.1 hj rfl
   simp only [Option.some.injEq,Addr.mk.injEq,and_true] at yE
   obtain ⟨rfl,rfl⟩:=yE
   obtain ⟨yv0,yhe,y_0,y_1,y_2,y_3⟩:=jK yr
   simp only [List.cons.injEq,and_true] at yhe
   obtain ⟨rfl,rfl,rfl⟩:=yhe
   obtain ⟨ya,yp,rfl,yl⟩:=Rep.sl y_1
   have py:kZ.rd wr _ l[j].1:=⟨y_0,(Rep.jq HL.out hj).1⟩
   clear yr y_2 y_3 y_1 y_0
   have hno:=fun q=>(mB_no (n:=n) hlt q).trans HM.out
   have hup:=fun q q2=>mB_up (n:=n) hlt q hj HM.out q2
   have hkeep:=fun q2=>mB_keep (n:=n) hlt hj HM.out q2
   clear rdl py
   generalize l[k]=x at *
   generalize l[j]=y at *
   have HNO:=yD hno;have HUP:=yD hup;have HKEEP:=yD hkeep;clear hno hup hkeep
   by_cases h3:y.1.length < x.1.length
   · have hd:decide ((y.1.length:Int) < x.1.length)=true:=qJ
     have hd2:decide ((x.1.length:Int) > y.1.length)=true:=qJ
     have hdn:decide (y.1.length < x.1.length)=true:=qJ
     replace K0:=cL hbel K0
     go_upto_region 5 with fail
     have FX:=yD (fun (W:World) (hW:Below wr.heap.size wr W)=>cLs5 hW K0 Ax0 Ax1 Ax2 Ay0)
     refine kV (fun W=>Below wr.heap.size wr W) [true,true,true,true,true,true,false,true,true,true,true,true,true,true,true,true,true,true,true,true,true,true,true,true,true,true,true,true] rA rA gI (bR.drew) ?_
     intro wS HS
     iterate 6
      all_goals refine wkR ?_
     all_goals first | refine wkB (kDn (HN.out.below ((tQ EB (tQ hbel HS)))) (px.below HS)) (fun wS1 HS=>?_) | refine wkR ?_
     all_goals (have hg7:=True.intro;first|(refine wkG (fun b hg7=>?_);cases b;all_goals first | exact Bool.noConfusion hg7 | simp only [zU,zV] at hg7 | skip) | refine wkR ?_)
     all_goals refine wkP ?_
     all_goals refine wkR ?_
     all_goals refine wkR ?_
     all_goals (have hg10:=True.intro;first|(refine wkG (fun b hg10=>?_);cases b;all_goals first | exact Bool.noConfusion hg10 | simp only [zU,zV] at hg10 | skip) | refine wkR ?_)
     all_goals refine wkP ?_
     iterate 16
      all_goals refine wkR ?_
     all_goals (have hg27:=True.intro;first|(refine wkG (fun b hg27=>?_);cases b;all_goals first | exact Bool.noConfusion hg27 | simp only [zU,zV] at hg27 | skip) | refine wkR ?_)
     all_goals refine wkP ?_
     all_goals refine ko ?_
     all_goals have EG:=(tQ hbel HS)
     all_goals first
       | (have HT:=yD (HNO.out hg7);go_wp2;go_roundw;(case rel=>exact ⟨k + 1,(j:Int),by omega,by go_num,rfl,HT,yD (.inr ⟨j,by omega,rfl⟩),EG⟩);(case measure=>simp [intOf];omega))
       | (have HT:=yD ((fun q=>HUP.out q h3) hg7);go_wp2;go_roundw;(case rel=>exact ⟨k + 1,(k:Int),by omega,by go_num,rfl,HT,yD (.inr ⟨k,by omega,rfl⟩),EG⟩);(case measure=>simp [intOf];omega))
   have hd:decide ((y.1.length:Int) < x.1.length)=false:=qJ
   have hd2:decide ((x.1.length:Int) > y.1.length)=false:=qJ
   have hdn:decide (y.1.length < x.1.length)=false:=qJ
   replace K0:=cL hbel K0
   go_upto_region 5 with fail
   have FX:=yD (fun (W:World) (hW:Below wr.heap.size wr W)=>cLs5 hW K0 Ax0 Ax1 Ax2 Ay0)
   refine kV (fun W=>Below wr.heap.size wr W) [true,true,true,true,true,true,false,true,true,true,true,true,true,true,true,true,true,true,true,true,true,true,true,true,true,true,true,true] rA rA gI (bR.drew) ?_
   intro wS HS
   iterate 6
    all_goals refine wkR ?_
   all_goals first | refine wkB (kDn (HN.out.below ((tQ EB (tQ hbel HS)))) (px.below HS)) (fun wS1 HS=>?_) | refine wkR ?_
   all_goals (have hg7:=True.intro;first|(refine wkG (fun b hg7=>?_);cases b;all_goals first | exact Bool.noConfusion hg7 | simp only [zU,zV] at hg7 | skip) | refine wkR ?_)
   all_goals refine wkP ?_
   all_goals refine wkR ?_
   all_goals refine wkR ?_
   all_goals (have hg10:=True.intro;first|(refine wkG (fun b hg10=>?_);cases b;all_goals first | exact Bool.noConfusion hg10 | simp only [zU,zV] at hg10 | skip) | refine wkR ?_)
   all_goals refine wkP ?_
   iterate 16
    all_goals refine wkR ?_
   all_goals (have hg27:=True.intro;first|(refine wkG (fun b hg27=>?_);cases b;all_goals first | exact Bool.noConfusion hg27 | simp only [zU,zV] at hg27 | skip) | refine wkR ?_)
   all_goals refine wkP ?_
   all_goals refine ko ?_
   all_goals have EG:=(tQ hbel HS)
   all_goals first
     | (have HT:=yD (HNO.out hg7);go_wp2;go_roundw;(case rel=>exact ⟨k + 1,(j:Int),by omega,by go_num,rfl,HT,yD (.inr ⟨j,by omega,rfl⟩),EG⟩);(case measure=>simp [intOf];omega))
     | (have HT:=yD ((fun (_:kHa n x.1=true)=>HKEEP.out h3) hg7);go_wp2;go_roundw;(case rel=>exact ⟨k + 1,(j:Int),by omega,by go_num,rfl,HT,yD (.inr ⟨j,by omega,rfl⟩),EG⟩);(case measure=>simp [intOf];omega))
 obtain rfl:k=l.length:=rJ
 have EG:=(tQ EB hbel)
 have R0:=cL hbel K1
 have F0:wr.frozen? ⟨w.heap.size + 1,0,none⟩=false:=(hbel.frozen (p:=⟨w.heap.size + 1,0,none⟩) rC).trans F1
 rcases HR.out with rfl|⟨j,hj,rfl⟩
 · have HT:=yD (m_no HM.out)
   clear rdl
   go_wp2
   refine bodyPost_ret (v:=.tuple #[.agg #[.slice none 0 0],.bool false]) (by simp [results,Tryz.results31,go_sem,R0,F0]) rfl ⟨[.slice none 0 0],by rw [HT.out.1],?_,?_⟩
   · rw [HT.out.2];exact Rep.kAs
   exact EG.setCell rM _
 have hj0:=Int.natCast_nonneg j
 have hj2:=Int.ofNat_lt.2 hj
 have HT:=yD (m_yes hj HM.out)
 obtain ⟨yb,yo,rfl,yc0,yc1,yc2,yr,Ay0,Ay1,Ay2⟩:=Rep.zT rdl.1 hj rfl
 obtain ⟨yv0,yhe,y_0,y_1,y_2,y_3⟩:=jK yr
 simp only [List.cons.injEq,and_true] at yhe
 obtain ⟨rfl,rfl,rfl⟩:=yhe
 obtain ⟨ya,yp,rfl,yl⟩:=Rep.sl y_1
 have py:kZ.rd wr _ l[j].1:=⟨y_0,(Rep.jq HL.out hj).1⟩
 clear yr y_2 y_3 y_1 y_0
 clear rdl
 generalize l[j]=y at *
 go_wp2_with fail
 refine (zX (py.below bD)).mono ?_
 rintro e w2 ⟨cs,rfl,O2,hb2⟩
 obtain ⟨cv,rfl,c_0⟩:=kR O2.raw
 obtain ⟨a2,c2,hv,_⟩:=Rep.kMb c_0
 obtain rfl:cv=_:=by simpa using hv
 have HO:Hid (kZ.own w2 [.slice a2 y.1.length c2] y.1 (Btw (w.heap.size + 1 + 1) w2.heap.size)):=yD (O2.wide (fun j hj=>⟨by have:=hj.1;have:=hbel.size;omega,hj.2⟩))
 have EF:Below w.heap.size w w2:=EG.trans (Below.mono (Below.trans bD hb2) EG.size)
 replace R0:=cL hb2 R0
 replace F0:w2.frozen? ⟨w.heap.size + 1,0,none⟩=false:=(hb2.frozen (p:=⟨w.heap.size + 1,0,none⟩) (by have:=hbel.size;simp;omega)).trans F0
 clear hv O2 c_0 hb2 EG
 go_wp2
 refine bodyPost_ret (v:=.tuple #[.agg #[.slice a2 y.1.length c2],.bool true]) (by simp [results,Tryz.results31,go_sem,R0,F0]) rfl ⟨[.slice a2 y.1.length c2],by rw [HT.out.1],?_,?_⟩
 · rw [HT.out.2]
   exact (HO.out.setCell cZ).wide dB
 exact EF.setCell rM _
theorem kDm {w:World} {vl:Value} {l:List jD} (hl:(Rep.slice 159 kM).rd w [vl] l) {cn:List Value} {n:ky} (hn:kZ.rd w cn n) :
    Calls Tryz.prog 45 #[vl,.agg cn.toArray] w fun e w'=>∃ cs,e=.returned (.tuple #[.agg cs.toArray,.bool (mOk n l)])∧kZ.own w' cs (kCk n l) (Btw w.heap.size w'.heap.size)∧Below w.heap.size w w':=by
 have HN:=yD hn
 have HL:=yD hl
 obtain ⟨av,rfl,n_0⟩:=kR hn.1
 obtain ⟨an,capn,rfl,ln⟩:=Rep.sl n_0
 obtain ⟨aa,capa,rfl,la⟩:=Rep.sl hl.1
 clear hn hl n_0
 go_enter Tryz.func45,Tryz.ntmps45
 go_wp2
 generalize hwB:World.alloc (World.alloc w _) _=wB
 have EB:Below w.heap.size w wB:=by rw [← hwB];exact bD
 have hsz:wB.heap.size=w.heap.size + 2:=qF
 have K0:wB.cell? ⟨w.heap.size,0,none⟩=some (.slice an n.length capn):=nJ
 have K1:wB.cell? ⟨w.heap.size + 1,0,none⟩=some (.slice none 0 0):=nJ
 have F1:wB.frozen? ⟨w.heap.size + 1,0,none⟩=false:=nJ
 clear hwB
 go_loopw [6,11] (fun b i wr=>∃ (k:Nat) (m:Int),k≤l.length∧i=.int .i64 k∧b=.int .i64 m∧Hid (mB n l k=m)∧Hid (m=-1∨∃ j:Nat,j < k∧m=j)∧Below wB.heap.size wB wr) (fun _ i _=>l.length - (intOf i).toNat)
 case atStart=>exact ⟨0,-1,Nat.zero_le _,rfl,rfl,yD rfl,yD (.inl rfl),bR⟩
 obtain ⟨k,m,hk,rfl,rfl,HM,HR,hbel⟩:=hrel
 have rdl:=Rep.rd.below HL.out (tQ EB hbel)
 by_cases hlt:k < l.length
 · have hk0:=Int.natCast_nonneg k
   have hk2:=Int.ofNat_lt.2 hlt
   obtain ⟨xb,xo,rfl,xc0,xc1,xc2,xr,Ax0,Ax1,Ax2⟩:=Rep.zT rdl.1 hlt rfl
   obtain ⟨xv0,xhe,x_0,x_1,x_2,x_3⟩:=jK xr
   simp only [List.cons.injEq,and_true] at xhe
   obtain ⟨rfl,rfl,rfl⟩:=xhe
   obtain ⟨xa,xp,rfl,xl⟩:=Rep.sl x_1
   have px:kZ.rd wr _ l[k].1:=⟨x_0,(Rep.jq HL.out hlt).1⟩
   clear xr x_2 x_3 x_1 x_0
   rcases HR.out with rfl|⟨j,hjk,rfl⟩
   · have hno:=fun q=>(mB_no (n:=n) hlt q).trans HM.out
     have hnew:=fun q=>mB_new (n:=n) hlt q HM.out
     clear rdl
     generalize l[k]=x at *
     have HNO:=yD hno;have HNEW:=yD hnew;clear hno hnew
     replace K0:=cL hbel K0
     go_upto_region 5 with fail
     generalize hwC:World.alloc wr _=wC
     have EC:Below wr.heap.size wr wC:=mE
     have M0:wC.cell? ⟨wr.heap.size,0,none⟩=some (.slice xa x.1.length xp):=nK
     have M1:wC.cell? ⟨wr.heap.size,1,none⟩=some (.int .i64 x.2.1):=nK
     have M2:wC.cell? ⟨wr.heap.size,2,none⟩=some (.int .i64 x.2.2):=nK
     replace K0:=cL EC K0
     (try replace Ay0:=cL EC Ay0);(try replace Ay1:=cL EC Ay1);(try replace Ay2:=cL EC Ay2);clear hwC
     have FX:=yD (fun (W:World) (hW:Below wC.heap.size wC W)=>kDa hW K0 M0 M1 M2)
     refine kV (fun W=>Below wC.heap.size wC W) [true,true,true,false,true,true,true,true,true,true,true,true,true,true,true,true,true,true,true,true,true,true] rA rA gI (bR.drew) ?_
     intro wS HS
     iterate 3
      all_goals refine wkR ?_
     all_goals first | refine wkB (kDp (HN.out.below ((tQ EB ((tQ hbel (tQ EC HS)))))) (px.below (tQ EC HS))) (fun wS1 HS=>?_) | refine wkR ?_
     all_goals (have hg4:=True.intro;first|(refine wkG (fun b hg4=>?_);cases b;all_goals first | exact Bool.noConfusion hg4 | simp only [zU,zV] at hg4 | skip) | refine wkR ?_)
     all_goals refine wkP ?_
     all_goals refine wkR ?_
     all_goals refine wkR ?_
     all_goals (have hg7:=True.intro;first|(refine wkG (fun b hg7=>?_);cases b;all_goals first | exact Bool.noConfusion hg7 | simp only [zU,zV] at hg7 | skip) | refine wkR ?_)
     all_goals refine wkP ?_
     iterate 13
      all_goals refine wkR ?_
     all_goals (have hg21:=True.intro;first|(refine wkG (fun b hg21=>?_);cases b;all_goals first | exact Bool.noConfusion hg21 | simp only [zU,zV] at hg21 | skip) | refine wkR ?_)
     all_goals refine wkP ?_
     all_goals refine ko ?_
     all_goals have EG:=(tQ hbel (tQ EC HS))
     all_goals first
       | (have HT:=yD (HNO.out hg4);go_wp2;go_roundw;(case rel=>exact ⟨k + 1,-1,by omega,by go_num,rfl,HT,yD (.inl rfl),EG⟩);(case measure=>simp [intOf];omega))
       | (have HT:=yD (HNEW.out hg4);go_wp2;go_roundw;(case rel=>exact ⟨k + 1,(k:Int),by omega,by go_num,rfl,HT,yD (.inr ⟨k,by omega,rfl⟩),EG⟩);(case measure=>simp [intOf];omega))
   have hj:j < l.length:=rJ
   have hj0:=Int.natCast_nonneg j
   have hj2:=Int.ofNat_lt.2 hj
   obtain ⟨yb,yo,yE,yc0,yc1,yc2,yr,Ay0,Ay1,Ay2⟩:=Rep.zT rdl.1 hj rfl
   simp only [Option.some.injEq,Addr.mk.injEq,and_true] at yE
   obtain ⟨rfl,rfl⟩:=yE
   obtain ⟨yv0,yhe,y_0,y_1,y_2,y_3⟩:=jK yr
   simp only [List.cons.injEq,and_true] at yhe
   obtain ⟨rfl,rfl,rfl⟩:=yhe
   obtain ⟨ya,yp,rfl,yl⟩:=Rep.sl y_1
   have py:kZ.rd wr _ l[j].1:=⟨y_0,(Rep.jq HL.out hj).1⟩
   clear yr y_2 y_3 y_1 y_0
   have hno:=fun q=>(mB_no (n:=n) hlt q).trans HM.out
   have hup:=fun q q2=>mB_up (n:=n) hlt q hj HM.out q2
   have hkeep:=fun q2=>mB_keep (n:=n) hlt hj HM.out q2
   clear rdl py
   generalize l[k]=x at *
   generalize l[j]=y at *
   have HNO:=yD hno;have HUP:=yD hup;have HKEEP:=yD hkeep;clear hno hup hkeep
   by_cases h3:y.1.length < x.1.length
   · have hd:decide ((y.1.length:Int) < x.1.length)=true:=qJ
     have hd2:decide ((x.1.length:Int) > y.1.length)=true:=qJ
     have hdn:decide (y.1.length < x.1.length)=true:=qJ
     replace K0:=cL hbel K0
     go_upto_region 5 with fail
     generalize hwC:World.alloc wr _=wC
     have EC:Below wr.heap.size wr wC:=mE
     have M0:wC.cell? ⟨wr.heap.size,0,none⟩=some (.slice xa x.1.length xp):=nK
     have M1:wC.cell? ⟨wr.heap.size,1,none⟩=some (.int .i64 x.2.1):=nK
     have M2:wC.cell? ⟨wr.heap.size,2,none⟩=some (.int .i64 x.2.2):=nK
     replace K0:=cL EC K0
     (try replace Ay0:=cL EC Ay0);(try replace Ay1:=cL EC Ay1);(try replace Ay2:=cL EC Ay2);clear hwC
     have FX:=yD (fun (W:World) (hW:Below wC.heap.size wC W)=>cLs5 hW K0 M0 M1 M2 Ay0)
     refine kV (fun W=>Below wC.heap.size wC W) [true,true,true,false,true,true,true,true,true,true,true,true,true,true,true,true,true,true,true,true,true,true] rA rA gI (bR.drew) ?_
     intro wS HS
     iterate 3
      all_goals refine wkR ?_
     all_goals first | refine wkB (kDp (HN.out.below ((tQ EB ((tQ hbel (tQ EC HS)))))) (px.below (tQ EC HS))) (fun wS1 HS=>?_) | refine wkR ?_
     all_goals (have hg4:=True.intro;first|(refine wkG (fun b hg4=>?_);cases b;all_goals first | exact Bool.noConfusion hg4 | simp only [zU,zV] at hg4 | skip) | refine wkR ?_)
     all_goals refine wkP ?_
     all_goals refine wkR ?_
     all_goals refine wkR ?_
     all_goals (have hg7:=True.intro;first|(refine wkG (fun b hg7=>?_);cases b;all_goals first | exact Bool.noConfusion hg7 | simp only [zU,zV] at hg7 | skip) | refine wkR ?_)
     all_goals refine wkP ?_
     iterate 13
      all_goals refine wkR ?_
     all_goals (have hg21:=True.intro;first|(refine wkG (fun b hg21=>?_);cases b;all_goals first | exact Bool.noConfusion hg21 | simp only [zU,zV] at hg21 | skip) | refine wkR ?_)
     all_goals refine wkP ?_
     all_goals refine ko ?_
     all_goals have EG:=(tQ hbel (tQ EC HS))
     all_goals first
       | (have HT:=yD (HNO.out hg4);go_wp2;go_roundw;(case rel=>exact ⟨k + 1,(j:Int),by omega,by go_num,rfl,HT,yD (.inr ⟨j,by omega,rfl⟩),EG⟩);(case measure=>simp [intOf];omega))
       | (have HT:=yD ((fun q=>HUP.out q h3) hg4);go_wp2;go_roundw;(case rel=>exact ⟨k + 1,(k:Int),by omega,by go_num,rfl,HT,yD (.inr ⟨k,by omega,rfl⟩),EG⟩);(case measure=>simp [intOf];omega))
   have hd:decide ((y.1.length:Int) < x.1.length)=false:=qJ
   have hd2:decide ((x.1.length:Int) > y.1.length)=false:=qJ
   have hdn:decide (y.1.length < x.1.length)=false:=qJ
   replace K0:=cL hbel K0
   go_upto_region 5 with fail
   generalize hwC:World.alloc wr _=wC
   have EC:Below wr.heap.size wr wC:=mE
   have M0:wC.cell? ⟨wr.heap.size,0,none⟩=some (.slice xa x.1.length xp):=nK
   have M1:wC.cell? ⟨wr.heap.size,1,none⟩=some (.int .i64 x.2.1):=nK
   have M2:wC.cell? ⟨wr.heap.size,2,none⟩=some (.int .i64 x.2.2):=nK
   replace K0:=cL EC K0
   (try replace Ay0:=cL EC Ay0);(try replace Ay1:=cL EC Ay1);(try replace Ay2:=cL EC Ay2);clear hwC
   have FX:=yD (fun (W:World) (hW:Below wC.heap.size wC W)=>cLs5 hW K0 M0 M1 M2 Ay0)
   refine kV (fun W=>Below wC.heap.size wC W) [true,true,true,false,true,true,true,true,true,true,true,true,true,true,true,true,true,true,true,true,true,true] rA rA gI (bR.drew) ?_
   intro wS HS
   iterate 3
    all_goals refine wkR ?_
   all_goals first | refine wkB (kDp (HN.out.below ((tQ EB ((tQ hbel (tQ EC HS)))))) (px.below (tQ EC HS))) (fun wS1 HS=>?_) | refine wkR ?_
   all_goals (have hg4:=True.intro;first|(refine wkG (fun b hg4=>?_);cases b;all_goals first | exact Bool.noConfusion hg4 | simp only [zU,zV] at hg4 | skip) | refine wkR ?_)
   all_goals refine wkP ?_
   all_goals refine wkR ?_
   all_goals refine wkR ?_
   all_goals (have hg7:=True.intro;first|(refine wkG (fun b hg7=>?_);cases b;all_goals first | exact Bool.noConfusion hg7 | simp only [zU,zV] at hg7 | skip) | refine wkR ?_)
   all_goals refine wkP ?_
   iterate 13
    all_goals refine wkR ?_
   all_goals (have hg21:=True.intro;first|(refine wkG (fun b hg21=>?_);cases b;all_goals first | exact Bool.noConfusion hg21 | simp only [zU,zV] at hg21 | skip) | refine wkR ?_)
   all_goals refine wkP ?_
   all_goals refine ko ?_
   all_goals have EG:=(tQ hbel (tQ EC HS))
   all_goals first
     | (have HT:=yD (HNO.out hg4);go_wp2;go_roundw;(case rel=>exact ⟨k + 1,(j:Int),by omega,by go_num,rfl,HT,yD (.inr ⟨j,by omega,rfl⟩),EG⟩);(case measure=>simp [intOf];omega))
     | (have HT:=yD ((fun (_:kHa n x.1=true)=>HKEEP.out h3) hg4);go_wp2;go_roundw;(case rel=>exact ⟨k + 1,(j:Int),by omega,by go_num,rfl,HT,yD (.inr ⟨j,by omega,rfl⟩),EG⟩);(case measure=>simp [intOf];omega))
 obtain rfl:k=l.length:=rJ
 have EG:=(tQ EB hbel)
 have R0:=cL hbel K1
 have F0:wr.frozen? ⟨w.heap.size + 1,0,none⟩=false:=(hbel.frozen (p:=⟨w.heap.size + 1,0,none⟩) rC).trans F1
 rcases HR.out with rfl|⟨j,hj,rfl⟩
 · have HT:=yD (m_no HM.out)
   clear rdl
   go_wp2
   refine bodyPost_ret (v:=.tuple #[.agg #[.slice none 0 0],.bool false]) (by simp [results,Tryz.results45,go_sem,R0,F0]) rfl ⟨[.slice none 0 0],by rw [HT.out.1],?_,?_⟩
   · rw [HT.out.2];exact Rep.kAs
   exact EG.setCell rM _
 have hj0:=Int.natCast_nonneg j
 have hj2:=Int.ofNat_lt.2 hj
 have HT:=yD (m_yes hj HM.out)
 obtain ⟨yb,yo,rfl,yc0,yc1,yc2,yr,Ay0,Ay1,Ay2⟩:=Rep.zT rdl.1 hj rfl
 obtain ⟨yv0,yhe,y_0,y_1,y_2,y_3⟩:=jK yr
 simp only [List.cons.injEq,and_true] at yhe
 obtain ⟨rfl,rfl,rfl⟩:=yhe
 obtain ⟨ya,yp,rfl,yl⟩:=Rep.sl y_1
 have py:kZ.rd wr _ l[j].1:=⟨y_0,(Rep.jq HL.out hj).1⟩
 clear yr y_2 y_3 y_1 y_0
 clear rdl
 generalize l[j]=y at *
 go_wp2_with fail
 refine (yI (py.below bD)).mono ?_
 rintro e w2 ⟨cs,rfl,O2,hb2⟩
 obtain ⟨cv,rfl,c_0⟩:=kR O2.raw
 obtain ⟨a2,c2,hv,_⟩:=Rep.kMb c_0
 obtain rfl:cv=_:=by simpa using hv
 have HO:Hid (kZ.own w2 [.slice a2 y.1.length c2] y.1 (Btw (w.heap.size + 1 + 1) w2.heap.size)):=yD (O2.wide (fun j hj=>⟨by have:=hj.1;have:=hbel.size;omega,hj.2⟩))
 have EF:Below w.heap.size w w2:=EG.trans (Below.mono (Below.trans bD hb2) EG.size)
 replace R0:=cL hb2 R0
 replace F0:w2.frozen? ⟨w.heap.size + 1,0,none⟩=false:=(hb2.frozen (p:=⟨w.heap.size + 1,0,none⟩) (by have:=hbel.size;simp;omega)).trans F0
 clear hv O2 c_0 hb2 EG
 go_wp2
 refine bodyPost_ret (v:=.tuple #[.agg #[.slice a2 y.1.length c2],.bool true]) (by simp [results,Tryz.results45,go_sem,R0,F0]) rfl ⟨[.slice a2 y.1.length c2],by rw [HT.out.1],?_,?_⟩
 · rw [HT.out.2]
   exact (HO.out.setCell cZ).wide dB
 exact EF.setCell rM _
end Go.Proofs.YtomdenfcfbkfbaaGreat

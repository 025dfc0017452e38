/-
  Chains of trust; whether data are awaited and trusted.
  What data brings about: the answer.
-/
import Derived.Test.YtlfblpgkegeaeaaGreatHasP
import Derived.Test.YtlfblpgkegeaeaaGreatCacheD
import Derived.Test.YtlfblpgkegeaeaaGreatMatch
set_option linter.unusedVariables false
set_option linter.unusedSimpArgs false
set_option linter.unnecessarySimpa false
set_option maxRecDepth 100000
set_option maxHeartbeats 4000000
namespace Go.Proofs.YtlfblpgkegeaeaaGreat
open Go.RowKit
def jw (t:kz) (now:Int):Nat→jJ→Bool
  | 0,_=>false
  | f + 1,x=>if (verS t.1 x && zi t.2.1 x.1 x.2.2.1)=true then (if kLz t x.2.2.1=true then true else if kAz t x.2.2.1 now < 0 then false else jw t now f (t.2.2.2.getD (kAz t x.2.2.1 now).toNat voidD)) else false
def trusted (t:kz) (x:jJ) (now:Int):Bool:=kCi x && jw t now 4 x
def hasP (l:List kS) (n:kW):Bool:=decide (0≤idxOf (yw n) l)
def zk (x:kAf) (t:kz) (y:jJ) (now:Int):Bool:=hasP x.2.2.1 y.1 && trusted t y now
def slen:Value→Nat
  | .slice _ n _=>n
  | _=>0
section
variable {t:kz} {now:Int} {f:Nat} {x:jJ}
theorem ch_ver (h:verS t.1 x=false):jw t now (f + 1) x=false:=by unfold jw;rw [h];rfl
theorem ch_all (h:zi t.2.1 x.1 x.2.2.1=false):jw t now (f + 1) x=false:=by unfold jw;rw [h,Bool.and_false];rfl
theorem ch_anc (h:verS t.1 x=true) (h2:zi t.2.1 x.1 x.2.2.1=true) (h3:kLz t x.2.2.1=true):jw t now (f + 1) x=true:=by unfold jw;rw [h,h2,h3];rfl
theorem ch_none (h3:kLz t x.2.2.1=false) (h4:kAz t x.2.2.1 now < 0):jw t now (f + 1) x=false:=by
 unfold jw
 rw [h3,if_pos h4]
 split <;> rfl
theorem ch_next (h:verS t.1 x=true) (h2:zi t.2.1 x.1 x.2.2.1=true) (h3:kLz t x.2.2.1=false) {j:Nat} (hj:j < t.2.2.2.length) (h4:kAz t x.2.2.1 now=j):jw t now (f + 1) x=jw t now f t.2.2.2[j]:=by
 show (if (verS t.1 x && zi t.2.1 x.1 x.2.2.1)=true then _ else _)=_
 rw [h,h2,h3,h4,Int.toNat_natCast,jr hj]
 simp
theorem fc_ge {n:kW} (h:¬ kAz t n now < 0):∃ j:Nat,j < t.2.2.2.length∧kAz t n now=(j:Int):=by
 by_cases h0:zh t.1 n=0
 · rw [fc_no h0] at h;omega
 rw [fc_yes h0] at h ⊢;exact kIn h
end
theorem kNd {w:World} {ct:List Value} {t:kz} (ht0:kT.rd w ct t) (hB:∀ k (h:k < t.2.2.2.length),t.2.2.2[k].2.1.length≤2000000) {cx:List Value} {x0:jJ} (hx:kP.rd w cx x0) (hxc:x0.2.1.length≤2000000) {now:Int} :
    Calls Tryz.prog 102 #[.agg ct.toArray,.agg cx.toArray,.int .i64 now] w fun e w'=>∃ v,e=.returned (.tuple #[v,.bool (jw t now 4 x0)])∧Below w.heap.size w w':=by
 have ht:=ht0.1
 have hy:=hx.1
 have HBD:=yD (show ∀ k (h:k < t.2.2.2.length),kP.bdd Big t.2.2.2[k] from fun k h=>ht0.2.2.2.2.2 _ (List.getElem_mem h))
 have HBC:=yD hB
 obtain ⟨tv0,tv1,tv2,tv3,rfl,t_0,t_1,t_2,t_3⟩:=kw ht
 obtain ⟨ta0,tp0,rfl,tl0⟩:=Rep.sl t_0
 obtain ⟨ta1,tp1,rfl,tl1⟩:=Rep.sl t_1
 obtain ⟨ta2,tp2,rfl,tl2⟩:=Rep.sl t_2
 obtain ⟨ta3,tp3,rfl,tl3⟩:=Rep.sl t_3
 obtain ⟨xv0,xv1,xv2,rfl,x_0,x_1,x_2,x_3,x_4,x_5,x_6⟩:=kY hy
 obtain ⟨xa0,xp0,rfl,xl0⟩:=Rep.sl x_1
 obtain ⟨xa1,xp1,rfl,xl1⟩:=Rep.sl x_2
 obtain ⟨xa2,xp2,rfl,xl2⟩:=Rep.sl x_4
 have HTP:=yD ht0;have HXR0:=yD hx;have HTK:=yD t_0;have HTR:=yD t_1;have HTC:=yD t_3
 clear ht0 hB hx ht hy t_0 t_1 t_2 t_3 x_0 x_1 x_2 x_3 x_4 x_5 x_6
 go_enter Tryz.func102,Tryz.ntmps102
 go_upto_region 1 with fail
 generalize hwB:World.alloc (World.alloc w _) _=wB
 have EB:Below w.heap.size w wB:=by rw [← hwB];exact bH
 have zB:wB.heap.size=w.heap.size + 2:=qK
 have BT:wB.heap[w.heap.size]?=some (.cells #[.slice ta0 t.1.length tp0,.slice ta1 t.2.1.length tp1,.slice ta2 t.2.2.1.length tp2,.slice ta3 t.2.2.2.length tp3] 62 (0,0)):=nQ
 have BX:wB.heap[w.heap.size + 1]?=some (.cells #[.slice xa0 x0.1.length xp0,.slice xa1 x0.2.1.length xp1,.slice xa2 x0.2.2.1.length xp2,.int .i64 x0.2.2.2.1,.int .i64 x0.2.2.2.2] 66 (0,0)):=by rw [← hwB];exact kN rQ
 clear hwB
 go_wp2
 go_loopw [8] (fun v wr=>∃ (n:Nat) (out:List kW) (x:jJ) (oa:Option Addr) (oc:Nat) (xa0 xa1 xa2:Option Addr) (xp0 xp1 xp2:Nat),v=.slice oa n oc∧n≤4∧Hid (n=out.length)∧Hid (jw t now 4 x0=jw t now (4 - n) x)∧Hid (Rep.kg 64 kL wr (.slice oa n oc) out (Btw (w.heap.size + 2) wr.heap.size))∧wr.heap[w.heap.size]?=some (.cells #[.slice ta0 t.1.length tp0,.slice ta1 t.2.1.length tp1,.slice ta2 t.2.2.1.length tp2,.slice ta3 t.2.2.2.length tp3] 62 (0,0))∧wr.heap[w.heap.size + 1]?=some (.cells #[.slice xa0 x.1.length xp0,.slice xa1 x.2.1.length xp1,.slice xa2 x.2.2.1.length xp2,.int .i64 x.2.2.2.1,.int .i64 x.2.2.2.2] 66 (0,0))∧Hid (kP.rd w [.slice xa0 x.1.length xp0,.slice xa1 x.2.1.length xp1,.slice xa2 x.2.2.1.length xp2,.int .i64 x.2.2.2.1,.int .i64 x.2.2.2.2] x)∧x.2.1.length≤2000000∧w.heap.size + 2≤wr.heap.size∧Below w.heap.size w wr) (fun v _=>5 - slen v)
 case atStart=>exact ⟨0,[],x0,_,0,xa0,xa1,xa2,xp0,xp1,xp2,rfl,by omega,yD rfl,yD rfl,yD Rep.kg.void,jD BT,jD BX,HXR0,hxc,by simp;omega,EB.trans (bR.alloc EB.size _)⟩
 clear BT BX EB zB HXR0 hxc
 obtain ⟨n,out,x,oa,oc,xa0,xa1,xa2,xp0,xp1,xp2,rfl,hn4,HON,HCH,HO,BT,BX,HXR,hxc,zr,EE⟩:=hrel
 obtain ⟨yv0,yv1,yv2,yhe,y_0,y_1,y_2,y_3,y_4,y_5,y_6⟩:=kY HXR.out.1
 simp only [List.cons.injEq,and_true] at yhe
 obtain ⟨rfl,rfl,rfl⟩:=yhe
 have HX0:=yD y_0;have HX2:=yD y_3
 have HXK:=yD (show kL.rd w _ x.2.2.1 from ⟨y_3,HXR.out.2.2.2.1⟩)
 clear y_0 y_1 y_2 y_3 y_4 y_5 y_6
 by_cases hlt:n < 4
 · have hltI:(n:Int) < 4:=rP
   have hneI:((n:Int)==4)=false:=rG
   have hneN:(n==4)=false:=rG
   replace HCH:=yD (HCH.out.trans (by rw [show 4 - n=(3 - n) + 1 by omega]))
   obtain ⟨KBT_0,KBT_1,KBT_2,KBT_3⟩:=kAm BT
   obtain ⟨KBX_0,KBX_1,KBX_2,KBX_3,KBX_4⟩:=jh BX
   go_wp2_with fail
   refine (kDv (HTK.out.below EE) (HXR.out.below EE) hxc (cx:=[.slice xa0 x.1.length xp0,.slice xa1 x.2.1.length xp1,.slice xa2 x.2.2.1.length xp2,.int .i64 x.2.2.2.1,.int .i64 x.2.2.2.2])).mono ?_
   rintro e w1 ⟨rfl,hb⟩
   have z_w1:=hb.size
   replace BT:=kD BT hb
   replace BX:=kD BX hb
   replace HO:=yD (HO.out.below hb)
   replace EE:=(tQ EE hb)
   clear KBT_0 KBT_1 KBT_2 KBT_3 KBX_0 KBX_1 KBX_2 KBX_3 KBX_4
   clear hb
   obtain ⟨KBT_0,KBT_1,KBT_2,KBT_3⟩:=kAm BT
   obtain ⟨KBX_0,KBX_1,KBX_2,KBX_3,KBX_4⟩:=jh BX
   cases hv:verS t.1 x
   · have HF:Hid (jw t now 4 x0=false):=yD (HCH.out.trans (ch_ver hv))
     clear hv
     go_wp2
     refine bodyPost_ret (v:=.tuple #[.slice (some ⟨w1.heap.size,0,none⟩) 0 0,.bool false]) gW rfl ?_
     exact ⟨_,by rw [HF.out],EE.trans (bR.alloc EE.size _)⟩
   have HV:=yD hv
   clear hv
   go_wp2_with fail
   refine (kTm (HTR.out.below EE) (HX0.out.below EE) (HX2.out.below EE) (cn:=[.slice xa0 x.1.length xp0]) (cm:=[.slice xa2 x.2.2.1.length xp2])).mono ?_
   rintro e w2 ⟨rfl,hb⟩
   have z_w2:=hb.size
   replace BT:=kD BT hb
   replace BX:=kD BX hb
   replace HO:=yD (HO.out.below hb)
   replace EE:=(tQ EE hb)
   clear KBT_0 KBT_1 KBT_2 KBT_3 KBX_0 KBX_1 KBX_2 KBX_3 KBX_4
   clear hb
   cases ha:zi t.2.1 x.1 x.2.2.1
   · have HF:Hid (jw t now 4 x0=false):=yD (HCH.out.trans (ch_all ha))
     clear ha
     go_wp2
     refine bodyPost_ret (v:=.tuple #[.slice (some ⟨w2.heap.size,0,none⟩) 0 0,.bool false]) gW rfl ?_
     exact ⟨_,by rw [HF.out],EE.trans (bR.alloc EE.size _)⟩
   have HA:=yD ha
   clear ha
   obtain ⟨KBX_0,KBX_1,KBX_2,KBX_3,KBX_4⟩:=jh BX
   go_wp2_with fail
   refine (kAj (HXK.out.below EE) (ca:=[.slice xa2 x.2.2.1.length xp2])).mono ?_
   rintro e w3 ⟨cs,rfl,O,hb⟩
   have z_w3:=hb.size
   replace BT:=kD BT hb
   replace BX:=kD BX hb
   replace HO:=yD (HO.out.below hb)
   replace EE:=(tQ EE hb)
   clear KBX_0 KBX_1 KBX_2 KBX_3 KBX_4
   clear hb
   obtain ⟨v0,rfl,o_0⟩:=kM O.raw
   obtain ⟨na,nc,rfl,_⟩:=Rep.sl o_0
   clear o_0
   have HN:=yD O
   clear O
   go_upto_region 6 with fail
   generalize hw_:World.alloc w3 _=w4
   have E_w4:Below w3.heap.size w3 w4:=nC
   have BN:w4.heap[w3.heap.size]?=some (.cells #[.slice na x.2.2.1.length nc] 64 (0,0)):=pF
   have z_w4:w3.heap.size + 1≤w4.heap.size:=qJ
   clear hw_
   replace BT:=kD BT E_w4
   replace BX:=kD BX E_w4
   replace HO:=yD (HO.out.below E_w4)
   replace HN:=yD (HN.out.below E_w4)
   replace EE:=(tQ EE E_w4)
   clear E_w4
   have RB:=yD HN.out.rdB
   obtain ⟨KBT_0,KBT_1,KBT_2,KBT_3⟩:=kAm BT
   obtain ⟨KBX_0,KBX_1,KBX_2,KBX_3,KBX_4⟩:=jh BX
   have KBN_0:w4.cell? ⟨w3.heap.size,0,none⟩=some (.slice na x.2.2.1.length nc):=kK BN rfl
   go_wp2_with (at_builtin;refine Rep.kAi rfl _ _ 60 rfl (r:=kL) (e:=64) Tryz.underlying60 infName rfl rM rM (w:=w4) HO.out rR rR rfl HN.out rfl (fun k h1 h2=>by have:=h1.2;have:=h2.1;omega) (by have:=HON.out;omega) ?_)
   intro v5 w5 hQ hTQ
   have hT:Touch (fun k=>w.heap.size + 2≤k∧k < wr.heap.size) w4 w5:=(Touch.of_below (bR.alloc nL _)).trans (hTQ.wide (fun j q=>q.2))
   have z_w5:=hT.size
   obtain ⟨oa5,n5,oc5,hv5,HN5⟩:=hQ.parts
   obtain rfl:=hv5
   have hn5:n5=n + 1:=by have h1:=HN5.out;have h2:=HON.out;simp at h1;omega
   have HON5:=yD HN5.out
   clear HN5
   have HQ:=yD (hQ.wide (T:=Btw (w.heap.size + 2) w5.heap.size) (fun j q=>by rcases q with q | q | q <;> (have:=q.1;have:=q.2;exact ⟨by omega,by omega⟩)))
   clear hQ hTQ HO HN
   replace BT:=hT.kD BT rP
   replace BX:=hT.kD BX rP
   replace BN:=hT.kD BN rP
   replace RB:=yD (RB.out.touch hT gN)
   replace EE:=EE.trans (hT.below EE.size qI)
   clear KBT_0 KBT_1 KBT_2 KBT_3 KBX_0 KBX_1 KBX_2 KBX_3 KBX_4 KBN_0
   clear hT
   subst hn5
   obtain ⟨KBT_0,KBT_1,KBT_2,KBT_3⟩:=kAm BT
   obtain ⟨KBX_0,KBX_1,KBX_2,KBX_3,KBX_4⟩:=jh BX
   have KBN_0:w5.cell? ⟨w3.heap.size,0,none⟩=some (.slice na x.2.2.1.length nc):=kK BN rfl
   go_wp2_with fail
   refine (kRd (HTP.out.1.below EE) (RB.out.rd.1) (cn:=[.slice na x.2.2.1.length nc]) (ct:=[.slice ta0 t.1.length tp0,.slice ta1 t.2.1.length tp1,.slice ta2 t.2.2.1.length tp2,.slice ta3 t.2.2.2.length tp3])).mono ?_
   rintro e w6 ⟨rfl,hb⟩
   have z_w6:=hb.size
   replace BT:=kD BT hb
   replace BX:=kD BX hb
   replace BN:=kD BN hb
   replace RB:=yD (RB.out.below hb)
   replace HQ:=yD (HQ.out.below hb)
   replace EE:=(tQ EE hb)
   clear KBT_0 KBT_1 KBT_2 KBT_3 KBX_0 KBX_1 KBX_2 KBX_3 KBX_4 KBN_0
   clear hb
   cases han:kLz t x.2.2.1
   case true =>
    have HF:Hid (jw t now 4 x0=true):=yD (HCH.out.trans (ch_anc HV.out HA.out han))
    clear han
    go_wp2
    refine bodyPost_ret (v:=.tuple #[.slice oa5 (n + 1) oc5,.bool true]) gW rfl ?_
    exact ⟨_,by rw [HF.out],EE⟩
   have HAN:=yD han
   clear han
   obtain ⟨KBT_0,KBT_1,KBT_2,KBT_3⟩:=kAm BT
   obtain ⟨KBX_0,KBX_1,KBX_2,KBX_3,KBX_4⟩:=jh BX
   have KBN_0:w6.cell? ⟨w3.heap.size,0,none⟩=some (.slice na x.2.2.1.length nc):=kK BN rfl
   go_wp2_with fail
   refine (kHs (HTP.out.below EE) HBC.out (RB.out.rd.1) (cn:=[.slice na x.2.2.1.length nc]) (ct:=[.slice ta0 t.1.length tp0,.slice ta1 t.2.1.length tp1,.slice ta2 t.2.2.1.length tp2,.slice ta3 t.2.2.2.length tp3])).mono ?_
   rintro e w7 ⟨rfl,hb⟩
   have z_w7:=hb.size
   replace BT:=kD BT hb
   replace BX:=kD BX hb
   replace BN:=kD BN hb
   replace RB:=yD (RB.out.below hb)
   replace HQ:=yD (HQ.out.below hb)
   replace EE:=(tQ EE hb)
   clear KBT_0 KBT_1 KBT_2 KBT_3 KBX_0 KBX_1 KBX_2 KBX_3 KBX_4 KBN_0
   clear hb
   by_cases hi:kAz t x.2.2.1 now < 0
   · have HF:Hid (jw t now 4 x0=false):=yD (HCH.out.trans (ch_none HAN.out hi))
     go_wp2
     refine bodyPost_ret (v:=.tuple #[.slice (some ⟨w7.heap.size,0,none⟩) 0 0,.bool false]) gW rfl ?_
     exact ⟨_,by rw [HF.out],EE.trans (bR.alloc EE.size _)⟩
   obtain ⟨j,hj,hji⟩:=fc_ge hi
   have HCN:=yD (HCH.out.trans (ch_next HV.out HA.out HAN.out hj hji))
   have hbd:=HBD.out j hj
   have hbc:=HBC.out j hj
   obtain ⟨qb,qo,hqe,qc0,qc1,qc2,qc3,qc4,qr,Aq0,Aq1,Aq2,Aq3,Aq4⟩:=Rep.get5 HTC.out hj rfl
   obtain rfl:=hqe
   rw [hji]
   clear hji hi
   generalize t.2.2.2[j]=y at *
   have HYR:=yD (show kP.rd w _ y from ⟨qr,hbd⟩)
   obtain ⟨qv0,qv1,qv2,qhe,q_0,q_1,q_2,q_3,q_4,q_5,q_6⟩:=kY qr
   simp only [List.cons.injEq,and_true] at qhe
   obtain ⟨rfl,rfl,rfl,rfl,rfl⟩:=qhe
   obtain ⟨qa0,qp0,rfl,_⟩:=Rep.sl q_1
   obtain ⟨qa1,qp1,rfl,_⟩:=Rep.sl q_2
   obtain ⟨qa2,qp2,rfl,_⟩:=Rep.sl q_4
   clear q_0 q_1 q_2 q_3 q_4 q_5 q_6 qr hbd
   replace Aq0:=cL EE Aq0
   replace Aq1:=cL EE Aq1
   replace Aq2:=cL EE Aq2
   replace Aq3:=cL EE Aq3
   replace Aq4:=cL EE Aq4
   have hjI:(j:Int) < t.2.2.2.length:=rP
   have hjz:=Int.natCast_nonneg j
   have hj0:¬ ((j:Int) < 0):=rP
   obtain ⟨KBT_0,KBT_1,KBT_2,KBT_3⟩:=kAm BT
   obtain ⟨KBX_0,KBX_1,KBX_2,KBX_3,KBX_4⟩:=jh BX
   obtain ⟨FBX_0,FBX_1,FBX_2,FBX_3,FBX_4⟩:=rowF5 BX
   go_wp2
   generalize hw_:World.setCell (World.setCell (World.setCell (World.setCell (World.setCell w7 _ _) _ _) _ _) _ _) _ _=w8
   have T_w8:Touch (fun k=>k=w.heap.size + 1) w7 w8:=by rw [← hw_];exact ((((kC _ _ _ _).trans (kC _ _ _ _)).trans (kC _ _ _ _)).trans (kC _ _ _ _)).trans (kC _ _ _ _)
   have BY:w8.heap[w.heap.size + 1]?=some (.cells #[.slice qa0 y.1.length qp0,.slice qa1 y.2.1.length qp1,.slice qa2 y.2.2.1.length qp2,.int .i64 y.2.2.2.1,.int .i64 y.2.2.2.2] 66 (0,0)):=by rw [← hw_];exact jF (jF (jF (jF (jF (BX) 0) 1) 2) 3) 4
   have z_w8:=T_w8.size
   clear hw_ Aq0 Aq1 Aq2 Aq3 Aq4
   replace BT:=T_w8.kD BT rP
   replace BN:=T_w8.kD BN rP
   replace RB:=yD (RB.out.touch T_w8 gN)
   replace HQ:=yD (HQ.out.touch T_w8 gN)
   replace EE:=EE.trans (T_w8.below EE.size qI)
   clear KBT_0 KBT_1 KBT_2 KBT_3 KBX_0 KBX_1 KBX_2 KBX_3 KBX_4 FBX_0 FBX_1 FBX_2 FBX_3 FBX_4
   go_roundw
   case rel=>exact ⟨n + 1,_,y,oa5,oc5,qa0,qa1,qa2,qp0,qp1,qp2,rfl,by omega,HON5,yD (HCN.out.trans (by rw [show 3 - n=4 - (n + 1) by omega])),yD (HQ.out.wide mH),BT,BY,HYR,hbc,by omega,EE⟩
   simp [slen];omega
 obtain rfl:n=4:=rP
 skip
 replace HCH:=yD (show jw t now 4 x0=false from HCH.out)
 go_wp2
 refine bodyPost_ret (v:=.tuple #[.slice (some ⟨wr.heap.size,0,none⟩) 0 0,.bool false]) gW rfl ?_
 exact ⟨_,by rw [HCH.out],EE.trans (bR.alloc EE.size _)⟩
theorem kNw {w:World} {ct:List Value} {t:kz} (ht0:kT.rd w ct t) (hB:∀ k (h:k < t.2.2.2.length),t.2.2.2[k].2.1.length≤2000000) {cx:List Value} {x0:jJ} (hx:kP.rd w cx x0) (hxc:x0.2.1.length≤2000000) {now:Int} :
    Calls Tryz.prog 113 #[.agg ct.toArray,.agg cx.toArray,.int .i64 now] w fun e w'=>∃ v,e=.returned (.tuple #[v,.bool (jw t now 4 x0)])∧Below w.heap.size w w':=by
 have ht:=ht0.1
 have hy:=hx.1
 have HBD:=yD (show ∀ k (h:k < t.2.2.2.length),kP.bdd Big t.2.2.2[k] from fun k h=>ht0.2.2.2.2.2 _ (List.getElem_mem h))
 have HBC:=yD hB
 obtain ⟨tv0,tv1,tv2,tv3,rfl,t_0,t_1,t_2,t_3⟩:=kw ht
 obtain ⟨ta0,tp0,rfl,tl0⟩:=Rep.sl t_0
 obtain ⟨ta1,tp1,rfl,tl1⟩:=Rep.sl t_1
 obtain ⟨ta2,tp2,rfl,tl2⟩:=Rep.sl t_2
 obtain ⟨ta3,tp3,rfl,tl3⟩:=Rep.sl t_3
 obtain ⟨xv0,xv1,xv2,rfl,x_0,x_1,x_2,x_3,x_4,x_5,x_6⟩:=kY hy
 obtain ⟨xa0,xp0,rfl,xl0⟩:=Rep.sl x_1
 obtain ⟨xa1,xp1,rfl,xl1⟩:=Rep.sl x_2
 obtain ⟨xa2,xp2,rfl,xl2⟩:=Rep.sl x_4
 have HTP:=yD ht0;have HXR0:=yD hx;have HTK:=yD t_0;have HTR:=yD t_1;have HTC:=yD t_3
 clear ht0 hB hx ht hy t_0 t_1 t_2 t_3 x_0 x_1 x_2 x_3 x_4 x_5 x_6
 go_enter Tryz.func113,Tryz.ntmps113
 go_upto_region 1 with fail
 generalize hwB:World.alloc (World.alloc w _) _=wB
 have EB:Below w.heap.size w wB:=by rw [← hwB];exact bH
 have zB:wB.heap.size=w.heap.size + 2:=qK
 have BT:wB.heap[w.heap.size]?=some (.cells #[.slice ta0 t.1.length tp0,.slice ta1 t.2.1.length tp1,.slice ta2 t.2.2.1.length tp2,.slice ta3 t.2.2.2.length tp3] 62 (0,0)):=nQ
 have BX:wB.heap[w.heap.size + 1]?=some (.cells #[.slice xa0 x0.1.length xp0,.slice xa1 x0.2.1.length xp1,.slice xa2 x0.2.2.1.length xp2,.int .i64 x0.2.2.2.1,.int .i64 x0.2.2.2.2] 66 (0,0)):=by rw [← hwB];exact kN rQ
 clear hwB
 go_wp2
 go_loopw [8] (fun v wr=>∃ (n:Nat) (out:List kW) (x:jJ) (oa:Option Addr) (oc:Nat) (xa0 xa1 xa2:Option Addr) (xp0 xp1 xp2:Nat),v=.slice oa n oc∧n≤4∧Hid (n=out.length)∧Hid (jw t now 4 x0=jw t now (4 - n) x)∧Hid (Rep.kg 64 kL wr (.slice oa n oc) out (Btw (w.heap.size + 2) wr.heap.size))∧wr.heap[w.heap.size]?=some (.cells #[.slice ta0 t.1.length tp0,.slice ta1 t.2.1.length tp1,.slice ta2 t.2.2.1.length tp2,.slice ta3 t.2.2.2.length tp3] 62 (0,0))∧wr.heap[w.heap.size + 1]?=some (.cells #[.slice xa0 x.1.length xp0,.slice xa1 x.2.1.length xp1,.slice xa2 x.2.2.1.length xp2,.int .i64 x.2.2.2.1,.int .i64 x.2.2.2.2] 66 (0,0))∧Hid (kP.rd w [.slice xa0 x.1.length xp0,.slice xa1 x.2.1.length xp1,.slice xa2 x.2.2.1.length xp2,.int .i64 x.2.2.2.1,.int .i64 x.2.2.2.2] x)∧x.2.1.length≤2000000∧w.heap.size + 2≤wr.heap.size∧Below w.heap.size w wr) (fun v _=>5 - slen v)
 case atStart=>exact ⟨0,[],x0,_,0,xa0,xa1,xa2,xp0,xp1,xp2,rfl,by omega,yD rfl,yD rfl,yD Rep.kg.void,jD BT,jD BX,HXR0,hxc,by simp;omega,EB.trans (bR.alloc EB.size _)⟩
 clear BT BX EB zB HXR0 hxc
 obtain ⟨n,out,x,oa,oc,xa0,xa1,xa2,xp0,xp1,xp2,rfl,hn4,HON,HCH,HO,BT,BX,HXR,hxc,zr,EE⟩:=hrel
 obtain ⟨yv0,yv1,yv2,yhe,y_0,y_1,y_2,y_3,y_4,y_5,y_6⟩:=kY HXR.out.1
 simp only [List.cons.injEq,and_true] at yhe
 obtain ⟨rfl,rfl,rfl⟩:=yhe
 have HX0:=yD y_0;have HX2:=yD y_3
 have HXK:=yD (show kL.rd w _ x.2.2.1 from ⟨y_3,HXR.out.2.2.2.1⟩)
 clear y_0 y_1 y_2 y_3 y_4 y_5 y_6
 by_cases hlt:n < 4
 · have hltI:(n:Int) < 4:=rP
   have hneI:((n:Int)==4)=false:=rG
   have hneN:(n==4)=false:=rG
   replace HCH:=yD (HCH.out.trans (by rw [show 4 - n=(3 - n) + 1 by omega]))
   obtain ⟨KBT_0,KBT_1,KBT_2,KBT_3⟩:=kAm BT
   obtain ⟨KBX_0,KBX_1,KBX_2,KBX_3,KBX_4⟩:=jh BX
   go_wp2_with fail
   refine (kBs (HTK.out.below EE) (HXR.out.below EE) hxc (cx:=[.slice xa0 x.1.length xp0,.slice xa1 x.2.1.length xp1,.slice xa2 x.2.2.1.length xp2,.int .i64 x.2.2.2.1,.int .i64 x.2.2.2.2])).mono ?_
   rintro e w1 ⟨rfl,hb⟩
   have z_w1:=hb.size
   replace BT:=kD BT hb
   replace BX:=kD BX hb
   replace HO:=yD (HO.out.below hb)
   replace EE:=(tQ EE hb)
   clear KBT_0 KBT_1 KBT_2 KBT_3 KBX_0 KBX_1 KBX_2 KBX_3 KBX_4
   clear hb
   obtain ⟨KBT_0,KBT_1,KBT_2,KBT_3⟩:=kAm BT
   obtain ⟨KBX_0,KBX_1,KBX_2,KBX_3,KBX_4⟩:=jh BX
   cases hv:verS t.1 x
   · have HF:Hid (jw t now 4 x0=false):=yD (HCH.out.trans (ch_ver hv))
     clear hv
     go_wp2
     refine bodyPost_ret (v:=.tuple #[.slice none 0 0,.bool false]) gV rfl ?_
     exact ⟨_,by rw [HF.out],EE⟩
   have HV:=yD hv
   clear hv
   go_wp2_with fail
   refine (kKj (HTR.out.below EE) (HX0.out.below EE) (HX2.out.below EE) (cn:=[.slice xa0 x.1.length xp0]) (cm:=[.slice xa2 x.2.2.1.length xp2])).mono ?_
   rintro e w2 ⟨rfl,hb⟩
   have z_w2:=hb.size
   replace BT:=kD BT hb
   replace BX:=kD BX hb
   replace HO:=yD (HO.out.below hb)
   replace EE:=(tQ EE hb)
   clear KBT_0 KBT_1 KBT_2 KBT_3 KBX_0 KBX_1 KBX_2 KBX_3 KBX_4
   clear hb
   cases ha:zi t.2.1 x.1 x.2.2.1
   · have HF:Hid (jw t now 4 x0=false):=yD (HCH.out.trans (ch_all ha))
     clear ha
     go_wp2
     refine bodyPost_ret (v:=.tuple #[.slice none 0 0,.bool false]) gV rfl ?_
     exact ⟨_,by rw [HF.out],EE⟩
   have HA:=yD ha
   clear ha
   obtain ⟨KBX_0,KBX_1,KBX_2,KBX_3,KBX_4⟩:=jh BX
   go_wp2_with fail
   refine (zW (HXK.out.below EE) (ca:=[.slice xa2 x.2.2.1.length xp2])).mono ?_
   rintro e w3 ⟨cs,rfl,O,hb⟩
   have z_w3:=hb.size
   replace BT:=kD BT hb
   replace BX:=kD BX hb
   replace HO:=yD (HO.out.below hb)
   replace EE:=(tQ EE hb)
   clear KBX_0 KBX_1 KBX_2 KBX_3 KBX_4
   clear hb
   obtain ⟨v0,rfl,o_0⟩:=kM O.raw
   obtain ⟨na,nc,rfl,_⟩:=Rep.sl o_0
   clear o_0
   have HN:=yD O
   clear O
   have RB:=yD HN.out.rdB
   obtain ⟨KBT_0,KBT_1,KBT_2,KBT_3⟩:=kAm BT
   obtain ⟨KBX_0,KBX_1,KBX_2,KBX_3,KBX_4⟩:=jh BX
   go_wp2_with (at_builtin;refine Rep.kAi rfl _ _ 60 rfl (r:=kL) (e:=64) Tryz.underlying60 infName rfl rM rM (w:=w3) HO.out rR rR rfl HN.out rfl (fun k h1 h2=>by have:=h1.2;have:=h2.1;omega) (by have:=HON.out;omega) ?_)
   intro v5 w4 hQ hTQ
   have hT:Touch (fun k=>w.heap.size + 2≤k∧k < wr.heap.size) w3 w4:=(Touch.of_below (bR.alloc nL _)).trans (hTQ.wide (fun j q=>q.2))
   have z_w4:=hT.size
   obtain ⟨oa5,n5,oc5,hv5,HN5⟩:=hQ.parts
   obtain rfl:=hv5
   have hn5:n5=n + 1:=by have h1:=HN5.out;have h2:=HON.out;simp at h1;omega
   have HON5:=yD HN5.out
   clear HN5
   have HQ:=yD (hQ.wide (T:=Btw (w.heap.size + 2) w4.heap.size) (fun j q=>by rcases q with q | q | q <;> (have:=q.1;have:=q.2;exact ⟨by omega,by omega⟩)))
   clear hQ hTQ HO HN
   replace BT:=hT.kD BT rP
   replace BX:=hT.kD BX rP
   replace RB:=yD (RB.out.touch hT gN)
   replace EE:=EE.trans (hT.below EE.size qI)
   clear KBT_0 KBT_1 KBT_2 KBT_3 KBX_0 KBX_1 KBX_2 KBX_3 KBX_4
   clear hT
   subst hn5
   obtain ⟨KBT_0,KBT_1,KBT_2,KBT_3⟩:=kAm BT
   obtain ⟨KBX_0,KBX_1,KBX_2,KBX_3,KBX_4⟩:=jh BX
   go_wp2_with fail
   refine (kSd (HTP.out.1.below EE) (HX2.out.below EE) (cn:=[.slice xa2 x.2.2.1.length xp2]) (ct:=[.slice ta0 t.1.length tp0,.slice ta1 t.2.1.length tp1,.slice ta2 t.2.2.1.length tp2,.slice ta3 t.2.2.2.length tp3])).mono ?_
   rintro e w5 ⟨rfl,hb⟩
   have z_w5:=hb.size
   replace BT:=kD BT hb
   replace BX:=kD BX hb
   replace RB:=yD (RB.out.below hb)
   replace HQ:=yD (HQ.out.below hb)
   replace EE:=(tQ EE hb)
   clear KBT_0 KBT_1 KBT_2 KBT_3 KBX_0 KBX_1 KBX_2 KBX_3 KBX_4
   clear hb
   cases han:kLz t x.2.2.1
   case true =>
    have HF:Hid (jw t now 4 x0=true):=yD (HCH.out.trans (ch_anc HV.out HA.out han))
    clear han
    go_wp2
    refine bodyPost_ret (v:=.tuple #[.slice oa5 (n + 1) oc5,.bool true]) gV rfl ?_
    exact ⟨_,by rw [HF.out],EE⟩
   have HAN:=yD han
   clear han
   obtain ⟨KBT_0,KBT_1,KBT_2,KBT_3⟩:=kAm BT
   obtain ⟨KBX_0,KBX_1,KBX_2,KBX_3,KBX_4⟩:=jh BX
   go_wp2_with fail
   refine (kHv (HTP.out.below EE) HBC.out (HX2.out.below EE) (cn:=[.slice xa2 x.2.2.1.length xp2]) (ct:=[.slice ta0 t.1.length tp0,.slice ta1 t.2.1.length tp1,.slice ta2 t.2.2.1.length tp2,.slice ta3 t.2.2.2.length tp3])).mono ?_
   rintro e w6 ⟨rfl,hb⟩
   have z_w6:=hb.size
   replace BT:=kD BT hb
   replace BX:=kD BX hb
   replace RB:=yD (RB.out.below hb)
   replace HQ:=yD (HQ.out.below hb)
   replace EE:=(tQ EE hb)
   clear KBT_0 KBT_1 KBT_2 KBT_3 KBX_0 KBX_1 KBX_2 KBX_3 KBX_4
   clear hb
   by_cases hi:kAz t x.2.2.1 now < 0
   · have HF:Hid (jw t now 4 x0=false):=yD (HCH.out.trans (ch_none HAN.out hi))
     go_wp2
     refine bodyPost_ret (v:=.tuple #[.slice none 0 0,.bool false]) gV rfl ?_
     exact ⟨_,by rw [HF.out],EE⟩
   obtain ⟨j,hj,hji⟩:=fc_ge hi
   have HCN:=yD (HCH.out.trans (ch_next HV.out HA.out HAN.out hj hji))
   have hbd:=HBD.out j hj
   have hbc:=HBC.out j hj
   obtain ⟨qb,qo,hqe,qc0,qc1,qc2,qc3,qc4,qr,Aq0,Aq1,Aq2,Aq3,Aq4⟩:=Rep.get5 HTC.out hj rfl
   obtain rfl:=hqe
   rw [hji]
   clear hji hi
   generalize t.2.2.2[j]=y at *
   have HYR:=yD (show kP.rd w _ y from ⟨qr,hbd⟩)
   obtain ⟨qv0,qv1,qv2,qhe,q_0,q_1,q_2,q_3,q_4,q_5,q_6⟩:=kY qr
   simp only [List.cons.injEq,and_true] at qhe
   obtain ⟨rfl,rfl,rfl,rfl,rfl⟩:=qhe
   obtain ⟨qa0,qp0,rfl,_⟩:=Rep.sl q_1
   obtain ⟨qa1,qp1,rfl,_⟩:=Rep.sl q_2
   obtain ⟨qa2,qp2,rfl,_⟩:=Rep.sl q_4
   clear q_0 q_1 q_2 q_3 q_4 q_5 q_6 qr hbd
   replace Aq0:=cL EE Aq0
   replace Aq1:=cL EE Aq1
   replace Aq2:=cL EE Aq2
   replace Aq3:=cL EE Aq3
   replace Aq4:=cL EE Aq4
   have hjI:(j:Int) < t.2.2.2.length:=rP
   have hjz:=Int.natCast_nonneg j
   have hj0:¬ ((j:Int) < 0):=rP
   obtain ⟨KBT_0,KBT_1,KBT_2,KBT_3⟩:=kAm BT
   obtain ⟨KBX_0,KBX_1,KBX_2,KBX_3,KBX_4⟩:=jh BX
   obtain ⟨FBX_0,FBX_1,FBX_2,FBX_3,FBX_4⟩:=rowF5 BX
   go_wp2
   generalize hw_:World.setCell (World.setCell (World.setCell (World.setCell (World.setCell w6 _ _) _ _) _ _) _ _) _ _=w7
   have T_w7:Touch (fun k=>k=w.heap.size + 1) w6 w7:=by rw [← hw_];exact ((((kC _ _ _ _).trans (kC _ _ _ _)).trans (kC _ _ _ _)).trans (kC _ _ _ _)).trans (kC _ _ _ _)
   have BY:w7.heap[w.heap.size + 1]?=some (.cells #[.slice qa0 y.1.length qp0,.slice qa1 y.2.1.length qp1,.slice qa2 y.2.2.1.length qp2,.int .i64 y.2.2.2.1,.int .i64 y.2.2.2.2] 66 (0,0)):=by rw [← hw_];exact jF (jF (jF (jF (jF (BX) 0) 1) 2) 3) 4
   have z_w7:=T_w7.size
   clear hw_ Aq0 Aq1 Aq2 Aq3 Aq4
   replace BT:=T_w7.kD BT rP
   replace RB:=yD (RB.out.touch T_w7 gN)
   replace HQ:=yD (HQ.out.touch T_w7 gN)
   replace EE:=EE.trans (T_w7.below EE.size qI)
   clear KBT_0 KBT_1 KBT_2 KBT_3 KBX_0 KBX_1 KBX_2 KBX_3 KBX_4 FBX_0 FBX_1 FBX_2 FBX_3 FBX_4
   go_roundw
   case rel=>exact ⟨n + 1,_,y,oa5,oc5,qa0,qa1,qa2,qp0,qp1,qp2,rfl,by omega,HON5,yD (HCN.out.trans (by rw [show 3 - n=4 - (n + 1) by omega])),yD (HQ.out.wide mH),BT,BY,HYR,hbc,by omega,EE⟩
   simp [slen];omega
 obtain rfl:n=4:=rP
 skip
 replace HCH:=yD (show jw t now 4 x0=false from HCH.out)
 obtain ⟨KBT_0,KBT_1,KBT_2,KBT_3⟩:=kAm BT
 obtain ⟨KBX_0,KBX_1,KBX_2,KBX_3,KBX_4⟩:=jh BX
 go_wp2_with fail
 refine (kBs (HTK.out.below EE) (HXR.out.below EE) hxc (cx:=[.slice xa0 x.1.length xp0,.slice xa1 x.2.1.length xp1,.slice xa2 x.2.2.1.length xp2,.int .i64 x.2.2.2.1,.int .i64 x.2.2.2.2])).mono ?_
 rintro e w1 ⟨rfl,hb⟩
 have z_w1:=hb.size
 replace BT:=kD BT hb
 replace BX:=kD BX hb
 replace HO:=yD (HO.out.below hb)
 replace EE:=(tQ EE hb)
 clear KBT_0 KBT_1 KBT_2 KBT_3 KBX_0 KBX_1 KBX_2 KBX_3 KBX_4
 clear hb
 obtain ⟨KBT_0,KBT_1,KBT_2,KBT_3⟩:=kAm BT
 obtain ⟨KBX_0,KBX_1,KBX_2,KBX_3,KBX_4⟩:=jh BX
 cases hv:verS t.1 x
 · have HF:Hid (jw t now 4 x0=false):=yD (HCH.out)
   clear hv
   go_wp2
   refine bodyPost_ret (v:=.tuple #[.slice none 0 0,.bool false]) gV rfl ?_
   exact ⟨_,by rw [HF.out],EE⟩
 have HV:=yD hv
 clear hv
 go_wp2_with fail
 refine (kKj (HTR.out.below EE) (HX0.out.below EE) (HX2.out.below EE) (cn:=[.slice xa0 x.1.length xp0]) (cm:=[.slice xa2 x.2.2.1.length xp2])).mono ?_
 rintro e w2 ⟨rfl,hb⟩
 have z_w2:=hb.size
 replace BT:=kD BT hb
 replace BX:=kD BX hb
 replace HO:=yD (HO.out.below hb)
 replace EE:=(tQ EE hb)
 clear KBT_0 KBT_1 KBT_2 KBT_3 KBX_0 KBX_1 KBX_2 KBX_3 KBX_4
 clear hb
 cases ha:zi t.2.1 x.1 x.2.2.1
 · have HF:Hid (jw t now 4 x0=false):=yD (HCH.out)
   clear ha
   go_wp2
   refine bodyPost_ret (v:=.tuple #[.slice none 0 0,.bool false]) gV rfl ?_
   exact ⟨_,by rw [HF.out],EE⟩
 have HA:=yD ha
 clear ha
 go_wp2
 refine bodyPost_ret (v:=.tuple #[.slice none 0 0,.bool false]) gV rfl ?_
 exact ⟨_,by rw [HCH.out],EE⟩
theorem kPp {w:World} {ct:List Value} {t:kz} (ht0:kT.rd w ct t) (hB:∀ k (h:k < t.2.2.2.length),t.2.2.2[k].2.1.length≤2000000) {cx:List Value} {x:jJ} (hx:kP.rd w cx x) (hxc:x.2.1.length≤2000000) {now:Int} :
    Calls Tryz.prog 36 #[.agg ct.toArray,.agg cx.toArray,.int .i64 now] w fun e w'=>e=.returned (.bool (trusted t x now))∧Below w.heap.size w w':=by
 have ht:=ht0.1
 have hy:=hx.1
 obtain ⟨tv0,tv1,tv2,tv3,rfl,t_0,t_1,t_2,t_3⟩:=kw ht
 obtain ⟨ta0,tp0,rfl,tl0⟩:=Rep.sl t_0
 obtain ⟨ta1,tp1,rfl,tl1⟩:=Rep.sl t_1
 obtain ⟨ta2,tp2,rfl,tl2⟩:=Rep.sl t_2
 obtain ⟨ta3,tp3,rfl,tl3⟩:=Rep.sl t_3
 obtain ⟨xv0,xv1,xv2,rfl,x_0,x_1,x_2,x_3,x_4,x_5,x_6⟩:=kY hy
 obtain ⟨xa0,xp0,rfl,xl0⟩:=Rep.sl x_1
 obtain ⟨xa1,xp1,rfl,xl1⟩:=Rep.sl x_2
 obtain ⟨xa2,xp2,rfl,xl2⟩:=Rep.sl x_4
 have HTP:=yD ht0;have HXR:=yD hx;have HBC:=yD hB
 have HT:=yD (show trusted t x now=(kCi x && jw t now 4 x) from rfl)
 clear ht0 hB hx ht hy t_0 t_1 t_2 t_3 x_0 x_1 x_2 x_3 x_4 x_5 x_6
 go_enter Tryz.func36,Tryz.ntmps36
 go_upto_region 1 with fail
 generalize hwB:World.alloc (World.alloc w _) _=wB
 have EE:Below w.heap.size w wB:=by rw [← hwB];exact bH
 have BT:wB.heap[w.heap.size]?=some (.cells #[.slice ta0 t.1.length tp0,.slice ta1 t.2.1.length tp1,.slice ta2 t.2.2.1.length tp2,.slice ta3 t.2.2.2.length tp3] 62 (0,0)):=nQ
 have BX:wB.heap[w.heap.size + 1]?=some (.cells #[.slice xa0 x.1.length xp0,.slice xa1 x.2.1.length xp1,.slice xa2 x.2.2.1.length xp2,.int .i64 x.2.2.2.1,.int .i64 x.2.2.2.2] 66 (0,0)):=by rw [← hwB];exact kN rQ
 clear hwB
 obtain ⟨KBT_0,KBT_1,KBT_2,KBT_3⟩:=kAm BT
 obtain ⟨KBX_0,KBX_1,KBX_2,KBX_3,KBX_4⟩:=jh BX
 go_wp2_with fail
 refine (kNd (HTP.out.below EE) HBC.out (HXR.out.below EE) hxc (ct:=[.slice ta0 t.1.length tp0,.slice ta1 t.2.1.length tp1,.slice ta2 t.2.2.1.length tp2,.slice ta3 t.2.2.2.length tp3]) (cx:=[.slice xa0 x.1.length xp0,.slice xa1 x.2.1.length xp1,.slice xa2 x.2.2.1.length xp2,.int .i64 x.2.2.2.1,.int .i64 x.2.2.2.2])).mono ?_
 rintro e w1 ⟨v_,rfl,hb⟩
 have z_w1:=hb.size
 replace BT:=kD BT hb
 replace BX:=kD BX hb
 replace EE:=(tQ EE hb)
 clear KBT_0 KBT_1 KBT_2 KBT_3 KBX_0 KBX_1 KBX_2 KBX_3 KBX_4
 clear hb
 generalize jw t now 4 x=ch at *
 obtain ⟨KBT_0,KBT_1,KBT_2,KBT_3⟩:=kAm BT
 obtain ⟨KBX_0,KBX_1,KBX_2,KBX_3,KBX_4⟩:=jh BX
 go_wp2_with fail
 refine (kHi (HXR.out.1.below EE) (cx:=[.slice xa0 x.1.length xp0,.slice xa1 x.2.1.length xp1,.slice xa2 x.2.2.1.length xp2,.int .i64 x.2.2.2.1,.int .i64 x.2.2.2.2])).mono ?_
 rintro e w2 ⟨rfl,hb⟩
 have z_w2:=hb.size
 replace BT:=kD BT hb
 replace BX:=kD BX hb
 replace EE:=(tQ EE hb)
 clear KBT_0 KBT_1 KBT_2 KBT_3 KBX_0 KBX_1 KBX_2 KBX_3 KBX_4
 clear hb
 cases hv:kCi x
 · have HU:Hid (trusted t x now=false):=yD qC
   clear hv
   go_wp2
   go_ret
   exact ⟨kG HU.out.symm,EE⟩
 have HU:Hid (trusted t x now=ch):=yD qC
 clear hv
 go_wp2
 go_ret
 exact ⟨kG HU.out.symm,EE⟩
theorem kLm {w:World} {cx:List Value} {x:kAf} (hx:jC.rd w cx x) {ct:List Value} {t:kz} (ht0:kT.rd w ct t) (hB:∀ k (h:k < t.2.2.2.length),t.2.2.2[k].2.1.length≤2000000) {cy:List Value} {y:jJ} (hy0:kP.rd w cy y) (hyc:y.2.1.length≤2000000) {now:Int} :
    Calls Tryz.prog 8 #[.agg cx.toArray,.agg ct.toArray,.agg cy.toArray,.int .i64 now] w fun e w'=>e=.returned (.bool (zk x t y now))∧Below w.heap.size w w':=by
 have ht:=ht0.1
 have hy:=hy0.1
 have hn:=hx.1
 obtain ⟨xv0,xv2,xv3,xv4,xv5,xv6,rfl,x_0,x_1,x_2,x_3,x_4,x_5,x_6,x_7,x_8⟩:=jo hn
 obtain ⟨xa0,xp0,rfl,xl0⟩:=Rep.sl x_0
 obtain ⟨xa2,xp2,rfl,xl2⟩:=Rep.sl x_3
 obtain ⟨xa3,xp3,rfl,xl3⟩:=Rep.sl x_4
 obtain ⟨xa4,xp4,rfl,xl4⟩:=Rep.sl x_5
 obtain ⟨xa5,xp5,rfl,xl5⟩:=Rep.sl x_6
 obtain ⟨xa6,xp6,rfl,xl6⟩:=Rep.sl x_7
 obtain ⟨tv0,tv1,tv2,tv3,rfl,t_0,t_1,t_2,t_3⟩:=kw ht
 obtain ⟨ta0,tp0,rfl,tl0⟩:=Rep.sl t_0
 obtain ⟨ta1,tp1,rfl,tl1⟩:=Rep.sl t_1
 obtain ⟨ta2,tp2,rfl,tl2⟩:=Rep.sl t_2
 obtain ⟨ta3,tp3,rfl,tl3⟩:=Rep.sl t_3
 obtain ⟨yv0,yv1,yv2,rfl,y_0,y_1,y_2,y_3,y_4,y_5,y_6⟩:=kY hy
 obtain ⟨ya0,yp0,rfl,yl0⟩:=Rep.sl y_1
 obtain ⟨ya1,yp1,rfl,yl1⟩:=Rep.sl y_2
 obtain ⟨ya2,yp2,rfl,yl2⟩:=Rep.sl y_4
 have HTP:=yD ht0;have HYR:=yD hy0;have HBC:=yD hB;have HP:=yD x_4;have HY0:=yD y_0
 have HT:=yD (show zk x t y now=(hasP x.2.2.1 y.1 && trusted t y now) from rfl)
 clear ht0 hB hx ht hy hn hy0 x_0 x_1 x_2 x_3 x_4 x_5 x_6 x_7 x_8 t_0 t_1 t_2 t_3 y_0 y_1 y_2 y_3 y_4 y_5 y_6
 go_enter Tryz.func8,Tryz.ntmps8
 go_upto_region 1 with fail
 generalize hwB:World.alloc (World.alloc (World.alloc w _) _) _=wB
 have EE:Below w.heap.size w wB:=by rw [← hwB];exact bH
 have BN:wB.heap[w.heap.size]?=some (.cells #[.slice xa0 (x.1).length xp0,.int .i64 x.2.1.1,.slice xa2 (x.2.1.2).length xp2,.slice xa3 (x.2.2.1).length xp3,.slice xa4 (x.2.2.2.1).length xp4,.slice xa5 (x.2.2.2.2.1).length xp5,.slice xa6 (x.2.2.2.2.2.1).length xp6,.int .i64 x.2.2.2.2.2.2] 56 (0,0)):=mJ
 have BT:wB.heap[w.heap.size + 1]?=some (.cells #[.slice ta0 t.1.length tp0,.slice ta1 t.2.1.length tp1,.slice ta2 t.2.2.1.length tp2,.slice ta3 t.2.2.2.length tp3] 62 (0,0)):=by rw [← hwB];exact jD (kN rQ)
 have BX:wB.heap[w.heap.size + 1 + 1]?=some (.cells #[.slice ya0 y.1.length yp0,.slice ya1 y.2.1.length yp1,.slice ya2 y.2.2.1.length yp2,.int .i64 y.2.2.2.1,.int .i64 y.2.2.2.2] 66 (0,0)):=by rw [← hwB];exact kN rQ
 clear hwB
 obtain ⟨KBN_0,KBN_1,KBN_2,KBN_3,KBN_4,KBN_5,KBN_6,KBN_7⟩:=kBj BN
 obtain ⟨KBT_0,KBT_1,KBT_2,KBT_3⟩:=kAm BT
 obtain ⟨KBX_0,KBX_1,KBX_2,KBX_3,KBX_4⟩:=jh BX
 go_wp2_with fail
 refine (kNf (HP.out.below EE) (HY0.out.below EE) (cn:=[.slice ya0 y.1.length yp0])).mono ?_
 rintro e w1 ⟨rfl,hb⟩
 have z_w1:=hb.size
 replace BN:=kD BN hb
 replace BT:=kD BT hb
 replace BX:=kD BX hb
 replace EE:=(tQ EE hb)
 clear KBN_0 KBN_1 KBN_2 KBN_3 KBN_4 KBN_5 KBN_6 KBN_7 KBT_0 KBT_1 KBT_2 KBT_3 KBX_0 KBX_1 KBX_2 KBX_3 KBX_4
 clear hb
 cases hh:hasP x.2.2.1 y.1
 · have HU:Hid (zk x t y now=false):=yD (by rw [HT.out,hh];rfl)
   have hh2:decide (0≤idxOf (yw y.1) x.2.2.1)=false:=hh
   clear hh
   go_wp2
   go_ret
   exact ⟨kG HU.out.symm,EE⟩
 have HU:Hid (zk x t y now=trusted t y now):=yD (by rw [HT.out,hh];rfl)
 have hh2:decide (0≤idxOf (yw y.1) x.2.2.1)=true:=hh
 clear hh
 obtain ⟨KBT_0,KBT_1,KBT_2,KBT_3⟩:=kAm BT
 obtain ⟨KBX_0,KBX_1,KBX_2,KBX_3,KBX_4⟩:=jh BX
 go_wp2_with fail
 refine (kPp (HTP.out.below EE) HBC.out (HYR.out.below EE) hyc (ct:=[.slice ta0 t.1.length tp0,.slice ta1 t.2.1.length tp1,.slice ta2 t.2.2.1.length tp2,.slice ta3 t.2.2.2.length tp3]) (cx:=[.slice ya0 y.1.length yp0,.slice ya1 y.2.1.length yp1,.slice ya2 y.2.2.1.length yp2,.int .i64 y.2.2.2.1,.int .i64 y.2.2.2.2])).mono ?_
 rintro e w2 ⟨rfl,hb⟩
 have z_w2:=hb.size
 replace BN:=kD BN hb
 replace BT:=kD BT hb
 replace BX:=kD BX hb
 replace EE:=(tQ EE hb)
 clear KBT_0 KBT_1 KBT_2 KBT_3 KBX_0 KBX_1 KBX_2 KBX_3 KBX_4
 clear hb
 go_wp2
 go_ret
 exact ⟨kG HU.out.symm,EE⟩
theorem kPx {w:World} {ct:List Value} {t:kz} (ht0:kT.rd w ct t) (hB:∀ k (h:k < t.2.2.2.length),t.2.2.2[k].2.1.length≤2000000) {cx:List Value} {x:jJ} (hx:kP.rd w cx x) (hxc:x.2.1.length≤2000000) {now:Int} :
    Calls Tryz.prog 49 #[.agg ct.toArray,.agg cx.toArray,.int .i64 now] w fun e w'=>e=.returned (.bool (trusted t x now))∧Below w.heap.size w w':=by
 have ht:=ht0.1
 have hy:=hx.1
 obtain ⟨tv0,tv1,tv2,tv3,rfl,t_0,t_1,t_2,t_3⟩:=kw ht
 obtain ⟨ta0,tp0,rfl,tl0⟩:=Rep.sl t_0
 obtain ⟨ta1,tp1,rfl,tl1⟩:=Rep.sl t_1
 obtain ⟨ta2,tp2,rfl,tl2⟩:=Rep.sl t_2
 obtain ⟨ta3,tp3,rfl,tl3⟩:=Rep.sl t_3
 obtain ⟨xv0,xv1,xv2,rfl,x_0,x_1,x_2,x_3,x_4,x_5,x_6⟩:=kY hy
 obtain ⟨xa0,xp0,rfl,xl0⟩:=Rep.sl x_1
 obtain ⟨xa1,xp1,rfl,xl1⟩:=Rep.sl x_2
 obtain ⟨xa2,xp2,rfl,xl2⟩:=Rep.sl x_4
 have HTP:=yD ht0;have HXR:=yD hx;have HBC:=yD hB
 have HT:=yD (show trusted t x now=(kCi x && jw t now 4 x) from rfl)
 clear ht0 hB hx ht hy t_0 t_1 t_2 t_3 x_0 x_1 x_2 x_3 x_4 x_5 x_6
 go_enter Tryz.func49,Tryz.ntmps49
 go_upto_region 1 with fail
 generalize hwB:World.alloc (World.alloc w _) _=wB
 have EE:Below w.heap.size w wB:=by rw [← hwB];exact bH
 have BT:wB.heap[w.heap.size]?=some (.cells #[.slice ta0 t.1.length tp0,.slice ta1 t.2.1.length tp1,.slice ta2 t.2.2.1.length tp2,.slice ta3 t.2.2.2.length tp3] 62 (0,0)):=nQ
 have BX:wB.heap[w.heap.size + 1]?=some (.cells #[.slice xa0 x.1.length xp0,.slice xa1 x.2.1.length xp1,.slice xa2 x.2.2.1.length xp2,.int .i64 x.2.2.2.1,.int .i64 x.2.2.2.2] 66 (0,0)):=by rw [← hwB];exact kN rQ
 clear hwB
 obtain ⟨KBT_0,KBT_1,KBT_2,KBT_3⟩:=kAm BT
 obtain ⟨KBX_0,KBX_1,KBX_2,KBX_3,KBX_4⟩:=jh BX
 go_wp2_with fail
 refine (kNw (HTP.out.below EE) HBC.out (HXR.out.below EE) hxc (ct:=[.slice ta0 t.1.length tp0,.slice ta1 t.2.1.length tp1,.slice ta2 t.2.2.1.length tp2,.slice ta3 t.2.2.2.length tp3]) (cx:=[.slice xa0 x.1.length xp0,.slice xa1 x.2.1.length xp1,.slice xa2 x.2.2.1.length xp2,.int .i64 x.2.2.2.1,.int .i64 x.2.2.2.2])).mono ?_
 rintro e w1 ⟨v_,rfl,hb⟩
 have z_w1:=hb.size
 replace BT:=kD BT hb
 replace BX:=kD BX hb
 replace EE:=(tQ EE hb)
 clear KBT_0 KBT_1 KBT_2 KBT_3 KBX_0 KBX_1 KBX_2 KBX_3 KBX_4
 clear hb
 generalize jw t now 4 x=ch at *
 obtain ⟨KBT_0,KBT_1,KBT_2,KBT_3⟩:=kAm BT
 obtain ⟨KBX_0,KBX_1,KBX_2,KBX_3,KBX_4⟩:=jh BX
 cases ch
 · have HU:Hid (trusted t x now=false):=yD (by rw [HT.out];simp)
   go_wp2
   go_ret
   exact ⟨kG HU.out.symm,EE⟩
 have HU:Hid (trusted t x now=kCi x):=yD (by rw [HT.out];simp)
 go_wp2_with fail
 refine (kHq (HXR.out.1.below EE) (cx:=[.slice xa0 x.1.length xp0,.slice xa1 x.2.1.length xp1,.slice xa2 x.2.2.1.length xp2,.int .i64 x.2.2.2.1,.int .i64 x.2.2.2.2])).mono ?_
 rintro e w2 ⟨rfl,hb⟩
 have z_w2:=hb.size
 replace BT:=kD BT hb
 replace BX:=kD BX hb
 replace EE:=(tQ EE hb)
 clear KBT_0 KBT_1 KBT_2 KBT_3 KBX_0 KBX_1 KBX_2 KBX_3 KBX_4
 clear hb
 go_wp2
 go_ret
 exact ⟨kG HU.out.symm,EE⟩
theorem kMc {w:World} {cx:List Value} {x:kAf} (hx:jC.rd w cx x) {ct:List Value} {t:kz} (ht0:kT.rd w ct t) (hB:∀ k (h:k < t.2.2.2.length),t.2.2.2[k].2.1.length≤2000000) {cy:List Value} {y:jJ} (hy0:kP.rd w cy y) (hyc:y.2.1.length≤2000000) {now:Int} :
    Calls Tryz.prog 12 #[.agg cx.toArray,.agg ct.toArray,.agg cy.toArray,.int .i64 now] w fun e w'=>e=.returned (.bool (zk x t y now))∧Below w.heap.size w w':=by
 have ht:=ht0.1
 have hy:=hy0.1
 have hn:=hx.1
 obtain ⟨xv0,xv2,xv3,xv4,xv5,xv6,rfl,x_0,x_1,x_2,x_3,x_4,x_5,x_6,x_7,x_8⟩:=jo hn
 obtain ⟨xa0,xp0,rfl,xl0⟩:=Rep.sl x_0
 obtain ⟨xa2,xp2,rfl,xl2⟩:=Rep.sl x_3
 obtain ⟨xa3,xp3,rfl,xl3⟩:=Rep.sl x_4
 obtain ⟨xa4,xp4,rfl,xl4⟩:=Rep.sl x_5
 obtain ⟨xa5,xp5,rfl,xl5⟩:=Rep.sl x_6
 obtain ⟨xa6,xp6,rfl,xl6⟩:=Rep.sl x_7
 obtain ⟨tv0,tv1,tv2,tv3,rfl,t_0,t_1,t_2,t_3⟩:=kw ht
 obtain ⟨ta0,tp0,rfl,tl0⟩:=Rep.sl t_0
 obtain ⟨ta1,tp1,rfl,tl1⟩:=Rep.sl t_1
 obtain ⟨ta2,tp2,rfl,tl2⟩:=Rep.sl t_2
 obtain ⟨ta3,tp3,rfl,tl3⟩:=Rep.sl t_3
 obtain ⟨yv0,yv1,yv2,rfl,y_0,y_1,y_2,y_3,y_4,y_5,y_6⟩:=kY hy
 obtain ⟨ya0,yp0,rfl,yl0⟩:=Rep.sl y_1
 obtain ⟨ya1,yp1,rfl,yl1⟩:=Rep.sl y_2
 obtain ⟨ya2,yp2,rfl,yl2⟩:=Rep.sl y_4
 have HTP:=yD ht0;have HYR:=yD hy0;have HBC:=yD hB;have HP:=yD x_4;have HY0:=yD y_0
 have HT:=yD (show zk x t y now=(hasP x.2.2.1 y.1 && trusted t y now) from rfl)
 clear ht0 hB hx ht hy hn hy0 x_0 x_1 x_2 x_3 x_4 x_5 x_6 x_7 x_8 t_0 t_1 t_2 t_3 y_0 y_1 y_2 y_3 y_4 y_5 y_6
 go_enter Tryz.func12,Tryz.ntmps12
 go_upto_region 1 with fail
 generalize hwB:World.alloc (World.alloc (World.alloc w _) _) _=wB
 have EE:Below w.heap.size w wB:=by rw [← hwB];exact bH
 have BN:wB.heap[w.heap.size]?=some (.cells #[.slice xa0 (x.1).length xp0,.int .i64 x.2.1.1,.slice xa2 (x.2.1.2).length xp2,.slice xa3 (x.2.2.1).length xp3,.slice xa4 (x.2.2.2.1).length xp4,.slice xa5 (x.2.2.2.2.1).length xp5,.slice xa6 (x.2.2.2.2.2.1).length xp6,.int .i64 x.2.2.2.2.2.2] 56 (0,0)):=mJ
 have BT:wB.heap[w.heap.size + 1]?=some (.cells #[.slice ta0 t.1.length tp0,.slice ta1 t.2.1.length tp1,.slice ta2 t.2.2.1.length tp2,.slice ta3 t.2.2.2.length tp3] 62 (0,0)):=by rw [← hwB];exact jD (kN rQ)
 have BX:wB.heap[w.heap.size + 1 + 1]?=some (.cells #[.slice ya0 y.1.length yp0,.slice ya1 y.2.1.length yp1,.slice ya2 y.2.2.1.length yp2,.int .i64 y.2.2.2.1,.int .i64 y.2.2.2.2] 66 (0,0)):=by rw [← hwB];exact kN rQ
 clear hwB
 obtain ⟨KBN_0,KBN_1,KBN_2,KBN_3,KBN_4,KBN_5,KBN_6,KBN_7⟩:=kBj BN
 obtain ⟨KBT_0,KBT_1,KBT_2,KBT_3⟩:=kAm BT
 obtain ⟨KBX_0,KBX_1,KBX_2,KBX_3,KBX_4⟩:=jh BX
 go_wp2_with fail
 refine (kNy (HP.out.below EE) (HY0.out.below EE) (cn:=[.slice ya0 y.1.length yp0])).mono ?_
 rintro e w1 ⟨rfl,hb⟩
 have z_w1:=hb.size
 replace BN:=kD BN hb
 replace BT:=kD BT hb
 replace BX:=kD BX hb
 replace EE:=(tQ EE hb)
 clear KBN_0 KBN_1 KBN_2 KBN_3 KBN_4 KBN_5 KBN_6 KBN_7 KBT_0 KBT_1 KBT_2 KBT_3 KBX_0 KBX_1 KBX_2 KBX_3 KBX_4
 clear hb
 cases hh:hasP x.2.2.1 y.1
 · have HU:Hid (zk x t y now=false):=yD (by rw [HT.out,hh];rfl)
   have hh2:decide (0≤idxOf (yw y.1) x.2.2.1)=false:=hh
   clear hh
   go_wp2
   go_ret
   exact ⟨kG HU.out.symm,EE⟩
 have HU:Hid (zk x t y now=trusted t y now):=yD (by rw [HT.out,hh];rfl)
 have hh2:decide (0≤idxOf (yw y.1) x.2.2.1)=true:=hh
 clear hh
 obtain ⟨KBT_0,KBT_1,KBT_2,KBT_3⟩:=kAm BT
 obtain ⟨KBX_0,KBX_1,KBX_2,KBX_3,KBX_4⟩:=jh BX
 go_wp2_with fail
 refine (kPx (HTP.out.below EE) HBC.out (HYR.out.below EE) hyc (ct:=[.slice ta0 t.1.length tp0,.slice ta1 t.2.1.length tp1,.slice ta2 t.2.2.1.length tp2,.slice ta3 t.2.2.2.length tp3]) (cx:=[.slice ya0 y.1.length yp0,.slice ya1 y.2.1.length yp1,.slice ya2 y.2.2.1.length yp2,.int .i64 y.2.2.2.1,.int .i64 y.2.2.2.2])).mono ?_
 rintro e w2 ⟨rfl,hb⟩
 have z_w2:=hb.size
 replace BN:=kD BN hb
 replace BT:=kD BT hb
 replace BX:=kD BX hb
 replace EE:=(tQ EE hb)
 clear KBT_0 KBT_1 KBT_2 KBT_3 KBX_0 KBX_1 KBX_2 KBX_3 KBX_4
 clear hb
 go_wp2
 go_ret
 exact ⟨kG HU.out.symm,EE⟩
theorem kLn {w:World} {cx:List Value} {x:kAf} (hx:jC.rd w cx x) {ct:List Value} {t:kz} (ht:kT.rd w ct t) {cy:List Value} {y:jJ} (hy:kP.rd w cy y) {now:Int} (hn:-9223372036854775808≤now∧now≤9223372036854775807) (hT:kT.bdd 1048576 t) (hY:kP.bdd 1048576 y) :
    Calls Tryz.prog 8 #[.agg cx.toArray,.agg ct.toArray,.agg cy.toArray,.int .i64 now] w fun e w'=>e=.returned (.bool (zk x t y now))∧Below w.heap.size w w' :=
  kLm hx ht (fun k h=>Nat.le_trans (hT.2.2.2.2 _ (List.getElem_mem h)).2.1.1 rM) hy (Nat.le_trans hY.2.1.1 rM)
theorem kMd {w:World} {cx:List Value} {x:kAf} (hx:jC.rd w cx x) {ct:List Value} {t:kz} (ht:kT.rd w ct t) {cy:List Value} {y:jJ} (hy:kP.rd w cy y) {now:Int} (hn:-9223372036854775808≤now∧now≤9223372036854775807) (hT:kT.bdd 1048576 t) (hY:kP.bdd 1048576 y) :
    Calls Tryz.prog 12 #[.agg cx.toArray,.agg ct.toArray,.agg cy.toArray,.int .i64 now] w fun e w'=>e=.returned (.bool (zk x t y now))∧Below w.heap.size w w' :=
  kMc hx ht (fun k h=>Nat.le_trans (hT.2.2.2.2 _ (List.getElem_mem h)).2.1.1 rM) hy (Nat.le_trans hY.2.1.1 rM)
def kBv (f:Int) (y:jJ) (rs:List jP):List jV:=(rs.filter (fun r=>!decide (r.1=f))).map (fun r=>(r.1,false,zI,y))
theorem kJh (f:Int) (y:jJ) (rs:List jP):(kBv f y rs).length≤rs.length:=by
 unfold kBv
 rw [List.length_map]
 exact List.length_filter_le _ _
theorem kVe {f:Int} {y:jJ} {rs:List jP} {k:Nat} (h:k < rs.length) (hf:¬ rs[k].1=f):kBv f y (rs.take (k + 1))=kBv f y (rs.take k)++[(rs[k].1,false,zI,y)]:=by
 unfold kBv
 rw [List.take_succ_eq_append_getElem h,List.filter_append,List.map_append]
 simp [hf]
theorem dataQ_no {f:Int} {y:jJ} {rs:List jP} {k:Nat} (h:k < rs.length) (hf:rs[k].1=f):kBv f y (rs.take (k + 1))=kBv f y (rs.take k):=by
 unfold kBv
 rw [List.take_succ_eq_append_getElem h,List.filter_append,List.map_append]
 simp [hf]
def kBy (n:kW) (s:List jK) (rs:List jP):List jK:=rs.foldl (fun s r=>zY s n r.2.1) s
theorem kRh {n:kW} {rs:List jP} {s:List jK} {j:Nat} (h:j < rs.length):kBy n s (rs.take (j + 1))=zY (kBy n s (rs.take j)) n rs[j].2.1:=kTn h
theorem kUl (n:kW) (s:List jK) (rs:List jP):(kBy n s rs).length≤max s.length 24:=kLs rs s
def kDp (y:jJ) (t:Int) (x0:List jJ) (x1:kr):kr:=if idxOf (isD y.1) x0 < 0 then kBa y t x1 else x1
def kHu (f:Int) (n:kW) (x4:List yA) (x5:List kZ):List kZ:=if mOk n x4 then kJl (kHl n x4) f x5 else x5
def kRo (x:kAf) (p:kz) (f:Int) (y:jJ) (t:Int):kHg :=
  if zk x p y t then
    ((x.1,kDp y t x.1 x.2.1,kHt y.1 x.2.2.1,kBy y.1 x.2.2.2.1 (kDs y.1 x.2.2.1),x.2.2.2.2.1,kHu f y.1 x.2.2.2.2.1 x.2.2.2.2.2.1,x.2.2.2.2.2.2),kBv f y (kDs y.1 x.2.2.1))
  else (kSn x,[])
theorem procD_no {x:kAf} {p:kz} {f:Int} {y:jJ} {t:Int} (h:zk x p y t=false):kRo x p f y t=(kSn x,[]):=by unfold kRo;rw [h];rfl
theorem kDf {x:kAf} {p:kz} {f:Int} {y:jJ} {t:Int} (h:zk x p y t=true):kRo x p f y t =
    ((x.1,kDp y t x.1 x.2.1,kHt y.1 x.2.2.1,kBy y.1 x.2.2.2.1 (kDs y.1 x.2.2.1),x.2.2.2.2.1,kHu f y.1 x.2.2.2.2.1 x.2.2.2.2.2.1,x.2.2.2.2.2.2),kBv f y (kDs y.1 x.2.2.1)):=by unfold kRo;rw [h];rfl
theorem kPd (y:jJ) (t:Int) (c:Int) (l:List ko):∃ k,kBa y t (c,l)=(c,k):=by
 unfold kBa
 split
 · exact ⟨_,rfl⟩
 exact ⟨_,rfl⟩
theorem kSr {y:jJ} {t:Int} {x0:List jJ} {x1:kr} (h:idxOf (isD y.1) x0 < 0):kDp y t x0 x1=kBa y t x1:=by unfold kDp;rw [if_pos h]
theorem kVh {y:jJ} {t:Int} {x0:List jJ} {x1:kr} (h:¬ idxOf (isD y.1) x0 < 0):kDp y t x0 x1=x1:=by unfold kDp;rw [if_neg h]
theorem kLt {f:Int} {n:kW} {x4:List yA} {x5:List kZ} (h:mOk n x4=true):kHu f n x4 x5=kJl (kHl n x4) f x5:=by unfold kHu;rw [h];rfl
theorem kQm {f:Int} {n:kW} {x4:List yA} {x5:List kZ} (h:mOk n x4=false):kHu f n x4 x5=x5:=by unfold kHu;rw [h];rfl
end Go.Proofs.YtlfblpgkegeaeaaGreat

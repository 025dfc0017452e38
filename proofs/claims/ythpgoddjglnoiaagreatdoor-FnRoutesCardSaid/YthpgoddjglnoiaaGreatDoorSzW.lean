/-
  A route added.
  The laws' measures of size: what they let pass is bounded. Printed by gensz.py.
  The laws measure of size of routes: the sum of all.
-/
import Derived.Test.YthpgoddjglnoiaaGreatDoorCut
import Derived.Test.YthpgoddjglnoiaaGreatDoorRoute
import Derived.Test.YthpgoddjglnoiaaGreatDoorVRoute
set_option linter.unusedVariables false
set_option linter.unusedSimpArgs false
set_option linter.unnecessarySimpa false
set_option maxRecDepth 100000
set_option maxHeartbeats 4000000
namespace Go.Proofs.YthpgoddjglnoiaaGreatDoor
open Go.RowKit
def zL (r:kD) (l:List kD):List kD :=
  if idxOf (kZ r.1 r.2.1) l < 0 then l++[r] else l.set (idxOf (kZ r.1 r.2.1) l).toNat (zb (l.getD (idxOf (kZ r.1 r.2.1) l).toNat ([],0,0)) r.2.2)
def kBz (r:kD) (l:List kD):Bool:=kr (zL r l)
def addR (r:kD) (l:List kD):List kD:=if kBz r l then zL r l else l
theorem kEy {r:kD} {l:List kD} (h:idxOf (kZ r.1 r.2.1) l < 0):zL r l=l++[r]:=by unfold zL;rw [if_pos h]
theorem kEx {r:kD} {l:List kD} {k:Nat} (h:idxOf (kZ r.1 r.2.1) l=k) (hk:k < l.length):zL r l=l.set k (zb l[k] r.2.2):=by
 unfold zL
 simp only [h,Int.toNat_natCast,jC hk]
 rw [if_neg fV]
theorem kCi {r:kD} {l:List kD} (h:kr (zL r l)=false):addR r l=l∧kBz r l=false:=by unfold addR kBz;rw [h];exact ⟨rfl,rfl⟩
theorem kAw {r:kD} {l:List kD} (h:kr (zL r l)=true):addR r l=zL r l∧kBz r l=true:=by unfold addR kBz;rw [h];exact ⟨rfl,rfl⟩
theorem yu {l:List kD} (h:kr l=true):l.length≤24:=by unfold kr at h;simp at h;exact h.2
theorem kBt {w:World} {vl:Value} {l:List kD} (hl:(Rep.slice 29 kE).rd w [vl] l) {cr:List Value} {r:kD} (hr:kE.rd w cr r) :
    Calls Tryz.prog 7 #[vl,.agg cr.toArray] w fun e w'=>∃ v,e=.returned (.tuple #[v,.bool (kBz r l)])∧(Rep.slice 29 kE).own w' [v] (addR r l) (Btw w.heap.size w'.heap.size)∧Below w.heap.size w w':=by
 have HL:=yD hl
 have hlb:l.length≤16777216:=hl.2.1
 obtain ⟨nv,rfl,r_0,r_1,r_2,r_3⟩:=kG hr.1
 obtain ⟨n,f,c⟩:=r
 have HN:Hid (kV.rd w [nv] n):=yD ⟨r_0,hr.2.1⟩
 obtain ⟨na,np,rfl,_⟩:=Rep.sl r_1
 obtain ⟨va,vp,rfl,hvll⟩:=Rep.sl hl.1
 have HF:=yD r_2
 have HC:=yD r_3
 clear r_0 r_1 r_2 r_3 hl hr
 go_enter Tryz.func7,Tryz.ntmps7
 go_wp2_with fail
 generalize hwB:World.alloc w _=wB
 have EB:Below w.heap.size w wB:=dH
 have K0:wB.cell? ⟨w.heap.size,0,none⟩=some (.slice na n.length np):=dL
 have K1:wB.cell? ⟨w.heap.size,1,none⟩=some (.int .i64 f):=dL
 have K2:wB.cell? ⟨w.heap.size,2,none⟩=some (.int .i64 c):=dL
 have hzB:wB.heap.size=w.heap.size + 1:=fB
 clear hwB
 refine (yC (HL.out.below EB)).mono ?_
 rintro e w1 ⟨v1,rfl,O1,hb1⟩
 replace K0:=cL hb1 K0
 replace K1:=cL hb1 K1
 replace K2:=cL hb1 K2
 have E1:=(tQ EB hb1)
 have hz1:=hb1.size
 have HO:=yD (O1.wide (T:=Btw w.heap.size w1.heap.size) cO)
 obtain ⟨oa,on,oc,ho,HON⟩:=O1.parts;obtain rfl:=ho
 clear O1 hb1 EB
 go_wp2_with fail
 refine (kCm (HL.out.1.below E1) (HN.out.1.below E1)).mono ?_
 rintro e w4 ⟨rfl,hb4⟩
 replace K0:=cL hb4 K0
 replace K1:=cL hb4 K1
 replace K2:=cL hb4 K2
 have E4:=(tQ E1 hb4)
 have hz4:=hb4.size
 replace HO:=yD ((HO.out.below hb4).wide (T:=Btw w.heap.size w4.heap.size) cK)
 clear hb4 E1
 by_cases hk:idxOf (kZ n f) l < 0
 · have HT:=yD (kEy (r:=(n,f,c)) hk)
   have hk2:¬ (0≤idxOf (kZ n f) l):=fV
   generalize hq:idxOf (kZ n f) l=q at *
   clear hq hk
   go_wp2_with fail
   refine (zO (HN.out.below E4)).mono ?_
   rintro e wT ⟨tc,rfl,OT,hbT⟩
   obtain ⟨tv0,rfl,t_0⟩:=kN OT.raw
   obtain ⟨ta0,tp0,rfl,_⟩:=Rep.sl t_0
   clear t_0
   go_upto_region 6 with fail
   generalize hwC:World.alloc wT _=wC
   have EC:Below wT.heap.size wT wC:=dD
   have KC:wC.cell? ⟨wT.heap.size,0,none⟩=some (.slice ta0 n.length tp0):=dM
   clear hwC
   have ER:=(tQ hbT EC)
   have hsT:=hbT.size
   have hsC:=EC.size
   have OTC:=OT.below EC
   replace K0:=cL ER K0
   replace K1:=cL ER K1
   replace K2:=cL ER K2
   replace HO:=yD (HO.out.below ER)
   go_wp2_with (at_builtin;refine Rep.ky rfl _ _ 24 rfl (r:=kE) (e:=29) Tryz.underlying24 jX rfl fU fU (B:=w.heap.size) HO.out gB gB rfl (Rep.own.wide (T:=Btw w4.heap.size wT.heap.size) (Rep.kAm (r:=kV) (q:=Rep.pair Rep.int Rep.int) (cs:=[.slice ta0 n.length tp0]) (ds:=[.int .i64 f,.int .i64 c]) (x:=n) (y:=(f,c)) (OTC) (Rep.zT (Rep.jN HF.out) (Rep.jN HC.out))) (fun j hj=>hj)) rfl bL cK bI fV dS ?_)
   intro v5 w5 hown5 hbel5 hz5
   have HO5:=yD (hown5.cast HT.out.symm)
   have E5:=(tQ E4 ER).trans hbel5
   clear hown5 hbel5 HO
   go_wp2_with fail
   refine (yR HO5.out.zQ).mono ?_
   rintro e w7 ⟨rfl,hb7⟩
   have E7:=(tQ E5 hb7)
   have hz7:=hb7.size
   have hzE:=E5.size
   have HO7:=yD (HO5.out.below hb7)
   clear hb7
   cases hv:kr (zL (n,f,c) l)
   · have HQ:=yD (kCi hv)
     clear hv
     go_wp2_with fail
     refine (yC (HL.out.below E7)).mono ?_
     rintro e w8 ⟨v8,rfl,O8,hb8⟩
     have HO8:=yD (O8.cast HQ.out.1.symm)
     clear O8
     go_wp2
     go_ret2
     exact ⟨v8,by rw [HQ.out.2];rfl,(HO8.out.own dO).wide cO,(tQ E7 hb8)⟩
   have HQ:=yD (kAw hv)
   have HLN:=yD (yu hv)
   clear hv
   go_wp2
   go_ret2
   exact ⟨v5,by rw [HQ.out.2];rfl,((HO7.out.cast HQ.out.1.symm).own bM).wide bI,E7⟩
 obtain ⟨k,hkl,hki⟩:=kEu hk
 have HKI:=yD hki
 rw [hki]
 clear hk hki
 obtain ⟨b,cap,hv,hbS,hbl,hcap2,hcap3⟩:=Rep.kAn HO.out hkl
 simp only [Value.slice.injEq] at hv
 obtain ⟨rfl,hon,rfl⟩:=hv
 have hkon:k < on:=fV
 have hkI:(0:Int)≤k:=fV
 have hkI2:(k:Int) < on:=fV
 have HRD:=yD (HO.out.own hlb)
 obtain ⟨c0,c1,c2,hr,A0,A1,A2⟩:=Rep.at3 HRD.out.raw hkl rfl
 clear hr
 have hfz:=Rep.kFg HO.out fV (k * 3 + 2)
 have HT:=yD (kEx (r:=(n,f,c)) HKI.out hkl)
 obtain ⟨s1,s2⟩:=Rep.kDs (i:=k) (j:=2) (p:=k * 3 + 2) (u:=.int .i64 c) HO.out hlb hkl fU (fun h=>kFp _ HC.out h) (show kE.bdd Big (zb l[k] c) from Rep.yJ HRD.out.rd hkl) rfl
 have HS1:=yD (s1.cast HT.out.symm)
 have E5:Below w.heap.size w (w4.setCell ⟨b,k * 3 + 2,none⟩ (.int .i64 c)):=E4.setCell hbS.1 _
 have hz5:(w4.setCell ⟨b,k * 3 + 2,none⟩ (.int .i64 c)).heap.size=w4.heap.size:=by simp [World.setCell]
 clear s1 s2 hon HRD
 go_upto_region 7 with fail
 generalize hw5:w4.setCell ⟨b,k * 3 + 2,none⟩ (.int .i64 c)=w5 at *
 clear hw5
 go_wp2_with fail
 refine (yR HS1.out.zQ).mono ?_
 rintro e w7 ⟨rfl,hb7⟩
 have E7:=(tQ E5 hb7)
 have hz7:=hb7.size
 have hzE:=E5.size
 have HO7:=yD (HS1.out.below hb7)
 clear hb7
 cases hv:kr (zL (n,f,c) l)
 · have HQ:=yD (kCi hv)
   clear hv
   go_wp2_with fail
   refine (yC (HL.out.below E7)).mono ?_
   rintro e w8 ⟨v8,rfl,O8,hb8⟩
   have HO8:=yD (O8.cast HQ.out.1.symm)
   clear O8
   go_wp2
   go_ret2
   exact ⟨v8,by rw [HQ.out.2];rfl,(HO8.out.own dO).wide cO,(tQ E7 hb8)⟩
 have HQ:=yD (kAw hv)
 have HLN:=yD (yu hv)
 clear hv
 go_wp2
 go_ret2
 exact ⟨.slice (some ⟨b,0,none⟩) on oc,by rw [HQ.out.2];rfl,((HO7.out.cast HQ.out.1.symm).own bM).wide bI,E7⟩
theorem kGy {w:World} {vl:Value} {l:List kD} (hl:(Rep.slice 29 kE).rd w [vl] l) {cr:List Value} {r:kD} (hr:kE.rd w cr r) :
    Calls Tryz.prog 6 #[vl,.agg cr.toArray] w fun e w'=>∃ v,e=.returned (.tuple #[v,.bool (kBz r l)])∧(Rep.slice 29 kE).own w' [v] (addR r l) (Btw w.heap.size w'.heap.size)∧Below w.heap.size w w':=by
 have HL:=yD hl
 have hlb:l.length≤16777216:=hl.2.1
 obtain ⟨nv,rfl,r_0,r_1,r_2,r_3⟩:=kG hr.1
 obtain ⟨n,f,c⟩:=r
 have HN:Hid (kV.rd w [nv] n):=yD ⟨r_0,hr.2.1⟩
 obtain ⟨na,np,rfl,_⟩:=Rep.sl r_1
 obtain ⟨va,vp,rfl,hvll⟩:=Rep.sl hl.1
 have HF:=yD r_2
 have HC:=yD r_3
 clear r_0 r_1 r_2 r_3 hl hr
 go_enter Tryz.func6,Tryz.ntmps6
 go_wp2_with fail
 generalize hwB:World.alloc w _=wB
 have EB:Below w.heap.size w wB:=dH
 have K0:wB.cell? ⟨w.heap.size,0,none⟩=some (.slice na n.length np):=dL
 have K1:wB.cell? ⟨w.heap.size,1,none⟩=some (.int .i64 f):=dL
 have K2:wB.cell? ⟨w.heap.size,2,none⟩=some (.int .i64 c):=dL
 have hzB:wB.heap.size=w.heap.size + 1:=fB
 clear hwB
 refine (jY (HL.out.below EB)).mono ?_
 rintro e w1 ⟨v1,rfl,O1,hb1⟩
 replace K0:=cL hb1 K0
 replace K1:=cL hb1 K1
 replace K2:=cL hb1 K2
 have E1:=(tQ EB hb1)
 have hz1:=hb1.size
 have HO:=yD (O1.wide (T:=Btw w.heap.size w1.heap.size) cO)
 obtain ⟨oa,on,oc,ho,HON⟩:=O1.parts;obtain rfl:=ho
 clear O1 hb1 EB
 go_wp2_with fail
 refine (kCp (HL.out.1.below E1) (HN.out.1.below E1)).mono ?_
 rintro e w4 ⟨rfl,hb4⟩
 replace K0:=cL hb4 K0
 replace K1:=cL hb4 K1
 replace K2:=cL hb4 K2
 have E4:=(tQ E1 hb4)
 have hz4:=hb4.size
 replace HO:=yD ((HO.out.below hb4).wide (T:=Btw w.heap.size w4.heap.size) cK)
 clear hb4 E1
 by_cases hk:idxOf (kZ n f) l < 0
 · have HT:=yD (kEy (r:=(n,f,c)) hk)
   have hk2:¬ (0≤idxOf (kZ n f) l):=fV
   generalize hq:idxOf (kZ n f) l=q at *
   clear hq hk
   go_upto_region 5 with fail
   have FX:=yD (fun (W:World) (hW:Below w4.heap.size w4 W)=>cLs3 hW K0 K1 K2)
   refine jh (fun W=>Below w4.heap.size w4 W) [(0,true),(1,true),(2,true),(4,true),(5,true),(6,true),(7,true),(3,false),(8,true),(9,false)] fP fP bW (bR.drew) ?_
   intro wS HS
   simp only [kK,List.length_cons,List.length_nil,List.getElem?_cons_succ,List.getElem?_cons_zero,List.map_cons,List.map_nil,List.cons_append,List.nil_append,List.drop_succ_cons,List.drop_zero]
   iterate 7
    all_goals refine wkR ?_
   all_goals first|(refine kJ rfl HS ?_)|(refine jF rfl (fun K hK=>?_);go_simp;refine (zg (HN.out.below (tQ E4 HS))).mono ?_;rintro e wT ⟨tc,rfl,OT,hbT⟩;obtain ⟨tv0,rfl,t_0⟩:=kN OT.raw;obtain ⟨ta0,tp0,rfl,_⟩:=Rep.sl t_0;clear t_0;have hrS:=HS.size;have hbT2:=hbT.size;replace HS:=(tQ HS hbT);refine hK _ _ HS ?_;clear hK K hbT)
   all_goals refine wkP ?_
   all_goals refine wkR ?_
   all_goals first|(refine kJ rfl HS ?_)|(refine jF rfl (fun K hK=>?_);go_simp;refine hK _ _ (HS.alloc HS.size _) ?_;clear hK K)
   all_goals refine wkP ?_
   all_goals refine jV ?_
   have hsS:=HS.size
   replace HO:=yD (HO.out.below HS)
   go_wp2_with (at_builtin;refine Rep.ky rfl _ _ 24 rfl (r:=kE) (e:=29) Tryz.underlying24 jX rfl fU fU (B:=w.heap.size) HO.out gB gB rfl (Rep.own.wide (T:=Btw w4.heap.size wT.heap.size) (Rep.kAm (r:=kV) (q:=Rep.pair Rep.int Rep.int) (cs:=[.slice ta0 n.length tp0]) (ds:=[.int .i64 f,.int .i64 c]) (x:=n) (y:=(f,c)) (OT) (Rep.zT (Rep.jN HF.out) (Rep.jN HC.out))) cO) rfl bL cK bI fV dS ?_)
   intro v5 w5 hown5 hbel5 hz5
   have HO5:=yD (hown5.cast HT.out.symm)
   have E5:=(tQ E4 HS).trans hbel5
   clear hown5 hbel5 HO
   go_wp2_with fail
   refine (jA HO5.out.zQ).mono ?_
   rintro e w7 ⟨rfl,hb7⟩
   have E7:=(tQ E5 hb7)
   have hz7:=hb7.size
   have hzE:=E5.size
   have HO7:=yD (HO5.out.below hb7)
   clear hb7
   cases hv:kr (zL (n,f,c) l)
   · have HQ:=yD (kCi hv)
     clear hv
     go_wp2_with fail
     refine (jY (HL.out.below E7)).mono ?_
     rintro e w8 ⟨v8,rfl,O8,hb8⟩
     have HO8:=yD (O8.cast HQ.out.1.symm)
     clear O8
     go_wp2
     go_ret2
     exact ⟨v8,by rw [HQ.out.2];rfl,(HO8.out.own dO).wide cO,(tQ E7 hb8)⟩
   have HQ:=yD (kAw hv)
   have HLN:=yD (yu hv)
   clear hv
   go_wp2
   go_ret2
   exact ⟨v5,by rw [HQ.out.2];rfl,((HO7.out.cast HQ.out.1.symm).own bM).wide bI,E7⟩
 obtain ⟨k,hkl,hki⟩:=kEu hk
 have HKI:=yD hki
 rw [hki]
 clear hk hki
 obtain ⟨b,cap,hv,hbS,hbl,hcap2,hcap3⟩:=Rep.kAn HO.out hkl
 simp only [Value.slice.injEq] at hv
 obtain ⟨rfl,hon,rfl⟩:=hv
 have hkon:k < on:=fV
 have hkI:(0:Int)≤k:=fV
 have hkI2:(k:Int) < on:=fV
 have HRD:=yD (HO.out.own hlb)
 obtain ⟨c0,c1,c2,hr,A0,A1,A2⟩:=Rep.at3 HRD.out.raw hkl rfl
 clear hr
 have hfz:=Rep.kFg HO.out fV (k * 3 + 2)
 have HT:=yD (kEx (r:=(n,f,c)) HKI.out hkl)
 obtain ⟨s1,s2⟩:=Rep.kDs (i:=k) (j:=2) (p:=k * 3 + 2) (u:=.int .i64 c) HO.out hlb hkl fU (fun h=>kFp _ HC.out h) (show kE.bdd Big (zb l[k] c) from Rep.yJ HRD.out.rd hkl) rfl
 have HS1:=yD (s1.cast HT.out.symm)
 have E5:Below w.heap.size w (w4.setCell ⟨b,k * 3 + 2,none⟩ (.int .i64 c)):=E4.setCell hbS.1 _
 have hz5:(w4.setCell ⟨b,k * 3 + 2,none⟩ (.int .i64 c)).heap.size=w4.heap.size:=by simp [World.setCell]
 clear s1 s2 hon HRD
 go_upto_region 6 with fail
 generalize hw5:w4.setCell ⟨b,k * 3 + 2,none⟩ (.int .i64 c)=w5 at *
 clear hw5
 go_wp2_with fail
 refine (jA HS1.out.zQ).mono ?_
 rintro e w7 ⟨rfl,hb7⟩
 have E7:=(tQ E5 hb7)
 have hz7:=hb7.size
 have hzE:=E5.size
 have HO7:=yD (HS1.out.below hb7)
 clear hb7
 cases hv:kr (zL (n,f,c) l)
 · have HQ:=yD (kCi hv)
   clear hv
   go_wp2_with fail
   refine (jY (HL.out.below E7)).mono ?_
   rintro e w8 ⟨v8,rfl,O8,hb8⟩
   have HO8:=yD (O8.cast HQ.out.1.symm)
   clear O8
   go_wp2
   go_ret2
   exact ⟨v8,by rw [HQ.out.2];rfl,(HO8.out.own dO).wide cO,(tQ E7 hb8)⟩
 have HQ:=yD (kAw hv)
 have HLN:=yD (yu hv)
 clear hv
 go_wp2
 go_ret2
 exact ⟨.slice (some ⟨b,0,none⟩) on oc,by rw [HQ.out.2];rfl,((HO7.out.cast HQ.out.1.symm).own bM).wide bI,E7⟩
theorem kHp {α:Type} {P:α→Prop} {x:List α} {k:Nat} (h:∀ y∈x.take k,P y) (hk:k < x.length) (hy:P x[k]):∀ y∈x.take (k + 1),P y:=by
 rw [List.take_succ_eq_append_getElem hk]
 intro y hm
 rcases List.mem_append.1 hm with hm | hm
 · exact h y hm
 rw [List.mem_singleton.1 hm];exact hy
def zX {α:Type} (f:α→Nat) (l:List α):Nat:=(l.map f).sum
theorem kHt {α:Type} {f:α→Nat} {l:List α} {k:Nat} (h:k < l.length):zX f (l.take (k + 1))=zX f (l.take k) + f l[k]:=by
 unfold zX
 rw [List.take_succ_eq_append_getElem h,List.map_append,List.sum_append]
 simp
theorem kGg {α:Type} (f:α→Nat) (l:List α) (k:Nat):zX f l=zX f (l.take k) + zX f (l.drop k):=by
 unfold zX;rw [← List.sum_append,← List.map_append,List.take_append_drop]
theorem sumL_mem {α:Type} {f:α→Nat}:∀ {l:List α} {x:α},x∈l→f x≤zX f l
  | y :: l,x,h=>by
    have e:zX f (y :: l)=f y + zX f l:=by simp [zX]
    rw [e]
    rcases List.mem_cons.1 h with rfl | h
    · omega
    · have:=sumL_mem (f:=f) h;omega
def wN (n:kR):Nat:=n.length + zX ByteArray.size n
def wRs (l:List kD):Nat:=l.length + zX (fun r=>wN r.1) l
end Go.Proofs.YthpgoddjglnoiaaGreatDoor

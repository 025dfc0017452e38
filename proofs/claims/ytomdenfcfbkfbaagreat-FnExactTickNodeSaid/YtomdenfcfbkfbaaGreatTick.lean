/-
  A failure recorded.
  A node over time.
-/
import Derived.Test.YtomdenfcfbkfbaaGreatBase
import Derived.Test.YtomdenfcfbkfbaaGreatCopyR
import Derived.Test.YtomdenfcfbkfbaaGreatCopyP0
import Derived.Test.YtomdenfcfbkfbaaGreatMeas
import Derived.Test.YtomdenfcfbkfbaaGreatVName
import Derived.Test.YtomdenfcfbkfbaaGreatMin
import Derived.IntWalk
import Derived.Deep.Cut
import Derived.WalkSpells
import Derived.WalkLawsBesides
import Derived.Test.YtomdenfcfbkfbaaGreatHasP
import Derived.Test.YtomdenfcfbkfbaaGreatExp
import Derived.Test.YtomdenfcfbkfbaaGreatSeen
import Derived.Test.YtomdenfcfbkfbaaGreatEvict
import Derived.Test.YtomdenfcfbkfbaaGreatCopyN
import Derived.Test.YtomdenfcfbkfbaaGreatOutF
import Derived.Test.YtomdenfcfbkfbaaGreatMatch
namespace Go.Proofs.YtomdenfcfbkfbaaGreat
open Go.RowKit
set_option linter.unusedVariables false
set_option linter.unusedSimpArgs false
set_option linter.unnecessarySimpa false
def upF (x:Int):Int:=min 50 (wrap64 (x + 1))
theorem upF_rng {x:Int}:-9223372036854775808≤upF x∧upF x≤9223372036854775807:=by
 unfold upF
 unfold wrap64
 omega
def recF (n:LName) (f:Int) (l:List kQ):List kQ :=
  if vName n && inR f 1 6 then
    (if idxOf (isMeas n f) l < 0 then (if l.length < 24 then l++[(n,f,1)] else l)
     else l.set (idxOf (isMeas n f) l).toNat (setMeasurement_2 (l.getD (idxOf (isMeas n f) l).toNat ([],0,0)) (upF (l.getD (idxOf (isMeas n f) l).toNat ([],0,0)).2.2)))
  else l
theorem recF_no {n:LName} {f:Int} {l:List kQ} (h:(vName n && inR f 1 6)=false):recF n f l=l:=by unfold recF;rw [h];rfl
theorem recF_new {n:LName} {f:Int} {l:List kQ} (h:(vName n && inR f 1 6)=true) (h2:idxOf (isMeas n f) l < 0) (h3:l.length < 24):recF n f l=l++[(n,f,1)]:=by unfold recF;rw [if_pos h,if_pos h2,if_pos h3]
theorem recF_full {n:LName} {f:Int} {l:List kQ} (h:(vName n && inR f 1 6)=true) (h2:idxOf (isMeas n f) l < 0) (h3:¬ l.length < 24):recF n f l=l:=by unfold recF;rw [if_pos h,if_pos h2,if_neg h3]
theorem recF_up {n:LName} {f:Int} {l:List kQ} {k:Nat} (h:(vName n && inR f 1 6)=true) (h2:idxOf (isMeas n f) l=k) (hk:k < l.length):recF n f l=l.set k (setMeasurement_2 l[k] (upF l[k].2.2)):=by
 unfold recF
 simp only [h,h2,Int.toNat_natCast,getD_get hk]
 rw [if_pos trivial,if_neg (by omega)]
set_option maxRecDepth 100000 in
set_option maxHeartbeats 4000000 in
theorem specRecordFailure_c {w:World} {vl:Value} {l:List kQ} (hl:(Rep.slice 166 kI).rd w [vl] l) {cn:List Value} {n:LName} (hn:RName.rd w cn n) {f:Int} (hf:-9223372036854775808≤f∧f≤9223372036854775807) :
    Calls Tryz.prog 33 #[vl,.agg cn.toArray,.int .i64 f] w (MadePost (Rep.slice 166 kI) (recF n f l) w):=by
 have HL:=hD hl
 have HN:=hD hn
 have hlb:l.length≤16777216:=hl.2.1
 obtain ⟨nv,rfl,n_0⟩:=RName_raw hn.1
 obtain ⟨na,np,hnv,_⟩:=Rep.kR n_0;obtain rfl:nv=_:=by simpa using hnv
 obtain ⟨va,vp,hvl,hvll⟩:=Rep.kR hl.1;obtain rfl:vl=_:=by simpa using hvl
 clear hnv n_0 hl hn hvl
 go_enter Tryz.func33,Tryz.ntmps33
 go_wp2_with fail
 generalize hwB:World.alloc w _=wB
 have EB:Below w.heap.size w wB:=by rw [← hwB];exact (Below.refl _ _).alloc (Nat.le_refl _) _
 have K0:wB.cell? ⟨w.heap.size,0,none⟩=some (.slice na n.length np):=by rw [← hwB];simp [go_sem]
 have hzB:wB.heap.size=w.heap.size + 1:=by rw [← hwB];simp
 clear hwB
 refine (specl15Copy_c (HL.out.below EB)).mono ?_
 rintro e w1 ⟨v1,rfl,O1,hb1⟩
 replace K0:=cL hb1 K0
 have E1:=EB.trans (hb1.mono EB.size)
 have hz1:=hb1.size
 have HO:=hD (O1.wide (T:=Btw w.heap.size w1.heap.size) (fun j hj=>⟨by have:=hj.1;omega,hj.2⟩))
 obtain ⟨oa,on,oc,ho,HON⟩:=O1.parts;obtain rfl:=ho
 clear O1 hb1 EB
 have HF:=hD hf
 clear hf
 go_wp2_with fail
 refine (specValidName_c (HN.out.1.below E1)).mono ?_
 rintro e w2 ⟨rfl,hb2⟩
 replace K0:=cL hb2 K0
 have E2:=E1.trans (hb2.mono E1.size)
 have hz2:=hb2.size
 replace HO:=hD ((HO.out.below hb2).wide (T:=Btw w.heap.size w2.heap.size) (fun j hj=>⟨hj.1,by have:=hj.2;omega⟩))
 clear hb2 E1
 cases hv:vName n
 · have HT:=hD (recF_no (f:=f) (l:=l) (by rw [hv];rfl))
   go_wp2
   go_ret
   exact ⟨_,rfl,(HO.out.cast HT.out.symm).own (by rw [HT.out];exact hlb),E2⟩
 go_wp2_with fail
 refine specl1In_c.mono ?_
 rintro e w3 ⟨rfl,hw3⟩
 obtain rfl:=hw3.symm
 clear hw3
 cases hi:inR f 1 6
 · have HT:=hD (recF_no (f:=f) (l:=l) (by rw [hv,hi];rfl))
   go_wp2
   go_ret
   exact ⟨_,rfl,(HO.out.cast HT.out.symm).own (by rw [HT.out];exact hlb),E2⟩
 have HB:Hid ((vName n && inR f 1 6)=true):=hD (by rw [hv,hi];rfl)
 clear hv hi
 go_wp2_with fail
 refine (specl15Find_c (HL.out.1.below E2) (HN.out.1.below E2)).mono ?_
 rintro e w4 ⟨rfl,hb4⟩
 replace K0:=cL hb4 K0
 have E4:=E2.trans (hb4.mono E2.size)
 have hz4:=hb4.size
 replace HO:=hD ((HO.out.below hb4).wide (T:=Btw w.heap.size w4.heap.size) (fun j hj=>⟨hj.1,by have:=hj.2;omega⟩))
 clear hb4 E2
 by_cases hk:idxOf (isMeas n f) l < 0
 · have hk2:¬ (0≤idxOf (isMeas n f) l):=by omega
   generalize hq:idxOf (isMeas n f) l=q at *
   have HQ:=hD hq;clear hq
   by_cases h24:l.length < 24
   · have h24I:(l.length:Int) < 24:=by omega
     have HT:=hD (recF_new HB.out (by rw [HQ.out];exact hk) h24)
     go_wp2_with fail
     refine (specl4Copy_c (HN.out.below E4)).mono ?_
     rintro e wT ⟨tc,rfl,OT,hbT⟩
     obtain ⟨tv0,rfl,t_0⟩:=RName_raw OT.raw
     obtain ⟨ta0,tp0,th0,_⟩:=Rep.kR t_0;obtain rfl:tv0=_:=(by simpa using th0)
     clear th0 t_0
     go_upto_region 9 with fail
     generalize hwC:World.alloc wT _=wC
     have EC:Below wT.heap.size wT wC:=by rw [← hwC];exact (Below.refl _ _).alloc (Nat.le_refl _) _
     have KC:wC.cell? ⟨wT.heap.size,0,none⟩=some (.slice ta0 n.length tp0):=by rw [← hwC];simp [go_sem]
     clear hwC
     have ER:=hbT.trans (EC.mono hbT.size)
     have hsT:=hbT.size
     have hsC:=EC.size
     have OTC:=OT.below EC
     replace HO:=hD (HO.out.below ER)
     have hlk:on≤24:=by have:=HON.out;omega
     go_wp2_with (at_builtin;refine Rep.wpList_pushB rfl _ _ 40 rfl (r:=kI) (e:=166) Tryz.underlying40 infMeasurement rfl (by decide) (by decide) (B:=w.heap.size) HO.out (by rfl) (by rfl) rfl (Rep.own.wide (T:=Btw w4.heap.size wT.heap.size) (Rep.own_flat (r:=RName) (q:=Rep.pair Rep.int Rep.int) (cs:=[.slice ta0 n.length tp0]) (ds:=[.int .i64 f,.int .i64 1]) (x:=n) (y:=(f,1)) (OTC) (Rep.flat_pair (Rep.flat_int HF.out) (Rep.flat_int (n:=1) (by omega)))) (fun j hj=>hj)) rfl (fun j h1 h2=>by have p:=h1.2;have q:=h2.1;omega) (fun j hj=>⟨hj.1,by have:=hj.2;omega⟩) (fun j hj=>⟨by have:=hj.1;omega,by have:=hj.2;omega⟩) (by omega) (by have:=HON.out;omega) ?_)
     intro v5 w5 hown5 hbel5 hz5
     have HO5:=hD (hown5.cast HT.out.symm)
     have E5:=(E4.trans (ER.mono E4.size)).trans hbel5
     clear hown5 hbel5
     go_wp2
     go_ret
     exact ⟨_,rfl,HO5.out.own (by rw [HT.out,List.length_append];unfold Big;simp;omega),E5⟩
   have h24I:¬ (l.length:Int) < 24:=by omega
   have HT:=hD (recF_full HB.out (by rw [HQ.out];exact hk) h24)
   go_wp2
   go_ret
   exact ⟨_,rfl,(HO.out.cast HT.out.symm).own (by rw [HT.out];exact hlb),E4⟩
 obtain ⟨k,hkl,hki⟩:=idxOf_get hk
 have HKI:=hD hki
 rw [hki]
 clear hk hki
 obtain ⟨b,cap,hv,hbS,hbl,hcap2,hcap3⟩:=Rep.own0_addr HO.out hkl
 simp only [Value.slice.injEq] at hv
 obtain ⟨rfl,hon,rfl⟩:=hv
 have hkon:k < on:=by omega
 have hkI:(0:Int)≤k:=by omega
 have hkI2:(k:Int) < on:=by omega
 have HRD:=hD (HO.out.own hlb)
 obtain ⟨c0,c1,c2,hr,A0,A1,A2⟩:=Rep.at3 HRD.out.raw hkl rfl
 obtain ⟨rv,rhe,r_0,r_1,r_2,r_3⟩:=RMeasurement_raw hr
 simp only [List.cons.injEq,and_true] at rhe
 obtain ⟨rfl,rfl,rfl⟩:=rhe
 have hfz:=Rep.own0_frozen HO.out (by omega) (k * 3 + 2)
 have HT:=hD (recF_up HB.out HKI.out hkl)
 obtain ⟨s1,s2⟩:=Rep.own0_setCell (i:=k) (j:=2) (p:=k * 3 + 2) (u:=.int .i64 (upF l[k].2.2)) HO.out hlb hkl (by decide) (fun h=>RMeasurement_set2 _ upF_rng h) (show kI.bdd Big (setMeasurement_2 l[k] (upF l[k].2.2)) from Rep.raw_bdd HRD.out.rd hkl) rfl
 have HS1:=hD (fun v (hv:v=upF l[k].2.2)=>(show Rep.own0 166 kI (w4.setCell ⟨b,k * 3 + 2,none⟩ (.int .i64 v)) _ _ _ from hv ▸ s1.cast HT.out.symm));clear s1 s2 hon hr r_0 r_1 r_2
 go_wp2_with fail
 refine specMin_c.mono ?_
 rintro e w6 ⟨rfl,hw6⟩
 obtain rfl:=hw6.symm
 clear hw6
 go_wp2
 all_goals go_ret
 all_goals exact ⟨_,rfl,((HS1.out _ (by unfold upF;omega)).own (by rw [HT.out];simp;unfold Big;omega)).wide (fun j hj=>⟨hj.1,by simpa [World.setCell] using hj.2⟩),E4.setCell hbS.1 _⟩
set_option maxRecDepth 100000 in
set_option maxHeartbeats 4000000 in
theorem implRecordFailure_c {w:World} {vl:Value} {l:List kQ} (hl:(Rep.slice 166 kI).rd w [vl] l) {cn:List Value} {n:LName} (hn:RName.rd w cn n) {f:Int} (hf:-9223372036854775808≤f∧f≤9223372036854775807) :
    Calls Tryz.prog 47 #[vl,.agg cn.toArray,.int .i64 f] w (MadePost (Rep.slice 166 kI) (recF n f l) w):=by
 have HL:=hD hl
 have HN:=hD hn
 have hlb:l.length≤16777216:=hl.2.1
 obtain ⟨nv,rfl,n_0⟩:=RName_raw hn.1
 obtain ⟨na,np,hnv,_⟩:=Rep.kR n_0;obtain rfl:nv=_:=by simpa using hnv
 obtain ⟨va,vp,hvl,hvll⟩:=Rep.kR hl.1;obtain rfl:vl=_:=by simpa using hvl
 clear hnv n_0 hl hn hvl
 go_enter Tryz.func47,Tryz.ntmps47
 go_wp2_with fail
 generalize hwB:World.alloc w _=wB
 have EB:Below w.heap.size w wB:=by rw [← hwB];exact (Below.refl _ _).alloc (Nat.le_refl _) _
 have K0:wB.cell? ⟨w.heap.size,0,none⟩=some (.slice na n.length np):=by rw [← hwB];simp [go_sem]
 have hzB:wB.heap.size=w.heap.size + 1:=by rw [← hwB];simp
 clear hwB
 refine (implcopyMeasurements_c (HL.out.below EB)).mono ?_
 rintro e w1 ⟨v1,rfl,O1,hb1⟩
 replace K0:=cL hb1 K0
 have E1:=EB.trans (hb1.mono EB.size)
 have hz1:=hb1.size
 have HO:=hD (O1.wide (T:=Btw w.heap.size w1.heap.size) (fun j hj=>⟨by have:=hj.1;omega,hj.2⟩))
 obtain ⟨oa,on,oc,ho,HON⟩:=O1.parts;obtain rfl:=ho
 clear O1 hb1 EB
 have HF:=hD hf
 clear hf
 go_wp2_with fail
 refine (implValidName_c (HN.out.1.below E1)).mono ?_
 rintro e w2 ⟨rfl,hb2⟩
 replace K0:=cL hb2 K0
 have E2:=E1.trans (hb2.mono E1.size)
 have hz2:=hb2.size
 replace HO:=hD ((HO.out.below hb2).wide (T:=Btw w.heap.size w2.heap.size) (fun j hj=>⟨hj.1,by have:=hj.2;omega⟩))
 clear hb2 E1
 cases hv:vName n
 · have HT:=hD (recF_no (f:=f) (l:=l) (by rw [hv];rfl))
   go_wp2
   go_ret
   exact ⟨_,rfl,(HO.out.cast HT.out.symm).own (by rw [HT.out];exact hlb),E2⟩
 go_wp2_with fail
 refine implInRange_c.mono ?_
 rintro e w3 ⟨rfl,hw3⟩
 obtain rfl:=hw3.symm
 clear hw3
 cases hi:inR f 1 6
 · have HT:=hD (recF_no (f:=f) (l:=l) (by rw [hv,hi];rfl))
   go_wp2
   go_ret
   exact ⟨_,rfl,(HO.out.cast HT.out.symm).own (by rw [HT.out];exact hlb),E2⟩
 have HB:Hid ((vName n && inR f 1 6)=true):=hD (by rw [hv,hi];rfl)
 clear hv hi
 go_wp2_with fail
 refine (implmeasuredAt_c (HL.out.1.below E2) (HN.out.1.below E2)).mono ?_
 rintro e w4 ⟨rfl,hb4⟩
 replace K0:=cL hb4 K0
 have E4:=E2.trans (hb4.mono E2.size)
 have hz4:=hb4.size
 replace HO:=hD ((HO.out.below hb4).wide (T:=Btw w.heap.size w4.heap.size) (fun j hj=>⟨hj.1,by have:=hj.2;omega⟩))
 clear hb4 E2
 by_cases hk:idxOf (isMeas n f) l < 0
 · have hk2:¬ (0≤idxOf (isMeas n f) l):=by omega
   generalize hq:idxOf (isMeas n f) l=q at *
   have HQ:=hD hq;clear hq
   by_cases h24:l.length < 24
   · have h24I:(l.length:Int) < 24:=by omega
     have HT:=hD (recF_new HB.out (by rw [HQ.out];exact hk) h24)
     go_wp2_with fail
     refine (implcopyName_c (HN.out.below E4)).mono ?_
     rintro e wT ⟨tc,rfl,OT,hbT⟩
     obtain ⟨tv0,rfl,t_0⟩:=RName_raw OT.raw
     obtain ⟨ta0,tp0,th0,_⟩:=Rep.kR t_0;obtain rfl:tv0=_:=(by simpa using th0)
     clear th0 t_0
     have ER:=hbT
     have hsT:=hbT.size
     replace HO:=hD (HO.out.below ER)
     have hlk:on≤24:=by have:=HON.out;omega
     go_wp2_with (at_builtin;refine Rep.wpList_pushB rfl _ _ 40 rfl (r:=kI) (e:=166) Tryz.underlying40 infMeasurement rfl (by decide) (by decide) (B:=w.heap.size) HO.out (by rfl) (by rfl) rfl (Rep.own.wide (T:=Btw w4.heap.size wT.heap.size) (Rep.own_flat (r:=RName) (q:=Rep.pair Rep.int Rep.int) (cs:=[.slice ta0 n.length tp0]) (ds:=[.int .i64 f,.int .i64 1]) (x:=n) (y:=(f,1)) (OT) (Rep.flat_pair (Rep.flat_int HF.out) (Rep.flat_int (n:=1) (by omega)))) (fun j hj=>hj)) rfl (fun j h1 h2=>by have p:=h1.2;have q:=h2.1;omega) (fun j hj=>⟨hj.1,by have:=hj.2;omega⟩) (fun j hj=>⟨by have:=hj.1;omega,by have:=hj.2;omega⟩) (by omega) (by have:=HON.out;omega) ?_)
     intro v5 w5 hown5 hbel5 hz5
     have HO5:=hD (hown5.cast HT.out.symm)
     have E5:=(E4.trans (ER.mono E4.size)).trans hbel5
     clear hown5 hbel5
     go_wp2
     go_ret
     exact ⟨_,rfl,HO5.out.own (by rw [HT.out,List.length_append];unfold Big;simp;omega),E5⟩
   have h24I:¬ (l.length:Int) < 24:=by omega
   have HT:=hD (recF_full HB.out (by rw [HQ.out];exact hk) h24)
   go_wp2
   go_ret
   exact ⟨_,rfl,(HO.out.cast HT.out.symm).own (by rw [HT.out];exact hlb),E4⟩
 obtain ⟨k,hkl,hki⟩:=idxOf_get hk
 have HKI:=hD hki
 rw [hki]
 clear hk hki
 obtain ⟨b,cap,hv,hbS,hbl,hcap2,hcap3⟩:=Rep.own0_addr HO.out hkl
 simp only [Value.slice.injEq] at hv
 obtain ⟨rfl,hon,rfl⟩:=hv
 have hkon:k < on:=by omega
 have hkI:(0:Int)≤k:=by omega
 have hkI2:(k:Int) < on:=by omega
 have HRD:=hD (HO.out.own hlb)
 obtain ⟨c0,c1,c2,hr,A0,A1,A2⟩:=Rep.at3 HRD.out.raw hkl rfl
 obtain ⟨rv,rhe,r_0,r_1,r_2,r_3⟩:=RMeasurement_raw hr
 simp only [List.cons.injEq,and_true] at rhe
 obtain ⟨rfl,rfl,rfl⟩:=rhe
 have hfz:=Rep.own0_frozen HO.out (by omega) (k * 3 + 2)
 have HT:=hD (recF_up HB.out HKI.out hkl)
 obtain ⟨s1,s2⟩:=Rep.own0_setCell (i:=k) (j:=2) (p:=k * 3 + 2) (u:=.int .i64 (upF l[k].2.2)) HO.out hlb hkl (by decide) (fun h=>RMeasurement_set2 _ upF_rng h) (show kI.bdd Big (setMeasurement_2 l[k] (upF l[k].2.2)) from Rep.raw_bdd HRD.out.rd hkl) rfl
 have HS1:=hD (fun v (hv:v=upF l[k].2.2)=>(show Rep.own0 166 kI (w4.setCell ⟨b,k * 3 + 2,none⟩ (.int .i64 v)) _ _ _ from hv ▸ s1.cast HT.out.symm));clear s1 s2 hon hr r_0 r_1 r_2
 go_wp2
 all_goals go_ret
 all_goals exact ⟨_,rfl,((HS1.out _ (by unfold upF;omega)).own (by rw [HT.out];simp;unfold Big;omega)).wide (fun j hj=>⟨hj.1,by simpa [World.setCell] using hj.2⟩),E4.setCell hbS.1 _⟩
end Go.Proofs.YtomdenfcfbkfbaaGreat
namespace Go.Proofs.YtomdenfcfbkfbaaGreat
open Go.RowKit
set_option linter.unusedVariables false
set_option linter.unusedSimpArgs false
set_option linter.unnecessarySimpa false
def tickM (fs:List Int) (n:LName) (m:List kQ):List kQ:=match fs with | []=>m | f :: _=>recF n f m
def tickStep (x:LNode) (P:List kP) (st:List LSeenNonce × List kQ) (p:kP):List LSeenNonce × List kQ :=
  if p.2.1.length=0 then st else if 0≤idxOf (isPend p.1) P then st else
    ((p.2.1.foldl (fun s r=>addSeen s p.1 r.2.1) st.1),
      if mOk p.1 x.2.2.2.2.1 then tickM (outF (x.1,x.2.1,P,(p.2.1.foldl (fun s r=>addSeen s p.1 r.2.1) st.1),x.2.2.2.2.1,st.2,x.2.2.2.2.2.2) p.1 0) (mName p.1 x.2.2.2.2.1) st.2 else st.2)
def tickK (now:Int) (x:LNode) (k:Nat):List LSeenNonce × List kQ:=(x.2.2.1.take k).foldl (tickStep x (expP now x.2.2.1)) (x.2.2.2.1,x.2.2.2.2.2.1)
def tickN (now:Int) (x:LNode):LNode:=(x.1,evict now x.2.1,expP now x.2.2.1,(tickK now x x.2.2.1.length).1,x.2.2.2.2.1,(tickK now x x.2.2.1.length).2,x.2.2.2.2.2.2)
theorem tickK_next {now:Int} {x:LNode} {k:Nat} (h:k < x.2.2.1.length):tickK now x (k + 1)=tickStep x (expP now x.2.2.1) (tickK now x k) x.2.2.1[k]:=by
 unfold tickK;rw [List.take_succ_eq_append_getElem h,List.foldl_append];rfl
theorem addSeen_len2 {l:List LSeenNonce} {n:LName} {x:Int}:(addSeen l n x).length≤max l.length 24:=by
 unfold addSeen
 split
 · simp;omega
 simp at *;omega
theorem seenFold_len {n:LName}:∀ (rs:List LRequester) (s:List LSeenNonce),(rs.foldl (fun s r=>addSeen s n r.2.1) s).length≤max s.length 24
  | [],s=>by simp;omega
  | r :: rs,s=>by
    have h1:=seenFold_len (n:=n) rs (addSeen s n r.2.1)
    have h2:=addSeen_len2 (l:=s) (n:=n) (x:=r.2.1)
    simp only [List.foldl_cons]
    omega
theorem tickStep_len {x:LNode} {P:List kP} {st:List LSeenNonce × List kQ} {p:kP}:(tickStep x P st p).1.length≤max st.1.length 24:=by
 unfold tickStep
 split
 · omega
 split
 · omega
 exact seenFold_len _ _
theorem tickK_len {now:Int} {x:LNode}:∀ {k:Nat},(tickK now x k).1.length≤max x.2.2.2.1.length 24:=by
 intro k
 induction k with
 | zero=>simp [tickK];omega
 | succ k ih =>
   by_cases h:k < x.2.2.1.length
   · rw [tickK_next h]
     have:=tickStep_len (x:=x) (P:=expP now x.2.2.1) (st:=tickK now x k) (p:=x.2.2.1[k])
     omega
   · have e:tickK now x (k + 1)=tickK now x k:=by unfold tickK;rw [List.take_of_length_le (by omega),List.take_of_length_le (by omega)]
     rw [e];exact ih
theorem seenFold_next {n:LName} {rs:List LRequester} {s:List LSeenNonce} {j:Nat} (h:j < rs.length):(rs.take (j + 1)).foldl (fun s r=>addSeen s n r.2.1) s=addSeen ((rs.take j).foldl (fun s r=>addSeen s n r.2.1) s) n rs[j].2.1:=by
 rw [List.take_succ_eq_append_getElem h,List.foldl_append];rfl
theorem node_pend {w:World} {c0 c1 c2 c3 c4 c5 c6 c7:Value} {x0:List LData} {x1:LContentStore} {x2:List kP} {x3:List LSeenNonce} {x4:List LRoute} {x5:List kQ} {x6:Int} (h:RNode.raw w [c0,c1,c2,c3,c4,c5,c6,c7] (x0,x1,x2,x3,x4,x5,x6)):(Rep.slice 77 kH).raw w [c3] x2:=by
 obtain ⟨v0,v2,v3,v4,v5,v6,he,a0,a1,a2,a3,a4,a5,a6,a7,a8⟩:=RNode_raw h
 simp only [List.cons.injEq,and_true] at he
 obtain ⟨rfl,rfl,rfl,rfl,rfl,rfl,rfl,rfl⟩:=he
 exact a4
theorem node_seen {w:World} {c0 c1 c2 c3 c4 c5 c6 c7:Value} {x0:List LData} {x1:LContentStore} {x2:List kP} {x3:List LSeenNonce} {x4:List LRoute} {x5:List kQ} {x6:Int} (h:RNode.rd w [c0,c1,c2,c3,c4,c5,c6,c7] (x0,x1,x2,x3,x4,x5,x6)):(Rep.slice 157 kK).rd w [c4] x3:=by
 obtain ⟨v0,v2,v3,v4,v5,v6,he,a0,a1,a2,a3,a4,a5,a6,a7,a8⟩:=RNode_raw h.1
 simp only [List.cons.injEq,and_true] at he
 obtain ⟨rfl,rfl,rfl,rfl,rfl,rfl,rfl,rfl⟩:=he
 exact ⟨a5,h.2.2.2.2.1⟩
theorem node_routes {w:World} {c0 c1 c2 c3 c4 c5 c6 c7:Value} {x0:List LData} {x1:LContentStore} {x2:List kP} {x3:List LSeenNonce} {x4:List LRoute} {x5:List kQ} {x6:Int} (h:RNode.rd w [c0,c1,c2,c3,c4,c5,c6,c7] (x0,x1,x2,x3,x4,x5,x6)):(Rep.slice 159 RRoute).rd w [c5] x4:=by
 obtain ⟨v0,v2,v3,v4,v5,v6,he,a0,a1,a2,a3,a4,a5,a6,a7,a8⟩:=RNode_raw h.1
 simp only [List.cons.injEq,and_true] at he
 obtain ⟨rfl,rfl,rfl,rfl,rfl,rfl,rfl,rfl⟩:=he
 exact ⟨a6,h.2.2.2.2.2.1⟩
theorem node_meas {w:World} {c0 c1 c2 c3 c4 c5 c6 c7:Value} {x0:List LData} {x1:LContentStore} {x2:List kP} {x3:List LSeenNonce} {x4:List LRoute} {x5:List kQ} {x6:Int} (h:RNode.rd w [c0,c1,c2,c3,c4,c5,c6,c7] (x0,x1,x2,x3,x4,x5,x6)):(Rep.slice 166 kI).rd w [c6] x5:=by
 obtain ⟨v0,v2,v3,v4,v5,v6,he,a0,a1,a2,a3,a4,a5,a6,a7,a8⟩:=RNode_raw h.1
 simp only [List.cons.injEq,and_true] at he
 obtain ⟨rfl,rfl,rfl,rfl,rfl,rfl,rfl,rfl⟩:=he
 exact ⟨a7,h.2.2.2.2.2.2.1⟩
theorem node_cache {w:World} {c0 c2 c3 c4 c5 c6 c7:Value} {x0:List LData} {xc:Int} {xe:List LCacheEntry} {x2:List kP} {x3:List LSeenNonce} {x4:List LRoute} {x5:List kQ} {x6:Int} (h:RNode.rd w [c0,.int .i64 xc,c2,c3,c4,c5,c6,c7] (x0,(xc,xe),x2,x3,x4,x5,x6)):kJ.rd w [.int .i64 xc,c2] (xc,xe):=by
 obtain ⟨v0,v2,v3,v4,v5,v6,he,a0,a1,a2,a3,a4,a5,a6,a7,a8⟩:=RNode_raw h.1
 simp only [List.cons.injEq,and_true] at he
 obtain ⟨rfl,h2,rfl,rfl,rfl,rfl,rfl,rfl⟩:=he
 exact ⟨a1,h.2.2.1⟩
theorem node_setPend {w:World} {c0 c1 c2 c3 c4 c5 c6 c7 v:Value} {x0:List LData} {x1:LContentStore} {x2 y:List kP} {x3:List LSeenNonce} {x4:List LRoute} {x5:List kQ} {x6:Int} {S T:Nat→Prop}
    (h:RNode.own w [c0,c1,c2,c3,c4,c5,c6,c7] (x0,x1,x2,x3,x4,x5,x6) S) (hv:(Rep.slice 77 kH).own w [v] y T) (hd:∀ k,S k→T k→False):RNode.own w [c0,c1,c2,v,c4,c5,c6,c7] (x0,x1,y,x3,x4,x5,x6) (fun k=>S k∨T k) :=
  Rep.set_right (c:=[c0]) h rfl (fun B hB hq=>Rep.set_right (c:=[c1,c2]) hq rfl (fun B2 hB2 hq2=>Rep.set_left (c:=[c3]) (c':=[v]) hq2 rfl hv (fun k a b=>hd k (hB k (hB2 k a)) b)) (fun k a b=>hd k (hB k a) b)) hd
theorem node_setSeen {w:World} {c0 c1 c2 c3 c4 c5 c6 c7 v:Value} {x0:List LData} {x1:LContentStore} {x2:List kP} {x3 y:List LSeenNonce} {x4:List LRoute} {x5:List kQ} {x6:Int} {S T:Nat→Prop}
    (h:RNode.own w [c0,c1,c2,c3,c4,c5,c6,c7] (x0,x1,x2,x3,x4,x5,x6) S) (hv:(Rep.slice 157 kK).own w [v] y T) (hd:∀ k,S k→T k→False):RNode.own w [c0,c1,c2,c3,v,c5,c6,c7] (x0,x1,x2,y,x4,x5,x6) (fun k=>S k∨T k) :=
  Rep.set_right (c:=[c0]) h rfl (fun B hB hq=>Rep.set_right (c:=[c1,c2]) hq rfl (fun B2 hB2 hq2=>Rep.set_right (c:=[c3]) hq2 rfl (fun B3 hB3 hq3=>Rep.set_left (c:=[c4]) (c':=[v]) hq3 rfl hv (fun k a b=>hd k (hB k (hB2 k (hB3 k a))) b)) (fun k a b=>hd k (hB k (hB2 k a)) b)) (fun k a b=>hd k (hB k a) b)) hd
theorem node_setMeas {w:World} {c0 c1 c2 c3 c4 c5 c6 c7 v:Value} {x0:List LData} {x1:LContentStore} {x2:List kP} {x3:List LSeenNonce} {x4:List LRoute} {x5 y:List kQ} {x6:Int} {S T:Nat→Prop}
    (h:RNode.own w [c0,c1,c2,c3,c4,c5,c6,c7] (x0,x1,x2,x3,x4,x5,x6) S) (hv:(Rep.slice 166 kI).own w [v] y T) (hd:∀ k,S k→T k→False):RNode.own w [c0,c1,c2,c3,c4,c5,v,c7] (x0,x1,x2,x3,x4,y,x6) (fun k=>S k∨T k) :=
  Rep.set_right (c:=[c0]) h rfl (fun B hB hq=>Rep.set_right (c:=[c1,c2]) hq rfl (fun B2 hB2 hq2=>Rep.set_right (c:=[c3]) hq2 rfl (fun B3 hB3 hq3=>Rep.set_right (c:=[c4]) hq3 rfl (fun B4 hB4 hq4=>Rep.set_right (c:=[c5]) hq4 rfl (fun B5 hB5 hq5=>Rep.set_left (c:=[c6]) (c':=[v]) hq5 rfl hv (fun k a b=>hd k (hB k (hB2 k (hB3 k (hB4 k (hB5 k a))))) b)) (fun k a b=>hd k (hB k (hB2 k (hB3 k (hB4 k a)))) b)) (fun k a b=>hd k (hB k (hB2 k (hB3 k a))) b)) (fun k a b=>hd k (hB k (hB2 k a)) b)) (fun k a b=>hd k (hB k a) b)) hd
theorem node_setCache {w:World} {c0 c1 c2 c3 c4 c5 c6 c7 v u:Value} {x0:List LData} {x1 y:LContentStore} {x2:List kP} {x3:List LSeenNonce} {x4:List LRoute} {x5:List kQ} {x6:Int} {S T:Nat→Prop}
    (h:RNode.own w [c0,c1,c2,c3,c4,c5,c6,c7] (x0,x1,x2,x3,x4,x5,x6) S) (hv:kJ.own w [u,v] y T) (hd:∀ k,S k→T k→False):RNode.own w [c0,u,v,c3,c4,c5,c6,c7] (x0,y,x2,x3,x4,x5,x6) (fun k=>S k∨T k) :=
  Rep.set_right (c:=[c0]) h rfl (fun B hB hq=>Rep.set_left (c:=[c1,c2]) (c':=[u,v]) hq rfl hv (fun k a b=>hd k (hB k a) b)) hd
end Go.Proofs.YtomdenfcfbkfbaaGreat

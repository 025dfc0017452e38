/-
  A sending marked.
  A nonce that was seen is kept.
-/
import Derived.Test.YtpgnbablhdknnaaPend
import Derived.Test.YtpgnbablhdknnaaDrawB
import Derived.Test.YtpgnbablhdknnaaSoftT
set_option linter.unusedVariables false
set_option linter.unusedSimpArgs false
set_option linter.unnecessarySimpa false
set_option maxRecDepth 100000
set_option maxHeartbeats 4000000
namespace Go.Proofs.Ytpgnbablhdknnaa
open Go.RowKit
def kFw (n:kw) (t:Int) (l:List kD):List kD :=
  if idxOf (kR n) l < 0 then l else l.set (idxOf (kR n) l).toNat (jU (l.getD (idxOf (kR n) l).toNat ([],[],0)) t)
theorem kGz {n:kw} {t:Int} {l:List kD} (h:idxOf (kR n) l < 0):kFw n t l=l:=by unfold kFw;rw [if_pos h]
theorem kFe {n:kw} {t:Int} {l:List kD} {k:Nat} (h:idxOf (kR n) l=k) (hk:k < l.length):kFw n t l=l.set k (jU l[k] t):=by
 unfold kFw
 simp only [h,Int.toNat_natCast,jQ hk]
 rw [if_neg gV]
theorem kCi {w:World} {vl:Value} {l:List kD} (hl:(Rep.slice 67 kE).rd w [vl] l) {cn:List Value} {n:kw} (hn:kZ.rd w cn n) {t:Int} (ht:-9223372036854775808≤t∧t≤9223372036854775807) :
    Calls Try.prog 27 #[vl,.agg cn.toArray,.int .i64 t] w (zT (Rep.slice 67 kE) (kFw n t l) w):=by
 have HL:=yD hl
 have HN:=yD hn
 have hlb:l.length≤16777216:=hl.2.1
 obtain ⟨nv,rfl,n_0⟩:=kY hn.1
 obtain ⟨na,np,rfl,_⟩:=Rep.sl n_0
 obtain ⟨va,vp,rfl,hvll⟩:=Rep.sl hl.1
 clear n_0 hl hn
 go_enter Try.func27,Try.ntmps27
 go_wp2_with fail
 generalize hwB:World.alloc w _=wB
 have EB:Below w.heap.size w wB:=dN
 have K0:wB.cell? ⟨w.heap.size,0,none⟩=some (.slice na n.length np):=dX
 have hzB:wB.heap.size=w.heap.size + 1:=fV
 clear hwB
 refine (zI (HL.out.below EB)).mono ?_
 rintro e w1 ⟨v1,rfl,O1,hb1⟩
 replace K0:=cL hb1 K0
 have E1:=(tQ EB hb1)
 have hz1:=hb1.size
 have HO:=yD (O1.wide (T:=Btw w.heap.size w1.heap.size) dD)
 obtain ⟨oa,on,oc,ho,HON⟩:=O1.parts;obtain rfl:=ho
 clear O1 hb1 EB
 have HF:=yD ht
 clear ht
 go_wp2_with fail
 refine (yA (HL.out.1.below E1) (HN.out.1.below E1)).mono ?_
 rintro e w4 ⟨rfl,hb4⟩
 replace K0:=cL hb4 K0
 have E4:=(tQ E1 hb4)
 have hz4:=hb4.size
 replace HO:=yD ((HO.out.below hb4).wide (T:=Btw w.heap.size w4.heap.size) dC)
 clear hb4 E1
 by_cases hk:idxOf (kR n) l < 0
 · have HT:=yD (kGz (t:=t) hk)
   have hk2:¬ (0≤idxOf (kR n) l):=gV
   generalize hq:idxOf (kR n) l=q at *
   clear hq
   go_wp2
   go_ret
   exact ⟨_,rfl,(HO.out.cast HT.out.symm).own (by rw [HT.out];exact hlb),E4⟩
 obtain ⟨k,hkl,hki⟩:=jy hk
 have HKI:=yD hki
 rw [hki]
 clear hk hki
 obtain ⟨b,cap,hv,hbS,hbl,hcap2,hcap3⟩:=Rep.yx HO.out hkl
 simp only [Value.slice.injEq] at hv
 obtain ⟨rfl,hon,rfl⟩:=hv
 have hkon:k < on:=gV
 have hkI:(0:Int)≤k:=gV
 have hkI2:(k:Int) < on:=gV
 have HRD:=yD (HO.out.own hlb)
 obtain ⟨c0,c1,c2,hr,A0,A1,A2⟩:=Rep.at3 HRD.out.raw hkl rfl
 clear hr
 have hfz:=Rep.kCn HO.out gV (k * 3 + 2)
 have HT:=yD (kFe (t:=t) HKI.out hkl)
 obtain ⟨s1,s2⟩:=Rep.kEl (i:=k) (j:=2) (p:=k * 3 + 2) (u:=.int .i64 t) HO.out hlb hkl gU (fun h=>yt _ HF.out h) (show kE.bdd Big (jU l[k] t) from Rep.zg HRD.out.rd hkl) rfl
 have HS1:=yD (s1.cast HT.out.symm);clear s1 s2 hon
 go_wp2
 go_ret
 exact ⟨_,rfl,(HS1.out.own (by rw [HT.out];simp;unfold Big;omega)).wide (fun j hj=>⟨hj.1,by simpa [World.setCell] using hj.2⟩),E4.setCell hbS.1 _⟩
theorem kHl {w:World} {vl:Value} {l:List kD} (hl:(Rep.slice 67 kE).rd w [vl] l) {cn:List Value} {n:kw} (hn:kZ.rd w cn n) {t:Int} (ht:-9223372036854775808≤t∧t≤9223372036854775807) :
    Calls Try.prog 26 #[vl,.agg cn.toArray,.int .i64 t] w (zT (Rep.slice 67 kE) (kFw n t l) w):=by
 have HL:=yD hl
 have HN:=yD hn
 have hlb:l.length≤16777216:=hl.2.1
 obtain ⟨nv,rfl,n_0⟩:=kY hn.1
 obtain ⟨na,np,rfl,_⟩:=Rep.sl n_0
 obtain ⟨va,vp,rfl,hvll⟩:=Rep.sl hl.1
 clear n_0 hl hn
 go_enter Try.func26,Try.ntmps26
 go_wp2_with fail
 generalize hwB:World.alloc w _=wB
 have EB:Below w.heap.size w wB:=dN
 have K0:wB.cell? ⟨w.heap.size,0,none⟩=some (.slice na n.length np):=dX
 have hzB:wB.heap.size=w.heap.size + 1:=fV
 clear hwB
 refine (kAj (HL.out.below EB)).mono ?_
 rintro e w1 ⟨v1,rfl,O1,hb1⟩
 replace K0:=cL hb1 K0
 have E1:=(tQ EB hb1)
 have hz1:=hb1.size
 have HO:=yD (O1.wide (T:=Btw w.heap.size w1.heap.size) dD)
 obtain ⟨oa,on,oc,ho,HON⟩:=O1.parts;obtain rfl:=ho
 clear O1 hb1 EB
 have HF:=yD ht
 clear ht
 go_wp2_with fail
 refine (ji (HL.out.1.below E1) (HN.out.1.below E1)).mono ?_
 rintro e w4 ⟨rfl,hb4⟩
 replace K0:=cL hb4 K0
 have E4:=(tQ E1 hb4)
 have hz4:=hb4.size
 replace HO:=yD ((HO.out.below hb4).wide (T:=Btw w.heap.size w4.heap.size) dC)
 clear hb4 E1
 by_cases hk:idxOf (kR n) l < 0
 · have HT:=yD (kGz (t:=t) hk)
   have hk2:¬ (0≤idxOf (kR n) l):=gV
   generalize hq:idxOf (kR n) l=q at *
   clear hq
   go_wp2
   go_ret
   exact ⟨_,rfl,(HO.out.cast HT.out.symm).own (by rw [HT.out];exact hlb),E4⟩
 obtain ⟨k,hkl,hki⟩:=jy hk
 have HKI:=yD hki
 rw [hki]
 clear hk hki
 obtain ⟨b,cap,hv,hbS,hbl,hcap2,hcap3⟩:=Rep.yx HO.out hkl
 simp only [Value.slice.injEq] at hv
 obtain ⟨rfl,hon,rfl⟩:=hv
 have hkon:k < on:=gV
 have hkI:(0:Int)≤k:=gV
 have hkI2:(k:Int) < on:=gV
 have HRD:=yD (HO.out.own hlb)
 obtain ⟨c0,c1,c2,hr,A0,A1,A2⟩:=Rep.at3 HRD.out.raw hkl rfl
 clear hr
 have hfz:=Rep.kCn HO.out gV (k * 3 + 2)
 have HT:=yD (kFe (t:=t) HKI.out hkl)
 obtain ⟨s1,s2⟩:=Rep.kEl (i:=k) (j:=2) (p:=k * 3 + 2) (u:=.int .i64 t) HO.out hlb hkl gU (fun h=>yt _ HF.out h) (show kE.bdd Big (jU l[k] t) from Rep.zg HRD.out.rd hkl) rfl
 have HS1:=yD (s1.cast HT.out.symm);clear s1 s2 hon
 go_wp2
 go_ret
 exact ⟨_,rfl,(HS1.out.own (by rw [HT.out];simp;unfold Big;omega)).wide (fun j hj=>⟨hj.1,by simpa [World.setCell] using hj.2⟩),E4.setCell hbS.1 _⟩
def kAl (l:List kz) (n:kw) (x:Int):List kz:=if (24:Nat) < (l++[(n,x)]).length then (l++[(n,x)]).drop 1 else l++[(n,x)]
theorem kDr {w:World} {vl:Value} {l:List kz} (hl:(Rep.slice 77 ky).rd w [vl] l) (hlen:l.length≤2000000) {cn:List Value} {n:kw} (hn:kZ.rd w cn n) {x:Int} (hx:-9223372036854775808≤x∧x≤9223372036854775807) :
    Calls Try.prog 83 #[vl,.agg cn.toArray,.int .i64 x] w (zT (Rep.slice 77 ky) (kAl l n x) w):=by
 have HL:=yD hl
 have HN:=yD hn
 have HX:=yD hx
 obtain ⟨la,lp,rfl,ll⟩:=Rep.sl hl.1
 obtain ⟨av,rfl,a_0⟩:=kY hn.1
 obtain ⟨na,np,rfl,_⟩:=Rep.sl a_0
 clear hl hn a_0 hx
 go_enter Try.func83,Try.ntmps83
 go_upto_region 1 with fail
 generalize hwB:World.alloc w _=wB
 have EB:Below w.heap.size w wB:=by rw [← hwB];exact bB
 have hzB:w.heap.size + 1≤wB.heap.size:=fV
 have K0:wB.cell? ⟨w.heap.size,0,none⟩=some (.slice na n.length np):=dX
 clear hwB
 have FX:=yD (fun (W:World) (hW:Below wB.heap.size wB W)=>cL hW K0)
 refine jX (fun W=>Below wB.heap.size wB W) [(0,true),(2,true),(4,true),(1,false),(3,false),(5,true),(6,false),(7,false),(8,true)] gP gP bX (bR.drew) ?_
 intro wS HS
 simp only [kg,List.getElem?_cons_succ,List.getElem?_cons_zero,List.map_cons,List.map_nil]
 iterate 3
  all_goals refine wkR ?_
 all_goals first|(refine kG rfl HS ?_)|(refine kQ rfl (fun K hK=>?_);go_simp;refine (kHy (HL.out.below (tQ EB HS))).mono ?_;rintro e wA ⟨v1,rfl,O1,hbA⟩;have hzS1:=HS.size;have hzA:=hbA.size;have hwS1:=HS;obtain ⟨va,vn,vc,hv1,HVN⟩:=O1.parts;obtain rfl:=hv1;have HO1:=yD O1;clear O1;replace HS:=(tQ HS hbA);refine hK _ _ HS ?_;clear hK K hbA)
 all_goals refine wkP ?_
 all_goals first|(refine kG rfl HS ?_)|(refine kQ rfl (fun K hK=>?_);go_simp;refine (yZ (HN.out.below (tQ EB HS))).mono ?_;rintro e wC ⟨tc,rfl,O3,hbC⟩;have hzC:=hbC.size;obtain ⟨tv,rfl,t_0⟩:=kY O3.raw;obtain ⟨ta,tp,rfl,_⟩:=Rep.sl t_0;clear t_0;have HO3:=yD O3;clear O3;replace HO1:=yD (HO1.out.below hbC);have hvn:=HVN.out;subst hvn;clear HVN;replace HS:=(tQ HS hbC);refine hK _ _ HS ?_;clear hK K hbC)
 all_goals refine wkP ?_
 all_goals refine wkR ?_
 all_goals first|(refine kG rfl HS ?_)|(refine kQ rfl (fun K hK=>?_);go_simp;refine hK _ _ (HS.alloc HS.size _) ?_;clear hK K)
 all_goals refine wkP ?_
 all_goals first|(refine kG rfl HS ?_)|(refine kQ rfl (fun K hK=>?_);obtain ⟨v7,w7,hr7,ho7,ht7⟩:=Rep.kHb (P:=Try.prog) (t:=43) (ty:=43) (r:=ky) (e:=77) (w:=wC) (xs:=l) (c:=1) Try.underlying43 kBq rfl gU gU (HO1.out.own fQ) bR (Rep.jm (r:=kZ) (q:=Rep.int) (cs:=[.slice ta n.length tp]) (ds:=[.int .i64 x]) (x:=n) (y:=x) HO3.out (Rep.kW HX.out)) (fun j h1 h2=>by have:=h1.2;have:=h2.1;omega) gV;refine Rep.jW _ _ _ rfl gX gX hr7 ?_;have hz7:=ht7.size;have HS7:Below wB.heap.size wB w7:=HS.trans (ht7.below HS.size (fun j q=>by have:=q.1.1;omega));clear hr7;generalize hq_:l++[(n,x)]=q at *;have HQL:Hid (q.length=l.length + 1):=yD (by rw [← hq_];simp);obtain ⟨a7,c7,rfl,_⟩:=Rep.sl ho7.raw;have HO7:=yD (ho7.wide (T:=Btw w.heap.size w7.heap.size) (fun j q=>by rcases q with q | q | q;exact ⟨by have:=q.1;omega,by have:=q.2;omega⟩;exact ⟨by have:=q.1;omega,by have:=q.2;omega⟩;exact ⟨by have:=q.1;omega,q.2⟩));clear ho7 ht7;have HQE:=yD hq_;clear hq_;refine hK _ _ HS7 ?_;clear hK K HS)
 all_goals refine wkP ?_
 all_goals refine wkR ?_
 all_goals refine kN ?_
 have EF:=(tQ EB HS7)
 by_cases h24:24 < q.length
 · obtain ⟨_,b,off,rfl,hSb,hbl⟩:=Rep.kHe HO7.out gV
   have hcp:=(Rep.kGn HO7.out.raw)
   have h24I:(24:Int) < q.length:=gV
   have h1I:(1:Int)≤q.length:=gV
   have hc1:¬ c7=1:=gV
   have hcI:(q.length:Int)≤c7:=gV
   have hcI2:c7≤9223372036854775807:=hcp.2
   have HD:=yD (Rep.drop_own HO7.out (k:=1) gV)
   have HAD:Hid (kAl l n x=q.drop 1):=yD (by unfold kAl;rw [HQE.out,if_pos h24])
   clear HO7 HQE
   go_wp2
   go_ret
   refine ⟨_,rfl,?_,EF⟩
   rw [HAD.out]
   exact HD.out
 have h24I:¬ (24:Int) < q.length:=gV
 have HAD:Hid (kAl l n x=q):=yD (by unfold kAl;rw [HQE.out,if_neg h24])
 clear HQE
 go_wp2
 go_ret
 refine ⟨_,rfl,?_,EF⟩
 rw [HAD.out]
 exact HO7.out
end Go.Proofs.Ytpgnbablhdknnaa

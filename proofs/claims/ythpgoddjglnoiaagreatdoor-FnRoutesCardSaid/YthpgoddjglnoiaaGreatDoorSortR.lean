/-
  The stable sort: the merge in place.
-/
import Derived.Test.YthpgoddjglnoiaaGreatDoorSortP
set_option linter.unusedVariables false
set_option linter.unusedSimpArgs false
set_option linter.unnecessarySimpa false
set_option maxRecDepth 100000
set_option maxHeartbeats 8000000
namespace Go.Proofs.YthpgoddjglnoiaaGreatDoor
open Go.RowKit
theorem kHi {b n cap:Nat} {S:Nat→Prop} {g:FuncId} {cp:Array Value} (key:kD→Int) (hg:kY Tryz.prog g) (f:Nat) {w:World} {a m z:Nat} {xs:List kD} (hcl:jZ key g cp S w) (h:Rep.kH 29 kE w (.slice (some ⟨b,0,none⟩) n cap) xs S) (hn:n=xs.length) (hlen:xs.length≤16777216) (ham:a < m) (hmz:m < z) (hz:z≤xs.length) (hf:z - a≤f + 1) (c1:m - a=1) :
    Calls Tryz.prog 86 #[.slice (some ⟨b,0,none⟩) n cap,.int .i64 (a:Nat),.int .i64 (m:Nat),.int .i64 (z:Nat),.func (.func g) #[] cp] w fun e w'=>e=.returned (.tuple #[])∧Rep.kH 29 kE w' (.slice (some ⟨b,0,none⟩) n cap) (Srt.symm key (f + 1) a m z xs) S∧Touch S w w':=by
 have HCL:=yD hcl
 unfold kY at hg
 have HO:=yD h
 have HN0:=yD hn
 have HT0:Hid (Touch S w w):=yD (Touch.refl _ _)
 clear h hcl
 have hzB:z≤16777216:=fV
 have hzn:z≤n:=fV
 have hnB:n≤16777216:=fV
 have HZL:=yD hz
 clear hlen hz hn
 have ha0:=Int.natCast_nonneg a
 have haM:(a:Int) < m:=fV
 have hMZ:(m:Int) < z:=fV
 have hZB:(z:Int)≤16777216:=fV
 have hZN:(z:Int)≤n:=fV
 have hq1:(m:Int) - (a:Int)=((m - a:Nat):Int):=fV
 have hq2:(z:Int) - (m:Int)=((z - m:Nat):Int):=fV
 go_enter Tryz.func86,Tryz.ntmps86
 have HF:=yD (symm_A (key:=key) (f:=f) (z:=z) (xs:=xs) c1)
 have hb1:(m:Int) - (a:Int)=1:=fV
 clear hq1 hq2
 go_wp2
 go_loopw [10,11] (fun i j wr=>∃ (p q:Nat),i=.int .i64 p∧j=.int .i64 q∧m≤p∧p≤q∧q≤z∧Hid (Srt.bs (fun h=>decide (Srt.kAt key xs h < Srt.kAt key xs a)) p q=Srt.bs (fun h=>decide (Srt.kAt key xs h < Srt.kAt key xs a)) m z)∧Hid (Rep.kH 29 kE wr (.slice (some ⟨b,0,none⟩) n cap) xs S)∧Hid (Touch S w wr)) (fun i j _=>(intOf j).toNat - (intOf i).toNat)
 case atStart=>exact ⟨m,z,rfl,rfl,Nat.le_refl _,by omega,Nat.le_refl _,yD rfl,HO,HT0⟩
 obtain ⟨p,q,rfl,rfl,hmp,hpq,hqz,HB,HO2,HT2⟩:=hrel
 have hp0:=Int.natCast_nonneg p
 have hqZ:(q:Int)≤z:=fV
 by_cases hlt:p < q
 · have hltI:(p:Int) < q:=fV
   obtain ⟨h,hh⟩:∃ h,(p + q) / 2=h:=⟨_,rfl⟩
   have hhI:((p:Int) + (q:Int)) / 2=(h:Int):=fV
   have hph:p≤h:=fV
   have hhq:h < q:=fV
   have hh0:=Int.natCast_nonneg h
   have HY:=yD (fun e=>(bs_yes (p:=(fun h=>decide (Srt.kAt key xs h < Srt.kAt key xs a))) hlt hh e).symm.trans HB.out)
   have HNO:=yD (fun e=>(bs_no (p:=(fun h=>decide (Srt.kAt key xs h < Srt.kAt key xs a))) hlt hh e).symm.trans HB.out)
   have hl:h < xs.length:=dR
   have al:a < xs.length:=dR
   have hhN:(h:Int) < n:=fV
   have haN:(a:Int) < n:=fV
   have HK:Hid ((fun h=>decide (Srt.kAt key xs h < Srt.kAt key xs a)) h=decide (key (xs[h]'hl) < key (xs[a]'al))):=yD (by rw [← Srt.jG (key:=key) hl,← Srt.jG (key:=key) al])
   obtain ⟨pc0,pc1,pc2,pr,pA0,pA1,pA2⟩:=Rep.at3 HO2.out.zQ hl rfl
   obtain ⟨pv0,phe,p_0,p_1,p_2,p_3⟩:=kG pr
   simp only [List.cons.injEq,and_true] at phe
   obtain ⟨rfl,rfl,rfl⟩:=phe
   obtain ⟨pa0,pp0,rfl,pl0⟩:=Rep.sl p_1
   clear p_0 p_1 p_2 p_3
   obtain ⟨qc0,qc1,qc2,qr,qA0,qA1,qA2⟩:=Rep.at3 HO2.out.zQ al rfl
   obtain ⟨qv0,qhe,q_0,q_1,q_2,q_3⟩:=kG qr
   simp only [List.cons.injEq,and_true] at qhe
   obtain ⟨rfl,rfl,rfl⟩:=qhe
   obtain ⟨qa0,qp0,rfl,ql0⟩:=Rep.sl q_1
   clear q_0 q_1 q_2 q_3
   generalize xs[h]=x at *
   generalize xs[a]=y at *
   go_upto_region 5 with fail
   have FX:=yD (fun (W:World) (hW:Below wr.heap.size wr W)=>cLs6 hW pA0 pA1 pA2 qA0 qA1 qA2)
   refine kI (fun W=>Below wr.heap.size wr W) [true,true,true,true,true,true,true,true,true,false,true] fP fP bW (bR.drew) ?_
   intro wS HS
   iterate 9
    all_goals refine wkR ?_
   all_goals first|(refine kJ rfl HS ?_)|(refine jF rfl (fun K hK=>?_);go_simp;refine (HCL.out _ (HT2.out.trans (Touch.of_below HS)) _ _ _ _ (Rep.raw.below pr HS) (Rep.raw.below qr HS)).mono ?_;rintro e wS1 ⟨kk,rfl,hkk,hbS⟩;replace HS:=(tQ HS hbS);refine hK _ _ HS ?_;clear hK K hbS)
   all_goals refine wkP ?_
   all_goals (have hg10:=True.intro;first|(refine wkG (fun b hg10=>?_);cases b;all_goals first | exact Bool.noConfusion hg10 | simp only [zU,zV] at hg10 | skip) | refine wkR ?_)
   all_goals refine wkP ?_
   all_goals refine kQ ?_
   all_goals have HTX:=yD (HT2.out.trans (Touch.of_below HS))
   all_goals have HOX:=yD (HO2.out.below HS)
   all_goals first
     | (have HV:=yD (show _=true from HK.out.trans (by first | exact hg10 | simpa using hg10));have HB2:=yD (HY.out HV.out);clear HY HNO HK HV hkk hg10;go_wp2;go_roundw;(case rel=>exact ⟨h + 1,q,by go_num,rfl,by omega,by omega,by omega,HB2,HOX,HTX⟩);(case measure=>simp [intOf];omega))
     | (have HV:=yD (show _=false from HK.out.trans (by first | exact hg10 | simpa using hg10));have HB2:=yD (HNO.out HV.out);clear HY HNO HK HV hkk hg10;go_wp2;go_roundw;(case rel=>exact ⟨p,h,rfl,rfl,by omega,by omega,by omega,HB2,HOX,HTX⟩);(case measure=>simp [intOf];omega))
 obtain rfl:q=p:=fV
 have hpN:¬ (q:Int) < q:=fV
 have HE:=yD ((bs_end (p:=(fun h=>decide (Srt.kAt key xs h < Srt.kAt key xs a))) (i:=q) (j:=q) fV).symm.trans HB.out)
 obtain ⟨t,ht⟩:∃ t,q - 1=t:=⟨_,rfl⟩
 have htI:(q:Int) - 1=(t:Int):=fV
 have hta:a≤t:=fV
 have hwt:IntKind.i64.wrap (t:Int)=t:=IntWalk.i64_in _ fV
 have htz:t + 1≤z:=fV
 have htN:(t:Int) < n:=fV
 have HFU:Hid (Srt.symm key (f + 1) a m z xs=Srt.up (t - a) a xs):=yD (by rw [HF.out,← HE.out,ht])
 go_wp2
 go_loopw [13] (fun i wr=>∃ (k:Nat) (cu:List kD),i=.int .i64 k∧a≤k∧k≤t∧Hid (Srt.up (t - k) k cu=Srt.up (t - a) a xs)∧Hid (cu.length=n)∧Hid (Rep.kH 29 kE wr (.slice (some ⟨b,0,none⟩) n cap) cu S)∧Hid (Touch S w wr)) (fun i _=>t - (intOf i).toNat)
 case atStart=>exact ⟨a,xs,rfl,Nat.le_refl _,hta,yD rfl,yD HN0.out.symm,HO2,HT2⟩
 obtain ⟨k,cu,rfl,hak,hkt,HG,HL,HO3,HT3⟩:=hrel
 have hk0:=Int.natCast_nonneg k
 by_cases hlt:k < t
 · have hltI:(k:Int) < t:=fV
   have HSW:=yD ((up_next (cu:=cu) hlt).symm.trans HG.out)
   obtain ⟨j,hj⟩:∃ j,k + 1=j:=⟨_,rfl⟩
   rw [hj] at HSW
   have hjI:(k:Int) + 1=(j:Int):=fV
   have hwj:IntKind.i64.wrap (j:Int)=j:=IntWalk.i64_in _ fV
   have hj0:=Int.natCast_nonneg j
   have hjl:j < cu.length:=dW
   have hkl:k < cu.length:=fV
   have hjN:(j:Int) < n:=fV
   have hkN:(k:Int) < n:=fV
   obtain ⟨pc0,pc1,pc2,pr,pA0,pA1,pA2⟩:=Rep.at3 HO3.out.zQ hkl rfl
   obtain ⟨pv0,phe,p_0,p_1,p_2,p_3⟩:=kG pr
   simp only [List.cons.injEq,and_true] at phe
   obtain ⟨rfl,rfl,rfl⟩:=phe
   obtain ⟨pa0,pp0,rfl,pl0⟩:=Rep.sl p_1
   clear p_0 p_1 p_2 p_3
   obtain ⟨qc0,qc1,qc2,qr,qA0,qA1,qA2⟩:=Rep.at3 HO3.out.zQ hjl rfl
   obtain ⟨qv0,qhe,q_0,q_1,q_2,q_3⟩:=kG qr
   simp only [List.cons.injEq,and_true] at qhe
   obtain ⟨rfl,rfl,rfl⟩:=qhe
   obtain ⟨qa0,qp0,rfl,ql0⟩:=Rep.sl q_1
   clear q_0 q_1 q_2 q_3
   generalize cu[k]=x at *
   generalize cu[j]=y at *
   go_upto_region 11 with fail
   have FX:=yD (fun (W:World) (hW:Below wr.heap.size wr W)=>cLs6 hW pA0 pA1 pA2 qA0 qA1 qA2)
   refine jT (fun W=>Below wr.heap.size wr W) [2,3,4] [(0,true),(1,true),(5,true),(6,true),(7,true),(8,true),(9,true),(10,true),(11,true),(12,true),(13,true),(14,true)] fP fP bW (bR.drew) ?_
   intro wS HS
   simp only [kK,jy,List.length_cons,List.length_nil,List.getElem?_cons_succ,List.getElem?_cons_zero,List.map_cons,List.map_nil,List.cons_append,List.nil_append,List.drop_succ_cons,List.drop_zero,Nat.reduceAdd,Nat.zero_add]
   iterate 3
    refine kDr (v:=?_) rfl (fun W=>?_) ?_;rotate_left;(· go_simp;try with_reducible rfl)
    refine wkP ?_
   refine pre_nil ?_
   iterate 12
    refine wkR ?_
   refine jV ?_
   have HTX:=yD (HT3.out.trans (Touch.of_below HS))
   replace HO3:=yD (HO3.out.below HS)
   replace pA0:=cL HS pA0
   replace pA1:=cL HS pA1
   replace pA2:=cL HS pA2
   replace qA0:=cL HS qA0
   replace qA1:=cL HS qA1
   replace qA2:=cL HS qA2
   have BK:=Rep.kBd HO3.out hkl
   have EQi:k * kE.n=k * 3:=rfl
   have EQj:j * kE.n=j * 3:=rfl
   have THi:wS.there b (k * 3) 3:=by have q:=Rep.jl HO3.out hkl;rw [EQi] at q;exact q
   have THj:wS.there b (j * 3) 3:=by have q:=Rep.jl HO3.out hjl;rw [EQj] at q;exact q
   have hci:∀ q u,([.slice pa0 (x.1).length pp0,.int .i64 x.2.1,.int .i64 x.2.2]:List Value)[q]?=some u→wS.cell? ⟨b,k * kE.n + q,none⟩=some u:=bU
   have hcj:∀ q u,([.slice qa0 (y.1).length qp0,.int .i64 y.2.1,.int .i64 y.2.2]:List Value)[q]?=some u→wS.cell? ⟨b,j * kE.n + q,none⟩=some u:=bV
   obtain ⟨s1,s2⟩:=Rep.kCe (ci:=[.slice pa0 (x.1).length pp0,.int .i64 x.2.1,.int .i64 x.2.2]) (cj:=[.slice qa0 (y.1).length qp0,.int .i64 y.2.1,.int .i64 y.2.2]) HO3.out hkl hjl fV rfl rfl hci hcj (pi:=k * 3) (pj:=j * 3) EQi.symm EQj.symm
   have HO6:=yD s1;have HT6:=yD s2;clear s1 s2 hci hcj EQi EQj
   have hsz:(Tryz.prog.info? 29).map (·.size)=some 3:=bH
   have honei:∀ c∈([.slice pa0 (x.1).length pp0,.int .i64 x.2.1,.int .i64 x.2.2]:List Value),c.oneCell'=true:=bC
   have honej:∀ c∈([.slice qa0 (y.1).length qp0,.int .i64 y.2.1,.int .i64 y.2.2]:List Value),c.oneCell'=true:=bC
   refine jH rfl 29 _ _ rfl b (k * 3) (.agg #[.slice qa0 (y.1).length qp0,.int .i64 y.2.1,.int .i64 y.2.2]) [.slice qa0 (y.1).length qp0,.int .i64 y.2.1,.int .i64 y.2.2] rfl gB gB THi hsz honej ?_
   intro w5 hw5
   have THj5:w5.there b (j * 3) 3:=dK
   have HW5:=yD hw5;clear hw5
   go_wp2_with (refine jH rfl 29 _ _ rfl b (j * 3) (.agg #[.slice pa0 (x.1).length pp0,.int .i64 x.2.1,.int .i64 x.2.2]) [.slice pa0 (x.1).length pp0,.int .i64 x.2.1,.int .i64 x.2.2] rfl gB gB THj5 hsz honei ?_)
   rw [← HW5.out] at HO6 HT6
   generalize hw6:Rep.setCells w5 b (j * 3) [.slice pa0 (x.1).length pp0,.int .i64 x.2.1,.int .i64 x.2.2]=w6 at *
   clear HW5 hw6 THi THj THj5 hsz honei honej
   have HT7:=yD (HTX.out.trans (kCb HT6.out BK.1))
   have HL7:Hid ((Srt.sw cu k j).length=n):=yD (by rw [Srt.jr];exact HL.out)
   go_roundw
   case rel=>exact ⟨j,Srt.sw cu k j,rfl,by omega,by omega,HSW,HL7,HO6,HT7⟩
   simp [intOf];omega
 obtain rfl:k=t:=fV
 have HE2:=yD (HFU.out.trans ((HG.out).symm.trans (up_end (cu:=cu) (by omega:¬ k < k))))
 have hkN2:¬ (k:Int) < k:=fV
 go_wp2
 first | go_end0|((try simp only [Exit.inBlock,Exit.then]);refine bodyPost_ret (results_none rfl _ _ _) rfl ?_)
 exact ⟨rfl,HO3.out.cast HE2.out.symm,HT3.out⟩
theorem kHh {b n cap:Nat} {S:Nat→Prop} {g:FuncId} {cp:Array Value} (key:kD→Int) (hg:kY Tryz.prog g) (f:Nat) {w:World} {a m z:Nat} {xs:List kD} (hcl:jZ key g cp S w) (h:Rep.kH 29 kE w (.slice (some ⟨b,0,none⟩) n cap) xs S) (hn:n=xs.length) (hlen:xs.length≤16777216) (ham:a < m) (hmz:m < z) (hz:z≤xs.length) (hf:z - a≤f + 1) (c1:¬ m - a=1) (c2:z - m=1) :
    Calls Tryz.prog 86 #[.slice (some ⟨b,0,none⟩) n cap,.int .i64 (a:Nat),.int .i64 (m:Nat),.int .i64 (z:Nat),.func (.func g) #[] cp] w fun e w'=>e=.returned (.tuple #[])∧Rep.kH 29 kE w' (.slice (some ⟨b,0,none⟩) n cap) (Srt.symm key (f + 1) a m z xs) S∧Touch S w w':=by
 have HCL:=yD hcl
 unfold kY at hg
 have HO:=yD h
 have HN0:=yD hn
 have HT0:Hid (Touch S w w):=yD (Touch.refl _ _)
 clear h hcl
 have hzB:z≤16777216:=fV
 have hzn:z≤n:=fV
 have hnB:n≤16777216:=fV
 have HZL:=yD hz
 clear hlen hz hn
 have ha0:=Int.natCast_nonneg a
 have haM:(a:Int) < m:=fV
 have hMZ:(m:Int) < z:=fV
 have hZB:(z:Int)≤16777216:=fV
 have hZN:(z:Int)≤n:=fV
 have hq1:(m:Int) - (a:Int)=((m - a:Nat):Int):=fV
 have hq2:(z:Int) - (m:Int)=((z - m:Nat):Int):=fV
 go_enter Tryz.func86,Tryz.ntmps86
 have HF:=yD (symm_B (key:=key) (f:=f) (xs:=xs) c1 c2)
 have hb1:(z:Int) - (m:Int)=1:=fV
 have hb2:¬ (m:Int) - (a:Int)=1:=fV
 have hb3:(((m - a:Nat):Int)==1)=false:=fQ
 obtain ⟨ma,hma⟩:∃ ma,m - a=ma:=⟨_,rfl⟩
 rw [hma] at hq1 hb3
 have hwma:IntKind.i64.wrap (ma:Int)=ma:=IntWalk.i64_in _ fV
 clear hq2
 go_wp2
 go_loopw [14,15] (fun i j wr=>∃ (p q:Nat),i=.int .i64 p∧j=.int .i64 q∧a≤p∧p≤q∧q≤m∧Hid (Srt.bs (fun h=>!decide (Srt.kAt key xs m < Srt.kAt key xs h)) p q=Srt.bs (fun h=>!decide (Srt.kAt key xs m < Srt.kAt key xs h)) a m)∧Hid (Rep.kH 29 kE wr (.slice (some ⟨b,0,none⟩) n cap) xs S)∧Hid (Touch S w wr)) (fun i j _=>(intOf j).toNat - (intOf i).toNat)
 case atStart=>exact ⟨a,m,rfl,rfl,Nat.le_refl _,by omega,Nat.le_refl _,yD rfl,HO,HT0⟩
 obtain ⟨p,q,rfl,rfl,hmp,hpq,hqz,HB,HO2,HT2⟩:=hrel
 have hp0:=Int.natCast_nonneg p
 have hqZ:(q:Int)≤m:=fV
 by_cases hlt:p < q
 · have hltI:(p:Int) < q:=fV
   obtain ⟨h,hh⟩:∃ h,(p + q) / 2=h:=⟨_,rfl⟩
   have hhI:((p:Int) + (q:Int)) / 2=(h:Int):=fV
   have hph:p≤h:=fV
   have hhq:h < q:=fV
   have hh0:=Int.natCast_nonneg h
   have HY:=yD (fun e=>(bs_yes (p:=(fun h=>!decide (Srt.kAt key xs m < Srt.kAt key xs h))) hlt hh e).symm.trans HB.out)
   have HNO:=yD (fun e=>(bs_no (p:=(fun h=>!decide (Srt.kAt key xs m < Srt.kAt key xs h))) hlt hh e).symm.trans HB.out)
   have hl:h < xs.length:=dR
   have ml:m < xs.length:=dR
   have hhN:(h:Int) < n:=fV
   have hmN:(m:Int) < n:=fV
   have HK:Hid ((fun h=>!decide (Srt.kAt key xs m < Srt.kAt key xs h)) h=!decide (key (xs[m]'ml) < key (xs[h]'hl))):=yD (by rw [← Srt.jG (key:=key) ml,← Srt.jG (key:=key) hl])
   obtain ⟨pc0,pc1,pc2,pr,pA0,pA1,pA2⟩:=Rep.at3 HO2.out.zQ ml rfl
   obtain ⟨pv0,phe,p_0,p_1,p_2,p_3⟩:=kG pr
   simp only [List.cons.injEq,and_true] at phe
   obtain ⟨rfl,rfl,rfl⟩:=phe
   obtain ⟨pa0,pp0,rfl,pl0⟩:=Rep.sl p_1
   clear p_0 p_1 p_2 p_3
   obtain ⟨qc0,qc1,qc2,qr,qA0,qA1,qA2⟩:=Rep.at3 HO2.out.zQ hl rfl
   obtain ⟨qv0,qhe,q_0,q_1,q_2,q_3⟩:=kG qr
   simp only [List.cons.injEq,and_true] at qhe
   obtain ⟨rfl,rfl,rfl⟩:=qhe
   obtain ⟨qa0,qp0,rfl,ql0⟩:=Rep.sl q_1
   clear q_0 q_1 q_2 q_3
   generalize xs[m]=x at *
   generalize xs[h]=y at *
   go_upto_region 17 with fail
   have FX:=yD (fun (W:World) (hW:Below wr.heap.size wr W)=>cLs6 hW pA0 pA1 pA2 qA0 qA1 qA2)
   refine kI (fun W=>Below wr.heap.size wr W) [true,true,true,true,true,true,true,true,true,false,true,true] fP fP bW (bR.drew) ?_
   intro wS HS
   iterate 9
    all_goals refine wkR ?_
   all_goals first|(refine kJ rfl HS ?_)|(refine jF rfl (fun K hK=>?_);go_simp;refine (HCL.out _ (HT2.out.trans (Touch.of_below HS)) _ _ _ _ (Rep.raw.below pr HS) (Rep.raw.below qr HS)).mono ?_;rintro e wS1 ⟨kk,rfl,hkk,hbS⟩;replace HS:=(tQ HS hbS);refine hK _ _ HS ?_;clear hK K hbS)
   all_goals refine wkP ?_
   all_goals refine wkR ?_
   all_goals (have hg11:=True.intro;first|(refine wkG (fun b hg11=>?_);cases b;all_goals first | exact Bool.noConfusion hg11 | simp only [zU,zV] at hg11 | skip) | refine wkR ?_)
   all_goals refine wkP ?_
   all_goals refine kQ ?_
   all_goals have HTX:=yD (HT2.out.trans (Touch.of_below HS))
   all_goals have HOX:=yD (HO2.out.below HS)
   all_goals first
     | (have HV:=yD (show _=true from HK.out.trans (by first | exact hg11 | simpa using hg11));have HB2:=yD (HY.out HV.out);clear HY HNO HK HV hkk hg11;go_wp2;go_roundw;(case rel=>exact ⟨h + 1,q,by go_num,rfl,by omega,by omega,by omega,HB2,HOX,HTX⟩);(case measure=>simp [intOf];omega))
     | (have HV:=yD (show _=false from HK.out.trans (by first | exact hg11 | simpa using hg11));have HB2:=yD (HNO.out HV.out);clear HY HNO HK HV hkk hg11;go_wp2;go_roundw;(case rel=>exact ⟨p,h,rfl,rfl,by omega,by omega,by omega,HB2,HOX,HTX⟩);(case measure=>simp [intOf];omega))
 obtain rfl:q=p:=fV
 have hpN:¬ (q:Int) < q:=fV
 have HE:=yD ((bs_end (p:=(fun h=>!decide (Srt.kAt key xs m < Srt.kAt key xs h))) (i:=q) (j:=q) fV).symm.trans HB.out)
 have HFU:Hid (Srt.symm key (f + 1) a m z xs=Srt.down q m xs):=yD (by rw [HF.out,← HE.out])
 go_wp2
 go_loopw [17] (fun i wr=>∃ (k:Nat) (cu:List kD),i=.int .i64 k∧q≤k∧k≤m∧Hid (Srt.down q k cu=Srt.down q m xs)∧Hid (cu.length=n)∧Hid (Rep.kH 29 kE wr (.slice (some ⟨b,0,none⟩) n cap) cu S)∧Hid (Touch S w wr)) (fun i _=>(intOf i).toNat)
 case atStart=>exact ⟨m,xs,rfl,by omega,Nat.le_refl _,yD rfl,yD HN0.out.symm,HO2,HT2⟩
 obtain ⟨k,cu,rfl,hak,hkt,HG,HL,HO3,HT3⟩:=hrel
 have hk0:=Int.natCast_nonneg k
 by_cases hlt:q < k
 · have hltI:(q:Int) < k:=fV
   have hltD:decide ((k:Int) > q)=true:=fQ
   obtain ⟨j,hj⟩:∃ j,j + 1=k:=⟨k - 1,by omega⟩
   have HSW:=yD ((down_next (cu:=cu) hj hlt).symm.trans HG.out)
   have hjI:(k:Int) - 1=(j:Int):=fV
   have hwj:IntKind.i64.wrap (j:Int)=j:=IntWalk.i64_in _ fV
   have hj0:=Int.natCast_nonneg j
   have hkl:k < cu.length:=dW
   have hjl:j < cu.length:=fV
   have hjN:(j:Int) < n:=fV
   have hkN:(k:Int) < n:=fV
   obtain ⟨pc0,pc1,pc2,pr,pA0,pA1,pA2⟩:=Rep.at3 HO3.out.zQ hkl rfl
   obtain ⟨pv0,phe,p_0,p_1,p_2,p_3⟩:=kG pr
   simp only [List.cons.injEq,and_true] at phe
   obtain ⟨rfl,rfl,rfl⟩:=phe
   obtain ⟨pa0,pp0,rfl,pl0⟩:=Rep.sl p_1
   clear p_0 p_1 p_2 p_3
   obtain ⟨qc0,qc1,qc2,qr,qA0,qA1,qA2⟩:=Rep.at3 HO3.out.zQ hjl rfl
   obtain ⟨qv0,qhe,q_0,q_1,q_2,q_3⟩:=kG qr
   simp only [List.cons.injEq,and_true] at qhe
   obtain ⟨rfl,rfl,rfl⟩:=qhe
   obtain ⟨qa0,qp0,rfl,ql0⟩:=Rep.sl q_1
   clear q_0 q_1 q_2 q_3
   generalize cu[k]=x at *
   generalize cu[j]=y at *
   go_upto_region 23 with fail
   have FX:=yD (fun (W:World) (hW:Below wr.heap.size wr W)=>cLs6 hW pA0 pA1 pA2 qA0 qA1 qA2)
   refine jT (fun W=>Below wr.heap.size wr W) [2,3,4] [(0,true),(1,true),(5,true),(6,true),(7,true),(8,true),(9,true),(10,true),(11,true),(12,true),(13,true),(14,true)] fP fP bW (bR.drew) ?_
   intro wS HS
   simp only [kK,jy,List.length_cons,List.length_nil,List.getElem?_cons_succ,List.getElem?_cons_zero,List.map_cons,List.map_nil,List.cons_append,List.nil_append,List.drop_succ_cons,List.drop_zero,Nat.reduceAdd,Nat.zero_add]
   iterate 3
    refine kDr (v:=?_) rfl (fun W=>?_) ?_;rotate_left;(· go_simp;try with_reducible rfl)
    refine wkP ?_
   refine pre_nil ?_
   iterate 12
    refine wkR ?_
   refine jV ?_
   have HTX:=yD (HT3.out.trans (Touch.of_below HS))
   replace HO3:=yD (HO3.out.below HS)
   replace pA0:=cL HS pA0
   replace pA1:=cL HS pA1
   replace pA2:=cL HS pA2
   replace qA0:=cL HS qA0
   replace qA1:=cL HS qA1
   replace qA2:=cL HS qA2
   have BK:=Rep.kBd HO3.out hkl
   have EQi:k * kE.n=k * 3:=rfl
   have EQj:j * kE.n=j * 3:=rfl
   have THi:wS.there b (k * 3) 3:=by have q:=Rep.jl HO3.out hkl;rw [EQi] at q;exact q
   have THj:wS.there b (j * 3) 3:=by have q:=Rep.jl HO3.out hjl;rw [EQj] at q;exact q
   have hci:∀ q u,([.slice pa0 (x.1).length pp0,.int .i64 x.2.1,.int .i64 x.2.2]:List Value)[q]?=some u→wS.cell? ⟨b,k * kE.n + q,none⟩=some u:=bU
   have hcj:∀ q u,([.slice qa0 (y.1).length qp0,.int .i64 y.2.1,.int .i64 y.2.2]:List Value)[q]?=some u→wS.cell? ⟨b,j * kE.n + q,none⟩=some u:=bV
   obtain ⟨s1,s2⟩:=Rep.kCe (ci:=[.slice pa0 (x.1).length pp0,.int .i64 x.2.1,.int .i64 x.2.2]) (cj:=[.slice qa0 (y.1).length qp0,.int .i64 y.2.1,.int .i64 y.2.2]) HO3.out hkl hjl fV rfl rfl hci hcj (pi:=k * 3) (pj:=j * 3) EQi.symm EQj.symm
   have HO6:=yD s1;have HT6:=yD s2;clear s1 s2 hci hcj EQi EQj
   have hsz:(Tryz.prog.info? 29).map (·.size)=some 3:=bH
   have honei:∀ c∈([.slice pa0 (x.1).length pp0,.int .i64 x.2.1,.int .i64 x.2.2]:List Value),c.oneCell'=true:=bC
   have honej:∀ c∈([.slice qa0 (y.1).length qp0,.int .i64 y.2.1,.int .i64 y.2.2]:List Value),c.oneCell'=true:=bC
   refine jH rfl 29 _ _ rfl b (k * 3) (.agg #[.slice qa0 (y.1).length qp0,.int .i64 y.2.1,.int .i64 y.2.2]) [.slice qa0 (y.1).length qp0,.int .i64 y.2.1,.int .i64 y.2.2] rfl gB gB THi hsz honej ?_
   intro w5 hw5
   have THj5:w5.there b (j * 3) 3:=dK
   have HW5:=yD hw5;clear hw5
   go_wp2_with (refine jH rfl 29 _ _ rfl b (j * 3) (.agg #[.slice pa0 (x.1).length pp0,.int .i64 x.2.1,.int .i64 x.2.2]) [.slice pa0 (x.1).length pp0,.int .i64 x.2.1,.int .i64 x.2.2] rfl gB gB THj5 hsz honei ?_)
   rw [← HW5.out] at HO6 HT6
   generalize hw6:Rep.setCells w5 b (j * 3) [.slice pa0 (x.1).length pp0,.int .i64 x.2.1,.int .i64 x.2.2]=w6 at *
   clear HW5 hw6 THi THj THj5 hsz honei honej
   have HT7:=yD (HTX.out.trans (kCb HT6.out BK.1))
   have HL7:Hid ((Srt.sw cu k j).length=n):=yD (by rw [Srt.jr];exact HL.out)
   go_roundw
   case rel=>exact ⟨j,Srt.sw cu k j,rfl,by omega,by omega,HSW,HL7,HO6,HT7⟩
   simp [intOf];omega
 have HE2:=yD (HFU.out.trans ((HG.out).symm.trans (down_end (cu:=cu) hlt)))
 have hkN2:¬ (q:Int) < k:=fV
 have hkD:decide ((k:Int) > q)=false:=fQ
 go_wp2
 first | go_end0|((try simp only [Exit.inBlock,Exit.then]);refine bodyPost_ret (results_none rfl _ _ _) rfl ?_)
 exact ⟨rfl,HO3.out.cast HE2.out.symm,HT3.out⟩
theorem kHg {b n cap:Nat} {S:Nat→Prop} {g:FuncId} {cp:Array Value} (key:kD→Int) (hg:kY Tryz.prog g) (f:Nat) (ih:(∀ {w:World} {a m z:Nat} {xs:List kD} (hcl:jZ key g cp S w) (h:Rep.kH 29 kE w (.slice (some ⟨b,0,none⟩) n cap) xs S) (hn:n=xs.length) (hlen:xs.length≤16777216) (ham:a < m) (hmz:m < z) (hz:z≤xs.length) (hf:z - a≤f),Calls Tryz.prog 86 #[.slice (some ⟨b,0,none⟩) n cap,.int .i64 (a:Nat),.int .i64 (m:Nat),.int .i64 (z:Nat),.func (.func g) #[] cp] w fun e w'=>e=.returned (.tuple #[])∧Rep.kH 29 kE w' (.slice (some ⟨b,0,none⟩) n cap) (Srt.symm key f a m z xs) S∧Touch S w w')) {w:World} {a m z:Nat} {xs:List kD} (hcl:jZ key g cp S w) (h:Rep.kH 29 kE w (.slice (some ⟨b,0,none⟩) n cap) xs S) (hn:n=xs.length) (hlen:xs.length≤16777216) (ham:a < m) (hmz:m < z) (hz:z≤xs.length) (hf:z - a≤f + 1) (c1:¬ m - a=1) (c2:¬ z - m=1) :
    Calls Tryz.prog 86 #[.slice (some ⟨b,0,none⟩) n cap,.int .i64 (a:Nat),.int .i64 (m:Nat),.int .i64 (z:Nat),.func (.func g) #[] cp] w fun e w'=>e=.returned (.tuple #[])∧Rep.kH 29 kE w' (.slice (some ⟨b,0,none⟩) n cap) (Srt.symm key (f + 1) a m z xs) S∧Touch S w w':=by
 have HCL:=yD hcl
 have HIH:=yD (fun (w:World) (a m z:Nat) (xs:List kD)=>ih (w:=w) (a:=a) (m:=m) (z:=z) (xs:=xs));clear ih
 unfold kY at hg
 have HO:=yD h
 have HN0:=yD hn
 have HT0:Hid (Touch S w w):=yD (Touch.refl _ _)
 clear h hcl
 have hzB:z≤16777216:=fV
 have hzn:z≤n:=fV
 have hnB:n≤16777216:=fV
 have HZL:=yD hz
 clear hlen hz hn
 have ha0:=Int.natCast_nonneg a
 have haM:(a:Int) < m:=fV
 have hMZ:(m:Int) < z:=fV
 have hZB:(z:Int)≤16777216:=fV
 have hZN:(z:Int)≤n:=fV
 have hq1:(m:Int) - (a:Int)=((m - a:Nat):Int):=fV
 have hq2:(z:Int) - (m:Int)=((z - m:Nat):Int):=fV
 go_enter Tryz.func86,Tryz.ntmps86
 obtain ⟨mid,hmid⟩:∃ mid,(a + z) / 2=mid:=⟨_,rfl⟩
 have hmidI:((a:Int) + (z:Int)) / 2=(mid:Int):=fV
 obtain ⟨N,hN⟩:∃ N,mid + m=N:=⟨_,rfl⟩
 have hNI:(mid:Int) + (m:Int)=(N:Int):=fV
 have hb2:¬ (m:Int) - (a:Int)=1:=fV
 have hb3:(((m - a:Nat):Int)==1)=false:=fQ
 have hb4:¬ (z:Int) - (m:Int)=1:=fV
 have hb5:(((z - m:Nat):Int)==1)=false:=fQ
 have hma1:m - a≤16777216:=fV
 have hzm1:z - m≤16777216:=fV
 obtain ⟨ma,hma⟩:∃ ma,m - a=ma:=⟨_,rfl⟩
 rw [hma] at hq1 hb3
 obtain ⟨zm,hzm⟩:∃ zm,z - m=zm:=⟨_,rfl⟩
 rw [hzm] at hq2 hb5
 have hwma:IntKind.i64.wrap (ma:Int)=ma:=IntWalk.i64_in _ fV
 have hwzm:IntKind.i64.wrap (zm:Int)=zm:=IntWalk.i64_in _ fV
 have hwN:IntKind.i64.wrap (N:Int)=N:=IntWalk.i64_in _ fV
 have hmid0:=Int.natCast_nonneg mid
 have hN0:=Int.natCast_nonneg N
 have hNB:(N:Int)≤33554432:=fV
 have hamid:a < mid:=fV
 have hmidz:mid < z:=fV
 obtain ⟨lo,hlo⟩:∃ lo,lo=(if mid < m then N - z else a):=⟨_,rfl⟩
 obtain ⟨hi,hhi⟩:∃ hi,hi=(if mid < m then mid else m):=⟨_,rfl⟩
 have hlohi:lo≤hi:=by rw [hlo,hhi];split <;> omega
 have hloa:a≤lo:=by rw [hlo];split <;> omega
 have him:hi≤m:=by rw [hhi];split <;> omega
 have himid:hi≤mid:=by rw [hhi];split <;> omega
 have hloz:N≤z + lo:=by rw [hlo];split <;> omega
 have hhiN:m + hi≤N:=by rw [hhi];split <;> omega
 have HLO:=yD hlo;have HHI:=yD hhi;clear hlo hhi
 skip
 go_upto_if 140 with fail
 go_cut [20,21] from 138 to 140 (fun s20 s21 wc=>s20=.int .i64 (lo:Nat)∧s21=.int .i64 (hi:Nat)∧Hid (Rep.kH 29 kE wc (.slice (some ⟨b,0,none⟩) n cap) xs S)∧Hid (Touch S w wc))
 case first =>
  by_cases hmm:mid < m
  · have hmI:(mid:Int) < m:=fV
    have hmD:decide ((m:Int) > mid)=true:=fQ
    have e1:lo=N - z:=by rw [HLO.out,if_pos hmm]
    have e2:hi=mid:=by rw [HHI.out,if_pos hmm]
    have e3:(N:Int) - (z:Int)=(lo:Int):=fV
    have e4:IntKind.i64.wrap (lo:Int)=lo:=IntWalk.i64_in _ fV
    go_wp2
    go_meet
    exact ⟨by first | rfl | rw [e1],by first | rfl | rw [e2],HO,HT0⟩
  have hmI:¬ (mid:Int) < m:=fV
  have hmD:decide ((m:Int) > mid)=false:=fQ
  have e1:lo=a:=by rw [HLO.out,if_neg hmm]
  have e2:hi=m:=by rw [HHI.out,if_neg hmm]
  go_wp2
  go_meet
  exact ⟨by first | rfl | rw [e1],by first | rfl | rw [e2],HO,HT0⟩
 obtain ⟨rfl,rfl,HO1,HT1⟩:=hcut
 clear HO HT0
 obtain ⟨N1,hN1⟩:∃ N1,N - 1=N1:=⟨_,rfl⟩
 have hN1I:(N:Int) - 1=(N1:Int):=fV
 have hwN1:IntKind.i64.wrap (N1:Int)=N1:=IntWalk.i64_in _ fV
 have hN10:=Int.natCast_nonneg N1
 have hloI:=Int.natCast_nonneg lo
 have hhiM:(hi:Int)≤m:=fV
 go_wp2
 go_loopw [20,21] (fun i j wr=>∃ (p q:Nat),i=.int .i64 p∧j=.int .i64 q∧lo≤p∧p≤q∧q≤hi∧Hid (Srt.bs (fun c=>!decide (Srt.kAt key xs (N - 1 - c) < Srt.kAt key xs c)) p q=Srt.bs (fun c=>!decide (Srt.kAt key xs (N - 1 - c) < Srt.kAt key xs c)) lo hi)∧Hid (Rep.kH 29 kE wr (.slice (some ⟨b,0,none⟩) n cap) xs S)∧Hid (Touch S w wr)) (fun i j _=>(intOf j).toNat - (intOf i).toNat)
 case atStart=>exact ⟨lo,hi,rfl,rfl,Nat.le_refl _,by omega,Nat.le_refl _,yD rfl,HO1,HT1⟩
 obtain ⟨p,q,rfl,rfl,hmp,hpq,hqz,HB,HO2,HT2⟩:=hrel
 have hp0:=Int.natCast_nonneg p
 have hqZ:(q:Int)≤hi:=fV
 by_cases hlt:p < q
 · have hltI:(p:Int) < q:=fV
   obtain ⟨h,hh⟩:∃ h,(p + q) / 2=h:=⟨_,rfl⟩
   have hhI:((p:Int) + (q:Int)) / 2=(h:Int):=fV
   have hph:p≤h:=fV
   have hhq:h < q:=fV
   have hh0:=Int.natCast_nonneg h
   have HY:=yD (fun e=>(bs_yes (p:=(fun c=>!decide (Srt.kAt key xs (N - 1 - c) < Srt.kAt key xs c))) hlt hh e).symm.trans HB.out)
   have HNO:=yD (fun e=>(bs_no (p:=(fun c=>!decide (Srt.kAt key xs (N - 1 - c) < Srt.kAt key xs c))) hlt hh e).symm.trans HB.out)
   obtain ⟨u,hu⟩:∃ u,N - 1 - h=u:=⟨_,rfl⟩
   have ul:u < xs.length:=dR
   have hl:h < xs.length:=dR
   have hhN:(h:Int) < n:=fV
   have huN:(u:Int) < n:=fV
   have huI:(N1:Int) - (h:Int)=(u:Int):=fV
   have hu0:=Int.natCast_nonneg u
   have hwu:IntKind.i64.wrap (u:Int)=u:=IntWalk.i64_in _ fV
   have HK:Hid ((fun c=>!decide (Srt.kAt key xs (N - 1 - c) < Srt.kAt key xs c)) h=!decide (key (xs[u]'ul) < key (xs[h]'hl))):=yD (by rw [← Srt.jG (key:=key) ul,← Srt.jG (key:=key) hl];show (!decide (Srt.kAt key xs (N - 1 - h) < Srt.kAt key xs h))=_;rw [hu])
   obtain ⟨pc0,pc1,pc2,pr,pA0,pA1,pA2⟩:=Rep.at3 HO2.out.zQ ul rfl
   obtain ⟨pv0,phe,p_0,p_1,p_2,p_3⟩:=kG pr
   simp only [List.cons.injEq,and_true] at phe
   obtain ⟨rfl,rfl,rfl⟩:=phe
   obtain ⟨pa0,pp0,rfl,pl0⟩:=Rep.sl p_1
   clear p_0 p_1 p_2 p_3
   obtain ⟨qc0,qc1,qc2,qr,qA0,qA1,qA2⟩:=Rep.at3 HO2.out.zQ hl rfl
   obtain ⟨qv0,qhe,q_0,q_1,q_2,q_3⟩:=kG qr
   simp only [List.cons.injEq,and_true] at qhe
   obtain ⟨rfl,rfl,rfl⟩:=qhe
   obtain ⟨qa0,qp0,rfl,ql0⟩:=Rep.sl q_1
   clear q_0 q_1 q_2 q_3
   generalize xs[u]=x at *
   generalize xs[h]=y at *
   go_upto_region 35 with fail
   have FX:=yD (fun (W:World) (hW:Below wr.heap.size wr W)=>cLs6 hW pA0 pA1 pA2 qA0 qA1 qA2)
   refine kI (fun W=>Below wr.heap.size wr W) [true,true,true,true,true,true,true,true,true,true,true,false,true,true] fP fP bW (bR.drew) ?_
   intro wS HS
   iterate 11
    all_goals refine wkR ?_
   all_goals first|(refine kJ rfl HS ?_)|(refine jF rfl (fun K hK=>?_);go_simp;refine (HCL.out _ (HT2.out.trans (Touch.of_below HS)) _ _ _ _ (Rep.raw.below pr HS) (Rep.raw.below qr HS)).mono ?_;rintro e wS1 ⟨kk,rfl,hkk,hbS⟩;replace HS:=(tQ HS hbS);refine hK _ _ HS ?_;clear hK K hbS)
   all_goals refine wkP ?_
   all_goals refine wkR ?_
   all_goals (have hg13:=True.intro;first|(refine wkG (fun b hg13=>?_);cases b;all_goals first | exact Bool.noConfusion hg13 | simp only [zU,zV] at hg13 | skip) | refine wkR ?_)
   all_goals refine wkP ?_
   all_goals refine kQ ?_
   all_goals have HTX:=yD (HT2.out.trans (Touch.of_below HS))
   all_goals have HOX:=yD (HO2.out.below HS)
   all_goals first
     | (have HV:=yD (show _=true from HK.out.trans (by first | exact hg13 | simpa using hg13));have HB2:=yD (HY.out HV.out);clear HY HNO HK HV hkk hg13;go_wp2;go_roundw;(case rel=>exact ⟨h + 1,q,by go_num,rfl,by omega,by omega,by omega,HB2,HOX,HTX⟩);(case measure=>simp [intOf];omega))
     | (have HV:=yD (show _=false from HK.out.trans (by first | exact hg13 | simpa using hg13));have HB2:=yD (HNO.out HV.out);clear HY HNO HK HV hkk hg13;go_wp2;go_roundw;(case rel=>exact ⟨p,h,rfl,rfl,by omega,by omega,by omega,HB2,HOX,HTX⟩);(case measure=>simp [intOf];omega))
 obtain rfl:q=p:=fV
 have hpN:¬ (q:Int) < q:=fV
 have HE:=yD ((bs_end (p:=(fun c=>!decide (Srt.kAt key xs (N - 1 - c) < Srt.kAt key xs c))) (i:=q) (j:=q) fV).symm.trans HB.out)
 rw [HLO.out,HHI.out] at HE
 obtain ⟨e,he⟩:∃ e,N - q=e:=⟨_,rfl⟩
 have heI:(N:Int) - (q:Int)=(e:Int):=fV
 have hwe:IntKind.i64.wrap (e:Int)=e:=IntWalk.i64_in _ fV
 have hem:m≤e:=fV
 have hez:e≤z:=fV
 have hqm:q≤m:=fV
 have haq:a≤q:=fV
 have he0:=Int.natCast_nonneg e
 obtain ⟨y,hy⟩:∃ y,y=if q < m∧m < e then Srt.rot m (m - q) (e - m) xs else xs:=⟨_,rfl⟩
 obtain ⟨u,hu⟩:∃ u,u=if a < q∧q < mid then Srt.symm key f a q mid y else y:=⟨_,rfl⟩
 have HF:=yD (symm_C (key:=key) (f:=f) c1 c2 hmid hN HE.out he hy hu)
 have HLY:Hid (n=y.length):=yD (by rw [hy,HN0.out];split <;> first | rfl | exact (Srt.kGn _ _ _ _).symm)
 have HLU:Hid (n=u.length):=yD (by rw [hu];split <;> first | exact HLY.out|(rw [Srt.jO];exact HLY.out))
 have HY:=yD hy;have HU:=yD hu;clear hy hu HB HE HLO HHI hmid hN
 go_upto_region 39 with fail
 go_cut [185] from 178 to 185 (fun sb wc=>sb=.bool (decide (q < m) && decide (m < e))∧Hid (Rep.kH 29 kE wc (.slice (some ⟨b,0,none⟩) n cap) xs S)∧Hid (Touch S w wc))
 case first =>
  by_cases g1:q < m
  · have g1I:(q:Int) < m:=fV
    by_cases g2:m < e
    · have g2I:(m:Int) < e:=fV
      go_wp2
      go_meet
      exact ⟨by rw [decide_eq_true g1,decide_eq_true g2];rfl,HO2,HT2⟩
    have g2I:¬ (m:Int) < e:=fV
    go_wp2
    go_meet
    exact ⟨by rw [decide_eq_true g1,decide_eq_false g2];rfl,HO2,HT2⟩
  have g1I:¬ (q:Int) < m:=fV
  go_wp2
  go_meet
  exact ⟨by rw [decide_eq_false g1];rfl,HO2,HT2⟩
 obtain ⟨rfl,HO4,HT4⟩:=hcut
 have HCk:=yD (jE HCL.out HT4.out)
 go_upto_if 185 with fail
 go_cut [] from 178 to 185 (fun wc=>Hid (Rep.kH 29 kE wc (.slice (some ⟨b,0,none⟩) n cap) y S)∧Hid (Touch S w wc))
 case first =>
  by_cases g:q < m∧m < e
  · have hb:(decide (q < m) && decide (m < e))=true:=bJ
    simp only [hb]
    go_wp2_with fail
    refine (rot_Route_c HO4.out HN0.out (by have:=HN0.out;omega) (a:=q) (m:=m) (z:=e) g.1 g.2 dR).mono ?_
    rintro e2 w2 ⟨rfl,O2,T2⟩
    have HOn:=yD O2;have HTn:=yD (HT4.out.trans T2);clear O2 T2
    try go_wp2
    go_meet
    exact ⟨yD (HOn.out.cast (by rw [HY.out,if_pos g])),HTn⟩
  have hb:(decide (q < m) && decide (m < e))=false:=by
   rcases Nat.lt_or_ge q m with q1 | q1
   · rw [decide_eq_true q1,decide_eq_false (fun q2=>g ⟨q1,q2⟩)];rfl
   rw [decide_eq_false fV];rfl
  simp only [hb]
  go_wp2
  go_meet
  exact ⟨yD (HO4.out.cast (by rw [HY.out,if_neg g])),HT4⟩
 obtain ⟨HO5,HT5⟩:=hcut
 go_upto_region 41 with fail
 go_cut [199] from 192 to 199 (fun sb wc=>sb=.bool (decide (a < q) && decide (q < mid))∧Hid (Rep.kH 29 kE wc (.slice (some ⟨b,0,none⟩) n cap) y S)∧Hid (Touch S w wc))
 case first =>
  by_cases g1:a < q
  · have g1I:(a:Int) < q:=fV
    by_cases g2:q < mid
    · have g2I:(q:Int) < mid:=fV
      go_wp2
      go_meet
      exact ⟨by rw [decide_eq_true g1,decide_eq_true g2];rfl,HO5,HT5⟩
    have g2I:¬ (q:Int) < mid:=fV
    go_wp2
    go_meet
    exact ⟨by rw [decide_eq_true g1,decide_eq_false g2];rfl,HO5,HT5⟩
  have g1I:¬ (a:Int) < q:=fV
  go_wp2
  go_meet
  exact ⟨by rw [decide_eq_false g1];rfl,HO5,HT5⟩
 obtain ⟨rfl,HO6,HT6⟩:=hcut
 have HCk:=yD (jE HCL.out HT6.out)
 go_upto_if 199 with fail
 go_cut [] from 192 to 199 (fun wc=>Hid (Rep.kH 29 kE wc (.slice (some ⟨b,0,none⟩) n cap) u S)∧Hid (Touch S w wc))
 case first =>
  by_cases g:a < q∧q < mid
  · have hb:(decide (a < q) && decide (q < mid))=true:=bJ
    simp only [hb]
    go_wp2_with fail
    refine (HIH.out _ a q mid y HCk.out HO6.out HLY.out (by have:=HLY.out;omega) g.1 g.2 (by have:=HLY.out;omega) fV).mono ?_
    rintro e2 w2 ⟨rfl,O2,T2⟩
    have HOn:=yD O2;have HTn:=yD (HT6.out.trans T2);clear O2 T2
    try go_wp2
    go_meet
    exact ⟨yD (HOn.out.cast (by rw [HU.out,if_pos g])),HTn⟩
  have hb:(decide (a < q) && decide (q < mid))=false:=by
   rcases Nat.lt_or_ge a q with q1 | q1
   · rw [decide_eq_true q1,decide_eq_false (fun q2=>g ⟨q1,q2⟩)];rfl
   rw [decide_eq_false fV];rfl
  simp only [hb]
  go_wp2
  go_meet
  exact ⟨yD (HO6.out.cast (by rw [HU.out,if_neg g])),HT6⟩
 obtain ⟨HO7,HT7⟩:=hcut
 go_upto_region 43 with fail
 go_cut [213] from 206 to 213 (fun sb wc=>sb=.bool (decide (mid < e) && decide (e < z))∧Hid (Rep.kH 29 kE wc (.slice (some ⟨b,0,none⟩) n cap) u S)∧Hid (Touch S w wc))
 case first =>
  by_cases g1:mid < e
  · have g1I:(mid:Int) < e:=fV
    by_cases g2:e < z
    · have g2I:(e:Int) < z:=fV
      go_wp2
      go_meet
      exact ⟨by rw [decide_eq_true g1,decide_eq_true g2];rfl,HO7,HT7⟩
    have g2I:¬ (e:Int) < z:=fV
    go_wp2
    go_meet
    exact ⟨by rw [decide_eq_true g1,decide_eq_false g2];rfl,HO7,HT7⟩
  have g1I:¬ (mid:Int) < e:=fV
  go_wp2
  go_meet
  exact ⟨by rw [decide_eq_false g1];rfl,HO7,HT7⟩
 obtain ⟨rfl,HO8,HT8⟩:=hcut
 have HCk:=yD (jE HCL.out HT8.out)
 by_cases g:mid < e∧e < z
 · have hb:(decide (mid < e) && decide (e < z))=true:=bJ
   simp only [hb]
   go_wp2_with fail
   refine (HIH.out _ mid e z u HCk.out HO8.out HLU.out (by have:=HLU.out;omega) g.1 g.2 (by have:=HLU.out;omega) fV).mono ?_
   rintro e2 w2 ⟨rfl,O2,T2⟩
   have HOn:=yD O2;have HTn:=yD (HT8.out.trans T2);clear O2 T2
   go_wp2
   first | go_end0|((try simp only [Exit.inBlock,Exit.then]);refine bodyPost_ret (results_none rfl _ _ _) rfl ?_)
   exact ⟨rfl,HOn.out.cast (by rw [HF.out,if_pos g]),HTn.out⟩
 have hb:(decide (mid < e) && decide (e < z))=false:=by
  rcases Nat.lt_or_ge mid e with q1 | q1
  · rw [decide_eq_true q1,decide_eq_false (fun q2=>g ⟨q1,q2⟩)];rfl
  rw [decide_eq_false fV];rfl
 simp only [hb]
 go_wp2
 first | go_end0|((try simp only [Exit.inBlock,Exit.then]);refine bodyPost_ret (results_none rfl _ _ _) rfl ?_)
 exact ⟨rfl,HO8.out.cast (by rw [HF.out,if_neg g]),HT8.out⟩
theorem kDj {b n cap:Nat} {S:Nat→Prop} {g:FuncId} {cp:Array Value} (key:kD→Int) (hg:kY Tryz.prog g):∀ (f:Nat),(∀ {w:World} {a m z:Nat} {xs:List kD} (hcl:jZ key g cp S w) (h:Rep.kH 29 kE w (.slice (some ⟨b,0,none⟩) n cap) xs S) (hn:n=xs.length) (hlen:xs.length≤16777216) (ham:a < m) (hmz:m < z) (hz:z≤xs.length) (hf:z - a≤f),Calls Tryz.prog 86 #[.slice (some ⟨b,0,none⟩) n cap,.int .i64 (a:Nat),.int .i64 (m:Nat),.int .i64 (z:Nat),.func (.func g) #[] cp] w fun e w'=>e=.returned (.tuple #[])∧Rep.kH 29 kE w' (.slice (some ⟨b,0,none⟩) n cap) (Srt.symm key f a m z xs) S∧Touch S w w'):=by
 intro f
 induction f with
 | zero=>intro w a m z xs hcl h hn hlen ham hmz hz hf;omega
 | succ f ih =>
   intro w a m z xs hcl h hn hlen ham hmz hz hf
   by_cases c1:m - a=1
   · exact kHi key hg f hcl h hn hlen ham hmz hz hf c1
   · by_cases c2:z - m=1
     · exact kHh key hg f hcl h hn hlen ham hmz hz hf c1 c2
     · exact kHg key hg f ih hcl h hn hlen ham hmz hz hf c1 c2
end Go.Proofs.YthpgoddjglnoiaaGreatDoor

/-
  The stable sort: the merge in place.
  The stable sort: the whole.
  A measurement found.
  Measurements.
-/
import Derived.Test.YtomdenfcfbkfbaaGreatSortB
set_option linter.unusedVariables false
set_option linter.unusedSimpArgs false
set_option linter.unnecessarySimpa false
set_option maxRecDepth 100000
set_option maxHeartbeats 8000000
namespace Go.Proofs.YtomdenfcfbkfbaaGreat
open Go.RowKit
theorem kTj {b n cap:Nat} {S:Nat→Prop} {g:FuncId} {cp:Array Value} (key:jD→Int) (hg:jB Tryz.prog g) (f:Nat) {w:World} {a m z:Nat} {xs:List jD} (hcl:kAo key g cp S w) (h:Rep.kQ 159 kM w (.slice (some ⟨b,0,none⟩) n cap) xs S) (hn:n=xs.length) (hlen:xs.length≤16777216) (ham:a < m) (hmz:m < z) (hz:z≤xs.length) (hf:z - a≤f + 1) (c1:m - a=1) :
    Calls Tryz.prog 235 #[.slice (some ⟨b,0,none⟩) n cap,.int .i64 (a:Nat),.int .i64 (m:Nat),.int .i64 (z:Nat),.func (.func g) #[] cp] w fun e w'=>e=.returned (.tuple #[])∧Rep.kQ 159 kM w' (.slice (some ⟨b,0,none⟩) n cap) (Srt.symm key (f + 1) a m z xs) S∧Touch S w w':=by
 have HCL:=yD hcl
 unfold jB at hg
 have HO:=yD h
 have HN0:=yD hn
 have HT0:Hid (Touch S w w):=yD (Touch.refl _ _)
 clear h hcl
 have hzB:z≤16777216:=rJ
 have hzn:z≤n:=rJ
 have hnB:n≤16777216:=rJ
 have HZL:=yD hz
 clear hlen hz hn
 have ha0:=Int.natCast_nonneg a
 have haM:(a:Int) < m:=rJ
 have hMZ:(m:Int) < z:=rJ
 have hZB:(z:Int)≤16777216:=rJ
 have hZN:(z:Int)≤n:=rJ
 have hq1:(m:Int) - (a:Int)=((m - a:Nat):Int):=rJ
 have hq2:(z:Int) - (m:Int)=((z - m:Nat):Int):=rJ
 go_enter Tryz.func235,Tryz.ntmps235
 have HF:=yD (symm_A (key:=key) (f:=f) (z:=z) (xs:=xs) c1)
 have hb1:(m:Int) - (a:Int)=1:=rJ
 clear hq1 hq2
 go_wp2
 go_loopw [10,11] (fun i j wr=>∃ (p q:Nat),i=.int .i64 p∧j=.int .i64 q∧m≤p∧p≤q∧q≤z∧Hid (Srt.bs (fun h=>decide (Srt.kAt key xs h < Srt.kAt key xs a)) p q=Srt.bs (fun h=>decide (Srt.kAt key xs h < Srt.kAt key xs a)) m z)∧Hid (Rep.kQ 159 kM wr (.slice (some ⟨b,0,none⟩) n cap) xs S)∧Hid (Touch S w wr)) (fun i j _=>(intOf j).toNat - (intOf i).toNat)
 case atStart=>exact ⟨m,z,rfl,rfl,Nat.le_refl _,by omega,Nat.le_refl _,yD rfl,HO,HT0⟩
 obtain ⟨p,q,rfl,rfl,hmp,hpq,hqz,HB,HO2,HT2⟩:=hrel
 have hp0:=Int.natCast_nonneg p
 have hqZ:(q:Int)≤z:=rJ
 by_cases hlt:p < q
 · have hltI:(p:Int) < q:=rJ
   obtain ⟨h,hh⟩:∃ h,(p + q) / 2=h:=⟨_,rfl⟩
   have hhI:((p:Int) + (q:Int)) / 2=(h:Int):=rJ
   have hph:p≤h:=rJ
   have hhq:h < q:=rJ
   have hh0:=Int.natCast_nonneg h
   have HY:=yD (fun e=>(kOb (p:=(fun h=>decide (Srt.kAt key xs h < Srt.kAt key xs a))) hlt hh e).symm.trans HB.out)
   have HNO:=yD (fun e=>(bs_no (p:=(fun h=>decide (Srt.kAt key xs h < Srt.kAt key xs a))) hlt hh e).symm.trans HB.out)
   have hl:h < xs.length:=pK
   have al:a < xs.length:=pK
   have hhN:(h:Int) < n:=rJ
   have haN:(a:Int) < n:=rJ
   have HK:Hid ((fun h=>decide (Srt.kAt key xs h < Srt.kAt key xs a)) h=decide (key (xs[h]'hl) < key (xs[a]'al))):=yD (by rw [← Srt.yu (key:=key) hl,← Srt.yu (key:=key) al])
   obtain ⟨pc0,pc1,pc2,pr,pA0,pA1,pA2⟩:=Rep.at3 HO2.out.kBj hl rfl
   obtain ⟨pv0,phe,p_0,p_1,p_2,p_3⟩:=jK pr
   simp only [List.cons.injEq,and_true] at phe
   obtain ⟨rfl,rfl,rfl⟩:=phe
   obtain ⟨pa0,pp0,rfl,pl0⟩:=Rep.sl p_1
   clear p_0 p_1 p_2 p_3
   obtain ⟨qc0,qc1,qc2,qr,qA0,qA1,qA2⟩:=Rep.at3 HO2.out.kBj al rfl
   obtain ⟨qv0,qhe,q_0,q_1,q_2,q_3⟩:=jK qr
   simp only [List.cons.injEq,and_true] at qhe
   obtain ⟨rfl,rfl,rfl⟩:=qhe
   obtain ⟨qa0,qp0,rfl,ql0⟩:=Rep.sl q_1
   clear q_0 q_1 q_2 q_3
   generalize xs[h]=x at *
   generalize xs[a]=y at *
   go_upto_region 5 with fail
   have FX:=yD (fun (W:World) (hW:Below wr.heap.size wr W)=>kLb hW pA0 pA1 pA2 qA0 qA1 qA2)
   refine kV (fun W=>Below wr.heap.size wr W) [true,true,true,true,true,true,true,true,true,false,true] rA rA gI (bR.drew) ?_
   intro wS HS
   iterate 9
    all_goals refine wkR ?_
   all_goals first|(refine kL rfl HS ?_)|(refine jE rfl (fun K hK=>?_);go_simp;refine (HCL.out _ (HT2.out.trans (Touch.of_below HS)) _ _ _ _ (Rep.raw.below pr HS) (Rep.raw.below qr HS)).mono ?_;rintro e wS1 ⟨kk,rfl,hkk,hbS⟩;replace HS:=(tQ HS hbS);refine hK _ _ HS ?_;clear hK K hbS)
   all_goals refine wkP ?_
   all_goals (have hg10:=True.intro;first|(refine wkG (fun b hg10=>?_);cases b;all_goals first | exact Bool.noConfusion hg10 | simp only [zU,zV] at hg10 | skip) | refine wkR ?_)
   all_goals refine wkP ?_
   all_goals refine ko ?_
   all_goals have HTX:=yD (HT2.out.trans (Touch.of_below HS))
   all_goals have HOX:=yD (HO2.out.below HS)
   all_goals first
     | (have HV:=yD (show _=true from HK.out.trans fZ);have HB2:=yD (HY.out HV.out);clear HY HNO HK HV hkk hg10;go_wp2;go_roundw;(case rel=>exact ⟨h + 1,q,by go_num,rfl,by omega,by omega,by omega,HB2,HOX,HTX⟩);(case measure=>simp [intOf];omega))
     | (have HV:=yD (show _=false from HK.out.trans fZ);have HB2:=yD (HNO.out HV.out);clear HY HNO HK HV hkk hg10;go_wp2;go_roundw;(case rel=>exact ⟨p,h,rfl,rfl,by omega,by omega,by omega,HB2,HOX,HTX⟩);(case measure=>simp [intOf];omega))
 obtain rfl:q=p:=rJ
 have hpN:¬ (q:Int) < q:=rJ
 have HE:=yD ((kOc (p:=(fun h=>decide (Srt.kAt key xs h < Srt.kAt key xs a))) (i:=q) (j:=q) rJ).symm.trans HB.out)
 obtain ⟨t,ht⟩:∃ t,q - 1=t:=⟨_,rfl⟩
 have htI:(q:Int) - 1=(t:Int):=rJ
 have hta:a≤t:=rJ
 have hwt:IntKind.i64.wrap (t:Int)=t:=IntWalk.i64_in _ rJ
 have htz:t + 1≤z:=rJ
 have htN:(t:Int) < n:=rJ
 have HFU:Hid (Srt.symm key (f + 1) a m z xs=Srt.up (t - a) a xs):=yD (by rw [HF.out,← HE.out,ht])
 go_wp2
 go_loopw [13] (fun i wr=>∃ (k:Nat) (cu:List jD),i=.int .i64 k∧a≤k∧k≤t∧Hid (Srt.up (t - k) k cu=Srt.up (t - a) a xs)∧Hid (cu.length=n)∧Hid (Rep.kQ 159 kM wr (.slice (some ⟨b,0,none⟩) n cap) cu S)∧Hid (Touch S w wr)) (fun i _=>t - (intOf i).toNat)
 case atStart=>exact ⟨a,xs,rfl,Nat.le_refl _,hta,yD rfl,yD HN0.out.symm,HO2,HT2⟩
 obtain ⟨k,cu,rfl,hak,hkt,HG,HL,HO3,HT3⟩:=hrel
 have hk0:=Int.natCast_nonneg k
 by_cases hlt:k < t
 · have hltI:(k:Int) < t:=rJ
   have HSW:=yD ((up_next (cu:=cu) hlt).symm.trans HG.out)
   obtain ⟨j,hj⟩:∃ j,k + 1=j:=⟨_,rfl⟩
   rw [hj] at HSW
   have hjI:(k:Int) + 1=(j:Int):=rJ
   have hwj:IntKind.i64.wrap (j:Int)=j:=IntWalk.i64_in _ rJ
   have hj0:=Int.natCast_nonneg j
   have hjl:j < cu.length:=pX
   have hkl:k < cu.length:=rJ
   have hjN:(j:Int) < n:=rJ
   have hkN:(k:Int) < n:=rJ
   obtain ⟨pc0,pc1,pc2,pr,pA0,pA1,pA2⟩:=Rep.at3 HO3.out.kBj hkl rfl
   obtain ⟨pv0,phe,p_0,p_1,p_2,p_3⟩:=jK pr
   simp only [List.cons.injEq,and_true] at phe
   obtain ⟨rfl,rfl,rfl⟩:=phe
   obtain ⟨pa0,pp0,rfl,pl0⟩:=Rep.sl p_1
   clear p_0 p_1 p_2 p_3
   obtain ⟨qc0,qc1,qc2,qr,qA0,qA1,qA2⟩:=Rep.at3 HO3.out.kBj hjl rfl
   obtain ⟨qv0,qhe,q_0,q_1,q_2,q_3⟩:=jK qr
   simp only [List.cons.injEq,and_true] at qhe
   obtain ⟨rfl,rfl,rfl⟩:=qhe
   obtain ⟨qa0,qp0,rfl,ql0⟩:=Rep.sl q_1
   clear q_0 q_1 q_2 q_3
   generalize cu[k]=x at *
   generalize cu[j]=y at *
   go_upto_region 11 with fail
   have FX:=yD (fun (W:World) (hW:Below wr.heap.size wr W)=>kLb hW pA0 pA1 pA2 qA0 qA1 qA2)
   refine yL (fun W=>Below wr.heap.size wr W) [2,3,4] [(0,true),(1,true),(5,true),(6,true),(7,true),(8,true),(9,true),(10,true),(11,true),(12,true),(13,true),(14,true)] rA rA gI (bR.drew) ?_
   intro wS HS
   simp only [jO,kBg,List.length_cons,List.length_nil,List.getElem?_cons_succ,List.getElem?_cons_zero,List.map_cons,List.map_nil,List.cons_append,List.nil_append,List.drop_succ_cons,List.drop_zero,Nat.reduceAdd,Nat.zero_add]
   iterate 3
    refine kDk (v:=?_) rfl (fun W=>?_) ?_;rotate_left;(· go_simp;try with_reducible rfl)
    refine wkP ?_
   refine pre_nil ?_
   iterate 12
    refine wkR ?_
   refine yF ?_
   have HTX:=yD (HT3.out.trans (Touch.of_below HS))
   replace HO3:=yD (HO3.out.below HS)
   replace pA0:=cL HS pA0
   replace pA1:=cL HS pA1
   replace pA2:=cL HS pA2
   replace qA0:=cL HS qA0
   replace qA1:=cL HS qA1
   replace qA2:=cL HS qA2
   have BK:=Rep.kBl HO3.out hkl
   have EQi:k * kM.n=k * 3:=rfl
   have EQj:j * kM.n=j * 3:=rfl
   have THi:wS.there b (k * 3) 3:=dN
   have THj:wS.there b (j * 3) 3:=dO
   have hci:∀ q u,([.slice pa0 (x.1).length pp0,.int .i64 x.2.1,.int .i64 x.2.2]:List Value)[q]?=some u→wS.cell? ⟨b,k * kM.n + q,none⟩=some u:=gG
   have hcj:∀ q u,([.slice qa0 (y.1).length qp0,.int .i64 y.2.1,.int .i64 y.2.2]:List Value)[q]?=some u→wS.cell? ⟨b,j * kM.n + q,none⟩=some u:=gH
   obtain ⟨s1,s2⟩:=Rep.kCi (ci:=[.slice pa0 (x.1).length pp0,.int .i64 x.2.1,.int .i64 x.2.2]) (cj:=[.slice qa0 (y.1).length qp0,.int .i64 y.2.1,.int .i64 y.2.2]) HO3.out hkl hjl rJ rfl rfl hci hcj (pi:=k * 3) (pj:=j * 3) EQi.symm EQj.symm
   have HO6:=yD s1;have HT6:=yD s2;clear s1 s2 hci hcj EQi EQj
   have hsz:(Tryz.prog.info? 159).map (·.size)=some 3:=dG
   have honei:∀ c∈([.slice pa0 (x.1).length pp0,.int .i64 x.2.1,.int .i64 x.2.2]:List Value),c.oneCell'=true:=bO
   have honej:∀ c∈([.slice qa0 (y.1).length qp0,.int .i64 y.2.1,.int .i64 y.2.2]:List Value),c.oneCell'=true:=bO
   refine jr rfl 159 _ _ rfl b (k * 3) (.agg #[.slice qa0 (y.1).length qp0,.int .i64 y.2.1,.int .i64 y.2.2]) [.slice qa0 (y.1).length qp0,.int .i64 y.2.1,.int .i64 y.2.2] rfl rO rO THi hsz honej ?_
   intro w5 hw5
   have THj5:w5.there b (j * 3) 3:=nC
   have HW5:=yD hw5;clear hw5
   go_wp2_with (refine jr rfl 159 _ _ rfl b (j * 3) (.agg #[.slice pa0 (x.1).length pp0,.int .i64 x.2.1,.int .i64 x.2.2]) [.slice pa0 (x.1).length pp0,.int .i64 x.2.1,.int .i64 x.2.2] rfl rO rO THj5 hsz honei ?_)
   rw [← HW5.out] at HO6 HT6
   generalize hw6:Rep.setCells w5 b (j * 3) [.slice pa0 (x.1).length pp0,.int .i64 x.2.1,.int .i64 x.2.2]=w6 at *
   clear HW5 hw6 THi THj THj5 hsz honei honej
   have HT7:=yD (HTX.out.trans (kCd HT6.out BK.1))
   have HL7:Hid ((Srt.sw cu k j).length=n):=yD nO
   go_roundw
   case rel=>exact ⟨j,Srt.sw cu k j,rfl,by omega,by omega,HSW,HL7,HO6,HT7⟩
   simp [intOf];omega
 obtain rfl:k=t:=rJ
 have HE2:=yD (HFU.out.trans ((HG.out).symm.trans (up_end (cu:=cu) (by omega:¬ k < k))))
 have hkN2:¬ (k:Int) < k:=rJ
 go_wp2
 first | go_end0|((try simp only [Exit.inBlock,Exit.then]);refine bodyPost_ret (results_none rfl _ _ _) rfl ?_)
 exact ⟨rfl,HO3.out.cast HE2.out.symm,HT3.out⟩
theorem kTi {b n cap:Nat} {S:Nat→Prop} {g:FuncId} {cp:Array Value} (key:jD→Int) (hg:jB Tryz.prog g) (f:Nat) {w:World} {a m z:Nat} {xs:List jD} (hcl:kAo key g cp S w) (h:Rep.kQ 159 kM w (.slice (some ⟨b,0,none⟩) n cap) xs S) (hn:n=xs.length) (hlen:xs.length≤16777216) (ham:a < m) (hmz:m < z) (hz:z≤xs.length) (hf:z - a≤f + 1) (c1:¬ m - a=1) (c2:z - m=1) :
    Calls Tryz.prog 235 #[.slice (some ⟨b,0,none⟩) n cap,.int .i64 (a:Nat),.int .i64 (m:Nat),.int .i64 (z:Nat),.func (.func g) #[] cp] w fun e w'=>e=.returned (.tuple #[])∧Rep.kQ 159 kM w' (.slice (some ⟨b,0,none⟩) n cap) (Srt.symm key (f + 1) a m z xs) S∧Touch S w w':=by
 have HCL:=yD hcl
 unfold jB at hg
 have HO:=yD h
 have HN0:=yD hn
 have HT0:Hid (Touch S w w):=yD (Touch.refl _ _)
 clear h hcl
 have hzB:z≤16777216:=rJ
 have hzn:z≤n:=rJ
 have hnB:n≤16777216:=rJ
 have HZL:=yD hz
 clear hlen hz hn
 have ha0:=Int.natCast_nonneg a
 have haM:(a:Int) < m:=rJ
 have hMZ:(m:Int) < z:=rJ
 have hZB:(z:Int)≤16777216:=rJ
 have hZN:(z:Int)≤n:=rJ
 have hq1:(m:Int) - (a:Int)=((m - a:Nat):Int):=rJ
 have hq2:(z:Int) - (m:Int)=((z - m:Nat):Int):=rJ
 go_enter Tryz.func235,Tryz.ntmps235
 have HF:=yD (symm_B (key:=key) (f:=f) (xs:=xs) c1 c2)
 have hb1:(z:Int) - (m:Int)=1:=rJ
 have hb2:¬ (m:Int) - (a:Int)=1:=rJ
 have hb3:(((m - a:Nat):Int)==1)=false:=rC
 obtain ⟨ma,hma⟩:∃ ma,m - a=ma:=⟨_,rfl⟩
 rw [hma] at hq1 hb3
 have hwma:IntKind.i64.wrap (ma:Int)=ma:=IntWalk.i64_in _ rJ
 clear hq2
 go_wp2
 go_loopw [14,15] (fun i j wr=>∃ (p q:Nat),i=.int .i64 p∧j=.int .i64 q∧a≤p∧p≤q∧q≤m∧Hid (Srt.bs (fun h=>!decide (Srt.kAt key xs m < Srt.kAt key xs h)) p q=Srt.bs (fun h=>!decide (Srt.kAt key xs m < Srt.kAt key xs h)) a m)∧Hid (Rep.kQ 159 kM wr (.slice (some ⟨b,0,none⟩) n cap) xs S)∧Hid (Touch S w wr)) (fun i j _=>(intOf j).toNat - (intOf i).toNat)
 case atStart=>exact ⟨a,m,rfl,rfl,Nat.le_refl _,by omega,Nat.le_refl _,yD rfl,HO,HT0⟩
 obtain ⟨p,q,rfl,rfl,hmp,hpq,hqz,HB,HO2,HT2⟩:=hrel
 have hp0:=Int.natCast_nonneg p
 have hqZ:(q:Int)≤m:=rJ
 by_cases hlt:p < q
 · have hltI:(p:Int) < q:=rJ
   obtain ⟨h,hh⟩:∃ h,(p + q) / 2=h:=⟨_,rfl⟩
   have hhI:((p:Int) + (q:Int)) / 2=(h:Int):=rJ
   have hph:p≤h:=rJ
   have hhq:h < q:=rJ
   have hh0:=Int.natCast_nonneg h
   have HY:=yD (fun e=>(kOb (p:=(fun h=>!decide (Srt.kAt key xs m < Srt.kAt key xs h))) hlt hh e).symm.trans HB.out)
   have HNO:=yD (fun e=>(bs_no (p:=(fun h=>!decide (Srt.kAt key xs m < Srt.kAt key xs h))) hlt hh e).symm.trans HB.out)
   have hl:h < xs.length:=pK
   have ml:m < xs.length:=pK
   have hhN:(h:Int) < n:=rJ
   have hmN:(m:Int) < n:=rJ
   have HK:Hid ((fun h=>!decide (Srt.kAt key xs m < Srt.kAt key xs h)) h=!decide (key (xs[m]'ml) < key (xs[h]'hl))):=yD (by rw [← Srt.yu (key:=key) ml,← Srt.yu (key:=key) hl])
   obtain ⟨pc0,pc1,pc2,pr,pA0,pA1,pA2⟩:=Rep.at3 HO2.out.kBj ml rfl
   obtain ⟨pv0,phe,p_0,p_1,p_2,p_3⟩:=jK pr
   simp only [List.cons.injEq,and_true] at phe
   obtain ⟨rfl,rfl,rfl⟩:=phe
   obtain ⟨pa0,pp0,rfl,pl0⟩:=Rep.sl p_1
   clear p_0 p_1 p_2 p_3
   obtain ⟨qc0,qc1,qc2,qr,qA0,qA1,qA2⟩:=Rep.at3 HO2.out.kBj hl rfl
   obtain ⟨qv0,qhe,q_0,q_1,q_2,q_3⟩:=jK qr
   simp only [List.cons.injEq,and_true] at qhe
   obtain ⟨rfl,rfl,rfl⟩:=qhe
   obtain ⟨qa0,qp0,rfl,ql0⟩:=Rep.sl q_1
   clear q_0 q_1 q_2 q_3
   generalize xs[m]=x at *
   generalize xs[h]=y at *
   go_upto_region 17 with fail
   have FX:=yD (fun (W:World) (hW:Below wr.heap.size wr W)=>kLb hW pA0 pA1 pA2 qA0 qA1 qA2)
   refine kV (fun W=>Below wr.heap.size wr W) [true,true,true,true,true,true,true,true,true,false,true,true] rA rA gI (bR.drew) ?_
   intro wS HS
   iterate 9
    all_goals refine wkR ?_
   all_goals first|(refine kL rfl HS ?_)|(refine jE rfl (fun K hK=>?_);go_simp;refine (HCL.out _ (HT2.out.trans (Touch.of_below HS)) _ _ _ _ (Rep.raw.below pr HS) (Rep.raw.below qr HS)).mono ?_;rintro e wS1 ⟨kk,rfl,hkk,hbS⟩;replace HS:=(tQ HS hbS);refine hK _ _ HS ?_;clear hK K hbS)
   all_goals refine wkP ?_
   all_goals refine wkR ?_
   all_goals (have hg11:=True.intro;first|(refine wkG (fun b hg11=>?_);cases b;all_goals first | exact Bool.noConfusion hg11 | simp only [zU,zV] at hg11 | skip) | refine wkR ?_)
   all_goals refine wkP ?_
   all_goals refine ko ?_
   all_goals have HTX:=yD (HT2.out.trans (Touch.of_below HS))
   all_goals have HOX:=yD (HO2.out.below HS)
   all_goals first
     | (have HV:=yD (show _=true from HK.out.trans gB);have HB2:=yD (HY.out HV.out);clear HY HNO HK HV hkk hg11;go_wp2;go_roundw;(case rel=>exact ⟨h + 1,q,by go_num,rfl,by omega,by omega,by omega,HB2,HOX,HTX⟩);(case measure=>simp [intOf];omega))
     | (have HV:=yD (show _=false from HK.out.trans gB);have HB2:=yD (HNO.out HV.out);clear HY HNO HK HV hkk hg11;go_wp2;go_roundw;(case rel=>exact ⟨p,h,rfl,rfl,by omega,by omega,by omega,HB2,HOX,HTX⟩);(case measure=>simp [intOf];omega))
 obtain rfl:q=p:=rJ
 have hpN:¬ (q:Int) < q:=rJ
 have HE:=yD ((kOc (p:=(fun h=>!decide (Srt.kAt key xs m < Srt.kAt key xs h))) (i:=q) (j:=q) rJ).symm.trans HB.out)
 have HFU:Hid (Srt.symm key (f + 1) a m z xs=Srt.down q m xs):=yD (by rw [HF.out,← HE.out])
 go_wp2
 go_loopw [17] (fun i wr=>∃ (k:Nat) (cu:List jD),i=.int .i64 k∧q≤k∧k≤m∧Hid (Srt.down q k cu=Srt.down q m xs)∧Hid (cu.length=n)∧Hid (Rep.kQ 159 kM wr (.slice (some ⟨b,0,none⟩) n cap) cu S)∧Hid (Touch S w wr)) (fun i _=>(intOf i).toNat)
 case atStart=>exact ⟨m,xs,rfl,by omega,Nat.le_refl _,yD rfl,yD HN0.out.symm,HO2,HT2⟩
 obtain ⟨k,cu,rfl,hak,hkt,HG,HL,HO3,HT3⟩:=hrel
 have hk0:=Int.natCast_nonneg k
 by_cases hlt:q < k
 · have hltI:(q:Int) < k:=rJ
   have hltD:decide ((k:Int) > q)=true:=rC
   obtain ⟨j,hj⟩:∃ j,j + 1=k:=⟨k - 1,by omega⟩
   have HSW:=yD ((kVo (cu:=cu) hj hlt).symm.trans HG.out)
   have hjI:(k:Int) - 1=(j:Int):=rJ
   have hwj:IntKind.i64.wrap (j:Int)=j:=IntWalk.i64_in _ rJ
   have hj0:=Int.natCast_nonneg j
   have hkl:k < cu.length:=pX
   have hjl:j < cu.length:=rJ
   have hjN:(j:Int) < n:=rJ
   have hkN:(k:Int) < n:=rJ
   obtain ⟨pc0,pc1,pc2,pr,pA0,pA1,pA2⟩:=Rep.at3 HO3.out.kBj hkl rfl
   obtain ⟨pv0,phe,p_0,p_1,p_2,p_3⟩:=jK pr
   simp only [List.cons.injEq,and_true] at phe
   obtain ⟨rfl,rfl,rfl⟩:=phe
   obtain ⟨pa0,pp0,rfl,pl0⟩:=Rep.sl p_1
   clear p_0 p_1 p_2 p_3
   obtain ⟨qc0,qc1,qc2,qr,qA0,qA1,qA2⟩:=Rep.at3 HO3.out.kBj hjl rfl
   obtain ⟨qv0,qhe,q_0,q_1,q_2,q_3⟩:=jK qr
   simp only [List.cons.injEq,and_true] at qhe
   obtain ⟨rfl,rfl,rfl⟩:=qhe
   obtain ⟨qa0,qp0,rfl,ql0⟩:=Rep.sl q_1
   clear q_0 q_1 q_2 q_3
   generalize cu[k]=x at *
   generalize cu[j]=y at *
   go_upto_region 23 with fail
   have FX:=yD (fun (W:World) (hW:Below wr.heap.size wr W)=>kLb hW pA0 pA1 pA2 qA0 qA1 qA2)
   refine yL (fun W=>Below wr.heap.size wr W) [2,3,4] [(0,true),(1,true),(5,true),(6,true),(7,true),(8,true),(9,true),(10,true),(11,true),(12,true),(13,true),(14,true)] rA rA gI (bR.drew) ?_
   intro wS HS
   simp only [jO,kBg,List.length_cons,List.length_nil,List.getElem?_cons_succ,List.getElem?_cons_zero,List.map_cons,List.map_nil,List.cons_append,List.nil_append,List.drop_succ_cons,List.drop_zero,Nat.reduceAdd,Nat.zero_add]
   iterate 3
    refine kDk (v:=?_) rfl (fun W=>?_) ?_;rotate_left;(· go_simp;try with_reducible rfl)
    refine wkP ?_
   refine pre_nil ?_
   iterate 12
    refine wkR ?_
   refine yF ?_
   have HTX:=yD (HT3.out.trans (Touch.of_below HS))
   replace HO3:=yD (HO3.out.below HS)
   replace pA0:=cL HS pA0
   replace pA1:=cL HS pA1
   replace pA2:=cL HS pA2
   replace qA0:=cL HS qA0
   replace qA1:=cL HS qA1
   replace qA2:=cL HS qA2
   have BK:=Rep.kBl HO3.out hkl
   have EQi:k * kM.n=k * 3:=rfl
   have EQj:j * kM.n=j * 3:=rfl
   have THi:wS.there b (k * 3) 3:=dN
   have THj:wS.there b (j * 3) 3:=dO
   have hci:∀ q u,([.slice pa0 (x.1).length pp0,.int .i64 x.2.1,.int .i64 x.2.2]:List Value)[q]?=some u→wS.cell? ⟨b,k * kM.n + q,none⟩=some u:=gG
   have hcj:∀ q u,([.slice qa0 (y.1).length qp0,.int .i64 y.2.1,.int .i64 y.2.2]:List Value)[q]?=some u→wS.cell? ⟨b,j * kM.n + q,none⟩=some u:=gH
   obtain ⟨s1,s2⟩:=Rep.kCi (ci:=[.slice pa0 (x.1).length pp0,.int .i64 x.2.1,.int .i64 x.2.2]) (cj:=[.slice qa0 (y.1).length qp0,.int .i64 y.2.1,.int .i64 y.2.2]) HO3.out hkl hjl rJ rfl rfl hci hcj (pi:=k * 3) (pj:=j * 3) EQi.symm EQj.symm
   have HO6:=yD s1;have HT6:=yD s2;clear s1 s2 hci hcj EQi EQj
   have hsz:(Tryz.prog.info? 159).map (·.size)=some 3:=dG
   have honei:∀ c∈([.slice pa0 (x.1).length pp0,.int .i64 x.2.1,.int .i64 x.2.2]:List Value),c.oneCell'=true:=bO
   have honej:∀ c∈([.slice qa0 (y.1).length qp0,.int .i64 y.2.1,.int .i64 y.2.2]:List Value),c.oneCell'=true:=bO
   refine jr rfl 159 _ _ rfl b (k * 3) (.agg #[.slice qa0 (y.1).length qp0,.int .i64 y.2.1,.int .i64 y.2.2]) [.slice qa0 (y.1).length qp0,.int .i64 y.2.1,.int .i64 y.2.2] rfl rO rO THi hsz honej ?_
   intro w5 hw5
   have THj5:w5.there b (j * 3) 3:=nC
   have HW5:=yD hw5;clear hw5
   go_wp2_with (refine jr rfl 159 _ _ rfl b (j * 3) (.agg #[.slice pa0 (x.1).length pp0,.int .i64 x.2.1,.int .i64 x.2.2]) [.slice pa0 (x.1).length pp0,.int .i64 x.2.1,.int .i64 x.2.2] rfl rO rO THj5 hsz honei ?_)
   rw [← HW5.out] at HO6 HT6
   generalize hw6:Rep.setCells w5 b (j * 3) [.slice pa0 (x.1).length pp0,.int .i64 x.2.1,.int .i64 x.2.2]=w6 at *
   clear HW5 hw6 THi THj THj5 hsz honei honej
   have HT7:=yD (HTX.out.trans (kCd HT6.out BK.1))
   have HL7:Hid ((Srt.sw cu k j).length=n):=yD nO
   go_roundw
   case rel=>exact ⟨j,Srt.sw cu k j,rfl,by omega,by omega,HSW,HL7,HO6,HT7⟩
   simp [intOf];omega
 have HE2:=yD (HFU.out.trans ((HG.out).symm.trans (down_end (cu:=cu) hlt)))
 have hkN2:¬ (q:Int) < k:=rJ
 have hkD:decide ((k:Int) > q)=false:=rC
 go_wp2
 first | go_end0|((try simp only [Exit.inBlock,Exit.then]);refine bodyPost_ret (results_none rfl _ _ _) rfl ?_)
 exact ⟨rfl,HO3.out.cast HE2.out.symm,HT3.out⟩
theorem kTh {b n cap:Nat} {S:Nat→Prop} {g:FuncId} {cp:Array Value} (key:jD→Int) (hg:jB Tryz.prog g) (f:Nat) (ih:(∀ {w:World} {a m z:Nat} {xs:List jD} (hcl:kAo key g cp S w) (h:Rep.kQ 159 kM w (.slice (some ⟨b,0,none⟩) n cap) xs S) (hn:n=xs.length) (hlen:xs.length≤16777216) (ham:a < m) (hmz:m < z) (hz:z≤xs.length) (hf:z - a≤f),Calls Tryz.prog 235 #[.slice (some ⟨b,0,none⟩) n cap,.int .i64 (a:Nat),.int .i64 (m:Nat),.int .i64 (z:Nat),.func (.func g) #[] cp] w fun e w'=>e=.returned (.tuple #[])∧Rep.kQ 159 kM w' (.slice (some ⟨b,0,none⟩) n cap) (Srt.symm key f a m z xs) S∧Touch S w w')) {w:World} {a m z:Nat} {xs:List jD} (hcl:kAo key g cp S w) (h:Rep.kQ 159 kM w (.slice (some ⟨b,0,none⟩) n cap) xs S) (hn:n=xs.length) (hlen:xs.length≤16777216) (ham:a < m) (hmz:m < z) (hz:z≤xs.length) (hf:z - a≤f + 1) (c1:¬ m - a=1) (c2:¬ z - m=1) :
    Calls Tryz.prog 235 #[.slice (some ⟨b,0,none⟩) n cap,.int .i64 (a:Nat),.int .i64 (m:Nat),.int .i64 (z:Nat),.func (.func g) #[] cp] w fun e w'=>e=.returned (.tuple #[])∧Rep.kQ 159 kM w' (.slice (some ⟨b,0,none⟩) n cap) (Srt.symm key (f + 1) a m z xs) S∧Touch S w w':=by
 have HCL:=yD hcl
 have HIH:=yD (fun (w:World) (a m z:Nat) (xs:List jD)=>ih (w:=w) (a:=a) (m:=m) (z:=z) (xs:=xs));clear ih
 unfold jB at hg
 have HO:=yD h
 have HN0:=yD hn
 have HT0:Hid (Touch S w w):=yD (Touch.refl _ _)
 clear h hcl
 have hzB:z≤16777216:=rJ
 have hzn:z≤n:=rJ
 have hnB:n≤16777216:=rJ
 have HZL:=yD hz
 clear hlen hz hn
 have ha0:=Int.natCast_nonneg a
 have haM:(a:Int) < m:=rJ
 have hMZ:(m:Int) < z:=rJ
 have hZB:(z:Int)≤16777216:=rJ
 have hZN:(z:Int)≤n:=rJ
 have hq1:(m:Int) - (a:Int)=((m - a:Nat):Int):=rJ
 have hq2:(z:Int) - (m:Int)=((z - m:Nat):Int):=rJ
 go_enter Tryz.func235,Tryz.ntmps235
 obtain ⟨mid,hmid⟩:∃ mid,(a + z) / 2=mid:=⟨_,rfl⟩
 have hmidI:((a:Int) + (z:Int)) / 2=(mid:Int):=rJ
 obtain ⟨N,hN⟩:∃ N,mid + m=N:=⟨_,rfl⟩
 have hNI:(mid:Int) + (m:Int)=(N:Int):=rJ
 have hb2:¬ (m:Int) - (a:Int)=1:=rJ
 have hb3:(((m - a:Nat):Int)==1)=false:=rC
 have hb4:¬ (z:Int) - (m:Int)=1:=rJ
 have hb5:(((z - m:Nat):Int)==1)=false:=rC
 have hma1:m - a≤16777216:=rJ
 have hzm1:z - m≤16777216:=rJ
 obtain ⟨ma,hma⟩:∃ ma,m - a=ma:=⟨_,rfl⟩
 rw [hma] at hq1 hb3
 obtain ⟨zm,hzm⟩:∃ zm,z - m=zm:=⟨_,rfl⟩
 rw [hzm] at hq2 hb5
 have hwma:IntKind.i64.wrap (ma:Int)=ma:=IntWalk.i64_in _ rJ
 have hwzm:IntKind.i64.wrap (zm:Int)=zm:=IntWalk.i64_in _ rJ
 have hwN:IntKind.i64.wrap (N:Int)=N:=IntWalk.i64_in _ rJ
 have hmid0:=Int.natCast_nonneg mid
 have hN0:=Int.natCast_nonneg N
 have hNB:(N:Int)≤33554432:=rJ
 have hamid:a < mid:=rJ
 have hmidz:mid < z:=rJ
 obtain ⟨lo,hlo⟩:∃ lo,lo=(if mid < m then N - z else a):=⟨_,rfl⟩
 obtain ⟨hi,hhi⟩:∃ hi,hi=(if mid < m then mid else m):=⟨_,rfl⟩
 have hlohi:lo≤hi:=by rw [hlo,hhi];split <;> omega
 have hloa:a≤lo:=nS
 have him:hi≤m:=nP
 have himid:hi≤mid:=nP
 have hloz:N≤z + lo:=nS
 have hhiN:m + hi≤N:=nP
 have HLO:=yD hlo;have HHI:=yD hhi;clear hlo hhi
 skip
 go_upto_if 140 with fail
 go_cut [20,21] from 138 to 140 (fun s20 s21 wc=>s20=.int .i64 (lo:Nat)∧s21=.int .i64 (hi:Nat)∧Hid (Rep.kQ 159 kM wc (.slice (some ⟨b,0,none⟩) n cap) xs S)∧Hid (Touch S w wc))
 case first =>
  by_cases hmm:mid < m
  · have hmI:(mid:Int) < m:=rJ
    have hmD:decide ((m:Int) > mid)=true:=rC
    have e1:lo=N - z:=by rw [HLO.out,if_pos hmm]
    have e2:hi=mid:=by rw [HHI.out,if_pos hmm]
    have e3:(N:Int) - (z:Int)=(lo:Int):=rJ
    have e4:IntKind.i64.wrap (lo:Int)=lo:=IntWalk.i64_in _ rJ
    go_wp2
    go_meet
    exact ⟨by first | rfl | rw [e1],by first | rfl | rw [e2],HO,HT0⟩
  have hmI:¬ (mid:Int) < m:=rJ
  have hmD:decide ((m:Int) > mid)=false:=rC
  have e1:lo=a:=by rw [HLO.out,if_neg hmm]
  have e2:hi=m:=by rw [HHI.out,if_neg hmm]
  go_wp2
  go_meet
  exact ⟨by first | rfl | rw [e1],by first | rfl | rw [e2],HO,HT0⟩
 obtain ⟨rfl,rfl,HO1,HT1⟩:=hcut
 clear HO HT0
 obtain ⟨N1,hN1⟩:∃ N1,N - 1=N1:=⟨_,rfl⟩
 have hN1I:(N:Int) - 1=(N1:Int):=rJ
 have hwN1:IntKind.i64.wrap (N1:Int)=N1:=IntWalk.i64_in _ rJ
 have hN10:=Int.natCast_nonneg N1
 have hloI:=Int.natCast_nonneg lo
 have hhiM:(hi:Int)≤m:=rJ
 go_wp2
 go_loopw [20,21] (fun i j wr=>∃ (p q:Nat),i=.int .i64 p∧j=.int .i64 q∧lo≤p∧p≤q∧q≤hi∧Hid (Srt.bs (fun c=>!decide (Srt.kAt key xs (N - 1 - c) < Srt.kAt key xs c)) p q=Srt.bs (fun c=>!decide (Srt.kAt key xs (N - 1 - c) < Srt.kAt key xs c)) lo hi)∧Hid (Rep.kQ 159 kM wr (.slice (some ⟨b,0,none⟩) n cap) xs S)∧Hid (Touch S w wr)) (fun i j _=>(intOf j).toNat - (intOf i).toNat)
 case atStart=>exact ⟨lo,hi,rfl,rfl,Nat.le_refl _,by omega,Nat.le_refl _,yD rfl,HO1,HT1⟩
 obtain ⟨p,q,rfl,rfl,hmp,hpq,hqz,HB,HO2,HT2⟩:=hrel
 have hp0:=Int.natCast_nonneg p
 have hqZ:(q:Int)≤hi:=rJ
 by_cases hlt:p < q
 · have hltI:(p:Int) < q:=rJ
   obtain ⟨h,hh⟩:∃ h,(p + q) / 2=h:=⟨_,rfl⟩
   have hhI:((p:Int) + (q:Int)) / 2=(h:Int):=rJ
   have hph:p≤h:=rJ
   have hhq:h < q:=rJ
   have hh0:=Int.natCast_nonneg h
   have HY:=yD (fun e=>(kOb (p:=(fun c=>!decide (Srt.kAt key xs (N - 1 - c) < Srt.kAt key xs c))) hlt hh e).symm.trans HB.out)
   have HNO:=yD (fun e=>(bs_no (p:=(fun c=>!decide (Srt.kAt key xs (N - 1 - c) < Srt.kAt key xs c))) hlt hh e).symm.trans HB.out)
   obtain ⟨u,hu⟩:∃ u,N - 1 - h=u:=⟨_,rfl⟩
   have ul:u < xs.length:=pK
   have hl:h < xs.length:=pK
   have hhN:(h:Int) < n:=rJ
   have huN:(u:Int) < n:=rJ
   have huI:(N1:Int) - (h:Int)=(u:Int):=rJ
   have hu0:=Int.natCast_nonneg u
   have hwu:IntKind.i64.wrap (u:Int)=u:=IntWalk.i64_in _ rJ
   have HK:Hid ((fun c=>!decide (Srt.kAt key xs (N - 1 - c) < Srt.kAt key xs c)) h=!decide (key (xs[u]'ul) < key (xs[h]'hl))):=yD (by rw [← Srt.yu (key:=key) ul,← Srt.yu (key:=key) hl];show (!decide (Srt.kAt key xs (N - 1 - h) < Srt.kAt key xs h))=_;rw [hu])
   obtain ⟨pc0,pc1,pc2,pr,pA0,pA1,pA2⟩:=Rep.at3 HO2.out.kBj ul rfl
   obtain ⟨pv0,phe,p_0,p_1,p_2,p_3⟩:=jK pr
   simp only [List.cons.injEq,and_true] at phe
   obtain ⟨rfl,rfl,rfl⟩:=phe
   obtain ⟨pa0,pp0,rfl,pl0⟩:=Rep.sl p_1
   clear p_0 p_1 p_2 p_3
   obtain ⟨qc0,qc1,qc2,qr,qA0,qA1,qA2⟩:=Rep.at3 HO2.out.kBj hl rfl
   obtain ⟨qv0,qhe,q_0,q_1,q_2,q_3⟩:=jK qr
   simp only [List.cons.injEq,and_true] at qhe
   obtain ⟨rfl,rfl,rfl⟩:=qhe
   obtain ⟨qa0,qp0,rfl,ql0⟩:=Rep.sl q_1
   clear q_0 q_1 q_2 q_3
   generalize xs[u]=x at *
   generalize xs[h]=y at *
   go_upto_region 35 with fail
   have FX:=yD (fun (W:World) (hW:Below wr.heap.size wr W)=>kLb hW pA0 pA1 pA2 qA0 qA1 qA2)
   refine kV (fun W=>Below wr.heap.size wr W) [true,true,true,true,true,true,true,true,true,true,true,false,true,true] rA rA gI (bR.drew) ?_
   intro wS HS
   iterate 11
    all_goals refine wkR ?_
   all_goals first|(refine kL rfl HS ?_)|(refine jE rfl (fun K hK=>?_);go_simp;refine (HCL.out _ (HT2.out.trans (Touch.of_below HS)) _ _ _ _ (Rep.raw.below pr HS) (Rep.raw.below qr HS)).mono ?_;rintro e wS1 ⟨kk,rfl,hkk,hbS⟩;replace HS:=(tQ HS hbS);refine hK _ _ HS ?_;clear hK K hbS)
   all_goals refine wkP ?_
   all_goals refine wkR ?_
   all_goals (have hg13:=True.intro;first|(refine wkG (fun b hg13=>?_);cases b;all_goals first | exact Bool.noConfusion hg13 | simp only [zU,zV] at hg13 | skip) | refine wkR ?_)
   all_goals refine wkP ?_
   all_goals refine ko ?_
   all_goals have HTX:=yD (HT2.out.trans (Touch.of_below HS))
   all_goals have HOX:=yD (HO2.out.below HS)
   all_goals first
     | (have HV:=yD (show _=true from HK.out.trans gD);have HB2:=yD (HY.out HV.out);clear HY HNO HK HV hkk hg13;go_wp2;go_roundw;(case rel=>exact ⟨h + 1,q,by go_num,rfl,by omega,by omega,by omega,HB2,HOX,HTX⟩);(case measure=>simp [intOf];omega))
     | (have HV:=yD (show _=false from HK.out.trans gD);have HB2:=yD (HNO.out HV.out);clear HY HNO HK HV hkk hg13;go_wp2;go_roundw;(case rel=>exact ⟨p,h,rfl,rfl,by omega,by omega,by omega,HB2,HOX,HTX⟩);(case measure=>simp [intOf];omega))
 obtain rfl:q=p:=rJ
 have hpN:¬ (q:Int) < q:=rJ
 have HE:=yD ((kOc (p:=(fun c=>!decide (Srt.kAt key xs (N - 1 - c) < Srt.kAt key xs c))) (i:=q) (j:=q) rJ).symm.trans HB.out)
 rw [HLO.out,HHI.out] at HE
 obtain ⟨e,he⟩:∃ e,N - q=e:=⟨_,rfl⟩
 have heI:(N:Int) - (q:Int)=(e:Int):=rJ
 have hwe:IntKind.i64.wrap (e:Int)=e:=IntWalk.i64_in _ rJ
 have hem:m≤e:=rJ
 have hez:e≤z:=rJ
 have hqm:q≤m:=rJ
 have haq:a≤q:=rJ
 have he0:=Int.natCast_nonneg e
 obtain ⟨y,hy⟩:∃ y,y=if q < m∧m < e then Srt.rot m (m - q) (e - m) xs else xs:=⟨_,rfl⟩
 obtain ⟨u,hu⟩:∃ u,u=if a < q∧q < mid then Srt.symm key f a q mid y else y:=⟨_,rfl⟩
 have HF:=yD (symm_C (key:=key) (f:=f) c1 c2 hmid hN HE.out he hy hu)
 have HLY:Hid (n=y.length):=yD (by rw [hy,HN0.out];split <;> first | rfl | exact (Srt.kKn _ _ _ _).symm)
 have HLU:Hid (n=u.length):=yD (by rw [hu];split <;> first | exact HLY.out|(rw [Srt.zY];exact HLY.out))
 have HY:=yD hy;have HU:=yD hu;clear hy hu HB HE HLO HHI hmid hN
 go_upto_region 39 with fail
 go_cut [185] from 178 to 185 (fun sb wc=>sb=.bool (decide (q < m) && decide (m < e))∧Hid (Rep.kQ 159 kM wc (.slice (some ⟨b,0,none⟩) n cap) xs S)∧Hid (Touch S w wc))
 case first =>
  by_cases g1:q < m
  · have g1I:(q:Int) < m:=rJ
    by_cases g2:m < e
    · have g2I:(m:Int) < e:=rJ
      go_wp2
      go_meet
      exact ⟨by rw [decide_eq_true g1,decide_eq_true g2];rfl,HO2,HT2⟩
    have g2I:¬ (m:Int) < e:=rJ
    go_wp2
    go_meet
    exact ⟨by rw [decide_eq_true g1,decide_eq_false g2];rfl,HO2,HT2⟩
  have g1I:¬ (q:Int) < m:=rJ
  go_wp2
  go_meet
  exact ⟨by rw [decide_eq_false g1];rfl,HO2,HT2⟩
 obtain ⟨rfl,HO4,HT4⟩:=hcut
 have HCk:=yD (zi HCL.out HT4.out)
 go_upto_if 185 with fail
 go_cut [] from 178 to 185 (fun wc=>Hid (Rep.kQ 159 kM wc (.slice (some ⟨b,0,none⟩) n cap) y S)∧Hid (Touch S w wc))
 case first =>
  by_cases g:q < m∧m < e
  · have hb:(decide (q < m) && decide (m < e))=true:=dS
    simp only [hb]
    go_wp2_with fail
    refine (rot_Route_c HO4.out HN0.out (by have:=HN0.out;omega) (a:=q) (m:=m) (z:=e) g.1 g.2 pK).mono ?_
    rintro e2 w2 ⟨rfl,O2,T2⟩
    have HOn:=yD O2;have HTn:=yD (HT4.out.trans T2);clear O2 T2
    try go_wp2
    go_meet
    exact ⟨yD (HOn.out.cast (by rw [HY.out,if_pos g])),HTn⟩
  have hb:(decide (q < m) && decide (m < e))=false:=by
   rcases Nat.lt_or_ge q m with q1 | q1
   · rw [decide_eq_true q1,decide_eq_false (fun q2=>g ⟨q1,q2⟩)];rfl
   rw [decide_eq_false rJ];rfl
  simp only [hb]
  go_wp2
  go_meet
  exact ⟨yD (HO4.out.cast (by rw [HY.out,if_neg g])),HT4⟩
 obtain ⟨HO5,HT5⟩:=hcut
 go_upto_region 41 with fail
 go_cut [199] from 192 to 199 (fun sb wc=>sb=.bool (decide (a < q) && decide (q < mid))∧Hid (Rep.kQ 159 kM wc (.slice (some ⟨b,0,none⟩) n cap) y S)∧Hid (Touch S w wc))
 case first =>
  by_cases g1:a < q
  · have g1I:(a:Int) < q:=rJ
    by_cases g2:q < mid
    · have g2I:(q:Int) < mid:=rJ
      go_wp2
      go_meet
      exact ⟨by rw [decide_eq_true g1,decide_eq_true g2];rfl,HO5,HT5⟩
    have g2I:¬ (q:Int) < mid:=rJ
    go_wp2
    go_meet
    exact ⟨by rw [decide_eq_true g1,decide_eq_false g2];rfl,HO5,HT5⟩
  have g1I:¬ (a:Int) < q:=rJ
  go_wp2
  go_meet
  exact ⟨by rw [decide_eq_false g1];rfl,HO5,HT5⟩
 obtain ⟨rfl,HO6,HT6⟩:=hcut
 have HCk:=yD (zi HCL.out HT6.out)
 go_upto_if 199 with fail
 go_cut [] from 192 to 199 (fun wc=>Hid (Rep.kQ 159 kM wc (.slice (some ⟨b,0,none⟩) n cap) u S)∧Hid (Touch S w wc))
 case first =>
  by_cases g:a < q∧q < mid
  · have hb:(decide (a < q) && decide (q < mid))=true:=dS
    simp only [hb]
    go_wp2_with fail
    refine (HIH.out _ a q mid y HCk.out HO6.out HLY.out pU g.1 g.2 pU rJ).mono ?_
    rintro e2 w2 ⟨rfl,O2,T2⟩
    have HOn:=yD O2;have HTn:=yD (HT6.out.trans T2);clear O2 T2
    try go_wp2
    go_meet
    exact ⟨yD (HOn.out.cast (by rw [HU.out,if_pos g])),HTn⟩
  have hb:(decide (a < q) && decide (q < mid))=false:=by
   rcases Nat.lt_or_ge a q with q1 | q1
   · rw [decide_eq_true q1,decide_eq_false (fun q2=>g ⟨q1,q2⟩)];rfl
   rw [decide_eq_false rJ];rfl
  simp only [hb]
  go_wp2
  go_meet
  exact ⟨yD (HO6.out.cast (by rw [HU.out,if_neg g])),HT6⟩
 obtain ⟨HO7,HT7⟩:=hcut
 go_upto_region 43 with fail
 go_cut [213] from 206 to 213 (fun sb wc=>sb=.bool (decide (mid < e) && decide (e < z))∧Hid (Rep.kQ 159 kM wc (.slice (some ⟨b,0,none⟩) n cap) u S)∧Hid (Touch S w wc))
 case first =>
  by_cases g1:mid < e
  · have g1I:(mid:Int) < e:=rJ
    by_cases g2:e < z
    · have g2I:(e:Int) < z:=rJ
      go_wp2
      go_meet
      exact ⟨by rw [decide_eq_true g1,decide_eq_true g2];rfl,HO7,HT7⟩
    have g2I:¬ (e:Int) < z:=rJ
    go_wp2
    go_meet
    exact ⟨by rw [decide_eq_true g1,decide_eq_false g2];rfl,HO7,HT7⟩
  have g1I:¬ (mid:Int) < e:=rJ
  go_wp2
  go_meet
  exact ⟨by rw [decide_eq_false g1];rfl,HO7,HT7⟩
 obtain ⟨rfl,HO8,HT8⟩:=hcut
 have HCk:=yD (zi HCL.out HT8.out)
 by_cases g:mid < e∧e < z
 · have hb:(decide (mid < e) && decide (e < z))=true:=dS
   simp only [hb]
   go_wp2_with fail
   refine (HIH.out _ mid e z u HCk.out HO8.out HLU.out pV g.1 g.2 pV rJ).mono ?_
   rintro e2 w2 ⟨rfl,O2,T2⟩
   have HOn:=yD O2;have HTn:=yD (HT8.out.trans T2);clear O2 T2
   go_wp2
   first | go_end0|((try simp only [Exit.inBlock,Exit.then]);refine bodyPost_ret (results_none rfl _ _ _) rfl ?_)
   exact ⟨rfl,HOn.out.cast (by rw [HF.out,if_pos g]),HTn.out⟩
 have hb:(decide (mid < e) && decide (e < z))=false:=by
  rcases Nat.lt_or_ge mid e with q1 | q1
  · rw [decide_eq_true q1,decide_eq_false (fun q2=>g ⟨q1,q2⟩)];rfl
  rw [decide_eq_false rJ];rfl
 simp only [hb]
 go_wp2
 first | go_end0|((try simp only [Exit.inBlock,Exit.then]);refine bodyPost_ret (results_none rfl _ _ _) rfl ?_)
 exact ⟨rfl,HO8.out.cast (by rw [HF.out,if_neg g]),HT8.out⟩
theorem kLm {b n cap:Nat} {S:Nat→Prop} {g:FuncId} {cp:Array Value} (key:jD→Int) (hg:jB Tryz.prog g):∀ (f:Nat),(∀ {w:World} {a m z:Nat} {xs:List jD} (hcl:kAo key g cp S w) (h:Rep.kQ 159 kM w (.slice (some ⟨b,0,none⟩) n cap) xs S) (hn:n=xs.length) (hlen:xs.length≤16777216) (ham:a < m) (hmz:m < z) (hz:z≤xs.length) (hf:z - a≤f),Calls Tryz.prog 235 #[.slice (some ⟨b,0,none⟩) n cap,.int .i64 (a:Nat),.int .i64 (m:Nat),.int .i64 (z:Nat),.func (.func g) #[] cp] w fun e w'=>e=.returned (.tuple #[])∧Rep.kQ 159 kM w' (.slice (some ⟨b,0,none⟩) n cap) (Srt.symm key f a m z xs) S∧Touch S w w'):=by
 intro f
 induction f with
 | zero=>intro w a m z xs hcl h hn hlen ham hmz hz hf;omega
 | succ f ih =>
   intro w a m z xs hcl h hn hlen ham hmz hz hf
   by_cases c1:m - a=1
   · exact kTj key hg f hcl h hn hlen ham hmz hz hf c1
   · by_cases c2:z - m=1
     · exact kTi key hg f hcl h hn hlen ham hmz hz hf c1 c2
     · exact kTh key hg f ih hcl h hn hlen ham hmz hz hf c1 c2
theorem kOy {α:Type} {key:α→Int} {n f p:Nat} {cu:List α} (h:p + 20≤n) (hf:n < f + p):∃ f',n < f' + (p + 20)∧Srt.blocks key n f p cu=Srt.blocks key n f' (p + 20) (Srt.kAr key p (p + 20) cu):=by
 obtain ⟨g,rfl⟩:∃ g,f=g + 1:=⟨f - 1,by omega⟩
 exact ⟨g,by omega,by rw [Srt.blocks,if_pos h]⟩
theorem kSr {α:Type} {key:α→Int} {n f p:Nat} {cu:List α} (h:¬ p + 20≤n) (hp:p≤n) (hf:n < f + p):Srt.blocks key n f p cu=Srt.kAr key p n cu:=by
 obtain ⟨g,rfl⟩:∃ g,f=g + 1:=⟨f - 1,by omega⟩
 rw [Srt.blocks,if_neg h]
theorem kUv {α:Type} {key:α→Int} {n s f p:Nat} {cu:List α} (hs:0 < s) (h:p + 2 * s≤n) (hf:n < f + p):∃ f',n < f' + (p + 2 * s)∧Srt.pass key n s f p cu=Srt.pass key n s f' (p + 2 * s) (Srt.symm key (2 * s) p (p + s) (p + 2 * s) cu):=by
 obtain ⟨g,rfl⟩:∃ g,f=g + 1:=⟨f - 1,by omega⟩
 exact ⟨g,by omega,by rw [Srt.pass,if_pos h]⟩
theorem pass_mid {α:Type} {key:α→Int} {n s f p:Nat} {cu:List α} (h:¬ p + 2 * s≤n) (h2:p + s < n) (hf:n < f + p):Srt.pass key n s f p cu=Srt.symm key (n - p) p (p + s) n cu:=by
 obtain ⟨g,rfl⟩:∃ g,f=g + 1:=⟨f - 1,by omega⟩
 rw [Srt.pass,if_neg h,if_pos h2]
theorem pass_end {α:Type} {key:α→Int} {n s f p:Nat} {cu:List α} (h:¬ p + 2 * s≤n) (h2:¬ p + s < n) (hp:p≤n) (hf:n < f + p):Srt.pass key n s f p cu=cu:=by
 obtain ⟨g,rfl⟩:∃ g,f=g + 1:=⟨f - 1,by omega⟩
 rw [Srt.pass,if_neg h,if_neg h2]
theorem kOq {α:Type} {key:α→Int} {n s f:Nat} {cu:List α} (hs:0 < s) (h:s < n) (hf:n < f + s):∃ f',n < f' + s * 2∧Srt.passes key n f s cu=Srt.passes key n f' (s * 2) (Srt.pass key n s (n + 1) 0 cu):=by
 obtain ⟨g,rfl⟩:∃ g,f=g + 1:=⟨f - 1,by omega⟩
 exact ⟨g,by omega,by rw [Srt.passes,if_pos h,Nat.mul_comm]⟩
theorem kRn {α:Type} {key:α→Int} {n s f:Nat} {cu:List α} (h:¬ s < n):Srt.passes key n f s cu=cu:=by
 cases f with
 | zero=>rfl
 | succ f=>rw [Srt.passes,if_neg h]
theorem kPk {w:World} {v:Value} {g:FuncId} {cp:Array Value}:Calls Tryz.prog 236 #[v,.int .i64 (0:Nat),.int .i64 (0:Nat),.func (.func g) #[] cp] w fun e w'=>e=.returned (.tuple #[])∧w'=w:=by
 go_enter Tryz.func236,Tryz.ntmps236
 go_wp2
 go_loopw [8] (fun i wr=>i=.int .i64 1∧wr=w) (fun i _=>0)
 case atStart=>exact ⟨rfl,rfl⟩
 obtain ⟨rfl,hw⟩:=hrel
 obtain rfl:=hw
 go_wp2
 go_end0
 exact ⟨rfl,rfl⟩
theorem kPe {w:World} {v:Value} {g:FuncId} {cp:Array Value}:Calls Tryz.prog 229 #[v,.int .i64 (0:Nat),.func (.func g) #[] cp] w fun e w'=>e=.returned (.tuple #[])∧w'=w:=by
 go_enter Tryz.func229,Tryz.ntmps229
 go_wp2
 go_loopw [7,8] (fun i j wr=>i=.int .i64 0∧j=.int .i64 20∧wr=w) (fun i j _=>0)
 case atStart=>exact ⟨rfl,rfl,rfl⟩
 obtain ⟨rfl,rfl,hw⟩:=hrel
 obtain rfl:=hw
 go_wp2_with fail
 refine kPk.mono ?_
 rintro e w2 ⟨rfl,hw2⟩
 obtain rfl:=hw2.symm
 go_wp2
 go_loopw [6,7,8] (fun i _ _ wx=>i=.int .i64 20∧wx=wr) (fun i _ _ _=>0)
 case atStart=>exact ⟨rfl,rfl⟩
 obtain ⟨rfl,hw⟩:=hrel
 obtain rfl:=hw
 go_wp2
 go_end0
 exact ⟨rfl,rfl⟩
theorem kVw {w:World} {b n cap:Nat} {xs:List Int} {S:Nat→Prop} {g:FuncId} {cp:Array Value} (key:Int→Int) (hg:jB Tryz.prog g) (hcl:kCz key g cp S w) (h:Rep.kQ 3 Rep.int w (.slice (some ⟨b,0,none⟩) n cap) xs S) (hn:n=xs.length) (hlen:xs.length≤16777216) :
    Calls Tryz.prog 229 #[.slice (some ⟨b,0,none⟩) n cap,.int .i64 (n:Nat),.func (.func g) #[] cp] w fun e w'=>e=.returned (.tuple #[])∧Rep.kQ 3 Rep.int w' (.slice (some ⟨b,0,none⟩) n cap) (Srt.stable key xs) S∧Touch S w w':=by
 have HCL:=yD hcl
 have HCG:=yD hg
 have HO0:=yD h
 have HN0:=yD hn
 have HSB:Hid (Srt.stable key xs=Srt.passes key n (n + 1) 20 (Srt.blocks key n (n + 1) 0 xs)):=yD (by rw [hn];rfl)
 have hnB:n≤16777216:=rJ
 clear h hcl hlen hn hg
 have hnI:(n:Int)≤16777216:=rJ
 have hn0:=Int.natCast_nonneg n
 go_enter Tryz.func229,Tryz.ntmps229
 go_wp2
 go_loopw [7,8] (fun i j wr=>∃ (p f:Nat) (cu:List Int),i=.int .i64 p∧j=.int .i64 ((p:Int) + 20)∧p≤n∧Hid (n < f + p)∧Hid (Srt.blocks key n f p cu=Srt.blocks key n (n + 1) 0 xs)∧Hid (cu.length=n)∧Hid (Rep.kQ 3 Rep.int wr (.slice (some ⟨b,0,none⟩) n cap) cu S)∧Hid (Touch S w wr)) (fun i _ _=>n - (intOf i).toNat)
 case atStart=>exact ⟨0,n + 1,xs,rfl,rfl,Nat.zero_le _,yD rJ,yD rfl,yD HN0.out.symm,HO0,yD (Touch.refl _ _)⟩
 obtain ⟨p,f,cu,rfl,rfl,hpn,HFU,HB,HL,HO,HT⟩:=hrel
 have hp0:=Int.natCast_nonneg p
 by_cases hlt:p + 20≤n
 · have hltI:(p:Int) + 20≤n:=rJ
   obtain ⟨f',hf',hbn⟩:=kOy (key:=key) (cu:=cu) hlt HFU.out
   have HF':=yD hf'
   obtain ⟨q,hq⟩:∃ q,p + 20=q:=⟨_,rfl⟩
   have hqI:(p:Int) + 20=(q:Int):=rJ
   rw [hq] at hbn
   have HBN:=yD (hbn.symm.trans HB.out);clear hbn hf'
   have hwq:IntKind.i64.wrap (q:Int)=q:=IntWalk.i64_in _ rJ
   go_wp2_with fail
   refine (kMc (n:=n) (b:=b) key HCG.out (kAk HCL.out HT.out) HO.out HL.out.symm pX (a:=p) (z:=q) rJ pX).mono ?_
   rintro e w2 ⟨rfl,O2,T2⟩
   have HO2:=yD O2;have HT2:=yD (HT.out.trans T2);clear O2 T2
   have HL2:Hid ((Srt.kAr key p q cu).length=n):=yD (by rw [Srt.kAz];exact HL.out)
   go_wp2
   go_roundw
   case rel=>exact ⟨q,f',_,rfl,by first | rfl|(go_num),by omega,yD pR,HBN,HL2,HO2,HT2⟩
   simp [intOf];omega
 have hltI:¬ (p:Int) + 20≤n:=rJ
 have HBN:=yD (HB.out.symm.trans (kSr (key:=key) (cu:=cu) hlt hpn HFU.out))
 go_wp2_with fail
 refine (kMc (n:=n) (b:=b) key HCG.out (kAk HCL.out HT.out) HO.out HL.out.symm pX (a:=p) (z:=n) hpn pX).mono ?_
 rintro e w2 ⟨rfl,O2,T2⟩
 have HL2:Hid ((Srt.blocks key n (n + 1) 0 xs).length=n):=yD (by rw [Srt.kBy];exact HN0.out.symm)
 have HO2:=yD (O2.cast HBN.out.symm);have HT2:=yD (HT.out.trans T2);clear O2 T2
 generalize Srt.blocks key n (n + 1) 0 xs=B at *
 clear hlt hltI HBN HO HT HL HB HFU
 go_wp2
 go_loopw [6,7,8] (fun i _ _ wr=>∃ (s f:Nat) (cu:List Int),i=.int .i64 s∧20≤s∧s≤33554432∧Hid (n < f + s)∧Hid (Srt.passes key n f s cu=Srt.passes key n (n + 1) 20 B)∧Hid (cu.length=n)∧Hid (Rep.kQ 3 Rep.int wr (.slice (some ⟨b,0,none⟩) n cap) cu S)∧Hid (Touch S w wr)) (fun i _ _ _=>n - (intOf i).toNat)
 case atStart=>exact ⟨20,n + 1,B,rfl,Nat.le_refl _,by omega,yD rJ,yD rfl,HL2,HO2,HT2⟩
 obtain ⟨s,f,cu,rfl,hs20,hsB,HFU,HB,HL,HO,HT⟩:=hrel
 have hs0:(20:Int)≤s:=rJ
 by_cases hlt:s < n
 · have hltI:(s:Int) < n:=rJ
   obtain ⟨f',hf',hbn⟩:=kOq (key:=key) (cu:=cu) rJ hlt HFU.out
   have HF':=yD hf';have HPN:=yD (hbn.symm.trans HB.out);clear hf' hbn
   obtain ⟨s2,hs2⟩:∃ s2,2 * s=s2:=⟨_,rfl⟩
   have hs2I:2 * (s:Int)=(s2:Int):=rJ
   have hs2J:(s:Int) * 2=(s2:Int):=rJ
   have hws2:IntKind.i64.wrap (s2:Int)=s2:=IntWalk.i64_in _ rJ
   have hs20':=Int.natCast_nonneg s2
   go_wp2
   go_loopw [7,8] (fun i j wr=>∃ (p f2:Nat) (cv:List Int),i=.int .i64 p∧j=.int .i64 ((p:Int) + (s2:Int))∧p≤n∧Hid (n < f2 + p)∧Hid (Srt.pass key n s f2 p cv=Srt.pass key n s (n + 1) 0 cu)∧Hid (cv.length=n)∧Hid (Rep.kQ 3 Rep.int wr (.slice (some ⟨b,0,none⟩) n cap) cv S)∧Hid (Touch S w wr)) (fun i _ _=>n - (intOf i).toNat)
   case atStart=>exact ⟨0,n + 1,cu,rfl,by first | rfl|(simp;done) | go_num,Nat.zero_le _,yD rJ,yD rfl,HL,HO,HT⟩
   obtain ⟨p,f2,cv,rfl,rfl,hpn,HFU2,HB2,HL2,HO2,HT2⟩:=hrel
   have hp0:=Int.natCast_nonneg p
   obtain ⟨ps,hps⟩:∃ ps,p + s=ps:=⟨_,rfl⟩
   have hpsI:(p:Int) + (s:Int)=(ps:Int):=rJ
   have hwps:IntKind.i64.wrap (ps:Int)=ps:=IntWalk.i64_in _ rJ
   obtain ⟨q,hq⟩:∃ q,p + s2=q:=⟨_,rfl⟩
   have hqI:(p:Int) + (s2:Int)=(q:Int):=rJ
   have hwq:IntKind.i64.wrap (q:Int)=q:=IntWalk.i64_in _ rJ
   by_cases hl2:p + 2 * s≤n
   · have hqn:(q:Int)≤n:=rJ
     obtain ⟨f3,hf3,hbn⟩:=kUv (key:=key) (cu:=cv) (by omega:0 < s) hl2 HFU2.out
     rw [hs2,hq,hps] at hbn
     have HF3:=yD hf3;have HPN2:=yD (hbn.symm.trans HB2.out);clear hf3 hbn
     go_wp2_with fail
     refine (kQy (n:=n) (b:=b) key HCG.out s2 (kAk HCL.out HT2.out) HO2.out HL2.out.symm pO (a:=p) (m:=ps) (z:=q) rJ rJ pO rJ).mono ?_
     rintro e w2 ⟨rfl,O2,T2⟩
     have HO3:=yD O2;have HT3:=yD (HT2.out.trans T2);clear O2 T2
     have HL3:Hid ((Srt.symm key s2 p ps q cv).length=n):=yD (by rw [Srt.zY];exact HL2.out)
     go_wp2
     go_roundw
     case rel=>exact ⟨q,f3,_,rfl,by first | rfl|(go_num),by omega,yD (by have:=HF3.out;omega),HPN2,HL3,HO3,HT3⟩
     simp [intOf];omega
   have hqn:¬ (q:Int)≤n:=rJ
   by_cases hm:p + s < n
   · have hmI:(ps:Int) < n:=rJ
     have HPE:=yD ((pass_mid (key:=key) (cu:=cv) hl2 hm HFU2.out).symm.trans HB2.out)
     rw [hps] at HPE
     go_wp2_with fail
     refine (kQy (n:=n) (b:=b) key HCG.out (n - p) (kAk HCL.out HT2.out) HO2.out HL2.out.symm pO (a:=p) (m:=ps) (z:=n) rJ rJ pO rJ).mono ?_
     rintro e w2 ⟨rfl,O2,T2⟩
     have HO3:=yD (O2.cast HPE.out);have HT3:=yD (HT2.out.trans T2);clear O2 T2
     have HL3:Hid ((Srt.pass key n s (n + 1) 0 cu).length=n):=yD nI
     go_wp2
     go_roundw
     case rel=>exact ⟨s2,f',_,rfl,by omega,by omega,yD pR,yD gF,HL3,HO3,HT3⟩
     simp [intOf];omega
   have hmI:¬ (ps:Int) < n:=rJ
   have HPE:=yD ((pass_end (key:=key) (cu:=cv) hl2 hm hpn HFU2.out).symm.trans HB2.out)
   have HO3:=yD (HO2.out.cast HPE.out)
   have HL3:Hid ((Srt.pass key n s (n + 1) 0 cu).length=n):=yD nI
   go_wp2
   go_roundw
   case rel=>exact ⟨s2,f',_,rfl,by omega,by omega,yD pR,yD gF,HL3,HO3,HT2⟩
   simp [intOf];omega
 have hltI:¬ (s:Int) < n:=rJ
 have HE:=yD ((kRn (key:=key) (f:=f) (cu:=cu) hlt).symm.trans (HB.out.trans HSB.out.symm))
 go_wp2
 go_end0
 exact ⟨rfl,HO.out.cast HE.out,HT.out⟩
theorem kOg {w:World} {v:Value} {xs:List Int} {S:Nat→Prop} {g:FuncId} {cp:Array Value} (key:Int→Int) (hg:jB Tryz.prog g) (hcl:kCz key g cp S w) (h:Rep.kQ 3 Rep.int w v xs S) (hlen:xs.length≤16777216) :
    Calls Tryz.prog 205 #[v,.func (.func g) #[] cp] w fun e w'=>e=.returned (.tuple #[])∧Rep.kQ 3 Rep.int w' v (Srt.stable key xs) S∧Touch S w w':=by
 rcases Nat.eq_zero_or_pos xs.length with h0 | h0
 · obtain ⟨a,cap,rfl⟩:=h.zR
   obtain rfl:xs=[]:=List.eq_nil_of_length_eq_zero h0
   have hst:Srt.stable key ([]:List Int)=[]:=List.eq_nil_of_length_eq_zero (by rw [Srt.kDh];rfl)
   have HO:=yD (h.cast hst.symm)
   have HNN:=yD (kPe (w:=w) (v:=.slice a 0 cap) (g:=g) (cp:=cp))
   clear h hcl hg hst
   simp only [List.length_nil] at *
   go_enter Tryz.func205,Tryz.ntmps205
   go_wp2_with fail
   refine HNN.out.mono ?_
   rintro e w2 ⟨rfl,hw2⟩
   obtain rfl:=hw2.symm
   go_wp2
   go_end0
   exact ⟨rfl,HO.out,Touch.refl _ _⟩
 obtain ⟨b,cap,rfl,_⟩:=Rep.kCj h h0
 have HC:=yD (kVw key hg hcl h rfl hlen)
 clear h hcl hg hlen h0
 go_enter Tryz.func205,Tryz.ntmps205
 go_wp2_with fail
 refine HC.out.mono ?_
 rintro e w2 ⟨rfl,O2,T2⟩
 have HO2:=yD O2;have HT2:=yD T2;clear O2 T2
 go_wp2
 go_end0
 exact ⟨rfl,HO2.out,HT2.out⟩
theorem kMd {w:World} {v:Value} {g:FuncId} {cp:Array Value}:Calls Tryz.prog 234 #[v,.int .i64 (0:Nat),.int .i64 (0:Nat),.func (.func g) #[] cp] w fun e w'=>e=.returned (.tuple #[])∧w'=w:=by
 go_enter Tryz.func234,Tryz.ntmps234
 go_wp2
 go_loopw [8] (fun i wr=>i=.int .i64 1∧wr=w) (fun i _=>0)
 case atStart=>exact ⟨rfl,rfl⟩
 obtain ⟨rfl,hw⟩:=hrel
 obtain rfl:=hw
 go_wp2
 go_end0
 exact ⟨rfl,rfl⟩
theorem kLp {w:World} {v:Value} {g:FuncId} {cp:Array Value}:Calls Tryz.prog 227 #[v,.int .i64 (0:Nat),.func (.func g) #[] cp] w fun e w'=>e=.returned (.tuple #[])∧w'=w:=by
 go_enter Tryz.func227,Tryz.ntmps227
 go_wp2
 go_loopw [7,8] (fun i j wr=>i=.int .i64 0∧j=.int .i64 20∧wr=w) (fun i j _=>0)
 case atStart=>exact ⟨rfl,rfl,rfl⟩
 obtain ⟨rfl,rfl,hw⟩:=hrel
 obtain rfl:=hw
 go_wp2_with fail
 refine kMd.mono ?_
 rintro e w2 ⟨rfl,hw2⟩
 obtain rfl:=hw2.symm
 go_wp2
 go_loopw [6,7,8] (fun i _ _ wx=>i=.int .i64 20∧wx=wr) (fun i _ _ _=>0)
 case atStart=>exact ⟨rfl,rfl⟩
 obtain ⟨rfl,hw⟩:=hrel
 obtain rfl:=hw
 go_wp2
 go_end0
 exact ⟨rfl,rfl⟩
theorem kQz {w:World} {b n cap:Nat} {xs:List jD} {S:Nat→Prop} {g:FuncId} {cp:Array Value} (key:jD→Int) (hg:jB Tryz.prog g) (hcl:kAo key g cp S w) (h:Rep.kQ 159 kM w (.slice (some ⟨b,0,none⟩) n cap) xs S) (hn:n=xs.length) (hlen:xs.length≤16777216) :
    Calls Tryz.prog 227 #[.slice (some ⟨b,0,none⟩) n cap,.int .i64 (n:Nat),.func (.func g) #[] cp] w fun e w'=>e=.returned (.tuple #[])∧Rep.kQ 159 kM w' (.slice (some ⟨b,0,none⟩) n cap) (Srt.stable key xs) S∧Touch S w w':=by
 have HCL:=yD hcl
 have HCG:=yD hg
 have HO0:=yD h
 have HN0:=yD hn
 have HSB:Hid (Srt.stable key xs=Srt.passes key n (n + 1) 20 (Srt.blocks key n (n + 1) 0 xs)):=yD (by rw [hn];rfl)
 have hnB:n≤16777216:=rJ
 clear h hcl hlen hn hg
 have hnI:(n:Int)≤16777216:=rJ
 have hn0:=Int.natCast_nonneg n
 go_enter Tryz.func227,Tryz.ntmps227
 go_wp2
 go_loopw [7,8] (fun i j wr=>∃ (p f:Nat) (cu:List jD),i=.int .i64 p∧j=.int .i64 ((p:Int) + 20)∧p≤n∧Hid (n < f + p)∧Hid (Srt.blocks key n f p cu=Srt.blocks key n (n + 1) 0 xs)∧Hid (cu.length=n)∧Hid (Rep.kQ 159 kM wr (.slice (some ⟨b,0,none⟩) n cap) cu S)∧Hid (Touch S w wr)) (fun i _ _=>n - (intOf i).toNat)
 case atStart=>exact ⟨0,n + 1,xs,rfl,rfl,Nat.zero_le _,yD rJ,yD rfl,yD HN0.out.symm,HO0,yD (Touch.refl _ _)⟩
 obtain ⟨p,f,cu,rfl,rfl,hpn,HFU,HB,HL,HO,HT⟩:=hrel
 have hp0:=Int.natCast_nonneg p
 by_cases hlt:p + 20≤n
 · have hltI:(p:Int) + 20≤n:=rJ
   obtain ⟨f',hf',hbn⟩:=kOy (key:=key) (cu:=cu) hlt HFU.out
   have HF':=yD hf'
   obtain ⟨q,hq⟩:∃ q,p + 20=q:=⟨_,rfl⟩
   have hqI:(p:Int) + 20=(q:Int):=rJ
   rw [hq] at hbn
   have HBN:=yD (hbn.symm.trans HB.out);clear hbn hf'
   have hwq:IntKind.i64.wrap (q:Int)=q:=IntWalk.i64_in _ rJ
   go_wp2_with fail
   refine (kHx (n:=n) (b:=b) key HCG.out (zi HCL.out HT.out) HO.out HL.out.symm pX (a:=p) (z:=q) rJ pX).mono ?_
   rintro e w2 ⟨rfl,O2,T2⟩
   have HO2:=yD O2;have HT2:=yD (HT.out.trans T2);clear O2 T2
   have HL2:Hid ((Srt.kAr key p q cu).length=n):=yD (by rw [Srt.kAz];exact HL.out)
   go_wp2
   go_roundw
   case rel=>exact ⟨q,f',_,rfl,by first | rfl|(go_num),by omega,yD pR,HBN,HL2,HO2,HT2⟩
   simp [intOf];omega
 have hltI:¬ (p:Int) + 20≤n:=rJ
 have HBN:=yD (HB.out.symm.trans (kSr (key:=key) (cu:=cu) hlt hpn HFU.out))
 go_wp2_with fail
 refine (kHx (n:=n) (b:=b) key HCG.out (zi HCL.out HT.out) HO.out HL.out.symm pX (a:=p) (z:=n) hpn pX).mono ?_
 rintro e w2 ⟨rfl,O2,T2⟩
 have HL2:Hid ((Srt.blocks key n (n + 1) 0 xs).length=n):=yD (by rw [Srt.kBy];exact HN0.out.symm)
 have HO2:=yD (O2.cast HBN.out.symm);have HT2:=yD (HT.out.trans T2);clear O2 T2
 generalize Srt.blocks key n (n + 1) 0 xs=B at *
 clear hlt hltI HBN HO HT HL HB HFU
 go_wp2
 go_loopw [6,7,8] (fun i _ _ wr=>∃ (s f:Nat) (cu:List jD),i=.int .i64 s∧20≤s∧s≤33554432∧Hid (n < f + s)∧Hid (Srt.passes key n f s cu=Srt.passes key n (n + 1) 20 B)∧Hid (cu.length=n)∧Hid (Rep.kQ 159 kM wr (.slice (some ⟨b,0,none⟩) n cap) cu S)∧Hid (Touch S w wr)) (fun i _ _ _=>n - (intOf i).toNat)
 case atStart=>exact ⟨20,n + 1,B,rfl,Nat.le_refl _,by omega,yD rJ,yD rfl,HL2,HO2,HT2⟩
 obtain ⟨s,f,cu,rfl,hs20,hsB,HFU,HB,HL,HO,HT⟩:=hrel
 have hs0:(20:Int)≤s:=rJ
 by_cases hlt:s < n
 · have hltI:(s:Int) < n:=rJ
   obtain ⟨f',hf',hbn⟩:=kOq (key:=key) (cu:=cu) rJ hlt HFU.out
   have HF':=yD hf';have HPN:=yD (hbn.symm.trans HB.out);clear hf' hbn
   obtain ⟨s2,hs2⟩:∃ s2,2 * s=s2:=⟨_,rfl⟩
   have hs2I:2 * (s:Int)=(s2:Int):=rJ
   have hs2J:(s:Int) * 2=(s2:Int):=rJ
   have hws2:IntKind.i64.wrap (s2:Int)=s2:=IntWalk.i64_in _ rJ
   have hs20':=Int.natCast_nonneg s2
   go_wp2
   go_loopw [7,8] (fun i j wr=>∃ (p f2:Nat) (cv:List jD),i=.int .i64 p∧j=.int .i64 ((p:Int) + (s2:Int))∧p≤n∧Hid (n < f2 + p)∧Hid (Srt.pass key n s f2 p cv=Srt.pass key n s (n + 1) 0 cu)∧Hid (cv.length=n)∧Hid (Rep.kQ 159 kM wr (.slice (some ⟨b,0,none⟩) n cap) cv S)∧Hid (Touch S w wr)) (fun i _ _=>n - (intOf i).toNat)
   case atStart=>exact ⟨0,n + 1,cu,rfl,by first | rfl|(simp;done) | go_num,Nat.zero_le _,yD rJ,yD rfl,HL,HO,HT⟩
   obtain ⟨p,f2,cv,rfl,rfl,hpn,HFU2,HB2,HL2,HO2,HT2⟩:=hrel
   have hp0:=Int.natCast_nonneg p
   obtain ⟨ps,hps⟩:∃ ps,p + s=ps:=⟨_,rfl⟩
   have hpsI:(p:Int) + (s:Int)=(ps:Int):=rJ
   have hwps:IntKind.i64.wrap (ps:Int)=ps:=IntWalk.i64_in _ rJ
   obtain ⟨q,hq⟩:∃ q,p + s2=q:=⟨_,rfl⟩
   have hqI:(p:Int) + (s2:Int)=(q:Int):=rJ
   have hwq:IntKind.i64.wrap (q:Int)=q:=IntWalk.i64_in _ rJ
   by_cases hl2:p + 2 * s≤n
   · have hqn:(q:Int)≤n:=rJ
     obtain ⟨f3,hf3,hbn⟩:=kUv (key:=key) (cu:=cv) (by omega:0 < s) hl2 HFU2.out
     rw [hs2,hq,hps] at hbn
     have HF3:=yD hf3;have HPN2:=yD (hbn.symm.trans HB2.out);clear hf3 hbn
     go_wp2_with fail
     refine (kLm (n:=n) (b:=b) key HCG.out s2 (zi HCL.out HT2.out) HO2.out HL2.out.symm pO (a:=p) (m:=ps) (z:=q) rJ rJ pO rJ).mono ?_
     rintro e w2 ⟨rfl,O2,T2⟩
     have HO3:=yD O2;have HT3:=yD (HT2.out.trans T2);clear O2 T2
     have HL3:Hid ((Srt.symm key s2 p ps q cv).length=n):=yD (by rw [Srt.zY];exact HL2.out)
     go_wp2
     go_roundw
     case rel=>exact ⟨q,f3,_,rfl,by first | rfl|(go_num),by omega,yD (by have:=HF3.out;omega),HPN2,HL3,HO3,HT3⟩
     simp [intOf];omega
   have hqn:¬ (q:Int)≤n:=rJ
   by_cases hm:p + s < n
   · have hmI:(ps:Int) < n:=rJ
     have HPE:=yD ((pass_mid (key:=key) (cu:=cv) hl2 hm HFU2.out).symm.trans HB2.out)
     rw [hps] at HPE
     go_wp2_with fail
     refine (kLm (n:=n) (b:=b) key HCG.out (n - p) (zi HCL.out HT2.out) HO2.out HL2.out.symm pO (a:=p) (m:=ps) (z:=n) rJ rJ pO rJ).mono ?_
     rintro e w2 ⟨rfl,O2,T2⟩
     have HO3:=yD (O2.cast HPE.out);have HT3:=yD (HT2.out.trans T2);clear O2 T2
     have HL3:Hid ((Srt.pass key n s (n + 1) 0 cu).length=n):=yD nI
     go_wp2
     go_roundw
     case rel=>exact ⟨s2,f',_,rfl,by omega,by omega,yD pR,yD gF,HL3,HO3,HT3⟩
     simp [intOf];omega
   have hmI:¬ (ps:Int) < n:=rJ
   have HPE:=yD ((pass_end (key:=key) (cu:=cv) hl2 hm hpn HFU2.out).symm.trans HB2.out)
   have HO3:=yD (HO2.out.cast HPE.out)
   have HL3:Hid ((Srt.pass key n s (n + 1) 0 cu).length=n):=yD nI
   go_wp2
   go_roundw
   case rel=>exact ⟨s2,f',_,rfl,by omega,by omega,yD pR,yD gF,HL3,HO3,HT2⟩
   simp [intOf];omega
 have hltI:¬ (s:Int) < n:=rJ
 have HE:=yD ((kRn (key:=key) (f:=f) (cu:=cu) hlt).symm.trans (HB.out.trans HSB.out.symm))
 go_wp2
 go_end0
 exact ⟨rfl,HO.out.cast HE.out,HT.out⟩
theorem kLf {w:World} {v:Value} {xs:List jD} {S:Nat→Prop} {g:FuncId} {cp:Array Value} (key:jD→Int) (hg:jB Tryz.prog g) (hcl:kAo key g cp S w) (h:Rep.kQ 159 kM w v xs S) (hlen:xs.length≤16777216) :
    Calls Tryz.prog 200 #[v,.func (.func g) #[] cp] w fun e w'=>e=.returned (.tuple #[])∧Rep.kQ 159 kM w' v (Srt.stable key xs) S∧Touch S w w':=by
 rcases Nat.eq_zero_or_pos xs.length with h0 | h0
 · obtain ⟨a,cap,rfl⟩:=h.zR
   obtain rfl:xs=[]:=List.eq_nil_of_length_eq_zero h0
   have hst:Srt.stable key ([]:List jD)=[]:=List.eq_nil_of_length_eq_zero (by rw [Srt.kDh];rfl)
   have HO:=yD (h.cast hst.symm)
   have HNN:=yD (kLp (w:=w) (v:=.slice a 0 cap) (g:=g) (cp:=cp))
   clear h hcl hg hst
   simp only [List.length_nil] at *
   go_enter Tryz.func200,Tryz.ntmps200
   go_wp2_with fail
   refine HNN.out.mono ?_
   rintro e w2 ⟨rfl,hw2⟩
   obtain rfl:=hw2.symm
   go_wp2
   go_end0
   exact ⟨rfl,HO.out,Touch.refl _ _⟩
 obtain ⟨b,cap,rfl,_⟩:=Rep.kCj h h0
 have HC:=yD (kQz key hg hcl h rfl hlen)
 clear h hcl hg hlen h0
 go_enter Tryz.func200,Tryz.ntmps200
 go_wp2_with fail
 refine HC.out.mono ?_
 rintro e w2 ⟨rfl,O2,T2⟩
 have HO2:=yD O2;have HT2:=yD T2;clear O2 T2
 go_wp2
 go_end0
 exact ⟨rfl,HO2.out,HT2.out⟩
def kBm (n:ky) (f:Int) (m:kv):Bool:=(m.2.1==f) && eqN m.1 n
theorem kTl {w:World} {vl:Value} {l:(List kv)} (hl:(Rep.slice 166 kG).raw w [vl] l) {cn:List Value} {n:ky} (hn:kZ.raw w cn n) {f:Int} :
    Calls Tryz.prog 115 #[vl,.agg cn.toArray,.int .i64 f] w fun e w'=>e=.returned (.int .i64 (idxOf (kBm n f) l))∧Below w.heap.size w w':=by
 obtain ⟨al,pl,rfl,ll⟩:=Rep.sl hl
 have Hn:=yD hn
 obtain ⟨fnv0,rfl,fn_0⟩:=kR hn
 obtain ⟨fna0,fnp0,rfl,fnl0⟩:=Rep.sl fn_0
 go_enter Tryz.func115,Tryz.ntmps115
 go_wp2
 generalize hwB:World.alloc w _=wB
 have EB:Below w.heap.size w wB:=by rw [← hwB];exact bD
 have K4_0:wB.cell? ⟨w.heap.size,0,none⟩=some (.slice fna0 (n).length fnp0):=nJ
 clear hwB
 replace hl:=hl.below EB
 go_loopw [7] (fun i wr=>∃ k:Nat,k≤l.length∧i=.int .i64 k∧Hid (∀ j,(h:j < k)→(h2:j < l.length)→(kBm n f) l[j]=false)∧Below wB.heap.size wB wr) (fun i _=>l.length - (intOf i).toNat)
 case atStart=>exact ⟨0,Nat.zero_le _,rfl,yD (fun _ h=>by omega),bR⟩
 obtain ⟨k,hk,rfl,HN,hbel⟩:=hrel
 replace K4_0:=cL hbel K4_0
 by_cases hlt:k < l.length
 · obtain ⟨qb,qo,rfl,qc0,qc1,qc2,qr,Aq0,Aq1,Aq2⟩:=Rep.zT (hl.below hbel) (i:=k) rJ rfl
   have hhit:=fun q=>idxOf_hit hlt q HN.out
   have hmis:=fun q=>kAl hlt q HN.out
   generalize l[k]=x at *
   have HD:=yD hhit;have HX:=yD hmis;clear hhit hmis
   obtain ⟨x0,x1,x2⟩:=x
   obtain ⟨qv0,qhe,q_0,q_1,q_2,q_3⟩:=jf qr
   simp only [List.cons.injEq,and_true] at qhe
   obtain ⟨rfl,rfl,rfl⟩:=qhe
   obtain ⟨qa0,qp0,rfl,ql0⟩:=Rep.sl q_1
   go_upto_region 4 with fail
   have FX:=yD (fun (W:World) (hW:Below wr.heap.size wr W)=>kDa hW K4_0 Aq0 Aq1 Aq2)
   refine kV (fun W=>Below wr.heap.size wr W) [true,true,true,true,true,true,true,true,true,true,true,true,true,true,false,true] rA rA gI (bR.drew) ?_
   intro wS HS
   iterate 7
    all_goals refine wkR ?_
   all_goals (have hg7:=True.intro;first|(refine wkG (fun b hg7=>?_);cases b;all_goals first | exact Bool.noConfusion hg7 | simp only [zU,zV] at hg7 | skip) | refine wkR ?_)
   all_goals refine wkP ?_
   iterate 6
    all_goals refine wkR ?_
   all_goals first | refine wkB (je (Rep.raw.below q_0 HS) (Rep.raw.below Hn.out ((tQ EB (tQ hbel HS))))) (fun wS1 HS=>?_) | refine wkR ?_
   all_goals (have hg15:=True.intro;first|(refine wkG (fun b hg15=>?_);cases b;all_goals first | exact Bool.noConfusion hg15 | simp only [zU,zV] at hg15 | skip) | refine wkR ?_)
   all_goals refine wkP ?_
   all_goals refine ko ?_
   all_goals have EG:=(tQ hbel HS)
   all_goals first
     | (have HT:=yD (HD.out (show _=true by simp only [kBm,Bool.not_true,Bool.not_false,Bool.and_true,Bool.true_and,Bool.and_false,Bool.false_and,Bool.or_true,Bool.true_or,Bool.or_false,Bool.false_or,Bool.not_not,hg7,hg15]));clear HD HX;go_wp2;go_ret;exact ⟨jI HT.out.symm,(tQ EB EG)⟩)
     | (have HT:=yD (HX.out (show _=false by simp only [kBm,Bool.not_true,Bool.not_false,Bool.and_true,Bool.true_and,Bool.and_false,Bool.false_and,Bool.or_true,Bool.true_or,Bool.or_false,Bool.false_or,Bool.not_not,hg7,hg15]));clear HD HX;go_wp2;go_roundw;(case rel=>exact ⟨k + 1,by omega,by go_num,HT,EG⟩);(case measure=>simp [intOf];omega))
 have HT:=yD (idxOf_miss hlt HN.out)
 go_wp2
 go_ret
 exact ⟨jI HT.out.symm,(tQ EB hbel)⟩
theorem kMe {w:World} {cm:List Value} {m:kv} (hm:kG.raw w cm m) {f:Int} {Bf:Nat} (Af0:w.cell? ⟨Bf,0,none⟩=some (.int .i64 f)) {n:ky} {nc0:Value} {Bn:Nat} (nr:kZ.raw w [nc0] n) (An0:w.cell? ⟨Bn,0,none⟩=some nc0) :
    Calls Tryz.prog 212 (#[.agg cm.toArray]++#[.pointer (some ⟨Bf,0,none⟩),.pointer (some ⟨Bn,0,none⟩)]) w fun e w'=>e=.returned (.bool (kBm n f m))∧Below w.heap.size w w':=by
 have Hm:=yD hm
 obtain ⟨fmv0,rfl,fm_0,fm_1,fm_2,fm_3⟩:=jf hm
 obtain ⟨fma0,fmp0,rfl,fml0⟩:=Rep.sl fm_1
 obtain ⟨nv0,nhe,n_0⟩:=kR nr
 simp only [List.cons.injEq,and_true] at nhe
 obtain rfl:=nhe
 obtain ⟨na0,np0,rfl,nl0⟩:=Rep.sl n_0
 show Calls Tryz.prog 212 #[_,_,_] w _
 go_enter Tryz.func212,Tryz.ntmps212
 go_upto_region 1 with fail
 generalize hwB:World.alloc w _=wB
 have EB:Below w.heap.size w wB:=by rw [← hwB];exact bD
 have K3_0:wB.cell? ⟨w.heap.size,0,none⟩=some (.slice fma0 (m.1).length fmp0):=nJ
 have K3_1:wB.cell? ⟨w.heap.size,1,none⟩=some (.int .i64 m.2.1):=nJ
 have K3_2:wB.cell? ⟨w.heap.size,2,none⟩=some (.int .i64 m.2.2):=nJ
 clear hwB
 replace Af0:=cL EB Af0
 replace An0:=cL EB An0
 have FX:=yD (fun (W:World) (hW:Below wB.heap.size wB W)=>cLs5 hW K3_0 K3_1 K3_2 Af0 An0)
 refine ku (fun W=>Below wB.heap.size wB W) [true,true,true,true,true,true,true,true,false,true,true] bR ?_
 intro wS HS
 iterate 4
  all_goals refine wkR ?_
 all_goals (have hg4:=True.intro;first|(refine wkG (fun b hg4=>?_);cases b;all_goals first | exact Bool.noConfusion hg4 | simp only [zU,zV] at hg4 | skip) | refine wkR ?_)
 all_goals refine wkP ?_
 iterate 3
  all_goals refine wkR ?_
 all_goals first | refine wkB (yz (Rep.raw.below fm_0 (tQ EB HS)) (Rep.raw.below nr (tQ EB HS))) (fun wS1 HS=>?_) | refine wkR ?_
 all_goals refine wkR ?_
 all_goals (have hg10:=True.intro;first|(refine wkG (fun b hg10=>?_);cases b;all_goals first | exact Bool.noConfusion hg10 | simp only [zU,zV] at hg10 | skip) | refine wkR ?_)
 all_goals refine wkP ?_
 all_goals refine ko ?_
 all_goals have EG:=(tQ EB HS)
 all_goals first
   | (have HT:=yD (show (kBm n f m)=false by simp only [kBm,Bool.not_true,Bool.not_false,Bool.and_true,Bool.true_and,Bool.and_false,Bool.false_and,Bool.or_true,Bool.true_or,Bool.or_false,Bool.false_or,Bool.not_not,hg4,hg10]);go_wp2;go_ret;exact ⟨kP HT.out.symm,EG⟩)
   | (have HT:=yD (show (kBm n f m)=true by simp only [kBm,Bool.not_true,Bool.not_false,Bool.and_true,Bool.true_and,Bool.and_false,Bool.false_and,Bool.or_true,Bool.true_or,Bool.or_false,Bool.false_or,Bool.not_not,hg4,hg10]);go_wp2;go_ret;exact ⟨kP HT.out.symm,EG⟩)
theorem kEq:jB Tryz.prog 212:=yh Tryz.func212 rA rA
theorem kNp {w:World} {vl:Value} {l:(List kv)} (hl:(Rep.slice 166 kG).raw w [vl] l) {cn:List Value} {n:ky} (hn:kZ.raw w cn n) {f:Int} :
    Calls Tryz.prog 141 #[vl,.agg cn.toArray,.int .i64 f] w fun e w'=>e=.returned (.int .i64 (idxOf (kBm n f) l))∧Below w.heap.size w w':=by
 obtain ⟨al,pl,rfl,ll⟩:=Rep.sl hl
 have Hn:=yD hn
 obtain ⟨fnv0,rfl,fn_0⟩:=kR hn
 obtain ⟨fna0,fnp0,rfl,fnl0⟩:=Rep.sl fn_0
 go_enter Tryz.func141,Tryz.ntmps141
 go_upto_region 1 with fail
 generalize hwB:World.alloc (World.alloc w _) _=wB
 have EB:Below w.heap.size w wB:=by rw [← hwB];exact bD
 have K4_0:wB.cell? ⟨w.heap.size,0,none⟩=some (.slice fna0 (n).length fnp0):=nJ
 have K5_0:wB.cell? ⟨w.heap.size + 1,0,none⟩=some (.int .i64 f):=nJ
 clear hwB
 go_wp2_with fail
 refine (kFz (kBm n f) kEq (Rep.raw.below hl EB) ?_).mono ?_
 · intro wr hb i h cs hr
   exact kMe hr (cL hb K5_0) (Rep.raw.below Hn.out (tQ EB hb)) (cL hb K4_0)
 rintro e w1 ⟨rfl,hb1⟩
 have EG:Below w.heap.size w w1:=(tQ EB hb1)
 clear hb1
 go_wp2
 go_ret
 exact ⟨rfl,EG⟩
theorem kVd {α:Type} {p:α→Bool} {x:List α} (h:¬ idxOf p x < 0):∃ k:Nat,k < x.length∧idxOf p x=k:=by
 unfold idxOf at *
 cases e:x.findIdx? p with
 | none=>rw [e] at h;simp at h
 | some i=>exact ⟨i,(List.findIdx?_eq_some_iff_getElem.1 e).1,rfl⟩
def yT (l:List kv) (n:ky) (f:Int):Int:=if idxOf (kBm n f) l < 0 then 0 else (l.getD (idxOf (kBm n f) l).toNat ([],0,0)).2.2
theorem kVi {l:List kv} {n:ky} {f:Int} (h:idxOf (kBm n f) l < 0):yT l n f=0:=by unfold yT;rw [if_pos h]
theorem kSl {l:List kv} {n:ky} {f:Int} {k:Nat} (hk:k < l.length) (h:idxOf (kBm n f) l=k):yT l n f=l[k].2.2:=by
 unfold yT;rw [h,if_neg rJ,Int.toNat_natCast,zL hk]
theorem kNi {w:World} {vl:Value} {l:List kv} (hl:(Rep.slice 166 kG).raw w [vl] l) {cn:List Value} {n:ky} (hn:kZ.raw w cn n) {f:Int} :
    Calls Tryz.prog 185 #[vl,.agg cn.toArray,.int .i64 f] w fun e w'=>e=.returned (.int .i64 (yT l n f))∧Below w.heap.size w w':=by
 have HN:=yD hn
 have HL:=yD hl
 obtain ⟨av,rfl,_⟩:=kR hn
 obtain ⟨aa,capa,rfl,la⟩:=Rep.sl hl
 clear hn hl
 go_enter Tryz.func185,Tryz.ntmps185
 go_wp2_with fail
 refine (kTl (HL.out.below bD) (HN.out.below bD)).mono ?_
 rintro e w1 ⟨rfl,hb1⟩
 have EF:Below w.heap.size w w1:=Below.trans bD (hb1.mono rM)
 clear hb1
 by_cases h:idxOf (kBm n f) l < 0
 · have HT:=yD (kVi h)
   go_wp2
   go_ret
   exact ⟨jI HT.out.symm,EF⟩
 obtain ⟨k,hk,hi⟩:=kVd h
 have HT:=yD (kSl hk hi)
 rw [hi] at h ⊢
 clear hi
 obtain ⟨ba,offa,rfl,c0,c1,c2,hr,A0,A1,A2⟩:=Rep.zT (HL.out.below EF) hk rfl
 obtain ⟨v0,he,_⟩:=jf hr
 simp only [List.cons.injEq,and_true] at he
 obtain ⟨rfl,rfl,rfl⟩:=he
 clear hr
 generalize l[k]=y at *
 have hk2:=Int.ofNat_lt.2 hk
 go_wp2
 go_ret
 exact ⟨jI HT.out.symm,EF⟩
theorem kNv {w:World} {vl:Value} {l:List kv} (hl:(Rep.slice 166 kG).raw w [vl] l) {cn:List Value} {n:ky} (hn:kZ.raw w cn n) {f:Int} :
    Calls Tryz.prog 207 #[vl,.agg cn.toArray,.int .i64 f] w fun e w'=>e=.returned (.int .i64 (yT l n f))∧Below w.heap.size w w':=by
 have HN:=yD hn
 have HL:=yD hl
 obtain ⟨av,rfl,_⟩:=kR hn
 obtain ⟨aa,capa,rfl,la⟩:=Rep.sl hl
 clear hn hl
 go_enter Tryz.func207,Tryz.ntmps207
 go_wp2_with fail
 refine (kNp (HL.out.below bD) (HN.out.below bD)).mono ?_
 rintro e w1 ⟨rfl,hb1⟩
 have EF:Below w.heap.size w w1:=Below.trans bD (hb1.mono rM)
 clear hb1
 by_cases h:idxOf (kBm n f) l < 0
 · have HT:=yD (kVi h)
   go_wp2
   go_ret
   exact ⟨jI HT.out.symm,EF⟩
 obtain ⟨k,hk,hi⟩:=kVd h
 have HT:=yD (kSl hk hi)
 rw [hi] at h ⊢
 clear hi
 obtain ⟨ba,offa,rfl,c0,c1,c2,hr,A0,A1,A2⟩:=Rep.zT (HL.out.below EF) hk rfl
 obtain ⟨v0,he,_⟩:=jf hr
 simp only [List.cons.injEq,and_true] at he
 obtain ⟨rfl,rfl,rfl⟩:=he
 clear hr
 generalize l[k]=y at *
 have hk2:=Int.ofNat_lt.2 hk
 go_wp2
 go_ret
 exact ⟨jI HT.out.symm,EF⟩
end Go.Proofs.YtomdenfcfbkfbaaGreat

/-
  The stable sort: the merge in place.
-/
import Derived.Test.YtomdenfcfbkfbaaGreatBase
import Derived.Test.YtomdenfcfbkfbaaGreatSortP
import Derived.IntWalk
import Derived.Deep.CutRange
import Derived.WalkSpells
import Derived.WalkLawsBesides
namespace Go.Proofs.YtomdenfcfbkfbaaGreat
open Go.RowKit
set_option linter.unusedVariables false
set_option linter.unusedSimpArgs false
set_option linter.unnecessarySimpa false
set_option maxRecDepth 100000 in
set_option maxHeartbeats 8000000 in
theorem symmA_int_c {b n cap:Nat} {S:Nat→Prop} {g:FuncId} {cp:Array Value} (key:Int→Int) (hg:Callable Tryz.prog g) (f:Nat) {w:World} {a m z:Nat} {xs:List Int} (hcl:Cmp_int key g cp S w) (h:Rep.own0 3 Rep.int w (.slice (some ⟨b,0,none⟩) n cap) xs S) (hn:n=xs.length) (hlen:xs.length≤16777216) (ham:a < m) (hmz:m < z) (hz:z≤xs.length) (hf:z - a≤f + 1) (c1:m - a=1) :
    Calls Tryz.prog 237 #[.slice (some ⟨b,0,none⟩) n cap,.int .i64 (a:Nat),.int .i64 (m:Nat),.int .i64 (z:Nat),.func (.func g) #[] cp] w fun e w'=>e=.returned (.tuple #[])∧Rep.own0 3 Rep.int w' (.slice (some ⟨b,0,none⟩) n cap) (Srt.symm key (f + 1) a m z xs) S∧Touch S w w':=by
 have HCL:=hD hcl
 unfold Callable at hg
 have HO:=hD h
 have HN0:=hD hn
 have HT0:Hid (Touch S w w):=hD (Touch.refl _ _)
 clear h hcl
 have hzB:z≤16777216:=by omega
 have hzn:z≤n:=by omega
 have hnB:n≤16777216:=by omega
 have HZL:=hD hz
 clear hlen hz hn
 have ha0:=Int.natCast_nonneg a
 have haM:(a:Int) < m:=by omega
 have hMZ:(m:Int) < z:=by omega
 have hZB:(z:Int)≤16777216:=by omega
 have hZN:(z:Int)≤n:=by omega
 have hq1:(m:Int) - (a:Int)=((m - a:Nat):Int):=by omega
 have hq2:(z:Int) - (m:Int)=((z - m:Nat):Int):=by omega
 go_enter Tryz.func237,Tryz.ntmps237
 have HF:=hD (symm_A (key:=key) (f:=f) (z:=z) (xs:=xs) c1)
 have hb1:(m:Int) - (a:Int)=1:=by omega
 clear hq1 hq2
 go_wp2
 go_loopw [10,11] (fun i j wr=>∃ (p q:Nat),i=.int .i64 p∧j=.int .i64 q∧m≤p∧p≤q∧q≤z∧Hid (Srt.bs (fun h=>decide (Srt.kAt key xs h < Srt.kAt key xs a)) p q=Srt.bs (fun h=>decide (Srt.kAt key xs h < Srt.kAt key xs a)) m z)∧Hid (Rep.own0 3 Rep.int wr (.slice (some ⟨b,0,none⟩) n cap) xs S)∧Hid (Touch S w wr)) (fun i j _=>(intOf j).toNat - (intOf i).toNat)
 case atStart=>exact ⟨m,z,rfl,rfl,Nat.le_refl _,by omega,Nat.le_refl _,hD rfl,HO,HT0⟩
 obtain ⟨p,q,rfl,rfl,hmp,hpq,hqz,HB,HO2,HT2⟩:=hrel
 have hp0:=Int.natCast_nonneg p
 have hqZ:(q:Int)≤z:=by omega
 by_cases hlt:p < q
 · have hltI:(p:Int) < q:=by omega
   obtain ⟨h,hh⟩:∃ h,(p + q) / 2=h:=⟨_,rfl⟩
   have hhI:((p:Int) + (q:Int)) / 2=(h:Int):=by omega
   have hph:p≤h:=by omega
   have hhq:h < q:=by omega
   have hh0:=Int.natCast_nonneg h
   have HY:=hD (fun e=>(bs_yes (p:=(fun h=>decide (Srt.kAt key xs h < Srt.kAt key xs a))) hlt hh e).symm.trans HB.out)
   have HNO:=hD (fun e=>(bs_no (p:=(fun h=>decide (Srt.kAt key xs h < Srt.kAt key xs a))) hlt hh e).symm.trans HB.out)
   have hl:h < xs.length:=by have:=HZL.out;omega
   have al:a < xs.length:=by have:=HZL.out;omega
   have hhN:(h:Int) < n:=by omega
   have haN:(a:Int) < n:=by omega
   have HK:Hid ((fun h=>decide (Srt.kAt key xs h < Srt.kAt key xs a)) h=decide (key (xs[h]'hl) < key (xs[a]'al))):=hD (by rw [← Srt.kAt_get (key:=key) hl,← Srt.kAt_get (key:=key) al])
   obtain ⟨pc0,pr,pA0⟩:=Rep.at1 HO2.out.raw0 hl rfl
   obtain ⟨phe,prg⟩:=Rep.int_raw pr
   obtain rfl:pc0=_:=by simpa using phe
   clear phe prg
   obtain ⟨qc0,qr,qA0⟩:=Rep.at1 HO2.out.raw0 al rfl
   obtain ⟨qhe,qrg⟩:=Rep.int_raw qr
   obtain rfl:qc0=_:=by simpa using qhe
   clear qhe qrg
   generalize xs[h]=x at *
   generalize xs[a]=y at *
   go_upto_region 5 with fail
   refine wp_region_soft (fun W=>Below wr.heap.size wr W) [true,true,true,true,true,true,true,true,true,false,true] (by kernel_rfl) (by kernel_rfl) (fun c a d v w h=>by cases d <;> exact h) ((Below.refl _ _).drew) ?_
   intro wS HS
   iterate 4
    all_goals first|(refine kC rfl HS ?_)|(refine kD (v:=?_) rfl (fun W hW=>?_) ?_;rotate_left;(· go_simp;try with_reducible rfl))
    all_goals try simp only [Act.put,zA,zB,zC]
   all_goals first|(refine kC rfl HS ?_)|(refine kD (v:=?_) rfl (fun W hW=>?_) ?_;rotate_left;(· have A_pA0:=cL hW pA0;have A_qA0:=cL hW qA0;clear hW;go_simp;try with_reducible rfl))
   iterate 3
    all_goals try simp only [Act.put,zA,zB,zC]
    all_goals first|(refine kC rfl HS ?_)|(refine kD (v:=?_) rfl (fun W hW=>?_) ?_;rotate_left;(· go_simp;try with_reducible rfl))
   all_goals try simp only [Act.put,zA,zB,zC]
   all_goals first|(refine kC rfl HS ?_)|(refine kD (v:=?_) rfl (fun W hW=>?_) ?_;rotate_left;(· have A_pA0:=cL hW pA0;have A_qA0:=cL hW qA0;clear hW;go_simp;try with_reducible rfl))
   all_goals try simp only [Act.put,zA,zB,zC]
   all_goals first|(refine kC rfl HS ?_)|(refine kF rfl (fun K hK=>?_);go_simp;refine (HCL.out _ (HT2.out.trans (Touch.of_below HS)) _ _ _ _ (Rep.raw.below pr HS) (Rep.raw.below qr HS)).mono ?_;rintro e wS1 ⟨kk,rfl,hkk,hbS⟩;replace HS:=HS.trans (hbS.mono HS.size);refine hK _ _ HS ?_;clear hK K hbS)
   all_goals try simp only [Act.put,zA,zB,zC]
   all_goals first|(refine kC rfl HS ?_;have hg10:=True.intro)|(refine kE (v:=?_) (b:=?_) rfl (fun W hW=>?_) ?_ (fun b hg10=>?_);rotate_left;rotate_left;(· go_simp;try with_reducible rfl);(· with_reducible rfl);cases b;all_goals first|(exact Bool.noConfusion hg10)|(simp only [Bool.not_eq_true',Bool.not_eq_false'] at hg10) | skip)
   all_goals try simp only [Act.put,zA,zB,zC]
   all_goals refine soft_nil ?_
   all_goals have HTX:=hD (HT2.out.trans (Touch.of_below HS))
   all_goals have HOX:=hD (HO2.out.below HS)
   all_goals first
     | (have HV:=hD (show _=true from HK.out.trans (by first | exact hg10 | simpa using hg10));have HB2:=hD (HY.out HV.out);clear HY HNO HK HV hkk hg10;go_wp2;go_roundw;(case rel=>exact ⟨h + 1,q,by go_num,rfl,by omega,by omega,by omega,HB2,HOX,HTX⟩);(case measure=>simp [intOf];omega))
     | (have HV:=hD (show _=false from HK.out.trans (by first | exact hg10 | simpa using hg10));have HB2:=hD (HNO.out HV.out);clear HY HNO HK HV hkk hg10;go_wp2;go_roundw;(case rel=>exact ⟨p,h,rfl,rfl,by omega,by omega,by omega,HB2,HOX,HTX⟩);(case measure=>simp [intOf];omega))
 obtain rfl:q=p:=by omega
 have hpN:¬ (q:Int) < q:=by omega
 have HE:=hD ((bs_end (p:=(fun h=>decide (Srt.kAt key xs h < Srt.kAt key xs a))) (i:=q) (j:=q) (by omega)).symm.trans HB.out)
 obtain ⟨t,ht⟩:∃ t,q - 1=t:=⟨_,rfl⟩
 have htI:(q:Int) - 1=(t:Int):=by omega
 have hta:a≤t:=by omega
 have hwt:IntKind.i64.wrap (t:Int)=t:=IntWalk.i64_in _ (by omega)
 have htz:t + 1≤z:=by omega
 have htN:(t:Int) < n:=by omega
 have HFU:Hid (Srt.symm key (f + 1) a m z xs=Srt.up (t - a) a xs):=hD (by rw [HF.out,← HE.out,ht])
 go_wp2
 go_loopw [13] (fun i wr=>∃ (k:Nat) (cu:List Int),i=.int .i64 k∧a≤k∧k≤t∧Hid (Srt.up (t - k) k cu=Srt.up (t - a) a xs)∧Hid (cu.length=n)∧Hid (Rep.own0 3 Rep.int wr (.slice (some ⟨b,0,none⟩) n cap) cu S)∧Hid (Touch S w wr)) (fun i _=>t - (intOf i).toNat)
 case atStart=>exact ⟨a,xs,rfl,Nat.le_refl _,hta,hD rfl,hD HN0.out.symm,HO2,HT2⟩
 obtain ⟨k,cu,rfl,hak,hkt,HG,HL,HO3,HT3⟩:=hrel
 have hk0:=Int.natCast_nonneg k
 by_cases hlt:k < t
 · have hltI:(k:Int) < t:=by omega
   have HSW:=hD ((up_next (cu:=cu) hlt).symm.trans HG.out)
   obtain ⟨j,hj⟩:∃ j,k + 1=j:=⟨_,rfl⟩
   rw [hj] at HSW
   have hjI:(k:Int) + 1=(j:Int):=by omega
   have hwj:IntKind.i64.wrap (j:Int)=j:=IntWalk.i64_in _ (by omega)
   have hj0:=Int.natCast_nonneg j
   have hjl:j < cu.length:=by have:=HL.out;omega
   have hkl:k < cu.length:=by omega
   have hjN:(j:Int) < n:=by omega
   have hkN:(k:Int) < n:=by omega
   obtain ⟨pc0,pr,pA0⟩:=Rep.at1 HO3.out.raw0 hkl rfl
   obtain ⟨phe,prg⟩:=Rep.int_raw pr
   obtain rfl:pc0=_:=by simpa using phe
   clear phe prg
   obtain ⟨qc0,qr,qA0⟩:=Rep.at1 HO3.out.raw0 hjl rfl
   obtain ⟨qhe,qrg⟩:=Rep.int_raw qr
   obtain rfl:qc0=_:=by simpa using qhe
   clear qhe qrg
   generalize cu[k]=x at *
   generalize cu[j]=y at *
   go_upto_region 11 with fail
   refine wp_region_skip_tail (fun W=>Below wr.heap.size wr W) [2,3,4] [(0,true),(1,true),(5,true),(6,true),(7,true),(8,true),(9,true),(10,true),(11,true),(12,true),(13,true),(14,true)] (by kernel_rfl) (by kernel_rfl) (fun c a d v w h=>by cases d <;> exact h) ((Below.refl _ _).drew) ?_
   intro wS HS
   simp only [pickOps,pickNat,List.length_cons,List.length_nil,List.getElem?_cons_succ,List.getElem?_cons_zero,List.map_cons,List.map_nil,List.cons_append,List.nil_append,List.drop_succ_cons,List.drop_zero,Nat.reduceAdd,Nat.zero_add]
   iterate 3
    refine pre_read (v:=?_) rfl (fun W=>?_) ?_;rotate_left;(· go_simp;try with_reducible rfl)
    try simp only [Act.put,zA,zB,zC]
   refine pre_nil ?_
   iterate 6
    refine kD (v:=?_) rfl (fun W hW=>?_) ?_;rotate_left;(· go_simp;try with_reducible rfl)
    try simp only [Act.put,zA,zB,zC]
   refine kD (v:=?_) rfl (fun W hW=>?_) ?_;rotate_left;(· have A_pA0:=cL hW pA0;have A_qA0:=cL hW qA0;clear hW;go_simp;try with_reducible rfl)
   iterate 3
    try simp only [Act.put,zA,zB,zC]
    refine kD (v:=?_) rfl (fun W hW=>?_) ?_;rotate_left;(· go_simp;try with_reducible rfl)
   try simp only [Act.put,zA,zB,zC]
   refine kD (v:=?_) rfl (fun W hW=>?_) ?_;rotate_left;(· have A_pA0:=cL hW pA0;have A_qA0:=cL hW qA0;clear hW;go_simp;try with_reducible rfl)
   try simp only [Act.put,zA,zB,zC]
   refine kD (v:=?_) rfl (fun W hW=>?_) ?_;rotate_left;(· go_simp;try with_reducible rfl)
   try simp only [Act.put,zA,zB,zC]
   refine soft_rest ?_
   have HTX:=hD (HT3.out.trans (Touch.of_below HS))
   replace HO3:=hD (HO3.out.below HS)
   replace pA0:=cL HS pA0
   replace qA0:=cL HS qA0
   have BK:=Rep.own0_block HO3.out hkl
   have EQi:k * Rep.int.n=k:=Nat.mul_one _
   have EQj:j * Rep.int.n=j:=Nat.mul_one _
   have THi:wS.there b (k) 1:=by have q:=Rep.own0_there HO3.out hkl;rw [EQi] at q;exact q
   have THj:wS.there b (j) 1:=by have q:=Rep.own0_there HO3.out hjl;rw [EQj] at q;exact q
   have hci:∀ q u,([.int .i64 x]:List Value)[q]?=some u→wS.cell? ⟨b,k * Rep.int.n + q,none⟩=some u:=by rw [EQi];exact Rep.cells1 pA0
   have hcj:∀ q u,([.int .i64 y]:List Value)[q]?=some u→wS.cell? ⟨b,j * Rep.int.n + q,none⟩=some u:=by rw [EQj];exact Rep.cells1 qA0
   obtain ⟨s1,s2⟩:=Rep.own0_swap (ci:=[.int .i64 x]) (cj:=[.int .i64 y]) HO3.out hkl hjl (by omega) rfl rfl hci hcj (pi:=k) (pj:=j) EQi.symm EQj.symm
   have HO6:=hD s1;have HT6:=hD s2;clear s1 s2 hci hcj EQi EQj
   have hsz:(Tryz.prog.info? 3).map (·.size)=some 1:=by simpa using congrArg (fun o=>o.map (fun z=>z.2.1)) infInt
   have honei:∀ c∈([.int .i64 x]:List Value),c.oneCell'=true:=by intro c hc;simp only [List.mem_cons,List.not_mem_nil,or_false] at hc;rcases hc with rfl <;> rfl
   have honej:∀ c∈([.int .i64 y]:List Value),c.oneCell'=true:=by intro c hc;simp only [List.mem_cons,List.not_mem_nil,or_false] at hc;rcases hc with rfl <;> rfl
   refine wpList_storeV rfl 3 _ _ rfl b (k) (.int .i64 y) [.int .i64 y] rfl (by rfl) (by rfl) THi hsz honej ?_
   intro w5 hw5
   have THj5:w5.there b (j) 1:=by rw [hw5];exact Rep.there_set THj
   have HW5:=hD hw5;clear hw5
   go_wp2_with (refine wpList_storeV rfl 3 _ _ rfl b (j) (.int .i64 x) [.int .i64 x] rfl (by rfl) (by rfl) THj5 hsz honei ?_)
   rw [← HW5.out] at HO6 HT6
   generalize hw6:Rep.setCells w5 b (j) [.int .i64 x]=w6 at *
   clear HW5 hw6 THi THj THj5 hsz honei honej
   have HT7:=hD (HTX.out.trans (touch_one HT6.out BK.1))
   have HL7:Hid ((Srt.sw cu k j).length=n):=hD (by rw [Srt.sw_length];exact HL.out)
   go_roundw
   case rel=>exact ⟨j,Srt.sw cu k j,rfl,by omega,by omega,HSW,HL7,HO6,HT7⟩
   simp [intOf];omega
 obtain rfl:k=t:=by omega
 have HE2:=hD (HFU.out.trans ((HG.out).symm.trans (up_end (cu:=cu) (by omega:¬ k < k))))
 have hkN2:¬ (k:Int) < k:=by omega
 go_wp2
 first | go_end0|((try simp only [Exit.inBlock,Exit.then]);refine bodyPost_ret (results_none rfl _ _ _) rfl ?_)
 exact ⟨rfl,HO3.out.cast HE2.out.symm,HT3.out⟩
set_option maxRecDepth 100000 in
set_option maxHeartbeats 8000000 in
theorem symmB_int_c {b n cap:Nat} {S:Nat→Prop} {g:FuncId} {cp:Array Value} (key:Int→Int) (hg:Callable Tryz.prog g) (f:Nat) {w:World} {a m z:Nat} {xs:List Int} (hcl:Cmp_int key g cp S w) (h:Rep.own0 3 Rep.int w (.slice (some ⟨b,0,none⟩) n cap) xs S) (hn:n=xs.length) (hlen:xs.length≤16777216) (ham:a < m) (hmz:m < z) (hz:z≤xs.length) (hf:z - a≤f + 1) (c1:¬ m - a=1) (c2:z - m=1) :
    Calls Tryz.prog 237 #[.slice (some ⟨b,0,none⟩) n cap,.int .i64 (a:Nat),.int .i64 (m:Nat),.int .i64 (z:Nat),.func (.func g) #[] cp] w fun e w'=>e=.returned (.tuple #[])∧Rep.own0 3 Rep.int w' (.slice (some ⟨b,0,none⟩) n cap) (Srt.symm key (f + 1) a m z xs) S∧Touch S w w':=by
 have HCL:=hD hcl
 unfold Callable at hg
 have HO:=hD h
 have HN0:=hD hn
 have HT0:Hid (Touch S w w):=hD (Touch.refl _ _)
 clear h hcl
 have hzB:z≤16777216:=by omega
 have hzn:z≤n:=by omega
 have hnB:n≤16777216:=by omega
 have HZL:=hD hz
 clear hlen hz hn
 have ha0:=Int.natCast_nonneg a
 have haM:(a:Int) < m:=by omega
 have hMZ:(m:Int) < z:=by omega
 have hZB:(z:Int)≤16777216:=by omega
 have hZN:(z:Int)≤n:=by omega
 have hq1:(m:Int) - (a:Int)=((m - a:Nat):Int):=by omega
 have hq2:(z:Int) - (m:Int)=((z - m:Nat):Int):=by omega
 go_enter Tryz.func237,Tryz.ntmps237
 have HF:=hD (symm_B (key:=key) (f:=f) (xs:=xs) c1 c2)
 have hb1:(z:Int) - (m:Int)=1:=by omega
 have hb2:¬ (m:Int) - (a:Int)=1:=by omega
 have hb3:(((m - a:Nat):Int)==1)=false:=by simp;omega
 obtain ⟨ma,hma⟩:∃ ma,m - a=ma:=⟨_,rfl⟩
 rw [hma] at hq1 hb3
 have hwma:IntKind.i64.wrap (ma:Int)=ma:=IntWalk.i64_in _ (by omega)
 clear hq2
 go_wp2
 go_loopw [14,15] (fun i j wr=>∃ (p q:Nat),i=.int .i64 p∧j=.int .i64 q∧a≤p∧p≤q∧q≤m∧Hid (Srt.bs (fun h=>!decide (Srt.kAt key xs m < Srt.kAt key xs h)) p q=Srt.bs (fun h=>!decide (Srt.kAt key xs m < Srt.kAt key xs h)) a m)∧Hid (Rep.own0 3 Rep.int wr (.slice (some ⟨b,0,none⟩) n cap) xs S)∧Hid (Touch S w wr)) (fun i j _=>(intOf j).toNat - (intOf i).toNat)
 case atStart=>exact ⟨a,m,rfl,rfl,Nat.le_refl _,by omega,Nat.le_refl _,hD rfl,HO,HT0⟩
 obtain ⟨p,q,rfl,rfl,hmp,hpq,hqz,HB,HO2,HT2⟩:=hrel
 have hp0:=Int.natCast_nonneg p
 have hqZ:(q:Int)≤m:=by omega
 by_cases hlt:p < q
 · have hltI:(p:Int) < q:=by omega
   obtain ⟨h,hh⟩:∃ h,(p + q) / 2=h:=⟨_,rfl⟩
   have hhI:((p:Int) + (q:Int)) / 2=(h:Int):=by omega
   have hph:p≤h:=by omega
   have hhq:h < q:=by omega
   have hh0:=Int.natCast_nonneg h
   have HY:=hD (fun e=>(bs_yes (p:=(fun h=>!decide (Srt.kAt key xs m < Srt.kAt key xs h))) hlt hh e).symm.trans HB.out)
   have HNO:=hD (fun e=>(bs_no (p:=(fun h=>!decide (Srt.kAt key xs m < Srt.kAt key xs h))) hlt hh e).symm.trans HB.out)
   have hl:h < xs.length:=by have:=HZL.out;omega
   have ml:m < xs.length:=by have:=HZL.out;omega
   have hhN:(h:Int) < n:=by omega
   have hmN:(m:Int) < n:=by omega
   have HK:Hid ((fun h=>!decide (Srt.kAt key xs m < Srt.kAt key xs h)) h=!decide (key (xs[m]'ml) < key (xs[h]'hl))):=hD (by rw [← Srt.kAt_get (key:=key) ml,← Srt.kAt_get (key:=key) hl])
   obtain ⟨pc0,pr,pA0⟩:=Rep.at1 HO2.out.raw0 ml rfl
   obtain ⟨phe,prg⟩:=Rep.int_raw pr
   obtain rfl:pc0=_:=by simpa using phe
   clear phe prg
   obtain ⟨qc0,qr,qA0⟩:=Rep.at1 HO2.out.raw0 hl rfl
   obtain ⟨qhe,qrg⟩:=Rep.int_raw qr
   obtain rfl:qc0=_:=by simpa using qhe
   clear qhe qrg
   generalize xs[m]=x at *
   generalize xs[h]=y at *
   go_upto_region 17 with fail
   refine wp_region_soft (fun W=>Below wr.heap.size wr W) [true,true,true,true,true,true,true,true,true,false,true,true] (by kernel_rfl) (by kernel_rfl) (fun c a d v w h=>by cases d <;> exact h) ((Below.refl _ _).drew) ?_
   intro wS HS
   iterate 4
    all_goals first|(refine kC rfl HS ?_)|(refine kD (v:=?_) rfl (fun W hW=>?_) ?_;rotate_left;(· go_simp;try with_reducible rfl))
    all_goals try simp only [Act.put,zA,zB,zC]
   all_goals first|(refine kC rfl HS ?_)|(refine kD (v:=?_) rfl (fun W hW=>?_) ?_;rotate_left;(· have A_pA0:=cL hW pA0;have A_qA0:=cL hW qA0;clear hW;go_simp;try with_reducible rfl))
   iterate 3
    all_goals try simp only [Act.put,zA,zB,zC]
    all_goals first|(refine kC rfl HS ?_)|(refine kD (v:=?_) rfl (fun W hW=>?_) ?_;rotate_left;(· go_simp;try with_reducible rfl))
   all_goals try simp only [Act.put,zA,zB,zC]
   all_goals first|(refine kC rfl HS ?_)|(refine kD (v:=?_) rfl (fun W hW=>?_) ?_;rotate_left;(· have A_pA0:=cL hW pA0;have A_qA0:=cL hW qA0;clear hW;go_simp;try with_reducible rfl))
   all_goals try simp only [Act.put,zA,zB,zC]
   all_goals first|(refine kC rfl HS ?_)|(refine kF rfl (fun K hK=>?_);go_simp;refine (HCL.out _ (HT2.out.trans (Touch.of_below HS)) _ _ _ _ (Rep.raw.below pr HS) (Rep.raw.below qr HS)).mono ?_;rintro e wS1 ⟨kk,rfl,hkk,hbS⟩;replace HS:=HS.trans (hbS.mono HS.size);refine hK _ _ HS ?_;clear hK K hbS)
   all_goals try simp only [Act.put,zA,zB,zC]
   all_goals first|(refine kC rfl HS ?_)|(refine kD (v:=?_) rfl (fun W hW=>?_) ?_;rotate_left;(· go_simp;try with_reducible rfl))
   all_goals try simp only [Act.put,zA,zB,zC]
   all_goals first|(refine kC rfl HS ?_;have hg11:=True.intro)|(refine kE (v:=?_) (b:=?_) rfl (fun W hW=>?_) ?_ (fun b hg11=>?_);rotate_left;rotate_left;(· go_simp;try with_reducible rfl);(· with_reducible rfl);cases b;all_goals first|(exact Bool.noConfusion hg11)|(simp only [Bool.not_eq_true',Bool.not_eq_false'] at hg11) | skip)
   all_goals try simp only [Act.put,zA,zB,zC]
   all_goals refine soft_nil ?_
   all_goals have HTX:=hD (HT2.out.trans (Touch.of_below HS))
   all_goals have HOX:=hD (HO2.out.below HS)
   all_goals first
     | (have HV:=hD (show _=true from HK.out.trans (by first | exact hg11 | simpa using hg11));have HB2:=hD (HY.out HV.out);clear HY HNO HK HV hkk hg11;go_wp2;go_roundw;(case rel=>exact ⟨h + 1,q,by go_num,rfl,by omega,by omega,by omega,HB2,HOX,HTX⟩);(case measure=>simp [intOf];omega))
     | (have HV:=hD (show _=false from HK.out.trans (by first | exact hg11 | simpa using hg11));have HB2:=hD (HNO.out HV.out);clear HY HNO HK HV hkk hg11;go_wp2;go_roundw;(case rel=>exact ⟨p,h,rfl,rfl,by omega,by omega,by omega,HB2,HOX,HTX⟩);(case measure=>simp [intOf];omega))
 obtain rfl:q=p:=by omega
 have hpN:¬ (q:Int) < q:=by omega
 have HE:=hD ((bs_end (p:=(fun h=>!decide (Srt.kAt key xs m < Srt.kAt key xs h))) (i:=q) (j:=q) (by omega)).symm.trans HB.out)
 have HFU:Hid (Srt.symm key (f + 1) a m z xs=Srt.down q m xs):=hD (by rw [HF.out,← HE.out])
 go_wp2
 go_loopw [17] (fun i wr=>∃ (k:Nat) (cu:List Int),i=.int .i64 k∧q≤k∧k≤m∧Hid (Srt.down q k cu=Srt.down q m xs)∧Hid (cu.length=n)∧Hid (Rep.own0 3 Rep.int wr (.slice (some ⟨b,0,none⟩) n cap) cu S)∧Hid (Touch S w wr)) (fun i _=>(intOf i).toNat)
 case atStart=>exact ⟨m,xs,rfl,by omega,Nat.le_refl _,hD rfl,hD HN0.out.symm,HO2,HT2⟩
 obtain ⟨k,cu,rfl,hak,hkt,HG,HL,HO3,HT3⟩:=hrel
 have hk0:=Int.natCast_nonneg k
 by_cases hlt:q < k
 · have hltI:(q:Int) < k:=by omega
   have hltD:decide ((k:Int) > q)=true:=by simp;omega
   obtain ⟨j,hj⟩:∃ j,j + 1=k:=⟨k - 1,by omega⟩
   have HSW:=hD ((down_next (cu:=cu) hj hlt).symm.trans HG.out)
   have hjI:(k:Int) - 1=(j:Int):=by omega
   have hwj:IntKind.i64.wrap (j:Int)=j:=IntWalk.i64_in _ (by omega)
   have hj0:=Int.natCast_nonneg j
   have hkl:k < cu.length:=by have:=HL.out;omega
   have hjl:j < cu.length:=by omega
   have hjN:(j:Int) < n:=by omega
   have hkN:(k:Int) < n:=by omega
   obtain ⟨pc0,pr,pA0⟩:=Rep.at1 HO3.out.raw0 hkl rfl
   obtain ⟨phe,prg⟩:=Rep.int_raw pr
   obtain rfl:pc0=_:=by simpa using phe
   clear phe prg
   obtain ⟨qc0,qr,qA0⟩:=Rep.at1 HO3.out.raw0 hjl rfl
   obtain ⟨qhe,qrg⟩:=Rep.int_raw qr
   obtain rfl:qc0=_:=by simpa using qhe
   clear qhe qrg
   generalize cu[k]=x at *
   generalize cu[j]=y at *
   go_upto_region 23 with fail
   refine wp_region_skip_tail (fun W=>Below wr.heap.size wr W) [2,3,4] [(0,true),(1,true),(5,true),(6,true),(7,true),(8,true),(9,true),(10,true),(11,true),(12,true),(13,true),(14,true)] (by kernel_rfl) (by kernel_rfl) (fun c a d v w h=>by cases d <;> exact h) ((Below.refl _ _).drew) ?_
   intro wS HS
   simp only [pickOps,pickNat,List.length_cons,List.length_nil,List.getElem?_cons_succ,List.getElem?_cons_zero,List.map_cons,List.map_nil,List.cons_append,List.nil_append,List.drop_succ_cons,List.drop_zero,Nat.reduceAdd,Nat.zero_add]
   iterate 3
    refine pre_read (v:=?_) rfl (fun W=>?_) ?_;rotate_left;(· go_simp;try with_reducible rfl)
    try simp only [Act.put,zA,zB,zC]
   refine pre_nil ?_
   iterate 6
    refine kD (v:=?_) rfl (fun W hW=>?_) ?_;rotate_left;(· go_simp;try with_reducible rfl)
    try simp only [Act.put,zA,zB,zC]
   refine kD (v:=?_) rfl (fun W hW=>?_) ?_;rotate_left;(· have A_pA0:=cL hW pA0;have A_qA0:=cL hW qA0;clear hW;go_simp;try with_reducible rfl)
   iterate 3
    try simp only [Act.put,zA,zB,zC]
    refine kD (v:=?_) rfl (fun W hW=>?_) ?_;rotate_left;(· go_simp;try with_reducible rfl)
   try simp only [Act.put,zA,zB,zC]
   refine kD (v:=?_) rfl (fun W hW=>?_) ?_;rotate_left;(· have A_pA0:=cL hW pA0;have A_qA0:=cL hW qA0;clear hW;go_simp;try with_reducible rfl)
   try simp only [Act.put,zA,zB,zC]
   refine kD (v:=?_) rfl (fun W hW=>?_) ?_;rotate_left;(· go_simp;try with_reducible rfl)
   try simp only [Act.put,zA,zB,zC]
   refine soft_rest ?_
   have HTX:=hD (HT3.out.trans (Touch.of_below HS))
   replace HO3:=hD (HO3.out.below HS)
   replace pA0:=cL HS pA0
   replace qA0:=cL HS qA0
   have BK:=Rep.own0_block HO3.out hkl
   have EQi:k * Rep.int.n=k:=Nat.mul_one _
   have EQj:j * Rep.int.n=j:=Nat.mul_one _
   have THi:wS.there b (k) 1:=by have q:=Rep.own0_there HO3.out hkl;rw [EQi] at q;exact q
   have THj:wS.there b (j) 1:=by have q:=Rep.own0_there HO3.out hjl;rw [EQj] at q;exact q
   have hci:∀ q u,([.int .i64 x]:List Value)[q]?=some u→wS.cell? ⟨b,k * Rep.int.n + q,none⟩=some u:=by rw [EQi];exact Rep.cells1 pA0
   have hcj:∀ q u,([.int .i64 y]:List Value)[q]?=some u→wS.cell? ⟨b,j * Rep.int.n + q,none⟩=some u:=by rw [EQj];exact Rep.cells1 qA0
   obtain ⟨s1,s2⟩:=Rep.own0_swap (ci:=[.int .i64 x]) (cj:=[.int .i64 y]) HO3.out hkl hjl (by omega) rfl rfl hci hcj (pi:=k) (pj:=j) EQi.symm EQj.symm
   have HO6:=hD s1;have HT6:=hD s2;clear s1 s2 hci hcj EQi EQj
   have hsz:(Tryz.prog.info? 3).map (·.size)=some 1:=by simpa using congrArg (fun o=>o.map (fun z=>z.2.1)) infInt
   have honei:∀ c∈([.int .i64 x]:List Value),c.oneCell'=true:=by intro c hc;simp only [List.mem_cons,List.not_mem_nil,or_false] at hc;rcases hc with rfl <;> rfl
   have honej:∀ c∈([.int .i64 y]:List Value),c.oneCell'=true:=by intro c hc;simp only [List.mem_cons,List.not_mem_nil,or_false] at hc;rcases hc with rfl <;> rfl
   refine wpList_storeV rfl 3 _ _ rfl b (k) (.int .i64 y) [.int .i64 y] rfl (by rfl) (by rfl) THi hsz honej ?_
   intro w5 hw5
   have THj5:w5.there b (j) 1:=by rw [hw5];exact Rep.there_set THj
   have HW5:=hD hw5;clear hw5
   go_wp2_with (refine wpList_storeV rfl 3 _ _ rfl b (j) (.int .i64 x) [.int .i64 x] rfl (by rfl) (by rfl) THj5 hsz honei ?_)
   rw [← HW5.out] at HO6 HT6
   generalize hw6:Rep.setCells w5 b (j) [.int .i64 x]=w6 at *
   clear HW5 hw6 THi THj THj5 hsz honei honej
   have HT7:=hD (HTX.out.trans (touch_one HT6.out BK.1))
   have HL7:Hid ((Srt.sw cu k j).length=n):=hD (by rw [Srt.sw_length];exact HL.out)
   go_roundw
   case rel=>exact ⟨j,Srt.sw cu k j,rfl,by omega,by omega,HSW,HL7,HO6,HT7⟩
   simp [intOf];omega
 have HE2:=hD (HFU.out.trans ((HG.out).symm.trans (down_end (cu:=cu) hlt)))
 have hkN2:¬ (q:Int) < k:=by omega
 have hkD:decide ((k:Int) > q)=false:=by simp;omega
 go_wp2
 first | go_end0|((try simp only [Exit.inBlock,Exit.then]);refine bodyPost_ret (results_none rfl _ _ _) rfl ?_)
 exact ⟨rfl,HO3.out.cast HE2.out.symm,HT3.out⟩
set_option maxRecDepth 100000 in
set_option maxHeartbeats 8000000 in
theorem symmC_int_c {b n cap:Nat} {S:Nat→Prop} {g:FuncId} {cp:Array Value} (key:Int→Int) (hg:Callable Tryz.prog g) (f:Nat) (ih:(∀ {w:World} {a m z:Nat} {xs:List Int} (hcl:Cmp_int key g cp S w) (h:Rep.own0 3 Rep.int w (.slice (some ⟨b,0,none⟩) n cap) xs S) (hn:n=xs.length) (hlen:xs.length≤16777216) (ham:a < m) (hmz:m < z) (hz:z≤xs.length) (hf:z - a≤f),Calls Tryz.prog 237 #[.slice (some ⟨b,0,none⟩) n cap,.int .i64 (a:Nat),.int .i64 (m:Nat),.int .i64 (z:Nat),.func (.func g) #[] cp] w fun e w'=>e=.returned (.tuple #[])∧Rep.own0 3 Rep.int w' (.slice (some ⟨b,0,none⟩) n cap) (Srt.symm key f a m z xs) S∧Touch S w w')) {w:World} {a m z:Nat} {xs:List Int} (hcl:Cmp_int key g cp S w) (h:Rep.own0 3 Rep.int w (.slice (some ⟨b,0,none⟩) n cap) xs S) (hn:n=xs.length) (hlen:xs.length≤16777216) (ham:a < m) (hmz:m < z) (hz:z≤xs.length) (hf:z - a≤f + 1) (c1:¬ m - a=1) (c2:¬ z - m=1) :
    Calls Tryz.prog 237 #[.slice (some ⟨b,0,none⟩) n cap,.int .i64 (a:Nat),.int .i64 (m:Nat),.int .i64 (z:Nat),.func (.func g) #[] cp] w fun e w'=>e=.returned (.tuple #[])∧Rep.own0 3 Rep.int w' (.slice (some ⟨b,0,none⟩) n cap) (Srt.symm key (f + 1) a m z xs) S∧Touch S w w':=by
 have HCL:=hD hcl
 have HIH:=hD (fun (w:World) (a m z:Nat) (xs:List Int)=>ih (w:=w) (a:=a) (m:=m) (z:=z) (xs:=xs));clear ih
 unfold Callable at hg
 have HO:=hD h
 have HN0:=hD hn
 have HT0:Hid (Touch S w w):=hD (Touch.refl _ _)
 clear h hcl
 have hzB:z≤16777216:=by omega
 have hzn:z≤n:=by omega
 have hnB:n≤16777216:=by omega
 have HZL:=hD hz
 clear hlen hz hn
 have ha0:=Int.natCast_nonneg a
 have haM:(a:Int) < m:=by omega
 have hMZ:(m:Int) < z:=by omega
 have hZB:(z:Int)≤16777216:=by omega
 have hZN:(z:Int)≤n:=by omega
 have hq1:(m:Int) - (a:Int)=((m - a:Nat):Int):=by omega
 have hq2:(z:Int) - (m:Int)=((z - m:Nat):Int):=by omega
 go_enter Tryz.func237,Tryz.ntmps237
 obtain ⟨mid,hmid⟩:∃ mid,(a + z) / 2=mid:=⟨_,rfl⟩
 have hmidI:((a:Int) + (z:Int)) / 2=(mid:Int):=by omega
 obtain ⟨N,hN⟩:∃ N,mid + m=N:=⟨_,rfl⟩
 have hNI:(mid:Int) + (m:Int)=(N:Int):=by omega
 have hb2:¬ (m:Int) - (a:Int)=1:=by omega
 have hb3:(((m - a:Nat):Int)==1)=false:=by simp;omega
 have hb4:¬ (z:Int) - (m:Int)=1:=by omega
 have hb5:(((z - m:Nat):Int)==1)=false:=by simp;omega
 have hma1:m - a≤16777216:=by omega
 have hzm1:z - m≤16777216:=by omega
 obtain ⟨ma,hma⟩:∃ ma,m - a=ma:=⟨_,rfl⟩
 rw [hma] at hq1 hb3
 obtain ⟨zm,hzm⟩:∃ zm,z - m=zm:=⟨_,rfl⟩
 rw [hzm] at hq2 hb5
 have hwma:IntKind.i64.wrap (ma:Int)=ma:=IntWalk.i64_in _ (by omega)
 have hwzm:IntKind.i64.wrap (zm:Int)=zm:=IntWalk.i64_in _ (by omega)
 have hwN:IntKind.i64.wrap (N:Int)=N:=IntWalk.i64_in _ (by omega)
 have hmid0:=Int.natCast_nonneg mid
 have hN0:=Int.natCast_nonneg N
 have hNB:(N:Int)≤33554432:=by omega
 have hamid:a < mid:=by omega
 have hmidz:mid < z:=by omega
 obtain ⟨lo,hlo⟩:∃ lo,lo=(if mid < m then N - z else a):=⟨_,rfl⟩
 obtain ⟨hi,hhi⟩:∃ hi,hi=(if mid < m then mid else m):=⟨_,rfl⟩
 have hlohi:lo≤hi:=by rw [hlo,hhi];split <;> omega
 have hloa:a≤lo:=by rw [hlo];split <;> omega
 have him:hi≤m:=by rw [hhi];split <;> omega
 have himid:hi≤mid:=by rw [hhi];split <;> omega
 have hloz:N≤z + lo:=by rw [hlo];split <;> omega
 have hhiN:m + hi≤N:=by rw [hhi];split <;> omega
 have HLO:=hD hlo;have HHI:=hD hhi;clear hlo hhi
 skip
 go_upto_if 140 with fail
 go_cut [20,21] from 138 to 140 (fun s20 s21 wc=>s20=.int .i64 (lo:Nat)∧s21=.int .i64 (hi:Nat)∧Hid (Rep.own0 3 Rep.int wc (.slice (some ⟨b,0,none⟩) n cap) xs S)∧Hid (Touch S w wc))
 case first =>
  by_cases hmm:mid < m
  · have hmI:(mid:Int) < m:=by omega
    have hmD:decide ((m:Int) > mid)=true:=by simp;omega
    have e1:lo=N - z:=by rw [HLO.out,if_pos hmm]
    have e2:hi=mid:=by rw [HHI.out,if_pos hmm]
    have e3:(N:Int) - (z:Int)=(lo:Int):=by omega
    have e4:IntKind.i64.wrap (lo:Int)=lo:=IntWalk.i64_in _ (by omega)
    go_wp2
    go_meet
    exact ⟨by first | rfl | rw [e1],by first | rfl | rw [e2],HO,HT0⟩
  have hmI:¬ (mid:Int) < m:=by omega
  have hmD:decide ((m:Int) > mid)=false:=by simp;omega
  have e1:lo=a:=by rw [HLO.out,if_neg hmm]
  have e2:hi=m:=by rw [HHI.out,if_neg hmm]
  go_wp2
  go_meet
  exact ⟨by first | rfl | rw [e1],by first | rfl | rw [e2],HO,HT0⟩
 obtain ⟨rfl,rfl,HO1,HT1⟩:=hcut
 clear HO HT0
 obtain ⟨N1,hN1⟩:∃ N1,N - 1=N1:=⟨_,rfl⟩
 have hN1I:(N:Int) - 1=(N1:Int):=by omega
 have hwN1:IntKind.i64.wrap (N1:Int)=N1:=IntWalk.i64_in _ (by omega)
 have hN10:=Int.natCast_nonneg N1
 have hloI:=Int.natCast_nonneg lo
 have hhiM:(hi:Int)≤m:=by omega
 go_wp2
 go_loopw [20,21] (fun i j wr=>∃ (p q:Nat),i=.int .i64 p∧j=.int .i64 q∧lo≤p∧p≤q∧q≤hi∧Hid (Srt.bs (fun c=>!decide (Srt.kAt key xs (N - 1 - c) < Srt.kAt key xs c)) p q=Srt.bs (fun c=>!decide (Srt.kAt key xs (N - 1 - c) < Srt.kAt key xs c)) lo hi)∧Hid (Rep.own0 3 Rep.int wr (.slice (some ⟨b,0,none⟩) n cap) xs S)∧Hid (Touch S w wr)) (fun i j _=>(intOf j).toNat - (intOf i).toNat)
 case atStart=>exact ⟨lo,hi,rfl,rfl,Nat.le_refl _,by omega,Nat.le_refl _,hD rfl,HO1,HT1⟩
 obtain ⟨p,q,rfl,rfl,hmp,hpq,hqz,HB,HO2,HT2⟩:=hrel
 have hp0:=Int.natCast_nonneg p
 have hqZ:(q:Int)≤hi:=by omega
 by_cases hlt:p < q
 · have hltI:(p:Int) < q:=by omega
   obtain ⟨h,hh⟩:∃ h,(p + q) / 2=h:=⟨_,rfl⟩
   have hhI:((p:Int) + (q:Int)) / 2=(h:Int):=by omega
   have hph:p≤h:=by omega
   have hhq:h < q:=by omega
   have hh0:=Int.natCast_nonneg h
   have HY:=hD (fun e=>(bs_yes (p:=(fun c=>!decide (Srt.kAt key xs (N - 1 - c) < Srt.kAt key xs c))) hlt hh e).symm.trans HB.out)
   have HNO:=hD (fun e=>(bs_no (p:=(fun c=>!decide (Srt.kAt key xs (N - 1 - c) < Srt.kAt key xs c))) hlt hh e).symm.trans HB.out)
   obtain ⟨u,hu⟩:∃ u,N - 1 - h=u:=⟨_,rfl⟩
   have ul:u < xs.length:=by have:=HZL.out;omega
   have hl:h < xs.length:=by have:=HZL.out;omega
   have hhN:(h:Int) < n:=by omega
   have huN:(u:Int) < n:=by omega
   have huI:(N1:Int) - (h:Int)=(u:Int):=by omega
   have hu0:=Int.natCast_nonneg u
   have hwu:IntKind.i64.wrap (u:Int)=u:=IntWalk.i64_in _ (by omega)
   have HK:Hid ((fun c=>!decide (Srt.kAt key xs (N - 1 - c) < Srt.kAt key xs c)) h=!decide (key (xs[u]'ul) < key (xs[h]'hl))):=hD (by rw [← Srt.kAt_get (key:=key) ul,← Srt.kAt_get (key:=key) hl];show (!decide (Srt.kAt key xs (N - 1 - h) < Srt.kAt key xs h))=_;rw [hu])
   obtain ⟨pc0,pr,pA0⟩:=Rep.at1 HO2.out.raw0 ul rfl
   obtain ⟨phe,prg⟩:=Rep.int_raw pr
   obtain rfl:pc0=_:=by simpa using phe
   clear phe prg
   obtain ⟨qc0,qr,qA0⟩:=Rep.at1 HO2.out.raw0 hl rfl
   obtain ⟨qhe,qrg⟩:=Rep.int_raw qr
   obtain rfl:qc0=_:=by simpa using qhe
   clear qhe qrg
   generalize xs[u]=x at *
   generalize xs[h]=y at *
   go_upto_region 35 with fail
   refine wp_region_soft (fun W=>Below wr.heap.size wr W) [true,true,true,true,true,true,true,true,true,true,true,false,true,true] (by kernel_rfl) (by kernel_rfl) (fun c a d v w h=>by cases d <;> exact h) ((Below.refl _ _).drew) ?_
   intro wS HS
   iterate 6
    all_goals first|(refine kC rfl HS ?_)|(refine kD (v:=?_) rfl (fun W hW=>?_) ?_;rotate_left;(· go_simp;try with_reducible rfl))
    all_goals try simp only [Act.put,zA,zB,zC]
   all_goals first|(refine kC rfl HS ?_)|(refine kD (v:=?_) rfl (fun W hW=>?_) ?_;rotate_left;(· have A_pA0:=cL hW pA0;have A_qA0:=cL hW qA0;clear hW;go_simp;try with_reducible rfl))
   iterate 3
    all_goals try simp only [Act.put,zA,zB,zC]
    all_goals first|(refine kC rfl HS ?_)|(refine kD (v:=?_) rfl (fun W hW=>?_) ?_;rotate_left;(· go_simp;try with_reducible rfl))
   all_goals try simp only [Act.put,zA,zB,zC]
   all_goals first|(refine kC rfl HS ?_)|(refine kD (v:=?_) rfl (fun W hW=>?_) ?_;rotate_left;(· have A_pA0:=cL hW pA0;have A_qA0:=cL hW qA0;clear hW;go_simp;try with_reducible rfl))
   all_goals try simp only [Act.put,zA,zB,zC]
   all_goals first|(refine kC rfl HS ?_)|(refine kF rfl (fun K hK=>?_);go_simp;refine (HCL.out _ (HT2.out.trans (Touch.of_below HS)) _ _ _ _ (Rep.raw.below pr HS) (Rep.raw.below qr HS)).mono ?_;rintro e wS1 ⟨kk,rfl,hkk,hbS⟩;replace HS:=HS.trans (hbS.mono HS.size);refine hK _ _ HS ?_;clear hK K hbS)
   all_goals try simp only [Act.put,zA,zB,zC]
   all_goals first|(refine kC rfl HS ?_)|(refine kD (v:=?_) rfl (fun W hW=>?_) ?_;rotate_left;(· go_simp;try with_reducible rfl))
   all_goals try simp only [Act.put,zA,zB,zC]
   all_goals first|(refine kC rfl HS ?_;have hg13:=True.intro)|(refine kE (v:=?_) (b:=?_) rfl (fun W hW=>?_) ?_ (fun b hg13=>?_);rotate_left;rotate_left;(· go_simp;try with_reducible rfl);(· with_reducible rfl);cases b;all_goals first|(exact Bool.noConfusion hg13)|(simp only [Bool.not_eq_true',Bool.not_eq_false'] at hg13) | skip)
   all_goals try simp only [Act.put,zA,zB,zC]
   all_goals refine soft_nil ?_
   all_goals have HTX:=hD (HT2.out.trans (Touch.of_below HS))
   all_goals have HOX:=hD (HO2.out.below HS)
   all_goals first
     | (have HV:=hD (show _=true from HK.out.trans (by first | exact hg13 | simpa using hg13));have HB2:=hD (HY.out HV.out);clear HY HNO HK HV hkk hg13;go_wp2;go_roundw;(case rel=>exact ⟨h + 1,q,by go_num,rfl,by omega,by omega,by omega,HB2,HOX,HTX⟩);(case measure=>simp [intOf];omega))
     | (have HV:=hD (show _=false from HK.out.trans (by first | exact hg13 | simpa using hg13));have HB2:=hD (HNO.out HV.out);clear HY HNO HK HV hkk hg13;go_wp2;go_roundw;(case rel=>exact ⟨p,h,rfl,rfl,by omega,by omega,by omega,HB2,HOX,HTX⟩);(case measure=>simp [intOf];omega))
 obtain rfl:q=p:=by omega
 have hpN:¬ (q:Int) < q:=by omega
 have HE:=hD ((bs_end (p:=(fun c=>!decide (Srt.kAt key xs (N - 1 - c) < Srt.kAt key xs c))) (i:=q) (j:=q) (by omega)).symm.trans HB.out)
 rw [HLO.out,HHI.out] at HE
 obtain ⟨e,he⟩:∃ e,N - q=e:=⟨_,rfl⟩
 have heI:(N:Int) - (q:Int)=(e:Int):=by omega
 have hwe:IntKind.i64.wrap (e:Int)=e:=IntWalk.i64_in _ (by omega)
 have hem:m≤e:=by omega
 have hez:e≤z:=by omega
 have hqm:q≤m:=by omega
 have haq:a≤q:=by omega
 have he0:=Int.natCast_nonneg e
 obtain ⟨y,hy⟩:∃ y,y=if q < m∧m < e then Srt.rot m (m - q) (e - m) xs else xs:=⟨_,rfl⟩
 obtain ⟨u,hu⟩:∃ u,u=if a < q∧q < mid then Srt.symm key f a q mid y else y:=⟨_,rfl⟩
 have HF:=hD (symm_C (key:=key) (f:=f) c1 c2 hmid hN HE.out he hy hu)
 have HLY:Hid (n=y.length):=hD (by rw [hy,HN0.out];split <;> first | rfl | exact (Srt.rot_length _ _ _ _).symm)
 have HLU:Hid (n=u.length):=hD (by rw [hu];split <;> first | exact HLY.out|(rw [Srt.symm_length];exact HLY.out))
 have HY:=hD hy;have HU:=hD hu;clear hy hu HB HE HLO HHI hmid hN
 go_upto_region 39 with fail
 go_cut [185] from 178 to 185 (fun sb wc=>sb=.bool (decide (q < m) && decide (m < e))∧Hid (Rep.own0 3 Rep.int wc (.slice (some ⟨b,0,none⟩) n cap) xs S)∧Hid (Touch S w wc))
 case first =>
  by_cases g1:q < m
  · have g1I:(q:Int) < m:=by omega
    by_cases g2:m < e
    · have g2I:(m:Int) < e:=by omega
      go_wp2
      go_meet
      exact ⟨by rw [decide_eq_true g1,decide_eq_true g2];rfl,HO2,HT2⟩
    have g2I:¬ (m:Int) < e:=by omega
    go_wp2
    go_meet
    exact ⟨by rw [decide_eq_true g1,decide_eq_false g2];rfl,HO2,HT2⟩
  have g1I:¬ (q:Int) < m:=by omega
  go_wp2
  go_meet
  exact ⟨by rw [decide_eq_false g1];rfl,HO2,HT2⟩
 obtain ⟨rfl,HO4,HT4⟩:=hcut
 have HCk:=hD (Cmp_int_later HCL.out HT4.out)
 go_upto_if 185 with fail
 go_cut [] from 178 to 185 (fun wc=>Hid (Rep.own0 3 Rep.int wc (.slice (some ⟨b,0,none⟩) n cap) y S)∧Hid (Touch S w wc))
 case first =>
  by_cases g:q < m∧m < e
  · have hb:(decide (q < m) && decide (m < e))=true:=by rw [decide_eq_true g.1,decide_eq_true g.2];rfl
    simp only [hb]
    go_wp2_with fail
    refine (rot_int_c HO4.out HN0.out (by have:=HN0.out;omega) (a:=q) (m:=m) (z:=e) g.1 g.2 (by have:=HZL.out;omega)).mono ?_
    rintro e2 w2 ⟨rfl,O2,T2⟩
    have HOn:=hD O2;have HTn:=hD (HT4.out.trans T2);clear O2 T2
    try go_wp2
    go_meet
    exact ⟨hD (HOn.out.cast (by rw [HY.out,if_pos g])),HTn⟩
  have hb:(decide (q < m) && decide (m < e))=false:=by
   rcases Nat.lt_or_ge q m with q1 | q1
   · rw [decide_eq_true q1,decide_eq_false (fun q2=>g ⟨q1,q2⟩)];rfl
   rw [decide_eq_false (by omega)];rfl
  simp only [hb]
  go_wp2
  go_meet
  exact ⟨hD (HO4.out.cast (by rw [HY.out,if_neg g])),HT4⟩
 obtain ⟨HO5,HT5⟩:=hcut
 go_upto_region 41 with fail
 go_cut [199] from 192 to 199 (fun sb wc=>sb=.bool (decide (a < q) && decide (q < mid))∧Hid (Rep.own0 3 Rep.int wc (.slice (some ⟨b,0,none⟩) n cap) y S)∧Hid (Touch S w wc))
 case first =>
  by_cases g1:a < q
  · have g1I:(a:Int) < q:=by omega
    by_cases g2:q < mid
    · have g2I:(q:Int) < mid:=by omega
      go_wp2
      go_meet
      exact ⟨by rw [decide_eq_true g1,decide_eq_true g2];rfl,HO5,HT5⟩
    have g2I:¬ (q:Int) < mid:=by omega
    go_wp2
    go_meet
    exact ⟨by rw [decide_eq_true g1,decide_eq_false g2];rfl,HO5,HT5⟩
  have g1I:¬ (a:Int) < q:=by omega
  go_wp2
  go_meet
  exact ⟨by rw [decide_eq_false g1];rfl,HO5,HT5⟩
 obtain ⟨rfl,HO6,HT6⟩:=hcut
 have HCk:=hD (Cmp_int_later HCL.out HT6.out)
 go_upto_if 199 with fail
 go_cut [] from 192 to 199 (fun wc=>Hid (Rep.own0 3 Rep.int wc (.slice (some ⟨b,0,none⟩) n cap) u S)∧Hid (Touch S w wc))
 case first =>
  by_cases g:a < q∧q < mid
  · have hb:(decide (a < q) && decide (q < mid))=true:=by rw [decide_eq_true g.1,decide_eq_true g.2];rfl
    simp only [hb]
    go_wp2_with fail
    refine (HIH.out _ a q mid y HCk.out HO6.out HLY.out (by have:=HLY.out;omega) g.1 g.2 (by have:=HLY.out;omega) (by omega)).mono ?_
    rintro e2 w2 ⟨rfl,O2,T2⟩
    have HOn:=hD O2;have HTn:=hD (HT6.out.trans T2);clear O2 T2
    try go_wp2
    go_meet
    exact ⟨hD (HOn.out.cast (by rw [HU.out,if_pos g])),HTn⟩
  have hb:(decide (a < q) && decide (q < mid))=false:=by
   rcases Nat.lt_or_ge a q with q1 | q1
   · rw [decide_eq_true q1,decide_eq_false (fun q2=>g ⟨q1,q2⟩)];rfl
   rw [decide_eq_false (by omega)];rfl
  simp only [hb]
  go_wp2
  go_meet
  exact ⟨hD (HO6.out.cast (by rw [HU.out,if_neg g])),HT6⟩
 obtain ⟨HO7,HT7⟩:=hcut
 go_upto_region 43 with fail
 go_cut [213] from 206 to 213 (fun sb wc=>sb=.bool (decide (mid < e) && decide (e < z))∧Hid (Rep.own0 3 Rep.int wc (.slice (some ⟨b,0,none⟩) n cap) u S)∧Hid (Touch S w wc))
 case first =>
  by_cases g1:mid < e
  · have g1I:(mid:Int) < e:=by omega
    by_cases g2:e < z
    · have g2I:(e:Int) < z:=by omega
      go_wp2
      go_meet
      exact ⟨by rw [decide_eq_true g1,decide_eq_true g2];rfl,HO7,HT7⟩
    have g2I:¬ (e:Int) < z:=by omega
    go_wp2
    go_meet
    exact ⟨by rw [decide_eq_true g1,decide_eq_false g2];rfl,HO7,HT7⟩
  have g1I:¬ (mid:Int) < e:=by omega
  go_wp2
  go_meet
  exact ⟨by rw [decide_eq_false g1];rfl,HO7,HT7⟩
 obtain ⟨rfl,HO8,HT8⟩:=hcut
 have HCk:=hD (Cmp_int_later HCL.out HT8.out)
 by_cases g:mid < e∧e < z
 · have hb:(decide (mid < e) && decide (e < z))=true:=by rw [decide_eq_true g.1,decide_eq_true g.2];rfl
   simp only [hb]
   go_wp2_with fail
   refine (HIH.out _ mid e z u HCk.out HO8.out HLU.out (by have:=HLU.out;omega) g.1 g.2 (by have:=HLU.out;omega) (by omega)).mono ?_
   rintro e2 w2 ⟨rfl,O2,T2⟩
   have HOn:=hD O2;have HTn:=hD (HT8.out.trans T2);clear O2 T2
   go_wp2
   first | go_end0|((try simp only [Exit.inBlock,Exit.then]);refine bodyPost_ret (results_none rfl _ _ _) rfl ?_)
   exact ⟨rfl,HOn.out.cast (by rw [HF.out,if_pos g]),HTn.out⟩
 have hb:(decide (mid < e) && decide (e < z))=false:=by
  rcases Nat.lt_or_ge mid e with q1 | q1
  · rw [decide_eq_true q1,decide_eq_false (fun q2=>g ⟨q1,q2⟩)];rfl
  rw [decide_eq_false (by omega)];rfl
 simp only [hb]
 go_wp2
 first | go_end0|((try simp only [Exit.inBlock,Exit.then]);refine bodyPost_ret (results_none rfl _ _ _) rfl ?_)
 exact ⟨rfl,HO8.out.cast (by rw [HF.out,if_neg g]),HT8.out⟩
theorem symm_int_c {b n cap:Nat} {S:Nat→Prop} {g:FuncId} {cp:Array Value} (key:Int→Int) (hg:Callable Tryz.prog g):∀ (f:Nat),(∀ {w:World} {a m z:Nat} {xs:List Int} (hcl:Cmp_int key g cp S w) (h:Rep.own0 3 Rep.int w (.slice (some ⟨b,0,none⟩) n cap) xs S) (hn:n=xs.length) (hlen:xs.length≤16777216) (ham:a < m) (hmz:m < z) (hz:z≤xs.length) (hf:z - a≤f),Calls Tryz.prog 237 #[.slice (some ⟨b,0,none⟩) n cap,.int .i64 (a:Nat),.int .i64 (m:Nat),.int .i64 (z:Nat),.func (.func g) #[] cp] w fun e w'=>e=.returned (.tuple #[])∧Rep.own0 3 Rep.int w' (.slice (some ⟨b,0,none⟩) n cap) (Srt.symm key f a m z xs) S∧Touch S w w'):=by
 intro f
 induction f with
 | zero=>intro w a m z xs hcl h hn hlen ham hmz hz hf;omega
 | succ f ih =>
   intro w a m z xs hcl h hn hlen ham hmz hz hf
   by_cases c1:m - a=1
   · exact symmA_int_c key hg f hcl h hn hlen ham hmz hz hf c1
   · by_cases c2:z - m=1
     · exact symmB_int_c key hg f hcl h hn hlen ham hmz hz hf c1 c2
     · exact symmC_int_c key hg f ih hcl h hn hlen ham hmz hz hf c1 c2
end Go.Proofs.YtomdenfcfbkfbaaGreat

/-
  The stable sort: the merge in place, its plain steps.
  The stable sort: the merge in place.
-/
import Derived.Test.YtomdenfcfbkfbaaGreatSortA
import Derived.Deep.CutRange
set_option linter.unusedVariables false
set_option linter.unusedSimpArgs false
set_option linter.unnecessarySimpa false
set_option maxRecDepth 100000
set_option maxHeartbeats 8000000
namespace Go.Proofs.YtomdenfcfbkfbaaGreat
open Go.RowKit
theorem kAk {key:Int→Int} {g:FuncId} {cp:Array Value} {S:Nat→Prop} {w w':World} (h:kCz key g cp S w) (t:Touch S w w'):kCz key g cp S w':=fun wr tw=>h wr (t.trans tw)
theorem zi {key:jD→Int} {g:FuncId} {cp:Array Value} {S:Nat→Prop} {w w':World} (h:kAo key g cp S w) (t:Touch S w w'):kAo key g cp S w':=fun wr tw=>h wr (t.trans tw)
theorem kOb {p:Nat→Bool} {i j h:Nat} (hij:i < j) (hh:(i + j) / 2=h) (q:p h=true):Srt.bs p i j=Srt.bs p (h + 1) j:=by
 subst hh;rw [Srt.bs,dif_pos hij,if_pos q]
theorem bs_no {p:Nat→Bool} {i j h:Nat} (hij:i < j) (hh:(i + j) / 2=h) (q:p h=false):Srt.bs p i j=Srt.bs p i h:=by
 subst hh;rw [Srt.bs,dif_pos hij,if_neg (by rw [q];exact Bool.false_ne_true)]
theorem kOc {p:Nat→Bool} {i j:Nat} (hij:¬ i < j):Srt.bs p i j=i:=by rw [Srt.bs,dif_neg hij]
theorem up_next {α:Type} {k t:Nat} {cu:List α} (h:k < t):Srt.up (t - k) k cu=Srt.up (t - (k + 1)) (k + 1) (Srt.sw cu k (k + 1)):=by
 rw [show t - k=(t - (k + 1)) + 1 by omega,Srt.up]
theorem up_end {α:Type} {k t:Nat} {cu:List α} (h:¬ k < t):Srt.up (t - k) k cu=cu:=by rw [show t - k=0 by omega,Srt.up]
theorem kVo {α:Type} {i k j:Nat} {cu:List α} (hk:k + 1=j) (h:i < j):Srt.down i j cu=Srt.down i k (Srt.sw cu j k):=by
 subst hk;rw [Srt.down,if_pos h]
theorem down_end {α:Type} {i j:Nat} {cu:List α} (h:¬ i < j):Srt.down i j cu=cu:=by
 cases j with
 | zero=>rfl
 | succ j=>rw [Srt.down,if_neg h]
theorem symm_A {α:Type} {key:α→Int} {f a m z:Nat} {xs:List α} (h:m - a=1):Srt.symm key (f + 1) a m z xs=Srt.up (Srt.bs (fun h=>decide (Srt.kAt key xs h < Srt.kAt key xs a)) m z - 1 - a) a xs:=by
 rw [Srt.symm,if_pos h]
theorem symm_B {α:Type} {key:α→Int} {f a m z:Nat} {xs:List α} (h:¬ m - a=1) (h2:z - m=1):Srt.symm key (f + 1) a m z xs=Srt.down (Srt.bs (fun h=>!decide (Srt.kAt key xs m < Srt.kAt key xs h)) a m) m xs:=by
 rw [Srt.symm,if_neg h,if_pos h2]
theorem symm_C {α:Type} {key:α→Int} {f a m z mid N s e:Nat} {xs y u:List α} (h:¬ m - a=1) (h2:¬ z - m=1) (hmid:(a + z) / 2=mid) (hN:mid + m=N)
    (hs:s=Srt.bs (fun c=>!decide (Srt.kAt key xs (N - 1 - c) < Srt.kAt key xs c)) (if mid < m then N - z else a) (if mid < m then mid else m)) (he:N - s=e)
    (hy:y=if s < m∧m < e then Srt.rot m (m - s) (e - m) xs else xs) (hu:u=if a < s∧s < mid then Srt.symm key f a s mid y else y) :
    Srt.symm key (f + 1) a m z xs=if mid < e∧e < z then Srt.symm key f mid e z u else u:=by
 rw [Srt.symm,if_neg h,if_neg h2]
 simp only
 rw [hmid,hN,← hs,he,← hy,← hu]
theorem symmA_int_c {b n cap:Nat} {S:Nat→Prop} {g:FuncId} {cp:Array Value} (key:Int→Int) (hg:jB Tryz.prog g) (f:Nat) {w:World} {a m z:Nat} {xs:List Int} (hcl:kCz key g cp S w) (h:Rep.kQ 3 Rep.int w (.slice (some ⟨b,0,none⟩) n cap) xs S) (hn:n=xs.length) (hlen:xs.length≤16777216) (ham:a < m) (hmz:m < z) (hz:z≤xs.length) (hf:z - a≤f + 1) (c1:m - a=1) :
    Calls Tryz.prog 237 #[.slice (some ⟨b,0,none⟩) n cap,.int .i64 (a:Nat),.int .i64 (m:Nat),.int .i64 (z:Nat),.func (.func g) #[] cp] w fun e w'=>e=.returned (.tuple #[])∧Rep.kQ 3 Rep.int w' (.slice (some ⟨b,0,none⟩) n cap) (Srt.symm key (f + 1) a m z xs) S∧Touch S w w':=by
 have HCL:=yD hcl
 unfold jB at hg
 have HO:=yD h
 have HN0:=yD hn
 have HT0:Hid (Touch S w w):=yD (Touch.refl _ _)
 clear h hcl
 have hzB:z≤16777216:=rJ
 have hzn:z≤n:=rJ
 have hnB:n≤16777216:=rJ
 have HZL:=yD hz
 clear hlen hz hn
 have ha0:=Int.natCast_nonneg a
 have haM:(a:Int) < m:=rJ
 have hMZ:(m:Int) < z:=rJ
 have hZB:(z:Int)≤16777216:=rJ
 have hZN:(z:Int)≤n:=rJ
 have hq1:(m:Int) - (a:Int)=((m - a:Nat):Int):=rJ
 have hq2:(z:Int) - (m:Int)=((z - m:Nat):Int):=rJ
 go_enter Tryz.func237,Tryz.ntmps237
 have HF:=yD (symm_A (key:=key) (f:=f) (z:=z) (xs:=xs) c1)
 have hb1:(m:Int) - (a:Int)=1:=rJ
 clear hq1 hq2
 go_wp2
 go_loopw [10,11] (fun i j wr=>∃ (p q:Nat),i=.int .i64 p∧j=.int .i64 q∧m≤p∧p≤q∧q≤z∧Hid (Srt.bs (fun h=>decide (Srt.kAt key xs h < Srt.kAt key xs a)) p q=Srt.bs (fun h=>decide (Srt.kAt key xs h < Srt.kAt key xs a)) m z)∧Hid (Rep.kQ 3 Rep.int wr (.slice (some ⟨b,0,none⟩) n cap) xs S)∧Hid (Touch S w wr)) (fun i j _=>(intOf j).toNat - (intOf i).toNat)
 case atStart=>exact ⟨m,z,rfl,rfl,Nat.le_refl _,by omega,Nat.le_refl _,yD rfl,HO,HT0⟩
 obtain ⟨p,q,rfl,rfl,hmp,hpq,hqz,HB,HO2,HT2⟩:=hrel
 have hp0:=Int.natCast_nonneg p
 have hqZ:(q:Int)≤z:=rJ
 by_cases hlt:p < q
 · have hltI:(p:Int) < q:=rJ
   obtain ⟨h,hh⟩:∃ h,(p + q) / 2=h:=⟨_,rfl⟩
   have hhI:((p:Int) + (q:Int)) / 2=(h:Int):=rJ
   have hph:p≤h:=rJ
   have hhq:h < q:=rJ
   have hh0:=Int.natCast_nonneg h
   have HY:=yD (fun e=>(kOb (p:=(fun h=>decide (Srt.kAt key xs h < Srt.kAt key xs a))) hlt hh e).symm.trans HB.out)
   have HNO:=yD (fun e=>(bs_no (p:=(fun h=>decide (Srt.kAt key xs h < Srt.kAt key xs a))) hlt hh e).symm.trans HB.out)
   have hl:h < xs.length:=pK
   have al:a < xs.length:=pK
   have hhN:(h:Int) < n:=rJ
   have haN:(a:Int) < n:=rJ
   have HK:Hid ((fun h=>decide (Srt.kAt key xs h < Srt.kAt key xs a)) h=decide (key (xs[h]'hl) < key (xs[a]'al))):=yD (by rw [← Srt.yu (key:=key) hl,← Srt.yu (key:=key) al])
   obtain ⟨pc0,pr,pA0⟩:=Rep.at1 HO2.out.kBj hl rfl
   obtain ⟨phe,prg⟩:=Rep.jX pr
   obtain rfl:pc0=_:=by simpa using phe
   clear phe prg
   obtain ⟨qc0,qr,qA0⟩:=Rep.at1 HO2.out.kBj al rfl
   obtain ⟨qhe,qrg⟩:=Rep.jX qr
   obtain rfl:qc0=_:=by simpa using qhe
   clear qhe qrg
   generalize xs[h]=x at *
   generalize xs[a]=y at *
   go_upto_region 5 with fail
   have FX:=yD (fun (W:World) (hW:Below wr.heap.size wr W)=>kIl hW pA0 qA0)
   refine kV (fun W=>Below wr.heap.size wr W) [true,true,true,true,true,true,true,true,true,false,true] rA rA gI (bR.drew) ?_
   intro wS HS
   iterate 9
    all_goals refine wkR ?_
   all_goals first|(refine kL rfl HS ?_)|(refine jE rfl (fun K hK=>?_);go_simp;refine (HCL.out _ (HT2.out.trans (Touch.of_below HS)) _ _ _ _ (Rep.raw.below pr HS) (Rep.raw.below qr HS)).mono ?_;rintro e wS1 ⟨kk,rfl,hkk,hbS⟩;replace HS:=(tQ HS hbS);refine hK _ _ HS ?_;clear hK K hbS)
   all_goals refine wkP ?_
   all_goals (have hg10:=True.intro;first|(refine wkG (fun b hg10=>?_);cases b;all_goals first | exact Bool.noConfusion hg10 | simp only [zU,zV] at hg10 | skip) | refine wkR ?_)
   all_goals refine wkP ?_
   all_goals refine ko ?_
   all_goals have HTX:=yD (HT2.out.trans (Touch.of_below HS))
   all_goals have HOX:=yD (HO2.out.below HS)
   all_goals first
     | (have HV:=yD (show _=true from HK.out.trans fZ);have HB2:=yD (HY.out HV.out);clear HY HNO HK HV hkk hg10;go_wp2;go_roundw;(case rel=>exact ⟨h + 1,q,by go_num,rfl,by omega,by omega,by omega,HB2,HOX,HTX⟩);(case measure=>simp [intOf];omega))
     | (have HV:=yD (show _=false from HK.out.trans fZ);have HB2:=yD (HNO.out HV.out);clear HY HNO HK HV hkk hg10;go_wp2;go_roundw;(case rel=>exact ⟨p,h,rfl,rfl,by omega,by omega,by omega,HB2,HOX,HTX⟩);(case measure=>simp [intOf];omega))
 obtain rfl:q=p:=rJ
 have hpN:¬ (q:Int) < q:=rJ
 have HE:=yD ((kOc (p:=(fun h=>decide (Srt.kAt key xs h < Srt.kAt key xs a))) (i:=q) (j:=q) rJ).symm.trans HB.out)
 obtain ⟨t,ht⟩:∃ t,q - 1=t:=⟨_,rfl⟩
 have htI:(q:Int) - 1=(t:Int):=rJ
 have hta:a≤t:=rJ
 have hwt:IntKind.i64.wrap (t:Int)=t:=IntWalk.i64_in _ rJ
 have htz:t + 1≤z:=rJ
 have htN:(t:Int) < n:=rJ
 have HFU:Hid (Srt.symm key (f + 1) a m z xs=Srt.up (t - a) a xs):=yD (by rw [HF.out,← HE.out,ht])
 go_wp2
 go_loopw [13] (fun i wr=>∃ (k:Nat) (cu:List Int),i=.int .i64 k∧a≤k∧k≤t∧Hid (Srt.up (t - k) k cu=Srt.up (t - a) a xs)∧Hid (cu.length=n)∧Hid (Rep.kQ 3 Rep.int wr (.slice (some ⟨b,0,none⟩) n cap) cu S)∧Hid (Touch S w wr)) (fun i _=>t - (intOf i).toNat)
 case atStart=>exact ⟨a,xs,rfl,Nat.le_refl _,hta,yD rfl,yD HN0.out.symm,HO2,HT2⟩
 obtain ⟨k,cu,rfl,hak,hkt,HG,HL,HO3,HT3⟩:=hrel
 have hk0:=Int.natCast_nonneg k
 by_cases hlt:k < t
 · have hltI:(k:Int) < t:=rJ
   have HSW:=yD ((up_next (cu:=cu) hlt).symm.trans HG.out)
   obtain ⟨j,hj⟩:∃ j,k + 1=j:=⟨_,rfl⟩
   rw [hj] at HSW
   have hjI:(k:Int) + 1=(j:Int):=rJ
   have hwj:IntKind.i64.wrap (j:Int)=j:=IntWalk.i64_in _ rJ
   have hj0:=Int.natCast_nonneg j
   have hjl:j < cu.length:=pX
   have hkl:k < cu.length:=rJ
   have hjN:(j:Int) < n:=rJ
   have hkN:(k:Int) < n:=rJ
   obtain ⟨pc0,pr,pA0⟩:=Rep.at1 HO3.out.kBj hkl rfl
   obtain ⟨phe,prg⟩:=Rep.jX pr
   obtain rfl:pc0=_:=by simpa using phe
   clear phe prg
   obtain ⟨qc0,qr,qA0⟩:=Rep.at1 HO3.out.kBj hjl rfl
   obtain ⟨qhe,qrg⟩:=Rep.jX qr
   obtain rfl:qc0=_:=by simpa using qhe
   clear qhe qrg
   generalize cu[k]=x at *
   generalize cu[j]=y at *
   go_upto_region 11 with fail
   have FX:=yD (fun (W:World) (hW:Below wr.heap.size wr W)=>kIl hW pA0 qA0)
   refine yL (fun W=>Below wr.heap.size wr W) [2,3,4] [(0,true),(1,true),(5,true),(6,true),(7,true),(8,true),(9,true),(10,true),(11,true),(12,true),(13,true),(14,true)] rA rA gI (bR.drew) ?_
   intro wS HS
   simp only [jO,kBg,List.length_cons,List.length_nil,List.getElem?_cons_succ,List.getElem?_cons_zero,List.map_cons,List.map_nil,List.cons_append,List.nil_append,List.drop_succ_cons,List.drop_zero,Nat.reduceAdd,Nat.zero_add]
   iterate 3
    refine kDk (v:=?_) rfl (fun W=>?_) ?_;rotate_left;(· go_simp;try with_reducible rfl)
    refine wkP ?_
   refine pre_nil ?_
   iterate 12
    refine wkR ?_
   refine yF ?_
   have HTX:=yD (HT3.out.trans (Touch.of_below HS))
   replace HO3:=yD (HO3.out.below HS)
   replace pA0:=cL HS pA0
   replace qA0:=cL HS qA0
   have BK:=Rep.kBl HO3.out hkl
   have EQi:k * Rep.int.n=k:=Nat.mul_one _
   have EQj:j * Rep.int.n=j:=Nat.mul_one _
   have THi:wS.there b (k) 1:=dN
   have THj:wS.there b (j) 1:=dO
   have hci:∀ q u,([.int .i64 x]:List Value)[q]?=some u→wS.cell? ⟨b,k * Rep.int.n + q,none⟩=some u:=nE
   have hcj:∀ q u,([.int .i64 y]:List Value)[q]?=some u→wS.cell? ⟨b,j * Rep.int.n + q,none⟩=some u:=nG
   obtain ⟨s1,s2⟩:=Rep.kCi (ci:=[.int .i64 x]) (cj:=[.int .i64 y]) HO3.out hkl hjl rJ rfl rfl hci hcj (pi:=k) (pj:=j) EQi.symm EQj.symm
   have HO6:=yD s1;have HT6:=yD s2;clear s1 s2 hci hcj EQi EQj
   have hsz:(Tryz.prog.info? 3).map (·.size)=some 1:=dF
   have honei:∀ c∈([.int .i64 x]:List Value),c.oneCell'=true:=bP
   have honej:∀ c∈([.int .i64 y]:List Value),c.oneCell'=true:=bP
   refine jr rfl 3 _ _ rfl b (k) (.int .i64 y) [.int .i64 y] rfl rO rO THi hsz honej ?_
   intro w5 hw5
   have THj5:w5.there b (j) 1:=nC
   have HW5:=yD hw5;clear hw5
   go_wp2_with (refine jr rfl 3 _ _ rfl b (j) (.int .i64 x) [.int .i64 x] rfl rO rO THj5 hsz honei ?_)
   rw [← HW5.out] at HO6 HT6
   generalize hw6:Rep.setCells w5 b (j) [.int .i64 x]=w6 at *
   clear HW5 hw6 THi THj THj5 hsz honei honej
   have HT7:=yD (HTX.out.trans (kCd HT6.out BK.1))
   have HL7:Hid ((Srt.sw cu k j).length=n):=yD nO
   go_roundw
   case rel=>exact ⟨j,Srt.sw cu k j,rfl,by omega,by omega,HSW,HL7,HO6,HT7⟩
   simp [intOf];omega
 obtain rfl:k=t:=rJ
 have HE2:=yD (HFU.out.trans ((HG.out).symm.trans (up_end (cu:=cu) (by omega:¬ k < k))))
 have hkN2:¬ (k:Int) < k:=rJ
 go_wp2
 first | go_end0|((try simp only [Exit.inBlock,Exit.then]);refine bodyPost_ret (results_none rfl _ _ _) rfl ?_)
 exact ⟨rfl,HO3.out.cast HE2.out.symm,HT3.out⟩
theorem symmB_int_c {b n cap:Nat} {S:Nat→Prop} {g:FuncId} {cp:Array Value} (key:Int→Int) (hg:jB Tryz.prog g) (f:Nat) {w:World} {a m z:Nat} {xs:List Int} (hcl:kCz key g cp S w) (h:Rep.kQ 3 Rep.int w (.slice (some ⟨b,0,none⟩) n cap) xs S) (hn:n=xs.length) (hlen:xs.length≤16777216) (ham:a < m) (hmz:m < z) (hz:z≤xs.length) (hf:z - a≤f + 1) (c1:¬ m - a=1) (c2:z - m=1) :
    Calls Tryz.prog 237 #[.slice (some ⟨b,0,none⟩) n cap,.int .i64 (a:Nat),.int .i64 (m:Nat),.int .i64 (z:Nat),.func (.func g) #[] cp] w fun e w'=>e=.returned (.tuple #[])∧Rep.kQ 3 Rep.int w' (.slice (some ⟨b,0,none⟩) n cap) (Srt.symm key (f + 1) a m z xs) S∧Touch S w w':=by
 have HCL:=yD hcl
 unfold jB at hg
 have HO:=yD h
 have HN0:=yD hn
 have HT0:Hid (Touch S w w):=yD (Touch.refl _ _)
 clear h hcl
 have hzB:z≤16777216:=rJ
 have hzn:z≤n:=rJ
 have hnB:n≤16777216:=rJ
 have HZL:=yD hz
 clear hlen hz hn
 have ha0:=Int.natCast_nonneg a
 have haM:(a:Int) < m:=rJ
 have hMZ:(m:Int) < z:=rJ
 have hZB:(z:Int)≤16777216:=rJ
 have hZN:(z:Int)≤n:=rJ
 have hq1:(m:Int) - (a:Int)=((m - a:Nat):Int):=rJ
 have hq2:(z:Int) - (m:Int)=((z - m:Nat):Int):=rJ
 go_enter Tryz.func237,Tryz.ntmps237
 have HF:=yD (symm_B (key:=key) (f:=f) (xs:=xs) c1 c2)
 have hb1:(z:Int) - (m:Int)=1:=rJ
 have hb2:¬ (m:Int) - (a:Int)=1:=rJ
 have hb3:(((m - a:Nat):Int)==1)=false:=rC
 obtain ⟨ma,hma⟩:∃ ma,m - a=ma:=⟨_,rfl⟩
 rw [hma] at hq1 hb3
 have hwma:IntKind.i64.wrap (ma:Int)=ma:=IntWalk.i64_in _ rJ
 clear hq2
 go_wp2
 go_loopw [14,15] (fun i j wr=>∃ (p q:Nat),i=.int .i64 p∧j=.int .i64 q∧a≤p∧p≤q∧q≤m∧Hid (Srt.bs (fun h=>!decide (Srt.kAt key xs m < Srt.kAt key xs h)) p q=Srt.bs (fun h=>!decide (Srt.kAt key xs m < Srt.kAt key xs h)) a m)∧Hid (Rep.kQ 3 Rep.int wr (.slice (some ⟨b,0,none⟩) n cap) xs S)∧Hid (Touch S w wr)) (fun i j _=>(intOf j).toNat - (intOf i).toNat)
 case atStart=>exact ⟨a,m,rfl,rfl,Nat.le_refl _,by omega,Nat.le_refl _,yD rfl,HO,HT0⟩
 obtain ⟨p,q,rfl,rfl,hmp,hpq,hqz,HB,HO2,HT2⟩:=hrel
 have hp0:=Int.natCast_nonneg p
 have hqZ:(q:Int)≤m:=rJ
 by_cases hlt:p < q
 · have hltI:(p:Int) < q:=rJ
   obtain ⟨h,hh⟩:∃ h,(p + q) / 2=h:=⟨_,rfl⟩
   have hhI:((p:Int) + (q:Int)) / 2=(h:Int):=rJ
   have hph:p≤h:=rJ
   have hhq:h < q:=rJ
   have hh0:=Int.natCast_nonneg h
   have HY:=yD (fun e=>(kOb (p:=(fun h=>!decide (Srt.kAt key xs m < Srt.kAt key xs h))) hlt hh e).symm.trans HB.out)
   have HNO:=yD (fun e=>(bs_no (p:=(fun h=>!decide (Srt.kAt key xs m < Srt.kAt key xs h))) hlt hh e).symm.trans HB.out)
   have hl:h < xs.length:=pK
   have ml:m < xs.length:=pK
   have hhN:(h:Int) < n:=rJ
   have hmN:(m:Int) < n:=rJ
   have HK:Hid ((fun h=>!decide (Srt.kAt key xs m < Srt.kAt key xs h)) h=!decide (key (xs[m]'ml) < key (xs[h]'hl))):=yD (by rw [← Srt.yu (key:=key) ml,← Srt.yu (key:=key) hl])
   obtain ⟨pc0,pr,pA0⟩:=Rep.at1 HO2.out.kBj ml rfl
   obtain ⟨phe,prg⟩:=Rep.jX pr
   obtain rfl:pc0=_:=by simpa using phe
   clear phe prg
   obtain ⟨qc0,qr,qA0⟩:=Rep.at1 HO2.out.kBj hl rfl
   obtain ⟨qhe,qrg⟩:=Rep.jX qr
   obtain rfl:qc0=_:=by simpa using qhe
   clear qhe qrg
   generalize xs[m]=x at *
   generalize xs[h]=y at *
   go_upto_region 17 with fail
   have FX:=yD (fun (W:World) (hW:Below wr.heap.size wr W)=>kIl hW pA0 qA0)
   refine kV (fun W=>Below wr.heap.size wr W) [true,true,true,true,true,true,true,true,true,false,true,true] rA rA gI (bR.drew) ?_
   intro wS HS
   iterate 9
    all_goals refine wkR ?_
   all_goals first|(refine kL rfl HS ?_)|(refine jE rfl (fun K hK=>?_);go_simp;refine (HCL.out _ (HT2.out.trans (Touch.of_below HS)) _ _ _ _ (Rep.raw.below pr HS) (Rep.raw.below qr HS)).mono ?_;rintro e wS1 ⟨kk,rfl,hkk,hbS⟩;replace HS:=(tQ HS hbS);refine hK _ _ HS ?_;clear hK K hbS)
   all_goals refine wkP ?_
   all_goals refine wkR ?_
   all_goals (have hg11:=True.intro;first|(refine wkG (fun b hg11=>?_);cases b;all_goals first | exact Bool.noConfusion hg11 | simp only [zU,zV] at hg11 | skip) | refine wkR ?_)
   all_goals refine wkP ?_
   all_goals refine ko ?_
   all_goals have HTX:=yD (HT2.out.trans (Touch.of_below HS))
   all_goals have HOX:=yD (HO2.out.below HS)
   all_goals first
     | (have HV:=yD (show _=true from HK.out.trans gB);have HB2:=yD (HY.out HV.out);clear HY HNO HK HV hkk hg11;go_wp2;go_roundw;(case rel=>exact ⟨h + 1,q,by go_num,rfl,by omega,by omega,by omega,HB2,HOX,HTX⟩);(case measure=>simp [intOf];omega))
     | (have HV:=yD (show _=false from HK.out.trans gB);have HB2:=yD (HNO.out HV.out);clear HY HNO HK HV hkk hg11;go_wp2;go_roundw;(case rel=>exact ⟨p,h,rfl,rfl,by omega,by omega,by omega,HB2,HOX,HTX⟩);(case measure=>simp [intOf];omega))
 obtain rfl:q=p:=rJ
 have hpN:¬ (q:Int) < q:=rJ
 have HE:=yD ((kOc (p:=(fun h=>!decide (Srt.kAt key xs m < Srt.kAt key xs h))) (i:=q) (j:=q) rJ).symm.trans HB.out)
 have HFU:Hid (Srt.symm key (f + 1) a m z xs=Srt.down q m xs):=yD (by rw [HF.out,← HE.out])
 go_wp2
 go_loopw [17] (fun i wr=>∃ (k:Nat) (cu:List Int),i=.int .i64 k∧q≤k∧k≤m∧Hid (Srt.down q k cu=Srt.down q m xs)∧Hid (cu.length=n)∧Hid (Rep.kQ 3 Rep.int wr (.slice (some ⟨b,0,none⟩) n cap) cu S)∧Hid (Touch S w wr)) (fun i _=>(intOf i).toNat)
 case atStart=>exact ⟨m,xs,rfl,by omega,Nat.le_refl _,yD rfl,yD HN0.out.symm,HO2,HT2⟩
 obtain ⟨k,cu,rfl,hak,hkt,HG,HL,HO3,HT3⟩:=hrel
 have hk0:=Int.natCast_nonneg k
 by_cases hlt:q < k
 · have hltI:(q:Int) < k:=rJ
   have hltD:decide ((k:Int) > q)=true:=rC
   obtain ⟨j,hj⟩:∃ j,j + 1=k:=⟨k - 1,by omega⟩
   have HSW:=yD ((kVo (cu:=cu) hj hlt).symm.trans HG.out)
   have hjI:(k:Int) - 1=(j:Int):=rJ
   have hwj:IntKind.i64.wrap (j:Int)=j:=IntWalk.i64_in _ rJ
   have hj0:=Int.natCast_nonneg j
   have hkl:k < cu.length:=pX
   have hjl:j < cu.length:=rJ
   have hjN:(j:Int) < n:=rJ
   have hkN:(k:Int) < n:=rJ
   obtain ⟨pc0,pr,pA0⟩:=Rep.at1 HO3.out.kBj hkl rfl
   obtain ⟨phe,prg⟩:=Rep.jX pr
   obtain rfl:pc0=_:=by simpa using phe
   clear phe prg
   obtain ⟨qc0,qr,qA0⟩:=Rep.at1 HO3.out.kBj hjl rfl
   obtain ⟨qhe,qrg⟩:=Rep.jX qr
   obtain rfl:qc0=_:=by simpa using qhe
   clear qhe qrg
   generalize cu[k]=x at *
   generalize cu[j]=y at *
   go_upto_region 23 with fail
   have FX:=yD (fun (W:World) (hW:Below wr.heap.size wr W)=>kIl hW pA0 qA0)
   refine yL (fun W=>Below wr.heap.size wr W) [2,3,4] [(0,true),(1,true),(5,true),(6,true),(7,true),(8,true),(9,true),(10,true),(11,true),(12,true),(13,true),(14,true)] rA rA gI (bR.drew) ?_
   intro wS HS
   simp only [jO,kBg,List.length_cons,List.length_nil,List.getElem?_cons_succ,List.getElem?_cons_zero,List.map_cons,List.map_nil,List.cons_append,List.nil_append,List.drop_succ_cons,List.drop_zero,Nat.reduceAdd,Nat.zero_add]
   iterate 3
    refine kDk (v:=?_) rfl (fun W=>?_) ?_;rotate_left;(· go_simp;try with_reducible rfl)
    refine wkP ?_
   refine pre_nil ?_
   iterate 12
    refine wkR ?_
   refine yF ?_
   have HTX:=yD (HT3.out.trans (Touch.of_below HS))
   replace HO3:=yD (HO3.out.below HS)
   replace pA0:=cL HS pA0
   replace qA0:=cL HS qA0
   have BK:=Rep.kBl HO3.out hkl
   have EQi:k * Rep.int.n=k:=Nat.mul_one _
   have EQj:j * Rep.int.n=j:=Nat.mul_one _
   have THi:wS.there b (k) 1:=dN
   have THj:wS.there b (j) 1:=dO
   have hci:∀ q u,([.int .i64 x]:List Value)[q]?=some u→wS.cell? ⟨b,k * Rep.int.n + q,none⟩=some u:=nE
   have hcj:∀ q u,([.int .i64 y]:List Value)[q]?=some u→wS.cell? ⟨b,j * Rep.int.n + q,none⟩=some u:=nG
   obtain ⟨s1,s2⟩:=Rep.kCi (ci:=[.int .i64 x]) (cj:=[.int .i64 y]) HO3.out hkl hjl rJ rfl rfl hci hcj (pi:=k) (pj:=j) EQi.symm EQj.symm
   have HO6:=yD s1;have HT6:=yD s2;clear s1 s2 hci hcj EQi EQj
   have hsz:(Tryz.prog.info? 3).map (·.size)=some 1:=dF
   have honei:∀ c∈([.int .i64 x]:List Value),c.oneCell'=true:=bP
   have honej:∀ c∈([.int .i64 y]:List Value),c.oneCell'=true:=bP
   refine jr rfl 3 _ _ rfl b (k) (.int .i64 y) [.int .i64 y] rfl rO rO THi hsz honej ?_
   intro w5 hw5
   have THj5:w5.there b (j) 1:=nC
   have HW5:=yD hw5;clear hw5
   go_wp2_with (refine jr rfl 3 _ _ rfl b (j) (.int .i64 x) [.int .i64 x] rfl rO rO THj5 hsz honei ?_)
   rw [← HW5.out] at HO6 HT6
   generalize hw6:Rep.setCells w5 b (j) [.int .i64 x]=w6 at *
   clear HW5 hw6 THi THj THj5 hsz honei honej
   have HT7:=yD (HTX.out.trans (kCd HT6.out BK.1))
   have HL7:Hid ((Srt.sw cu k j).length=n):=yD nO
   go_roundw
   case rel=>exact ⟨j,Srt.sw cu k j,rfl,by omega,by omega,HSW,HL7,HO6,HT7⟩
   simp [intOf];omega
 have HE2:=yD (HFU.out.trans ((HG.out).symm.trans (down_end (cu:=cu) hlt)))
 have hkN2:¬ (q:Int) < k:=rJ
 have hkD:decide ((k:Int) > q)=false:=rC
 go_wp2
 first | go_end0|((try simp only [Exit.inBlock,Exit.then]);refine bodyPost_ret (results_none rfl _ _ _) rfl ?_)
 exact ⟨rfl,HO3.out.cast HE2.out.symm,HT3.out⟩
theorem symmC_int_c {b n cap:Nat} {S:Nat→Prop} {g:FuncId} {cp:Array Value} (key:Int→Int) (hg:jB Tryz.prog g) (f:Nat) (ih:(∀ {w:World} {a m z:Nat} {xs:List Int} (hcl:kCz key g cp S w) (h:Rep.kQ 3 Rep.int w (.slice (some ⟨b,0,none⟩) n cap) xs S) (hn:n=xs.length) (hlen:xs.length≤16777216) (ham:a < m) (hmz:m < z) (hz:z≤xs.length) (hf:z - a≤f),Calls Tryz.prog 237 #[.slice (some ⟨b,0,none⟩) n cap,.int .i64 (a:Nat),.int .i64 (m:Nat),.int .i64 (z:Nat),.func (.func g) #[] cp] w fun e w'=>e=.returned (.tuple #[])∧Rep.kQ 3 Rep.int w' (.slice (some ⟨b,0,none⟩) n cap) (Srt.symm key f a m z xs) S∧Touch S w w')) {w:World} {a m z:Nat} {xs:List Int} (hcl:kCz key g cp S w) (h:Rep.kQ 3 Rep.int w (.slice (some ⟨b,0,none⟩) n cap) xs S) (hn:n=xs.length) (hlen:xs.length≤16777216) (ham:a < m) (hmz:m < z) (hz:z≤xs.length) (hf:z - a≤f + 1) (c1:¬ m - a=1) (c2:¬ z - m=1) :
    Calls Tryz.prog 237 #[.slice (some ⟨b,0,none⟩) n cap,.int .i64 (a:Nat),.int .i64 (m:Nat),.int .i64 (z:Nat),.func (.func g) #[] cp] w fun e w'=>e=.returned (.tuple #[])∧Rep.kQ 3 Rep.int w' (.slice (some ⟨b,0,none⟩) n cap) (Srt.symm key (f + 1) a m z xs) S∧Touch S w w':=by
 have HCL:=yD hcl
 have HIH:=yD (fun (w:World) (a m z:Nat) (xs:List Int)=>ih (w:=w) (a:=a) (m:=m) (z:=z) (xs:=xs));clear ih
 unfold jB at hg
 have HO:=yD h
 have HN0:=yD hn
 have HT0:Hid (Touch S w w):=yD (Touch.refl _ _)
 clear h hcl
 have hzB:z≤16777216:=rJ
 have hzn:z≤n:=rJ
 have hnB:n≤16777216:=rJ
 have HZL:=yD hz
 clear hlen hz hn
 have ha0:=Int.natCast_nonneg a
 have haM:(a:Int) < m:=rJ
 have hMZ:(m:Int) < z:=rJ
 have hZB:(z:Int)≤16777216:=rJ
 have hZN:(z:Int)≤n:=rJ
 have hq1:(m:Int) - (a:Int)=((m - a:Nat):Int):=rJ
 have hq2:(z:Int) - (m:Int)=((z - m:Nat):Int):=rJ
 go_enter Tryz.func237,Tryz.ntmps237
 obtain ⟨mid,hmid⟩:∃ mid,(a + z) / 2=mid:=⟨_,rfl⟩
 have hmidI:((a:Int) + (z:Int)) / 2=(mid:Int):=rJ
 obtain ⟨N,hN⟩:∃ N,mid + m=N:=⟨_,rfl⟩
 have hNI:(mid:Int) + (m:Int)=(N:Int):=rJ
 have hb2:¬ (m:Int) - (a:Int)=1:=rJ
 have hb3:(((m - a:Nat):Int)==1)=false:=rC
 have hb4:¬ (z:Int) - (m:Int)=1:=rJ
 have hb5:(((z - m:Nat):Int)==1)=false:=rC
 have hma1:m - a≤16777216:=rJ
 have hzm1:z - m≤16777216:=rJ
 obtain ⟨ma,hma⟩:∃ ma,m - a=ma:=⟨_,rfl⟩
 rw [hma] at hq1 hb3
 obtain ⟨zm,hzm⟩:∃ zm,z - m=zm:=⟨_,rfl⟩
 rw [hzm] at hq2 hb5
 have hwma:IntKind.i64.wrap (ma:Int)=ma:=IntWalk.i64_in _ rJ
 have hwzm:IntKind.i64.wrap (zm:Int)=zm:=IntWalk.i64_in _ rJ
 have hwN:IntKind.i64.wrap (N:Int)=N:=IntWalk.i64_in _ rJ
 have hmid0:=Int.natCast_nonneg mid
 have hN0:=Int.natCast_nonneg N
 have hNB:(N:Int)≤33554432:=rJ
 have hamid:a < mid:=rJ
 have hmidz:mid < z:=rJ
 obtain ⟨lo,hlo⟩:∃ lo,lo=(if mid < m then N - z else a):=⟨_,rfl⟩
 obtain ⟨hi,hhi⟩:∃ hi,hi=(if mid < m then mid else m):=⟨_,rfl⟩
 have hlohi:lo≤hi:=by rw [hlo,hhi];split <;> omega
 have hloa:a≤lo:=nS
 have him:hi≤m:=nP
 have himid:hi≤mid:=nP
 have hloz:N≤z + lo:=nS
 have hhiN:m + hi≤N:=nP
 have HLO:=yD hlo;have HHI:=yD hhi;clear hlo hhi
 skip
 go_upto_if 140 with fail
 go_cut [20,21] from 138 to 140 (fun s20 s21 wc=>s20=.int .i64 (lo:Nat)∧s21=.int .i64 (hi:Nat)∧Hid (Rep.kQ 3 Rep.int wc (.slice (some ⟨b,0,none⟩) n cap) xs S)∧Hid (Touch S w wc))
 case first =>
  by_cases hmm:mid < m
  · have hmI:(mid:Int) < m:=rJ
    have hmD:decide ((m:Int) > mid)=true:=rC
    have e1:lo=N - z:=by rw [HLO.out,if_pos hmm]
    have e2:hi=mid:=by rw [HHI.out,if_pos hmm]
    have e3:(N:Int) - (z:Int)=(lo:Int):=rJ
    have e4:IntKind.i64.wrap (lo:Int)=lo:=IntWalk.i64_in _ rJ
    go_wp2
    go_meet
    exact ⟨by first | rfl | rw [e1],by first | rfl | rw [e2],HO,HT0⟩
  have hmI:¬ (mid:Int) < m:=rJ
  have hmD:decide ((m:Int) > mid)=false:=rC
  have e1:lo=a:=by rw [HLO.out,if_neg hmm]
  have e2:hi=m:=by rw [HHI.out,if_neg hmm]
  go_wp2
  go_meet
  exact ⟨by first | rfl | rw [e1],by first | rfl | rw [e2],HO,HT0⟩
 obtain ⟨rfl,rfl,HO1,HT1⟩:=hcut
 clear HO HT0
 obtain ⟨N1,hN1⟩:∃ N1,N - 1=N1:=⟨_,rfl⟩
 have hN1I:(N:Int) - 1=(N1:Int):=rJ
 have hwN1:IntKind.i64.wrap (N1:Int)=N1:=IntWalk.i64_in _ rJ
 have hN10:=Int.natCast_nonneg N1
 have hloI:=Int.natCast_nonneg lo
 have hhiM:(hi:Int)≤m:=rJ
 go_wp2
 go_loopw [20,21] (fun i j wr=>∃ (p q:Nat),i=.int .i64 p∧j=.int .i64 q∧lo≤p∧p≤q∧q≤hi∧Hid (Srt.bs (fun c=>!decide (Srt.kAt key xs (N - 1 - c) < Srt.kAt key xs c)) p q=Srt.bs (fun c=>!decide (Srt.kAt key xs (N - 1 - c) < Srt.kAt key xs c)) lo hi)∧Hid (Rep.kQ 3 Rep.int wr (.slice (some ⟨b,0,none⟩) n cap) xs S)∧Hid (Touch S w wr)) (fun i j _=>(intOf j).toNat - (intOf i).toNat)
 case atStart=>exact ⟨lo,hi,rfl,rfl,Nat.le_refl _,by omega,Nat.le_refl _,yD rfl,HO1,HT1⟩
 obtain ⟨p,q,rfl,rfl,hmp,hpq,hqz,HB,HO2,HT2⟩:=hrel
 have hp0:=Int.natCast_nonneg p
 have hqZ:(q:Int)≤hi:=rJ
 by_cases hlt:p < q
 · have hltI:(p:Int) < q:=rJ
   obtain ⟨h,hh⟩:∃ h,(p + q) / 2=h:=⟨_,rfl⟩
   have hhI:((p:Int) + (q:Int)) / 2=(h:Int):=rJ
   have hph:p≤h:=rJ
   have hhq:h < q:=rJ
   have hh0:=Int.natCast_nonneg h
   have HY:=yD (fun e=>(kOb (p:=(fun c=>!decide (Srt.kAt key xs (N - 1 - c) < Srt.kAt key xs c))) hlt hh e).symm.trans HB.out)
   have HNO:=yD (fun e=>(bs_no (p:=(fun c=>!decide (Srt.kAt key xs (N - 1 - c) < Srt.kAt key xs c))) hlt hh e).symm.trans HB.out)
   obtain ⟨u,hu⟩:∃ u,N - 1 - h=u:=⟨_,rfl⟩
   have ul:u < xs.length:=pK
   have hl:h < xs.length:=pK
   have hhN:(h:Int) < n:=rJ
   have huN:(u:Int) < n:=rJ
   have huI:(N1:Int) - (h:Int)=(u:Int):=rJ
   have hu0:=Int.natCast_nonneg u
   have hwu:IntKind.i64.wrap (u:Int)=u:=IntWalk.i64_in _ rJ
   have HK:Hid ((fun c=>!decide (Srt.kAt key xs (N - 1 - c) < Srt.kAt key xs c)) h=!decide (key (xs[u]'ul) < key (xs[h]'hl))):=yD (by rw [← Srt.yu (key:=key) ul,← Srt.yu (key:=key) hl];show (!decide (Srt.kAt key xs (N - 1 - h) < Srt.kAt key xs h))=_;rw [hu])
   obtain ⟨pc0,pr,pA0⟩:=Rep.at1 HO2.out.kBj ul rfl
   obtain ⟨phe,prg⟩:=Rep.jX pr
   obtain rfl:pc0=_:=by simpa using phe
   clear phe prg
   obtain ⟨qc0,qr,qA0⟩:=Rep.at1 HO2.out.kBj hl rfl
   obtain ⟨qhe,qrg⟩:=Rep.jX qr
   obtain rfl:qc0=_:=by simpa using qhe
   clear qhe qrg
   generalize xs[u]=x at *
   generalize xs[h]=y at *
   go_upto_region 35 with fail
   have FX:=yD (fun (W:World) (hW:Below wr.heap.size wr W)=>kIl hW pA0 qA0)
   refine kV (fun W=>Below wr.heap.size wr W) [true,true,true,true,true,true,true,true,true,true,true,false,true,true] rA rA gI (bR.drew) ?_
   intro wS HS
   iterate 11
    all_goals refine wkR ?_
   all_goals first|(refine kL rfl HS ?_)|(refine jE rfl (fun K hK=>?_);go_simp;refine (HCL.out _ (HT2.out.trans (Touch.of_below HS)) _ _ _ _ (Rep.raw.below pr HS) (Rep.raw.below qr HS)).mono ?_;rintro e wS1 ⟨kk,rfl,hkk,hbS⟩;replace HS:=(tQ HS hbS);refine hK _ _ HS ?_;clear hK K hbS)
   all_goals refine wkP ?_
   all_goals refine wkR ?_
   all_goals (have hg13:=True.intro;first|(refine wkG (fun b hg13=>?_);cases b;all_goals first | exact Bool.noConfusion hg13 | simp only [zU,zV] at hg13 | skip) | refine wkR ?_)
   all_goals refine wkP ?_
   all_goals refine ko ?_
   all_goals have HTX:=yD (HT2.out.trans (Touch.of_below HS))
   all_goals have HOX:=yD (HO2.out.below HS)
   all_goals first
     | (have HV:=yD (show _=true from HK.out.trans gD);have HB2:=yD (HY.out HV.out);clear HY HNO HK HV hkk hg13;go_wp2;go_roundw;(case rel=>exact ⟨h + 1,q,by go_num,rfl,by omega,by omega,by omega,HB2,HOX,HTX⟩);(case measure=>simp [intOf];omega))
     | (have HV:=yD (show _=false from HK.out.trans gD);have HB2:=yD (HNO.out HV.out);clear HY HNO HK HV hkk hg13;go_wp2;go_roundw;(case rel=>exact ⟨p,h,rfl,rfl,by omega,by omega,by omega,HB2,HOX,HTX⟩);(case measure=>simp [intOf];omega))
 obtain rfl:q=p:=rJ
 have hpN:¬ (q:Int) < q:=rJ
 have HE:=yD ((kOc (p:=(fun c=>!decide (Srt.kAt key xs (N - 1 - c) < Srt.kAt key xs c))) (i:=q) (j:=q) rJ).symm.trans HB.out)
 rw [HLO.out,HHI.out] at HE
 obtain ⟨e,he⟩:∃ e,N - q=e:=⟨_,rfl⟩
 have heI:(N:Int) - (q:Int)=(e:Int):=rJ
 have hwe:IntKind.i64.wrap (e:Int)=e:=IntWalk.i64_in _ rJ
 have hem:m≤e:=rJ
 have hez:e≤z:=rJ
 have hqm:q≤m:=rJ
 have haq:a≤q:=rJ
 have he0:=Int.natCast_nonneg e
 obtain ⟨y,hy⟩:∃ y,y=if q < m∧m < e then Srt.rot m (m - q) (e - m) xs else xs:=⟨_,rfl⟩
 obtain ⟨u,hu⟩:∃ u,u=if a < q∧q < mid then Srt.symm key f a q mid y else y:=⟨_,rfl⟩
 have HF:=yD (symm_C (key:=key) (f:=f) c1 c2 hmid hN HE.out he hy hu)
 have HLY:Hid (n=y.length):=yD (by rw [hy,HN0.out];split <;> first | rfl | exact (Srt.kKn _ _ _ _).symm)
 have HLU:Hid (n=u.length):=yD (by rw [hu];split <;> first | exact HLY.out|(rw [Srt.zY];exact HLY.out))
 have HY:=yD hy;have HU:=yD hu;clear hy hu HB HE HLO HHI hmid hN
 go_upto_region 39 with fail
 go_cut [185] from 178 to 185 (fun sb wc=>sb=.bool (decide (q < m) && decide (m < e))∧Hid (Rep.kQ 3 Rep.int wc (.slice (some ⟨b,0,none⟩) n cap) xs S)∧Hid (Touch S w wc))
 case first =>
  by_cases g1:q < m
  · have g1I:(q:Int) < m:=rJ
    by_cases g2:m < e
    · have g2I:(m:Int) < e:=rJ
      go_wp2
      go_meet
      exact ⟨by rw [decide_eq_true g1,decide_eq_true g2];rfl,HO2,HT2⟩
    have g2I:¬ (m:Int) < e:=rJ
    go_wp2
    go_meet
    exact ⟨by rw [decide_eq_true g1,decide_eq_false g2];rfl,HO2,HT2⟩
  have g1I:¬ (q:Int) < m:=rJ
  go_wp2
  go_meet
  exact ⟨by rw [decide_eq_false g1];rfl,HO2,HT2⟩
 obtain ⟨rfl,HO4,HT4⟩:=hcut
 have HCk:=yD (kAk HCL.out HT4.out)
 go_upto_if 185 with fail
 go_cut [] from 178 to 185 (fun wc=>Hid (Rep.kQ 3 Rep.int wc (.slice (some ⟨b,0,none⟩) n cap) y S)∧Hid (Touch S w wc))
 case first =>
  by_cases g:q < m∧m < e
  · have hb:(decide (q < m) && decide (m < e))=true:=dS
    simp only [hb]
    go_wp2_with fail
    refine (rot_int_c HO4.out HN0.out (by have:=HN0.out;omega) (a:=q) (m:=m) (z:=e) g.1 g.2 pK).mono ?_
    rintro e2 w2 ⟨rfl,O2,T2⟩
    have HOn:=yD O2;have HTn:=yD (HT4.out.trans T2);clear O2 T2
    try go_wp2
    go_meet
    exact ⟨yD (HOn.out.cast (by rw [HY.out,if_pos g])),HTn⟩
  have hb:(decide (q < m) && decide (m < e))=false:=by
   rcases Nat.lt_or_ge q m with q1 | q1
   · rw [decide_eq_true q1,decide_eq_false (fun q2=>g ⟨q1,q2⟩)];rfl
   rw [decide_eq_false rJ];rfl
  simp only [hb]
  go_wp2
  go_meet
  exact ⟨yD (HO4.out.cast (by rw [HY.out,if_neg g])),HT4⟩
 obtain ⟨HO5,HT5⟩:=hcut
 go_upto_region 41 with fail
 go_cut [199] from 192 to 199 (fun sb wc=>sb=.bool (decide (a < q) && decide (q < mid))∧Hid (Rep.kQ 3 Rep.int wc (.slice (some ⟨b,0,none⟩) n cap) y S)∧Hid (Touch S w wc))
 case first =>
  by_cases g1:a < q
  · have g1I:(a:Int) < q:=rJ
    by_cases g2:q < mid
    · have g2I:(q:Int) < mid:=rJ
      go_wp2
      go_meet
      exact ⟨by rw [decide_eq_true g1,decide_eq_true g2];rfl,HO5,HT5⟩
    have g2I:¬ (q:Int) < mid:=rJ
    go_wp2
    go_meet
    exact ⟨by rw [decide_eq_true g1,decide_eq_false g2];rfl,HO5,HT5⟩
  have g1I:¬ (a:Int) < q:=rJ
  go_wp2
  go_meet
  exact ⟨by rw [decide_eq_false g1];rfl,HO5,HT5⟩
 obtain ⟨rfl,HO6,HT6⟩:=hcut
 have HCk:=yD (kAk HCL.out HT6.out)
 go_upto_if 199 with fail
 go_cut [] from 192 to 199 (fun wc=>Hid (Rep.kQ 3 Rep.int wc (.slice (some ⟨b,0,none⟩) n cap) u S)∧Hid (Touch S w wc))
 case first =>
  by_cases g:a < q∧q < mid
  · have hb:(decide (a < q) && decide (q < mid))=true:=dS
    simp only [hb]
    go_wp2_with fail
    refine (HIH.out _ a q mid y HCk.out HO6.out HLY.out pU g.1 g.2 pU rJ).mono ?_
    rintro e2 w2 ⟨rfl,O2,T2⟩
    have HOn:=yD O2;have HTn:=yD (HT6.out.trans T2);clear O2 T2
    try go_wp2
    go_meet
    exact ⟨yD (HOn.out.cast (by rw [HU.out,if_pos g])),HTn⟩
  have hb:(decide (a < q) && decide (q < mid))=false:=by
   rcases Nat.lt_or_ge a q with q1 | q1
   · rw [decide_eq_true q1,decide_eq_false (fun q2=>g ⟨q1,q2⟩)];rfl
   rw [decide_eq_false rJ];rfl
  simp only [hb]
  go_wp2
  go_meet
  exact ⟨yD (HO6.out.cast (by rw [HU.out,if_neg g])),HT6⟩
 obtain ⟨HO7,HT7⟩:=hcut
 go_upto_region 43 with fail
 go_cut [213] from 206 to 213 (fun sb wc=>sb=.bool (decide (mid < e) && decide (e < z))∧Hid (Rep.kQ 3 Rep.int wc (.slice (some ⟨b,0,none⟩) n cap) u S)∧Hid (Touch S w wc))
 case first =>
  by_cases g1:mid < e
  · have g1I:(mid:Int) < e:=rJ
    by_cases g2:e < z
    · have g2I:(e:Int) < z:=rJ
      go_wp2
      go_meet
      exact ⟨by rw [decide_eq_true g1,decide_eq_true g2];rfl,HO7,HT7⟩
    have g2I:¬ (e:Int) < z:=rJ
    go_wp2
    go_meet
    exact ⟨by rw [decide_eq_true g1,decide_eq_false g2];rfl,HO7,HT7⟩
  have g1I:¬ (mid:Int) < e:=rJ
  go_wp2
  go_meet
  exact ⟨by rw [decide_eq_false g1];rfl,HO7,HT7⟩
 obtain ⟨rfl,HO8,HT8⟩:=hcut
 have HCk:=yD (kAk HCL.out HT8.out)
 by_cases g:mid < e∧e < z
 · have hb:(decide (mid < e) && decide (e < z))=true:=dS
   simp only [hb]
   go_wp2_with fail
   refine (HIH.out _ mid e z u HCk.out HO8.out HLU.out pV g.1 g.2 pV rJ).mono ?_
   rintro e2 w2 ⟨rfl,O2,T2⟩
   have HOn:=yD O2;have HTn:=yD (HT8.out.trans T2);clear O2 T2
   go_wp2
   first | go_end0|((try simp only [Exit.inBlock,Exit.then]);refine bodyPost_ret (results_none rfl _ _ _) rfl ?_)
   exact ⟨rfl,HOn.out.cast (by rw [HF.out,if_pos g]),HTn.out⟩
 have hb:(decide (mid < e) && decide (e < z))=false:=by
  rcases Nat.lt_or_ge mid e with q1 | q1
  · rw [decide_eq_true q1,decide_eq_false (fun q2=>g ⟨q1,q2⟩)];rfl
  rw [decide_eq_false rJ];rfl
 simp only [hb]
 go_wp2
 first | go_end0|((try simp only [Exit.inBlock,Exit.then]);refine bodyPost_ret (results_none rfl _ _ _) rfl ?_)
 exact ⟨rfl,HO8.out.cast (by rw [HF.out,if_neg g]),HT8.out⟩
theorem kQy {b n cap:Nat} {S:Nat→Prop} {g:FuncId} {cp:Array Value} (key:Int→Int) (hg:jB Tryz.prog g):∀ (f:Nat),(∀ {w:World} {a m z:Nat} {xs:List Int} (hcl:kCz key g cp S w) (h:Rep.kQ 3 Rep.int w (.slice (some ⟨b,0,none⟩) n cap) xs S) (hn:n=xs.length) (hlen:xs.length≤16777216) (ham:a < m) (hmz:m < z) (hz:z≤xs.length) (hf:z - a≤f),Calls Tryz.prog 237 #[.slice (some ⟨b,0,none⟩) n cap,.int .i64 (a:Nat),.int .i64 (m:Nat),.int .i64 (z:Nat),.func (.func g) #[] cp] w fun e w'=>e=.returned (.tuple #[])∧Rep.kQ 3 Rep.int w' (.slice (some ⟨b,0,none⟩) n cap) (Srt.symm key f a m z xs) S∧Touch S w w'):=by
 intro f
 induction f with
 | zero=>intro w a m z xs hcl h hn hlen ham hmz hz hf;omega
 | succ f ih =>
   intro w a m z xs hcl h hn hlen ham hmz hz hf
   by_cases c1:m - a=1
   · exact symmA_int_c key hg f hcl h hn hlen ham hmz hz hf c1
   · by_cases c2:z - m=1
     · exact symmB_int_c key hg f hcl h hn hlen ham hmz hz hf c1 c2
     · exact symmC_int_c key hg f ih hcl h hn hlen ham hmz hz hf c1 c2
end Go.Proofs.YtomdenfcfbkfbaaGreat

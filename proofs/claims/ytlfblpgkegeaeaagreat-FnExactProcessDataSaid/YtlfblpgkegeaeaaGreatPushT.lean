/-
  A measurement found.
  Measurements.
  A success recorded.
  append(s, t...) over flat data, with what stays of the other memory; slices of one or more numbers just laid. No program in sight.
-/
import Derived.Test.YtlfblpgkegeaeaaGreatVData
set_option linter.unusedVariables false
set_option linter.unusedSimpArgs false
set_option linter.unnecessarySimpa false
set_option maxRecDepth 100000
set_option maxHeartbeats 4000000
namespace Go.Proofs.YtlfblpgkegeaeaaGreat
open Go.RowKit
def kAs (n:kW) (f:Int) (m:kZ):Bool:=(m.2.1==f) && eqN m.1 n
theorem kTh {w:World} {vl:Value} {l:(List kZ)} (hl:(Rep.slice 184 kF).raw w [vl] l) {cn:List Value} {n:kW} (hn:kL.raw w cn n) {f:Int} :
    Calls Tryz.prog 134 #[vl,.agg cn.toArray,.int .i64 f] w fun e w'=>e=.returned (.int .i64 (idxOf (kAs n f) l))∧Below w.heap.size w w':=by
 obtain ⟨al,pl,rfl,ll⟩:=Rep.sl hl
 have Hn:=yD hn
 obtain ⟨fnv0,rfl,fn_0⟩:=kM hn
 obtain ⟨fna0,fnp0,rfl,fnl0⟩:=Rep.sl fn_0
 go_enter Tryz.func134,Tryz.ntmps134
 go_wp2
 generalize hwB:World.alloc w _=wB
 have EB:Below w.heap.size w wB:=by rw [← hwB];exact bH
 have K4_0:wB.cell? ⟨w.heap.size,0,none⟩=some (.slice fna0 (n).length fnp0):=nV
 clear hwB
 replace hl:=hl.below EB
 go_loopw [7] (fun i wr=>∃ k:Nat,k≤l.length∧i=.int .i64 k∧Hid (∀ j,(h:j < k)→(h2:j < l.length)→(kAs n f) l[j]=false)∧Below wB.heap.size wB wr) (fun i _=>l.length - (intOf i).toNat)
 case atStart=>exact ⟨0,Nat.zero_le _,rfl,yD (fun _ h=>by omega),bR⟩
 obtain ⟨k,hk,rfl,HN,hbel⟩:=hrel
 replace K4_0:=cL hbel K4_0
 by_cases hlt:k < l.length
 · obtain ⟨qb,qo,rfl,qc0,qc1,qc2,qr,Aq0,Aq1,Aq2⟩:=Rep.kBg (hl.below hbel) (i:=k) rP rfl
   have hhit:=fun q=>idxOf_hit hlt q HN.out
   have hmis:=fun q=>kAk hlt q HN.out
   generalize l[k]=x at *
   have HD:=yD hhit;have HX:=yD hmis;clear hhit hmis
   obtain ⟨x0,x1,x2⟩:=x
   obtain ⟨qv0,qhe,q_0,q_1,q_2,q_3⟩:=jX qr
   simp only [List.cons.injEq,and_true] at qhe
   obtain ⟨rfl,rfl,rfl⟩:=qhe
   obtain ⟨qa0,qp0,rfl,ql0⟩:=Rep.sl q_1
   go_upto_region 4 with fail
   have FX:=yD (fun (W:World) (hW:Below wr.heap.size wr W)=>cLs4 hW K4_0 Aq0 Aq1 Aq2)
   refine jB (fun W=>Below wr.heap.size wr W) [true,true,true,true,true,true,true,true,true,true,true,true,true,true,false,true] rF rF gX (bR.drew) ?_
   intro wS HS
   iterate 7
    all_goals refine wkR ?_
   all_goals (have hg7:=True.intro;first|(refine wkG (fun b hg7=>?_);cases b;all_goals first | exact Bool.noConfusion hg7 | simp only [zU,zV] at hg7 | skip) | refine wkR ?_)
   all_goals refine wkP ?_
   iterate 6
    all_goals refine wkR ?_
   all_goals first | refine wkB (zD (Rep.raw.below q_0 HS) (Rep.raw.below Hn.out ((tQ EB (tQ hbel HS))))) (fun wS1 HS=>?_) | refine wkR ?_
   all_goals (have hg15:=True.intro;first|(refine wkG (fun b hg15=>?_);cases b;all_goals first | exact Bool.noConfusion hg15 | simp only [zU,zV] at hg15 | skip) | refine wkR ?_)
   all_goals refine wkP ?_
   all_goals refine jA ?_
   all_goals have EG:=(tQ hbel HS)
   all_goals first
     | (have HT:=yD (HD.out (show _=true by simp only [kAs,Bool.not_true,Bool.not_false,Bool.and_true,Bool.true_and,Bool.and_false,Bool.false_and,Bool.or_true,Bool.true_or,Bool.or_false,Bool.false_or,Bool.not_not,hg7,hg15]));clear HD HX;go_wp2;go_ret;exact ⟨ku HT.out.symm,(tQ EB EG)⟩)
     | (have HT:=yD (HX.out (show _=false by simp only [kAs,Bool.not_true,Bool.not_false,Bool.and_true,Bool.true_and,Bool.and_false,Bool.false_and,Bool.or_true,Bool.true_or,Bool.or_false,Bool.false_or,Bool.not_not,hg7,hg15]));clear HD HX;go_wp2;go_roundw;(case rel=>exact ⟨k + 1,by omega,by go_num,HT,EG⟩);(case measure=>simp [intOf];omega))
 have HT:=yD (idxOf_miss hlt HN.out)
 go_wp2
 go_ret
 exact ⟨ku HT.out.symm,(tQ EB hbel)⟩
theorem kMa {w:World} {cm:List Value} {m:kZ} (hm:kF.raw w cm m) {f:Int} {Bf:Nat} (Af0:w.cell? ⟨Bf,0,none⟩=some (.int .i64 f)) {n:kW} {nc0:Value} {Bn:Nat} (nr:kL.raw w [nc0] n) (An0:w.cell? ⟨Bn,0,none⟩=some nc0) :
    Calls Tryz.prog 195 (#[.agg cm.toArray]++#[.pointer (some ⟨Bf,0,none⟩),.pointer (some ⟨Bn,0,none⟩)]) w fun e w'=>e=.returned (.bool (kAs n f m))∧Below w.heap.size w w':=by
 have Hm:=yD hm
 obtain ⟨fmv0,rfl,fm_0,fm_1,fm_2,fm_3⟩:=jX hm
 obtain ⟨fma0,fmp0,rfl,fml0⟩:=Rep.sl fm_1
 obtain ⟨nv0,nhe,n_0⟩:=kM nr
 simp only [List.cons.injEq,and_true] at nhe
 obtain rfl:=nhe
 obtain ⟨na0,np0,rfl,nl0⟩:=Rep.sl n_0
 show Calls Tryz.prog 195 #[_,_,_] w _
 go_enter Tryz.func195,Tryz.ntmps195
 go_upto_region 1 with fail
 generalize hwB:World.alloc w _=wB
 have EB:Below w.heap.size w wB:=by rw [← hwB];exact bH
 have K3_0:wB.cell? ⟨w.heap.size,0,none⟩=some (.slice fma0 (m.1).length fmp0):=nV
 have K3_1:wB.cell? ⟨w.heap.size,1,none⟩=some (.int .i64 m.2.1):=nV
 have K3_2:wB.cell? ⟨w.heap.size,2,none⟩=some (.int .i64 m.2.2):=nV
 clear hwB
 replace Af0:=cL EB Af0
 replace An0:=cL EB An0
 have FX:=yD (fun (W:World) (hW:Below wB.heap.size wB W)=>kMn hW K3_0 K3_1 K3_2 Af0 An0)
 refine jE (fun W=>Below wB.heap.size wB W) [true,true,true,true,true,true,true,true,false,true,true] bR ?_
 intro wS HS
 iterate 4
  all_goals refine wkR ?_
 all_goals (have hg4:=True.intro;first|(refine wkG (fun b hg4=>?_);cases b;all_goals first | exact Bool.noConfusion hg4 | simp only [zU,zV] at hg4 | skip) | refine wkR ?_)
 all_goals refine wkP ?_
 iterate 3
  all_goals refine wkR ?_
 all_goals first | refine wkB (zq (Rep.raw.below fm_0 (tQ EB HS)) (Rep.raw.below nr (tQ EB HS))) (fun wS1 HS=>?_) | refine wkR ?_
 all_goals refine wkR ?_
 all_goals (have hg10:=True.intro;first|(refine wkG (fun b hg10=>?_);cases b;all_goals first | exact Bool.noConfusion hg10 | simp only [zU,zV] at hg10 | skip) | refine wkR ?_)
 all_goals refine wkP ?_
 all_goals refine jA ?_
 all_goals have EG:=(tQ EB HS)
 all_goals first
   | (have HT:=yD (show (kAs n f m)=false by simp only [kAs,Bool.not_true,Bool.not_false,Bool.and_true,Bool.true_and,Bool.and_false,Bool.false_and,Bool.or_true,Bool.true_or,Bool.or_false,Bool.false_or,Bool.not_not,hg4,hg10]);go_wp2;go_ret;exact ⟨kG HT.out.symm,EG⟩)
   | (have HT:=yD (show (kAs n f m)=true by simp only [kAs,Bool.not_true,Bool.not_false,Bool.and_true,Bool.true_and,Bool.and_false,Bool.false_and,Bool.or_true,Bool.true_or,Bool.or_false,Bool.false_or,Bool.not_not,hg4,hg10]);go_wp2;go_ret;exact ⟨kG HT.out.symm,EG⟩)
theorem kFj:jm Tryz.prog 195:=kAn Tryz.func195 rF rF
theorem kNr {w:World} {vl:Value} {l:(List kZ)} (hl:(Rep.slice 184 kF).raw w [vl] l) {cn:List Value} {n:kW} (hn:kL.raw w cn n) {f:Int} :
    Calls Tryz.prog 151 #[vl,.agg cn.toArray,.int .i64 f] w fun e w'=>e=.returned (.int .i64 (idxOf (kAs n f) l))∧Below w.heap.size w w':=by
 obtain ⟨al,pl,rfl,ll⟩:=Rep.sl hl
 have Hn:=yD hn
 obtain ⟨fnv0,rfl,fn_0⟩:=kM hn
 obtain ⟨fna0,fnp0,rfl,fnl0⟩:=Rep.sl fn_0
 go_enter Tryz.func151,Tryz.ntmps151
 go_upto_region 1 with fail
 generalize hwB:World.alloc (World.alloc w _) _=wB
 have EB:Below w.heap.size w wB:=by rw [← hwB];exact bH
 have K4_0:wB.cell? ⟨w.heap.size,0,none⟩=some (.slice fna0 (n).length fnp0):=nV
 have K5_0:wB.cell? ⟨w.heap.size + 1,0,none⟩=some (.int .i64 f):=nV
 clear hwB
 go_wp2_with fail
 refine (kGr (kAs n f) kFj (Rep.raw.below hl EB) ?_).mono ?_
 · intro wr hb i h cs hr
   exact kMa hr (cL hb K5_0) (Rep.raw.below Hn.out (tQ EB hb)) (cL hb K4_0)
 rintro e w1 ⟨rfl,hb1⟩
 have EG:Below w.heap.size w w1:=(tQ EB hb1)
 clear hb1
 go_wp2
 go_ret
 exact ⟨rfl,EG⟩
theorem kVa {α:Type} {p:α→Bool} {x:List α} (h:¬ idxOf p x < 0):∃ k:Nat,k < x.length∧idxOf p x=k:=by
 unfold idxOf at *
 cases e:x.findIdx? p with
 | none=>rw [e] at h;simp at h
 | some i=>exact ⟨i,(List.findIdx?_eq_some_iff_getElem.1 e).1,rfl⟩
def kJl (n:kW) (f:Int) (l:List kZ):List kZ :=
  if idxOf (kAs n f) l < 0 then l
  else if (l.getD (idxOf (kAs n f) l).toNat ([],0,0)).2.2 < 2 then l.take (idxOf (kAs n f) l).toNat++l.drop ((idxOf (kAs n f) l).toNat + 1)
  else l.set (idxOf (kAs n f) l).toNat (yH (l.getD (idxOf (kAs n f) l).toNat ([],0,0)) ((l.getD (idxOf (kAs n f) l).toNat ([],0,0)).2.2 / 2))
theorem kUr {n:kW} {f:Int} {l:List kZ} (h:idxOf (kAs n f) l < 0):kJl n f l=l:=by unfold kJl;rw [if_pos h]
theorem recS_cut {n:kW} {f:Int} {l:List kZ} {k:Nat} (h:idxOf (kAs n f) l=k) (hk:k < l.length) (h2:l[k].2.2 < 2):kJl n f l=l.take k++l.drop (k + 1):=by
 unfold kJl
 simp only [h,Int.toNat_natCast,jr hk]
 rw [if_neg rP,if_pos h2]
theorem kUs {n:kW} {f:Int} {l:List kZ} {k:Nat} (h:idxOf (kAs n f) l=k) (hk:k < l.length) (h2:¬ l[k].2.2 < 2):kJl n f l=l.set k (yH l[k] (l[k].2.2 / 2)):=by
 unfold kJl
 simp only [h,Int.toNat_natCast,jr hk]
 rw [if_neg rP,if_neg h2]
theorem kEn {w:World} {vl:Value} {l:List kZ} (hl:(Rep.slice 184 kF).rd w [vl] l) {cn:List Value} {n:kW} (hn:kL.rd w cn n) {f:Int} (hf:-9223372036854775808≤f∧f≤9223372036854775807) :
    Calls Tryz.prog 69 #[vl,.agg cn.toArray,.int .i64 f] w (zH (Rep.slice 184 kF) (kJl n f l) w):=by
 have HL:=yD hl
 have HN:=yD hn
 have hlb:l.length≤16777216:=hl.2.1
 obtain ⟨nv,rfl,n_0⟩:=kM hn.1
 obtain ⟨na,np,rfl,_⟩:=Rep.sl n_0
 clear n_0 hl hn hf
 go_enter Tryz.func69,Tryz.ntmps69
 go_wp2_with fail
 generalize hwB:World.alloc w _=wB
 have EB:Below w.heap.size w wB:=nI
 have K0:wB.cell? ⟨w.heap.size,0,none⟩=some (.slice na n.length np):=nV
 have hzB:wB.heap.size=w.heap.size + 1:=qK
 clear hwB
 refine (kKb (HL.out.below EB)).mono ?_
 rintro e w1 ⟨v1,rfl,O1,hb1⟩
 replace K0:=cL hb1 K0
 have E1:=(tQ EB hb1)
 have HO:=yD O1
 obtain ⟨oa,on,oc,ho,HON⟩:=O1.parts;obtain rfl:=ho
 clear O1 hb1
 go_wp2_with fail
 refine (kTh (HL.out.1.below E1) (HN.out.1.below E1)).mono ?_
 rintro e w2 ⟨rfl,hb2⟩
 have E2:=(tQ E1 hb2)
 have hz1:=E1.size
 have hz2:=hb2.size
 replace HO:=yD ((HO.out.below hb2).wide (T:=Btw w.heap.size w2.heap.size) fG)
 clear hb2 E1 EB
 by_cases hk:idxOf (kAs n f) l < 0
 · have HT:=yD (kUr hk)
   go_wp2
   go_ret
   exact ⟨_,rfl,(HO.out.cast HT.out.symm).own (by rw [HT.out];unfold Big;omega),E2⟩
 obtain ⟨k,hkl,hki⟩:=kVa hk
 have HKI:=yD hki
 rw [hki]
 clear hk hki
 obtain ⟨b,cap,hv,hgap⟩:=Rep.kDz HO.out hkl
 simp only [Value.slice.injEq] at hv
 obtain ⟨rfl,hon,rfl⟩:=hv
 have hkon:k < on:=rP
 rw [List.drop_eq_getElem_cons hkl] at hgap
 have hcap:=hgap.len
 simp only [List.length_take,List.length_cons,List.length_drop] at hcap
 have hcap2:on≤oc:=pV
 have hcap3:oc≤9223372036854775807:=gD
 have hbS:=hgap.mem
 have hfz:=hgap.frozen (k * 3 + 2)
 have G:Hid (Rep.gap 184 kF w2 b oc l.length (l.take k) 1 (l.drop (k + 1)) (Btw w.heap.size w2.heap.size)):=yD hgap.skip
 clear hgap hcap
 have HRD:=yD (HO.out.own hlb)
 obtain ⟨c0,c1,c2,hr,A0,A1,A2⟩:=Rep.at3 HRD.out.raw hkl rfl
 obtain ⟨rv,rhe,r_0,r_1,r_2,r_3⟩:=jX hr
 simp only [List.cons.injEq,and_true] at rhe
 obtain ⟨rfl,rfl,rfl⟩:=rhe
 have HCUT:=yD (recS_cut HKI.out hkl)
 have HHALF:=yD (kUs HKI.out hkl)
 have HSET:=yD (fun (v:Int) (hv:-9223372036854775808≤v∧v≤9223372036854775807)=>Rep.kLu (i:=k) (j:=2) (p:=k * 3 + 2) (u:=.int .i64 v) HO.out hlb hkl rM (fun h=>kDr v hv h) (show kF.bdd Big (yH l[k] v) from Rep.yF HRD.out.rd hkl) rfl)
 have HON:=yD hon
 clear hon hr r_0 r_1 r_2
 have hkI:(0:Int)≤k:=rP
 have hkI2:(k:Int) < on:=rP
 have hkN:k≤oc:=rP
 have hwr:=Go.IntWalk.i64_in ((k:Int) + 1) rP
 by_cases h2:l[k].2.2 < 2
 · have HT:=yD (HCUT.out h2)
   clear HCUT HHALF HSET
   have HK:Hid ((l.take k).length=k):=yD rG
   have hk1:k + 1≤oc:=rP
   have hk2:k + 1≤on:=rP
   have hk3:(k:Int) + 1≤on:=rP
   have hk4:(0:Int)≤(k:Int) + 1:=rP
   by_cases hce:oc=k + 1
   · have HR:Hid ((l.drop (k + 1)).length=0):=yD (by have:=HON.out;simp;omega)
     obtain rfl:on=k + 1:=rP
     subst hce
     have hk5:(k:Int)≤(k:Int) + 1:=rP
     go_upto_region 6 with fail
     refine yG (fun W=>Below w2.heap.size w2 W) [(1,true),(2,true),(3,true),(5,true),(6,true),(7,true),(8,true),(0,false),(4,false),(9,false),(10,true)] rF rF gX (bR.drew) ?_
     intro wS HS
     simp only [jY,List.getElem?_cons_succ,List.getElem?_cons_zero,List.map_cons,List.map_nil]
     iterate 7
      all_goals refine wkR ?_
     all_goals first|(refine kU rfl HS ?_)|(refine ky rfl (fun K hK=>?_);go_simp;generalize hwU:World.alloc wS _=wU;replace HS:Below w2.heap.size w2 wU:=(by rw [← hwU];exact HS.alloc HS.size _);clear hwU;refine hK _ _ HS ?_;clear hK K)
     all_goals refine wkP ?_
     all_goals first|(refine kU rfl HS ?_)|(refine ky rfl (fun K hK=>?_);obtain ⟨v3,u3,hr3,hb3,v4,u4,hr4,ho4,hb4⟩:=Rep.kDc (P:=Tryz.prog) (t:=54) Tryz.underlying54 zx rfl rM rM G.out HS (a0:=some ⟨wS.heap.size,0,none⟩) rP (k + 1) 0 54 54 (q:=0) (kl:=k) (rl:=0) (fun hne=>absurd (List.eq_nil_of_length_eq_zero HR.out) hne) HK.out.symm HR.out.symm;have HS3:=(tQ HS hb3);refine Rep.jR _ _ _ rfl rR rR hr3 ?_;refine hK _ _ HS3 ?_;clear hK K)
     all_goals refine wkP ?_
     all_goals first|(refine kU rfl HS ?_)|(refine ky rfl (fun K hK=>?_);have HS4:=(tQ HS hb4);refine Rep.jR _ _ _ rfl rR rR hr4 ?_;refine hK _ _ HS4 ?_;clear hK K)
     all_goals refine wkP ?_
     all_goals refine wkR ?_
     all_goals refine jA ?_
     go_wp2
     go_ret
     have hz4:=hb4.size
     have hzS:=HS.size
     refine ⟨_,rfl,((ho4.wide (T:=Btw w.heap.size u4.heap.size) ?_).cast HT.out.symm).own (by rw [HT.out];have:=HON.out;have:=HK.out;have:=HR.out;simp only [List.length_append];unfold Big;omega),(tQ E2 HS4)⟩
     rintro j (hj | hj)
     · exact ⟨hj.1,by have:=hj.2;have:=HS4.size;omega⟩
     exact ⟨by omega,hj.2⟩
   have HR:Hid ((l.drop (k + 1)).length=on - (k + 1)):=yD (by have:=HON.out;simp;omega)
   go_upto_region 6 with fail
   refine yG (fun W=>Below w2.heap.size w2 W) [(1,true),(2,true),(3,true),(5,true),(6,true),(7,true),(8,true),(0,false),(4,false),(9,false),(10,true)] rF rF gX (bR.drew) ?_
   intro wS HS
   simp only [jY,List.getElem?_cons_succ,List.getElem?_cons_zero,List.map_cons,List.map_nil]
   iterate 7
    all_goals refine wkR ?_
   all_goals first|(refine kU rfl HS ?_)|(refine ky rfl (fun K hK=>?_);go_simp;generalize hwU:World.alloc wS _=wU;replace HS:Below w2.heap.size w2 wU:=(by rw [← hwU];exact HS.alloc HS.size _);clear hwU;refine hK _ _ HS ?_;clear hK K)
   all_goals refine wkP ?_
   all_goals first|(refine kU rfl HS ?_)|(refine ky rfl (fun K hK=>?_);obtain ⟨v3,u3,hr3,hb3,v4,u4,hr4,ho4,hb4⟩:=Rep.kDc (P:=Tryz.prog) (t:=54) Tryz.underlying54 zx rfl rM rM G.out HS (a0:=some ⟨wS.heap.size,0,none⟩) rP oc (oc - (k + 1)) 54 54 (q:=((k + 1) * 3)) (kl:=k) (rl:=(on - (k + 1))) pK HK.out.symm HR.out.symm;have HS3:=(tQ HS hb3);refine Rep.jR _ _ _ rfl rR rR hr3 ?_;refine hK _ _ HS3 ?_;clear hK K)
   all_goals refine wkP ?_
   all_goals first|(refine kU rfl HS ?_)|(refine ky rfl (fun K hK=>?_);have HS4:=(tQ HS hb4);refine Rep.jR _ _ _ rfl rR rR hr4 ?_;refine hK _ _ HS4 ?_;clear hK K)
   all_goals refine wkP ?_
   all_goals refine wkR ?_
   all_goals refine jA ?_
   go_wp2
   go_ret
   have hz4:=hb4.size
   have hzS:=HS.size
   refine ⟨_,rfl,((ho4.wide (T:=Btw w.heap.size u4.heap.size) ?_).cast HT.out.symm).own (by rw [HT.out];have:=HON.out;have:=HK.out;have:=HR.out;simp only [List.length_append];unfold Big;omega),(tQ E2 HS4)⟩
   rintro j (hj | hj)
   · exact ⟨hj.1,by have:=hj.2;have:=HS4.size;omega⟩
   exact ⟨by omega,hj.2⟩
 have HT:=yD (HHALF.out rP)
 obtain ⟨s1,s2⟩:=HSET.out (l[k].2.2 / 2) rP
 have HS1:=yD s1;have HS2:=yD s2
 clear HCUT HHALF HSET s1 s2 G
 go_wp2
 go_ret
 exact ⟨_,rfl,((HS1.out.cast HT.out.symm).own (by rw [HT.out];simp;unfold Big;omega)).wide fE,E2.setCell hbS.1 _⟩
theorem kEo {w:World} {vl:Value} {l:List kZ} (hl:(Rep.slice 184 kF).rd w [vl] l) {cn:List Value} {n:kW} (hn:kL.rd w cn n) {f:Int} (hf:-9223372036854775808≤f∧f≤9223372036854775807) :
    Calls Tryz.prog 77 #[vl,.agg cn.toArray,.int .i64 f] w (zH (Rep.slice 184 kF) (kJl n f l) w):=by
 have HL:=yD hl
 have HN:=yD hn
 have hlb:l.length≤16777216:=hl.2.1
 obtain ⟨nv,rfl,n_0⟩:=kM hn.1
 obtain ⟨na,np,rfl,_⟩:=Rep.sl n_0
 clear n_0 hl hn hf
 go_enter Tryz.func77,Tryz.ntmps77
 go_wp2_with fail
 generalize hwB:World.alloc w _=wB
 have EB:Below w.heap.size w wB:=nI
 have K0:wB.cell? ⟨w.heap.size,0,none⟩=some (.slice na n.length np):=nV
 have hzB:wB.heap.size=w.heap.size + 1:=qK
 clear hwB
 refine (kDn (HL.out.below EB)).mono ?_
 rintro e w1 ⟨v1,rfl,O1,hb1⟩
 replace K0:=cL hb1 K0
 have E1:=(tQ EB hb1)
 have HO:=yD O1
 obtain ⟨oa,on,oc,ho,HON⟩:=O1.parts;obtain rfl:=ho
 clear O1 hb1
 go_wp2_with fail
 refine (kNr (HL.out.1.below E1) (HN.out.1.below E1)).mono ?_
 rintro e w2 ⟨rfl,hb2⟩
 have E2:=(tQ E1 hb2)
 have hz1:=E1.size
 have hz2:=hb2.size
 replace HO:=yD ((HO.out.below hb2).wide (T:=Btw w.heap.size w2.heap.size) fG)
 clear hb2 E1 EB
 by_cases hk:idxOf (kAs n f) l < 0
 · have HT:=yD (kUr hk)
   go_wp2
   go_ret
   exact ⟨_,rfl,(HO.out.cast HT.out.symm).own (by rw [HT.out];unfold Big;omega),E2⟩
 obtain ⟨k,hkl,hki⟩:=kVa hk
 have HKI:=yD hki
 rw [hki]
 clear hk hki
 obtain ⟨b,cap,hv,hgap⟩:=Rep.kDz HO.out hkl
 simp only [Value.slice.injEq] at hv
 obtain ⟨rfl,hon,rfl⟩:=hv
 have hkon:k < on:=rP
 rw [List.drop_eq_getElem_cons hkl] at hgap
 have hcap:=hgap.len
 simp only [List.length_take,List.length_cons,List.length_drop] at hcap
 have hcap2:on≤oc:=pV
 have hcap3:oc≤9223372036854775807:=gD
 have hbS:=hgap.mem
 have hfz:=hgap.frozen (k * 3 + 2)
 have G:Hid (Rep.gap 184 kF w2 b oc l.length (l.take k) 1 (l.drop (k + 1)) (Btw w.heap.size w2.heap.size)):=yD hgap.skip
 clear hgap hcap
 have HRD:=yD (HO.out.own hlb)
 obtain ⟨c0,c1,c2,hr,A0,A1,A2⟩:=Rep.at3 HRD.out.raw hkl rfl
 obtain ⟨rv,rhe,r_0,r_1,r_2,r_3⟩:=jX hr
 simp only [List.cons.injEq,and_true] at rhe
 obtain ⟨rfl,rfl,rfl⟩:=rhe
 have HCUT:=yD (recS_cut HKI.out hkl)
 have HHALF:=yD (kUs HKI.out hkl)
 have HSET:=yD (fun (v:Int) (hv:-9223372036854775808≤v∧v≤9223372036854775807)=>Rep.kLu (i:=k) (j:=2) (p:=k * 3 + 2) (u:=.int .i64 v) HO.out hlb hkl rM (fun h=>kDr v hv h) (show kF.bdd Big (yH l[k] v) from Rep.yF HRD.out.rd hkl) rfl)
 have HON:=yD hon
 clear hon hr r_0 r_1 r_2
 have hkI:(0:Int)≤k:=rP
 have hkI2:(k:Int) < on:=rP
 have hkN:k≤oc:=rP
 have hwr:=Go.IntWalk.i64_in ((k:Int) + 1) rP
 have hsh:l[k].2.2 / 2 ^ (1:Nat)=l[k].2.2 / 2:=rfl
 obtain ⟨s1,s2⟩:=HSET.out (l[k].2.2 / 2) rP
 have HS1:=yD s1;have HS2:=yD s2
 have hkl2:k < (l.set k (yH l[k] (l[k].2.2 / 2))).length:=by simpa using hkl
 have hr2:=Rep.at3 (HS1.out.own (by simpa [Big] using hlb)).raw hkl2 rfl
 simp only [List.getElem_set_self] at hr2
 obtain ⟨d0,d1,d2,hr2,B0,B1,B2⟩:=hr2
 obtain ⟨qv,qhe,q_0,q_1,q_2,q_3⟩:=jX hr2
 simp only [List.cons.injEq,and_true] at qhe
 obtain ⟨rfl,rfl,rfl⟩:=qhe
 change _=some (Value.int IntKind.i64 (l[k].2.2 / 2)) at B2
 clear s1 s2 hr2 q_0 q_1 q_2 q_3 HSET G
 go_upto_region 6 with fail
 have E3:Below w.heap.size w (w2.setCell ⟨b,k * 3 + 2,none⟩ (.int .i64 (l[k].2.2 / 2))):=E2.setCell hbS.1 _
 have hz3:(w2.setCell ⟨b,k * 3 + 2,none⟩ (.int .i64 (l[k].2.2 / 2))).heap.size=w2.heap.size:=by simp [World.setCell]
 generalize hw3:w2.setCell ⟨b,k * 3 + 2,none⟩ (.int .i64 (l[k].2.2 / 2))=w3 at *
 clear hw3 hsh HS2 A0 A1 A2 HRD HO hfz
 by_cases h2:l[k].2.2 < 2
 · have h3:l[k].2.2 / 2 < 1:=rP
   have HT:=yD (HCUT.out h2)
   clear HCUT HHALF
   go_wp2_with fail
   refine (kIz HS1.out (by simpa using hlb) hkl2).mono ?_
   rintro e w4 ⟨v4,rfl,O4,T4⟩
   have HQ:Hid ((l.set k (yH l[k] (l[k].2.2 / 2))).take k++(l.set k (yH l[k] (l[k].2.2 / 2))).drop (k + 1)=kJl n f l):=yD (by
     rw [HT.out,List.take_set_of_le nL,List.drop_set_of_lt (Nat.lt_succ_self _)])
   have HL4:Hid ((kJl n f l).length≤16777216):=yD (by rw [HT.out,List.length_append,List.length_take,List.length_drop];omega)
   have hz4:=T4.size
   have E4:Below w.heap.size w w4:=E3.trans (T4.below rP (fun j hj=>hj.1))
   have HO4:=yD (O4.cast HQ.out)
   clear O4 T4
   go_wp2
   go_ret
   exact ⟨_,rfl,(HO4.out.own HL4.out).wide mH,E4⟩
 have h3:¬ l[k].2.2 / 2 < 1:=rP
 have HT:=yD (HHALF.out rP)
 clear HCUT HHALF
 go_wp2
 go_ret
 exact ⟨_,rfl,((HS1.out.cast HT.out.symm).own (by rw [HT.out];simp;unfold Big;omega)).wide mH,E3⟩
theorem Rep.yZ {α:Type} {r:Rep α} {e:TypeId} {w:World} {v:Value} {xs ys:List α} {S:Nat→Prop} {P:Program} {t ty:TypeId} {z:Value} {bytes:Nat} (ht:P.underlying t=some (.slice e)) (hinf:(P.info? e).map (fun i=>(i.zero,i.size,i.bytes))=some (some z,r.n,bytes)) (hzs:z.cells.size=r.n) (hn:0 < r.n) (hby:bytes≤1000) (hf:r.kEc)
    {B:Nat} (hown:kg e r w v xs S) {av:Option Addr} {len cap:Nat} (hy:(slice e r).rd w [.slice av len cap] ys) (hSB:∀ k,S k→B≤k∧k < w.heap.size) (hB:B≤w.heap.size) (hlen:xs.length + ys.length≤1000000000) :
    ∃ v' w',(Builtin.append_ #[t,t] ty #[v,.slice av len cap]).run P w=.ok v' w'∧kg e r w' v' (xs++ys) (Btw B w'.heap.size)∧Below B w w'∧w.heap.size≤w'.heap.size∧∀ k,k < w.heap.size→¬ S k→w'.heap[k]?=w.heap[k]?:=by
 obtain ⟨i,hi,hz,hsize,hbytes⟩:=info_parts hinf
 obtain ⟨cells,hsrc,hrow⟩:=raw_src hy.1
 have hrow':row r true w cells ys (fun _=>False):=kRk hf hrow
 obtain ⟨v',w',hr,h2,h3⟩:=kFe (P:=P) (ty:=ty) ht hi hz hsize hzs hn rP hown hsrc (kAc hrow) (row_one hrow) hlen
 refine ⟨v',w',hr,(h3 hrow' (fun _ _ h=>h) hy.2.2).wide ?_,h2.below hB ?_,h2.size,fun k hk hs=>h2.block k hk (fun q=>hs q.2)⟩
 · intro k hk
   have hs:=h2.size
   rcases hk with hk | hk | hk
   · have:=hSB k hk;exact ⟨this.1,by omega⟩
   · exact hk.elim
   exact ⟨by omega,hk.2⟩
 intro k hk;exact (hSB k hk.2).1
def I64q (x:Int):Prop:=-9223372036854775808≤x∧x≤9223372036854775807
theorem row_intq {w:World} {o:Bool}:∀ (l:List Int) (S:Nat→Prop),(∀ x∈l,I64q x)→Rep.row Rep.int o w (l.map (Value.int .i64)) l S
  | [],_,_=>rfl
  | x :: l,S,h=>⟨[.int .i64 x],l.map (Value.int .i64),fun _=>False,fun _=>False,rfl,⟨rfl,h x rQ⟩,row_intq l _ (fun y hy=>h y (by simp [hy])),fun _ h=>h.elim,fun _ h=>h.elim,fun _ _ h=>h.elim⟩
theorem kFv {w:World} {x:Int} {e:TypeId} (hx:I64q x):Rep.kg e Rep.int (w.alloc (.cells #[.int .i64 x] e)) (.slice (some ⟨w.heap.size,0,none⟩) 1 1) [x] (fun k=>k=w.heap.size) :=
  Rep.yj (cs:=[.int .i64 x]) (xs:=[x]) (T:=fun _=>False) (fun _ _=>trivial) (by show 1≤_;unfold maxLen;omega) (row_intq [x] _ (by intro q hq;simp only [List.mem_cons,List.not_mem_nil,or_false] at hq;subst hq;assumption)) (fun _ h=>h.elim) rfl
theorem row_three {α:Type} {r:Rep α} {w:World} {v0 v1 v2:Value} {x0 x1 x2:α} (h0:r.raw w [v0] x0) (h1:r.raw w [v1] x1) (h2:r.raw w [v2] x2):Rep.row r false w [v0,v1,v2] [x0,x1,x2] (fun _=>True) :=
  ⟨[v0],[v1,v2],_,_,rfl,h0,⟨[v1],[v2],_,_,rfl,h1,⟨[v2],[],_,_,rfl,h2,rfl,fun _ h=>h,fun _ h=>h,fun h=>by cases h⟩,fun _ h=>h,fun _ h=>h,fun h=>by cases h⟩,fun _ h=>h,fun _ h=>h,fun h=>by cases h⟩
theorem kDe {α:Type} {r:Rep α} {w:World} {v0 v1 v2:Value} {x0 x1 x2:α} {b:Nat} {e:TypeId} (hn:r.n=1) (hb:w.heap[b]?=some (.cells #[v0,v1,v2] e (0,0))) (h0:r.raw w [v0] x0) (h1:r.raw w [v1] x1) (h2:r.raw w [v2] x2) :
    (Rep.slice e r).raw w [.slice (some ⟨b,0,none⟩) 3 3] [x0,x1,x2] :=
  ⟨_,_,_,rfl,rfl,by decide,by unfold maxLen;decide,.inr ⟨b,0,rfl,#[v0,v1,v2],e,(0,0),[],[v0,v1,v2],[],hb,rfl,rfl,by rw [hn];show 0 + 3 * 1≤3;omega,(fun h=>Bool.noConfusion h),trivial,Rep.yS (row_three h0 h1 h2) (fun _ _=>⟨trivial,fun h=>by cases h⟩)⟩⟩
end Go.Proofs.YtlfblpgkegeaeaaGreat

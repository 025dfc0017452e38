/-
  Rules of trust: whether they are valid, which of them allows.
  Digests of numbers.
-/
import Derived.Test.YtlfblpgkegeaeaaGreatPMt
set_option linter.unusedVariables false
set_option linter.unusedSimpArgs false
set_option linter.unnecessarySimpa false
set_option maxRecDepth 100000
set_option maxHeartbeats 4000000
namespace Go.Proofs.YtlfblpgkegeaeaaGreat
open Go.RowKit
def eqS (s t:ByteArray):Bool:=t.toList==s.toList
def hasS (p:List ByteArray) (s:ByteArray):Bool:=decide (0≤idxOf (eqS s) p)
def kCj (r:kBb) (s:ByteArray):Bool:=isLet s && !hasS r.1 s
def kGg (r:kBb):Bool:=(kCl r.1 && kCl r.2) && kCz (fun j=>!kCj r (r.2.getD j ByteArray.empty)) r.2.length
def allows (n m:kW) (r:kBb):Bool:=(kGg r && kDl r.1 n []) && kDl r.2 m (ptB r.1 n [])
def kSi (l:List kBb) (n m:kW):Int:=idxOf (allows n m) l
def zi (l:List kBb) (n m:kW):Bool:=decide (kSi l n m ≥ 0)
theorem eqS_comm (s t:ByteArray):eqS s t=(s.toList==t.toList):=by unfold eqS;rw [Bool.eq_iff_iff];simp only [beq_iff_eq];exact ⟨Eq.symm,Eq.symm⟩
section
variable {r:kBb} {k:Nat}
theorem kJa (h:(kCl r.1 && kCl r.2)=false):kGg r=false:=by unfold kGg;rw [h];rfl
theorem kUd (h:k < r.2.length) (q:kCj r r.2[k]=true):kGg r=false:=by
 unfold kGg;rw [kIw h mX];simp
theorem kQp (h:k < r.2.length) (q:kCj r r.2[k]=false) (a:kCz (fun j=>!kCj r (r.2.getD j ByteArray.empty)) k=true):kCz (fun j=>!kCj r (r.2.getD j ByteArray.empty)) (k + 1)=true :=
  kEx a mX
theorem kQq (v:(kCl r.1 && kCl r.2)=true) (q:kCz (fun j=>!kCj r (r.2.getD j ByteArray.empty)) k=true) (h:¬ k < r.2.length) (hk:k≤r.2.length):kGg r=true:=by
 obtain rfl:k=r.2.length:=rP
 unfold kGg;rw [q,v];rfl
end
theorem kVo {w:World} {cl:List Value} {l:yV} (hl:yU.raw w cl l) {s:ByteArray} :
    Calls Tryz.prog 256 #[.agg cl.toArray,.string s] w fun e w'=>e=.returned (.bool (hasS l s))∧Below w.heap.size w w':=by
 obtain ⟨pv,rfl,p_0⟩:=yc hl
 obtain ⟨al,pl,rfl,ll⟩:=Rep.sl p_0
 have HL:=yD p_0
 clear p_0 hl
 go_enter Tryz.func256,Tryz.ntmps256
 go_wp2
 generalize hwB:World.alloc w _=wB
 have EB:Below w.heap.size w wB:=by rw [← hwB];exact bH
 have K0:wB.cell? ⟨w.heap.size,0,none⟩=some (.slice al l.length pl):=nV
 clear hwB
 go_loopw [5] (fun i wr=>∃ k:Nat,k≤l.length∧i=.int .i64 k∧Hid (∀ j,(h:j < k)→(h2:j < l.length)→eqS s l[j]=false)∧Below wB.heap.size wB wr) (fun i _=>l.length - (intOf i).toNat)
 case atStart=>exact ⟨0,Nat.zero_le _,rfl,yD (fun _ h=>by omega),bR⟩
 obtain ⟨k,hk,rfl,HN,hbel⟩:=hrel
 have EG:=(tQ EB hbel)
 replace K0:=cL hbel K0
 by_cases hlt:k < l.length
 · obtain ⟨qb,qo,rfl,qc0,qr,Aq0⟩:=Rep.kAy (HL.out.below EG) hlt rfl
   obtain ⟨he,hsz⟩:=Rep.yQ qr
   obtain rfl:qc0=_:=by simpa using he
   have hhit:=fun q=>idxOf_hit (p:=eqS s) hlt q HN.out
   have hmis:=fun q=>kAk (p:=eqS s) hlt q HN.out
   generalize l[k]=x at *
   have HD:=yD hhit;have HX:=yD hmis;clear hhit hmis he qr
   cases hv:eqS s x
   · have HT:=yD (HX.out hv)
     have hv2:(x.toList==s.toList)=false:=hv
     clear hv HD HX
     go_wp2
     go_roundw
     case rel=>exact ⟨k + 1,by omega,by go_num,HT,hbel⟩
     simp [intOf];omega
   have HT:=yD (HD.out hv)
   have hv2:(x.toList==s.toList)=true:=hv
   clear hv HD HX
   go_wp2
   go_ret
   exact ⟨kG (show _=hasS l s by unfold hasS;rw [HT.out];simp),EG⟩
 have HT:=yD (idxOf_miss hlt HN.out)
 go_wp2
 go_ret
 exact ⟨kG (show _=hasS l s by unfold hasS;rw [HT.out];rfl),EG⟩
theorem Index_str_c {w:World} {vl:Value} {l:List ByteArray} (hl:(Rep.slice 9 Rep.str).raw w [vl] l) {s:ByteArray} :
    Calls Tryz.prog 265 #[vl,.string s] w fun e w'=>e=.returned (.int .i64 (idxOf (eqS s) l))∧Below w.heap.size w w':=by
 obtain ⟨al,pl,rfl,ll⟩:=Rep.sl hl
 have HL:=yD hl
 clear hl
 go_enter Tryz.func265,Tryz.ntmps265
 go_wp2
 obtain ⟨wB,hwB⟩:∃ wB,wB=w:=⟨_,rfl⟩
 have EB:Below w.heap.size w wB:=by rw [hwB];exact bR
 rw [← hwB]
 clear hwB
 go_loopw [8] (fun i wr=>∃ k:Nat,k≤l.length∧i=.int .i64 k∧Hid (∀ j,(h:j < k)→(h2:j < l.length)→eqS s l[j]=false)∧Below wB.heap.size wB wr) (fun i _=>l.length - (intOf i).toNat)
 case atStart=>exact ⟨0,Nat.zero_le _,rfl,yD (fun _ h=>by omega),bR⟩
 obtain ⟨k,hk,rfl,HN,hbel⟩:=hrel
 have EG:=(tQ EB hbel)
 skip
 by_cases hlt:k < l.length
 · obtain ⟨qb,qo,rfl,qc0,qr,Aq0⟩:=Rep.kAy (HL.out.below EG) hlt rfl
   obtain ⟨he,hsz⟩:=Rep.yQ qr
   obtain rfl:qc0=_:=by simpa using he
   have hhit:=fun q=>idxOf_hit (p:=eqS s) hlt q HN.out
   have hmis:=fun q=>kAk (p:=eqS s) hlt q HN.out
   generalize l[k]=x at *
   have HD:=yD hhit;have HX:=yD hmis;clear hhit hmis he qr
   cases hv:eqS s x
   · have HT:=yD (HX.out hv)
     have hv2:(s.toList==x.toList)=false:=by rw [← eqS_comm];exact hv
     clear hv HD HX
     go_wp2
     go_roundw
     case rel=>exact ⟨k + 1,by omega,by go_num,HT,hbel⟩
     simp [intOf];omega
   have HT:=yD (HD.out hv)
   have hv2:(s.toList==x.toList)=true:=by rw [← eqS_comm];exact hv
   clear hv HD HX
   go_wp2
   go_ret
   exact ⟨ku HT.out.symm,EG⟩
 have HT:=yD (idxOf_miss hlt HN.out)
 go_wp2
 go_ret
 exact ⟨ku HT.out.symm,EG⟩
theorem kTa {w:World} {vl:Value} {l:List ByteArray} (hl:(Rep.slice 9 Rep.str).raw w [vl] l) {s:ByteArray} :
    Calls Tryz.prog 264 #[vl,.string s] w fun e w'=>e=.returned (.bool (hasS l s))∧Below w.heap.size w w':=by
 go_enter Tryz.func264,Tryz.ntmps264
 go_wp2_with fail
 refine (Index_str_c hl).mono ?_
 rintro e w1 ⟨rfl,hb⟩
 go_wp2
 go_ret
 exact ⟨kG rfl,hb⟩
theorem kPn {w:World} {cr:List Value} {r:kBb} (hr:jM.raw w cr r):Calls Tryz.prog 244 #[.agg cr.toArray] w fun e w'=>e=.returned (.bool (kGg r))∧Below w.heap.size w w':=by
 obtain ⟨av0,av1,rfl,a_0,a_1,a_2,a_3⟩:=kAe hr
 obtain ⟨aa0,ap0,rfl,al0⟩:=Rep.sl a_1
 obtain ⟨aa1,ap1,rfl,al1⟩:=Rep.sl a_3
 have H0:=yD a_0;have H2:=yD a_2;have H1:=yD a_1;have H3:=yD a_3
 clear hr a_0 a_1 a_2 a_3
 go_enter Tryz.func244,Tryz.ntmps244
 go_upto_region 1 with fail
 generalize hwB:World.alloc w _=wB
 have EB:Below w.heap.size w wB:=by rw [← hwB];exact bH
 have K0:wB.cell? ⟨w.heap.size,0,none⟩=some (.slice aa0 r.1.length ap0):=nV
 have K1:wB.cell? ⟨w.heap.size,1,none⟩=some (.slice aa1 r.2.length ap1):=nV
 clear hwB
 go_wp2_with fail
 refine (kCr (H0.out.below EB)).mono ?_
 rintro e w1 ⟨rfl,hb1⟩
 replace K0:=cL hb1 K0
 replace K1:=cL hb1 K1
 have E1:=(tQ EB hb1)
 clear hb1 EB
 cases hv1:kCl r.1
 · have HT:=yD (kJa (r:=r) (by rw [hv1];rfl))
   go_wp2
   go_ret
   exact ⟨kG HT.out.symm,E1⟩
 go_wp2_with fail
 refine (kCr (H2.out.below E1)).mono ?_
 rintro e w2 ⟨rfl,hb2⟩
 replace K0:=cL hb2 K0
 replace K1:=cL hb2 K1
 have E2:=(tQ E1 hb2)
 clear hb2 E1
 cases hv2:kCl r.2
 · have HT:=yD (kJa (r:=r) (by rw [hv1,hv2];rfl))
   clear hv1 hv2
   go_wp2
   go_ret
   exact ⟨kG HT.out.symm,E2⟩
 have HV:Hid ((kCl r.1 && kCl r.2)=true):=yD (by rw [hv1,hv2];rfl)
 clear hv1 hv2
 go_wp2
 go_loopw [3] (fun i wr=>∃ k:Nat,k≤r.2.length∧i=.int .i64 k∧Hid (kCz (fun j=>!kCj r (r.2.getD j ByteArray.empty)) k=true)∧Below w2.heap.size w2 wr) (fun i _=>r.2.length - (intOf i).toNat)
 case atStart=>exact ⟨0,Nat.zero_le _,rfl,yD rfl,bR⟩
 obtain ⟨k,hk,rfl,HN,hbel⟩:=hrel
 have EG:=(tQ E2 hbel)
 replace K0:=cL hbel K0
 replace K1:=cL hbel K1
 by_cases hlt:k < r.2.length
 · obtain ⟨qb,qo,rfl,qc0,qr,Aq0⟩:=Rep.kAy (H3.out.below EG) hlt rfl
   obtain ⟨he,hsz⟩:=Rep.yQ qr
   obtain rfl:qc0=_:=by simpa using he
   have hhit:=fun q=>kUd hlt q
   have hmis:=fun q=>kQp hlt q HN.out
   generalize r.2[k]=s at *
   have HD:=yD hhit;have HX:=yD hmis;clear hhit hmis he qr
   go_upto_region 6 with fail
   have FX:=yD (fun (W:World) (hW:Below wr.heap.size wr W)=>cLs3 hW K0 K1 Aq0)
   refine jB (fun W=>Below wr.heap.size wr W) [true,true,true,true,true,true,false,true,true,true,true,true,true,true,true,true,false,true,true] rF rF gX (bR.drew) ?_
   intro wS HS
   iterate 6
    all_goals refine wkR ?_
   all_goals first | refine wkC (kFb hsz) ?_ | refine wkR ?_
   all_goals (have hg7:=True.intro;first|(refine wkG (fun b hg7=>?_);cases b;all_goals first | exact Bool.noConfusion hg7 | simp only [zU,zV] at hg7 | skip) | refine wkR ?_)
   all_goals refine wkP ?_
   iterate 8
    all_goals refine wkR ?_
   all_goals first | refine wkB (kVo (H0.out.below (tQ EG HS))) (fun wS1 HS=>?_) | refine wkR ?_
   all_goals refine wkR ?_
   all_goals (have hg18:=True.intro;first|(refine wkG (fun b hg18=>?_);cases b;all_goals first | exact Bool.noConfusion hg18 | simp only [zU,zV] at hg18 | skip) | refine wkR ?_)
   all_goals refine wkP ?_
   all_goals refine jA ?_
   all_goals have ER:=(tQ hbel HS)
   all_goals have EF:=(tQ EG HS)
   all_goals first
     | (have HT:=yD (HD.out (show kCj r s=true by simp only [kCj,Bool.not_true,Bool.not_false,Bool.and_true,Bool.true_and,Bool.and_false,Bool.false_and,Bool.or_true,Bool.true_or,Bool.or_false,Bool.false_or,Bool.not_not,hg7,hg18]));clear HD HX;go_wp2;go_ret;exact ⟨kG HT.out.symm,EF⟩)
     | (have HT:=yD (HX.out (show kCj r s=false by simp only [kCj,Bool.not_true,Bool.not_false,Bool.and_true,Bool.true_and,Bool.and_false,Bool.false_and,Bool.or_true,Bool.true_or,Bool.or_false,Bool.false_or,Bool.not_not,hg7,hg18]));clear HD HX;go_wp2;go_roundw;(case rel=>exact ⟨k + 1,by omega,by go_num,HT,ER⟩);(case measure=>simp [intOf];omega))
 have HT:=yD (kQq HV.out HN.out hlt hk)
 go_wp2
 go_ret
 exact ⟨kG HT.out.symm,EG⟩
theorem kPv {w:World} {cr:List Value} {r:kBb} (hr:jM.raw w cr r):Calls Tryz.prog 250 #[.agg cr.toArray] w fun e w'=>e=.returned (.bool (kGg r))∧Below w.heap.size w w':=by
 obtain ⟨av0,av1,rfl,a_0,a_1,a_2,a_3⟩:=kAe hr
 obtain ⟨aa0,ap0,rfl,al0⟩:=Rep.sl a_1
 obtain ⟨aa1,ap1,rfl,al1⟩:=Rep.sl a_3
 have H0:=yD a_0;have H2:=yD a_2;have H1:=yD a_1;have H3:=yD a_3
 clear hr a_0 a_1 a_2 a_3
 go_enter Tryz.func250,Tryz.ntmps250
 go_upto_region 1 with fail
 generalize hwB:World.alloc w _=wB
 have EB:Below w.heap.size w wB:=by rw [← hwB];exact bH
 have K0:wB.cell? ⟨w.heap.size,0,none⟩=some (.slice aa0 r.1.length ap0):=nV
 have K1:wB.cell? ⟨w.heap.size,1,none⟩=some (.slice aa1 r.2.length ap1):=nV
 clear hwB
 go_wp2_with fail
 refine (kCw (H0.out.below EB)).mono ?_
 rintro e w1 ⟨rfl,hb1⟩
 replace K0:=cL hb1 K0
 replace K1:=cL hb1 K1
 have E1:=(tQ EB hb1)
 clear hb1 EB
 cases hv1:kCl r.1
 · have HT:=yD (kJa (r:=r) (by rw [hv1];rfl))
   go_wp2
   go_ret
   exact ⟨kG HT.out.symm,E1⟩
 go_wp2_with fail
 refine (kCw (H2.out.below E1)).mono ?_
 rintro e w2 ⟨rfl,hb2⟩
 replace K0:=cL hb2 K0
 replace K1:=cL hb2 K1
 have E2:=(tQ E1 hb2)
 clear hb2 E1
 cases hv2:kCl r.2
 · have HT:=yD (kJa (r:=r) (by rw [hv1,hv2];rfl))
   clear hv1 hv2
   go_wp2
   go_ret
   exact ⟨kG HT.out.symm,E2⟩
 have HV:Hid ((kCl r.1 && kCl r.2)=true):=yD (by rw [hv1,hv2];rfl)
 clear hv1 hv2
 go_wp2
 go_loopw [19] (fun i wr=>∃ k:Nat,k≤r.2.length∧i=.int .i64 k∧Hid (kCz (fun j=>!kCj r (r.2.getD j ByteArray.empty)) k=true)∧Below w2.heap.size w2 wr) (fun i _=>r.2.length - (intOf i).toNat)
 case atStart=>exact ⟨0,Nat.zero_le _,rfl,yD rfl,bR⟩
 obtain ⟨k,hk,rfl,HN,hbel⟩:=hrel
 have EG:=(tQ E2 hbel)
 replace K0:=cL hbel K0
 replace K1:=cL hbel K1
 by_cases hlt:k < r.2.length
 · obtain ⟨qb,qo,rfl,qc0,qr,Aq0⟩:=Rep.kAy (H3.out.below EG) hlt rfl
   obtain ⟨he,hsz⟩:=Rep.yQ qr
   obtain rfl:qc0=_:=by simpa using he
   have hhit:=fun q=>kUd hlt q
   have hmis:=fun q=>kQp hlt q HN.out
   generalize r.2[k]=s at *
   have HD:=yD hhit;have HX:=yD hmis;clear hhit hmis he qr
   go_upto_region 6 with fail
   have FX:=yD (fun (W:World) (hW:Below wr.heap.size wr W)=>cLs2 hW K0 K1)
   refine jE (fun W=>Below wr.heap.size wr W) [true,false,true,true,true,true,true,false,true,true] bR ?_
   intro wS HS
   all_goals refine wkR ?_
   all_goals first | refine wkC (kDy hsz) ?_ | refine wkR ?_
   all_goals (have hg2:=True.intro;first|(refine wkG (fun b hg2=>?_);cases b;all_goals first | exact Bool.noConfusion hg2 | simp only [zU,zV] at hg2 | skip) | refine wkR ?_)
   all_goals refine wkP ?_
   iterate 4
    all_goals refine wkR ?_
   all_goals first | refine wkB (kTa (H1.out.below (tQ EG HS))) (fun wS1 HS=>?_) | refine wkR ?_
   all_goals refine wkR ?_
   all_goals (have hg9:=True.intro;first|(refine wkG (fun b hg9=>?_);cases b;all_goals first | exact Bool.noConfusion hg9 | simp only [zU,zV] at hg9 | skip) | refine wkR ?_)
   all_goals refine wkP ?_
   all_goals refine jA ?_
   all_goals have ER:=(tQ hbel HS)
   all_goals have EF:=(tQ EG HS)
   all_goals first
     | (have HT:=yD (HD.out (show kCj r s=true by simp only [kCj,Bool.not_true,Bool.not_false,Bool.and_true,Bool.true_and,Bool.and_false,Bool.false_and,Bool.or_true,Bool.true_or,Bool.or_false,Bool.false_or,Bool.not_not,hg2,hg9]));clear HD HX;go_wp2;go_ret;exact ⟨kG HT.out.symm,EF⟩)
     | (have HT:=yD (HX.out (show kCj r s=false by simp only [kCj,Bool.not_true,Bool.not_false,Bool.and_true,Bool.true_and,Bool.and_false,Bool.false_and,Bool.or_true,Bool.true_or,Bool.or_false,Bool.false_or,Bool.not_not,hg2,hg9]));clear HD HX;go_wp2;go_roundw;(case rel=>exact ⟨k + 1,by omega,by go_num,HT,ER⟩);(case measure=>simp [intOf];omega))
 have HT:=yD (kQq HV.out HN.out hlt hk)
 go_wp2
 go_ret
 exact ⟨kG HT.out.symm,EG⟩
theorem kNe {w:World} {cr:List Value} {r:kBb} (hr:jM.raw w cr r) {cn:List Value} {n:kW} (hn:kL.raw w cn n) {cm:List Value} {m:kW} (hm:kL.raw w cm m) :
    Calls Tryz.prog 228 #[.agg cr.toArray,.agg cn.toArray,.agg cm.toArray] w fun e w'=>e=.returned (.bool (allows n m r))∧Below w.heap.size w w':=by
 have HR:=yD hr;have HN:=yD hn;have HM:=yD hm
 obtain ⟨av0,av1,rfl,a_0,a_1,a_2,a_3⟩:=kAe hr
 obtain ⟨aa0,ap0,rfl,al0⟩:=Rep.sl a_1
 obtain ⟨aa1,ap1,rfl,al1⟩:=Rep.sl a_3
 obtain ⟨bv0,rfl,b_0⟩:=kM hn
 obtain ⟨ba0,bp0,rfl,bl0⟩:=Rep.sl b_0
 obtain ⟨dv0,rfl,d_0⟩:=kM hm
 obtain ⟨da0,dp0,rfl,dl0⟩:=Rep.sl d_0
 have H0:=yD a_0;have H2:=yD a_2
 have HT:=yD (show allows n m r=((kGg r && kDl r.1 n []) && kDl r.2 m (ptB r.1 n [])) from rfl)
 have hb6:=mB_len6 (p:=r.1) (n:=n) (l:=[])
 simp only [List.length_nil] at hb6
 clear hr hn hm a_0 a_1 a_2 a_3 b_0 d_0
 go_enter Tryz.func228,Tryz.ntmps228
 go_upto_region 1 with fail
 generalize hwB:World.alloc (World.alloc (World.alloc w _) _) _=wB
 have EB:Below w.heap.size w wB:=by rw [← hwB];exact bH
 have K0:wB.cell? ⟨w.heap.size,0,none⟩=some (.slice aa0 r.1.length ap0):=nV
 have K1:wB.cell? ⟨w.heap.size,1,none⟩=some (.slice aa1 r.2.length ap1):=nV
 have K2:wB.cell? ⟨w.heap.size + 1,0,none⟩=some (.slice ba0 n.length bp0):=nV
 have K3:wB.cell? ⟨w.heap.size + 1 + 1,0,none⟩=some (.slice da0 m.length dp0):=nV
 clear hwB
 go_wp2_with fail
 have RV:=((litB (w:=wB) (e:=284)).own (Nat.zero_le _)).rd
 have BX:Below wB.heap.size wB (World.alloc wB (.cells #[] 284)):=bR.alloc nL _
 have EL:=(tQ EB BX)
 refine (kOu (H0.out.below EL) (HN.out.below EL) (cn:=[.slice ba0 n.length bp0]) (l:=[]) RV rQ).mono ?_
 rintro e w1 ⟨v1,rfl,O1,hb1⟩
 obtain ⟨a1,n1,c1,hv1,HN1⟩:=O1.parts;obtain rfl:=hv1
 replace K0:=cL (tQ BX hb1) K0
 replace K1:=cL (tQ BX hb1) K1
 replace K3:=cL (tQ BX hb1) K3
 have E1:=(tQ EL hb1)
 have R1:=yD ((O1.own qF).rd)
 clear hb1 O1 EB EL K2 BX RV
 generalize kDl r.1 n []=ok1 at *
 generalize ptB r.1 n []=out1 at *
 go_wp2_with fail
 refine (kOu (H2.out.below E1) (HM.out.below E1) (cn:=[.slice da0 m.length dp0]) R1.out rP).mono ?_
 rintro e w2 ⟨v2,rfl,O2,hb2⟩
 obtain ⟨a2,n2,c2,hv2,HN2⟩:=O2.parts;obtain rfl:=hv2
 replace K0:=cL hb2 K0
 replace K1:=cL hb2 K1
 have E2:=(tQ E1 hb2)
 clear hb2 O2 E1 K3 R1
 generalize kDl r.2 m out1=ok2 at *
 go_wp2_with fail
 refine (kPn (HR.out.below E2)).mono ?_
 rintro e w3 ⟨rfl,hb3⟩
 have E3:=(tQ E2 hb3)
 clear hb3 E2
 cases hv:kGg r
 · have HU:Hid (allows n m r=false):=yD qC
   clear hv
   go_wp2
   go_ret
   exact ⟨kG HU.out.symm,E3⟩
 cases ok1
 · have HU:Hid (allows n m r=false):=yD qC
   clear hv
   go_wp2
   go_ret
   exact ⟨kG HU.out.symm,E3⟩
 have HU:Hid (allows n m r=ok2):=yD qC
 clear hv
 go_wp2
 go_ret
 exact ⟨kG HU.out.symm,E3⟩
theorem kNx {w:World} {cr:List Value} {r:kBb} (hr:jM.raw w cr r) {cn:List Value} {n:kW} (hn:kL.raw w cn n) {cm:List Value} {m:kW} (hm:kL.raw w cm m) :
    Calls Tryz.prog 236 #[.agg cr.toArray,.agg cn.toArray,.agg cm.toArray] w fun e w'=>e=.returned (.bool (allows n m r))∧Below w.heap.size w w':=by
 have HR:=yD hr;have HN:=yD hn;have HM:=yD hm
 obtain ⟨av0,av1,rfl,a_0,a_1,a_2,a_3⟩:=kAe hr
 obtain ⟨aa0,ap0,rfl,al0⟩:=Rep.sl a_1
 obtain ⟨aa1,ap1,rfl,al1⟩:=Rep.sl a_3
 obtain ⟨bv0,rfl,b_0⟩:=kM hn
 obtain ⟨ba0,bp0,rfl,bl0⟩:=Rep.sl b_0
 obtain ⟨dv0,rfl,d_0⟩:=kM hm
 obtain ⟨da0,dp0,rfl,dl0⟩:=Rep.sl d_0
 have H0:=yD a_0;have H2:=yD a_2
 have HT:=yD (show allows n m r=((kGg r && kDl r.1 n []) && kDl r.2 m (ptB r.1 n [])) from rfl)
 have hb6:=mB_len6 (p:=r.1) (n:=n) (l:=[])
 simp only [List.length_nil] at hb6
 clear hr hn hm a_0 a_1 a_2 a_3 b_0 d_0
 go_enter Tryz.func236,Tryz.ntmps236
 go_upto_region 1 with fail
 generalize hwB:World.alloc (World.alloc (World.alloc w _) _) _=wB
 have EB:Below w.heap.size w wB:=by rw [← hwB];exact bH
 have K0:wB.cell? ⟨w.heap.size,0,none⟩=some (.slice aa0 r.1.length ap0):=nV
 have K1:wB.cell? ⟨w.heap.size,1,none⟩=some (.slice aa1 r.2.length ap1):=nV
 have K2:wB.cell? ⟨w.heap.size + 1,0,none⟩=some (.slice ba0 n.length bp0):=nV
 have K3:wB.cell? ⟨w.heap.size + 1 + 1,0,none⟩=some (.slice da0 m.length dp0):=nV
 clear hwB
 go_wp2_with fail
 have RV:=((Rep.kg.void (e:=284) (r:=yL) (w:=wB) (a:=none) (S:=fun _=>False)).own (Nat.zero_le _)).rd
 have BX:=Below.refl wB.heap.size wB
 have EL:=EB
 refine (kOy (H0.out.below EL) (HN.out.below EL) (cn:=[.slice ba0 n.length bp0]) (l:=[]) RV rQ).mono ?_
 rintro e w1 ⟨v1,rfl,O1,hb1⟩
 obtain ⟨a1,n1,c1,hv1,HN1⟩:=O1.parts;obtain rfl:=hv1
 replace K0:=cL (tQ BX hb1) K0
 replace K1:=cL (tQ BX hb1) K1
 replace K3:=cL (tQ BX hb1) K3
 have E1:=(tQ EL hb1)
 have R1:=yD ((O1.own qF).rd)
 clear hb1 O1 EB EL K2 BX RV
 generalize kDl r.1 n []=ok1 at *
 generalize ptB r.1 n []=out1 at *
 go_wp2_with fail
 refine (kOy (H2.out.below E1) (HM.out.below E1) (cn:=[.slice da0 m.length dp0]) R1.out rP).mono ?_
 rintro e w2 ⟨v2,rfl,O2,hb2⟩
 obtain ⟨a2,n2,c2,hv2,HN2⟩:=O2.parts;obtain rfl:=hv2
 replace K0:=cL hb2 K0
 replace K1:=cL hb2 K1
 have E2:=(tQ E1 hb2)
 clear hb2 O2 E1 K3 R1
 generalize kDl r.2 m out1=ok2 at *
 go_wp2_with fail
 refine (kPv (HR.out.below E2)).mono ?_
 rintro e w3 ⟨rfl,hb3⟩
 have E3:=(tQ E2 hb3)
 clear hb3 E2
 cases hv:kGg r
 · have HU:Hid (allows n m r=false):=yD qC
   clear hv
   go_wp2
   go_ret
   exact ⟨kG HU.out.symm,E3⟩
 cases ok1
 · have HU:Hid (allows n m r=false):=yD qC
   clear hv
   go_wp2
   go_ret
   exact ⟨kG HU.out.symm,E3⟩
 have HU:Hid (allows n m r=ok2):=yD qC
 clear hv
 go_wp2
 go_ret
 exact ⟨kG HU.out.symm,E3⟩
theorem kGj {w:World} {vl:Value} {l:(List kBb)} (hl:(Rep.slice 191 jM).raw w [vl] l) {cn:List Value} {n:kW} (hn:kL.raw w cn n) {cm:List Value} {m:kW} (hm:kL.raw w cm m) :
    Calls Tryz.prog 202 #[vl,.agg cn.toArray,.agg cm.toArray] w fun e w'=>e=.returned (.int .i64 (idxOf (allows n m) l))∧Below w.heap.size w w':=by
 obtain ⟨al,pl,rfl,ll⟩:=Rep.sl hl
 have Hn:=yD hn
 obtain ⟨fnv0,rfl,fn_0⟩:=kM hn
 obtain ⟨fna0,fnp0,rfl,fnl0⟩:=Rep.sl fn_0
 have Hm:=yD hm
 obtain ⟨fmv0,rfl,fm_0⟩:=kM hm
 obtain ⟨fma0,fmp0,rfl,fml0⟩:=Rep.sl fm_0
 go_enter Tryz.func202,Tryz.ntmps202
 go_wp2
 generalize hwB:World.alloc (World.alloc w _) _=wB
 have EB:Below w.heap.size w wB:=by rw [← hwB];exact bH
 have K4_0:wB.cell? ⟨w.heap.size,0,none⟩=some (.slice fna0 (n).length fnp0):=nV
 have K5_0:wB.cell? ⟨w.heap.size + 1,0,none⟩=some (.slice fma0 (m).length fmp0):=nV
 clear hwB
 replace hl:=hl.below EB
 go_loopw [7] (fun i wr=>∃ k:Nat,k≤l.length∧i=.int .i64 k∧Hid (∀ j,(h:j < k)→(h2:j < l.length)→(allows n m) l[j]=false)∧Below wB.heap.size wB wr) (fun i _=>l.length - (intOf i).toNat)
 case atStart=>exact ⟨0,Nat.zero_le _,rfl,yD (fun _ h=>by omega),bR⟩
 obtain ⟨k,hk,rfl,HN,hbel⟩:=hrel
 replace K4_0:=cL hbel K4_0
 replace K5_0:=cL hbel K5_0
 by_cases hlt:k < l.length
 · obtain ⟨qb,qo,rfl,qc0,qc1,qr,Aq0,Aq1⟩:=Rep.kEk (hl.below hbel) (i:=k) rP rfl
   have hhit:=fun q=>idxOf_hit hlt q HN.out
   have hmis:=fun q=>kAk hlt q HN.out
   generalize l[k]=x at *
   have HD:=yD hhit;have HX:=yD hmis;clear hhit hmis
   obtain ⟨x0,x1⟩:=x
   obtain ⟨qv0,qv1,qhe,q_0,q_1,q_2,q_3⟩:=kAe qr
   simp only [List.cons.injEq,and_true] at qhe
   obtain ⟨rfl,rfl⟩:=qhe
   obtain ⟨qa0,qp0,rfl,ql0⟩:=Rep.sl q_1
   obtain ⟨qa1,qp1,rfl,ql1⟩:=Rep.sl q_3
   go_upto_region 4 with fail
   have FX:=yD (fun (W:World) (hW:Below wr.heap.size wr W)=>cLs4 hW K4_0 K5_0 Aq0 Aq1)
   refine jB (fun W=>Below wr.heap.size wr W) [true,true,true,true,true,true,false] rF rF gX (bR.drew) ?_
   intro wS HS
   iterate 6
    all_goals refine wkR ?_
   all_goals first | refine wkB (kNe (Rep.raw.below qr HS) (Rep.raw.below Hn.out ((tQ EB (tQ hbel HS)))) (Rep.raw.below Hm.out ((tQ EB (tQ hbel HS))))) (fun wS1 HS=>?_) | refine wkR ?_
   all_goals refine jA ?_
   all_goals cases hg6:allows n m (x0,x1)
   all_goals have EG:=(tQ hbel HS)
   all_goals first
     | (have HT:=yD (HD.out (show _=true by simp only [Bool.not_true,Bool.not_false,Bool.and_true,Bool.true_and,Bool.and_false,Bool.false_and,Bool.or_true,Bool.true_or,Bool.or_false,Bool.false_or,Bool.not_not,hg6]));clear HD HX;go_wp2;go_ret;exact ⟨ku HT.out.symm,(tQ EB EG)⟩)
     | (have HT:=yD (HX.out (show _=false by simp only [Bool.not_true,Bool.not_false,Bool.and_true,Bool.true_and,Bool.and_false,Bool.false_and,Bool.or_true,Bool.true_or,Bool.or_false,Bool.false_or,Bool.not_not,hg6]));clear HD HX;go_wp2;go_roundw;(case rel=>exact ⟨k + 1,by omega,by go_num,HT,EG⟩);(case measure=>simp [intOf];omega))
 have HT:=yD (idxOf_miss hlt HN.out)
 go_wp2
 go_ret
 exact ⟨ku HT.out.symm,(tQ EB hbel)⟩
theorem kFx {w:World} {cr:List Value} {r:kBb} (hr:jM.raw w cr r) {n:kW} {nc0:Value} {Bn:Nat} (nr:kL.raw w [nc0] n) (An0:w.cell? ⟨Bn,0,none⟩=some nc0) {m:kW} {mc0:Value} {Bm:Nat} (mr:kL.raw w [mc0] m) (Am0:w.cell? ⟨Bm,0,none⟩=some mc0) :
    Calls Tryz.prog 235 (#[.agg cr.toArray]++#[.pointer (some ⟨Bn,0,none⟩),.pointer (some ⟨Bm,0,none⟩)]) w fun e w'=>e=.returned (.bool (allows n m r))∧Below w.heap.size w w':=by
 have Hr:=yD hr
 obtain ⟨frv0,frv1,rfl,fr_0,fr_1,fr_2,fr_3⟩:=kAe hr
 obtain ⟨fra0,frp0,rfl,frl0⟩:=Rep.sl fr_1
 obtain ⟨fra1,frp1,rfl,frl1⟩:=Rep.sl fr_3
 obtain ⟨nv0,nhe,n_0⟩:=kM nr
 simp only [List.cons.injEq,and_true] at nhe
 obtain rfl:=nhe
 obtain ⟨na0,np0,rfl,nl0⟩:=Rep.sl n_0
 obtain ⟨mv0,mhe,m_0⟩:=kM mr
 simp only [List.cons.injEq,and_true] at mhe
 obtain rfl:=mhe
 obtain ⟨ma0,mp0,rfl,ml0⟩:=Rep.sl m_0
 show Calls Tryz.prog 235 #[_,_,_] w _
 go_enter Tryz.func235,Tryz.ntmps235
 go_upto_region 1 with fail
 generalize hwB:World.alloc w _=wB
 have EB:Below w.heap.size w wB:=by rw [← hwB];exact bH
 have K3_0:wB.cell? ⟨w.heap.size,0,none⟩=some (.slice fra0 (r.1).length frp0):=nV
 have K3_1:wB.cell? ⟨w.heap.size,1,none⟩=some (.slice fra1 (r.2).length frp1):=nV
 clear hwB
 replace An0:=cL EB An0
 replace Am0:=cL EB Am0
 have FX:=yD (fun (W:World) (hW:Below wB.heap.size wB W)=>cLs4 hW K3_0 K3_1 An0 Am0)
 refine jE (fun W=>Below wB.heap.size wB W) [true,true,true,false,true] bR ?_
 intro wS HS
 iterate 3
  all_goals refine wkR ?_
 all_goals first | refine wkB (kNx (Rep.raw.below Hr.out (tQ EB HS)) (Rep.raw.below nr (tQ EB HS)) (Rep.raw.below mr (tQ EB HS))) (fun wS1 HS=>?_) | refine wkR ?_
 all_goals (have hg4:=True.intro;first|(refine wkG (fun b hg4=>?_);cases b;all_goals first | exact Bool.noConfusion hg4 | simp only [zU,zV] at hg4 | skip) | refine wkR ?_)
 all_goals refine wkP ?_
 all_goals refine jA ?_
 all_goals have EG:=(tQ EB HS)
 all_goals first
   | (have HT:=yD (show (allows n m r)=false by simp only [Bool.not_true,Bool.not_false,Bool.and_true,Bool.true_and,Bool.and_false,Bool.false_and,Bool.or_true,Bool.true_or,Bool.or_false,Bool.false_or,Bool.not_not,hg4]);go_wp2;go_ret;exact ⟨kG HT.out.symm,EG⟩)
   | (have HT:=yD (show (allows n m r)=true by simp only [Bool.not_true,Bool.not_false,Bool.and_true,Bool.true_and,Bool.and_false,Bool.false_and,Bool.or_true,Bool.true_or,Bool.or_false,Bool.false_or,Bool.not_not,hg4]);go_wp2;go_ret;exact ⟨kG HT.out.symm,EG⟩)
theorem kDg:jm Tryz.prog 235:=kAn Tryz.func235 rF rF
theorem kGm {w:World} {vl:Value} {l:(List kBb)} (hl:(Rep.slice 191 jM).raw w [vl] l) {cn:List Value} {n:kW} (hn:kL.raw w cn n) {cm:List Value} {m:kW} (hm:kL.raw w cm m) :
    Calls Tryz.prog 210 #[vl,.agg cn.toArray,.agg cm.toArray] w fun e w'=>e=.returned (.int .i64 (idxOf (allows n m) l))∧Below w.heap.size w w':=by
 obtain ⟨al,pl,rfl,ll⟩:=Rep.sl hl
 have Hn:=yD hn
 obtain ⟨fnv0,rfl,fn_0⟩:=kM hn
 obtain ⟨fna0,fnp0,rfl,fnl0⟩:=Rep.sl fn_0
 have Hm:=yD hm
 obtain ⟨fmv0,rfl,fm_0⟩:=kM hm
 obtain ⟨fma0,fmp0,rfl,fml0⟩:=Rep.sl fm_0
 go_enter Tryz.func210,Tryz.ntmps210
 go_upto_region 1 with fail
 generalize hwB:World.alloc (World.alloc w _) _=wB
 have EB:Below w.heap.size w wB:=by rw [← hwB];exact bH
 have K4_0:wB.cell? ⟨w.heap.size,0,none⟩=some (.slice fna0 (n).length fnp0):=nV
 have K5_0:wB.cell? ⟨w.heap.size + 1,0,none⟩=some (.slice fma0 (m).length fmp0):=nV
 clear hwB
 go_wp2_with fail
 refine (kOm (allows n m) kDg (Rep.raw.below hl EB) ?_).mono ?_
 · intro wr hb i h cs hr
   exact kFx hr (Rep.raw.below Hn.out (tQ EB hb)) (cL hb K4_0) (Rep.raw.below Hm.out (tQ EB hb)) (cL hb K5_0)
 rintro e w1 ⟨rfl,hb1⟩
 have EG:Below w.heap.size w w1:=(tQ EB hb1)
 clear hb1
 go_wp2
 go_ret
 exact ⟨rfl,EG⟩
theorem kTm {w:World} {vl:Value} {l:(List kBb)} (hl:(Rep.slice 191 jM).raw w [vl] l) {cn:List Value} {n:kW} (hn:kL.raw w cn n) {cm:List Value} {m:kW} (hm:kL.raw w cm m) :
    Calls Tryz.prog 169 #[vl,.agg cn.toArray,.agg cm.toArray] w fun e w'=>e=.returned (.bool (zi l n m))∧Below w.heap.size w w':=by
 obtain ⟨al,pl,rfl,ll⟩:=Rep.sl hl
 have Hn:=yD hn
 obtain ⟨fnv0,rfl,fn_0⟩:=kM hn
 obtain ⟨fna0,fnp0,rfl,fnl0⟩:=Rep.sl fn_0
 have Hm:=yD hm
 obtain ⟨fmv0,rfl,fm_0⟩:=kM hm
 obtain ⟨fma0,fmp0,rfl,fml0⟩:=Rep.sl fm_0
 go_enter Tryz.func169,Tryz.ntmps169
 go_upto_region 1 with fail
 generalize hwB:World.alloc (World.alloc w _) _=wB
 have EB:Below w.heap.size w wB:=by rw [← hwB];exact bH
 have K4_0:wB.cell? ⟨w.heap.size,0,none⟩=some (.slice fna0 (n).length fnp0):=nV
 have K5_0:wB.cell? ⟨w.heap.size + 1,0,none⟩=some (.slice fma0 (m).length fmp0):=nV
 clear hwB
 have FX:=yD (fun (W:World) (hW:Below wB.heap.size wB W)=>cLs2 hW K4_0 K5_0)
 refine jE (fun W=>Below wB.heap.size wB W) [true,true,true,false,true,true] bR ?_
 intro wS HS
 iterate 3
  all_goals refine wkR ?_
 all_goals first | refine wkB (kGj (Rep.raw.below hl (tQ EB HS)) (Rep.raw.below Hn.out (tQ EB HS)) (Rep.raw.below Hm.out (tQ EB HS))) (fun wS1 HS=>?_) | refine wkR ?_
 all_goals refine wkR ?_
 all_goals (have hg5:=True.intro;first|(refine wkG (fun b hg5=>?_);cases b;all_goals first | exact Bool.noConfusion hg5 | simp only [zU,zV] at hg5 | skip) | refine wkR ?_)
 all_goals refine wkP ?_
 all_goals refine jA ?_
 all_goals have EG:=(tQ EB HS)
 all_goals first
   | (have HT:=yD (show (zi l n m)=false by simp only [zi,kSi,ge_iff_le,Bool.not_true,Bool.not_false,Bool.and_true,Bool.true_and,Bool.and_false,Bool.false_and,Bool.or_true,Bool.true_or,Bool.or_false,Bool.false_or,Bool.not_not,hg5]);go_wp2;go_ret;exact ⟨kG HT.out.symm,EG⟩)
   | (have HT:=yD (show (zi l n m)=true by simp only [zi,kSi,ge_iff_le,Bool.not_true,Bool.not_false,Bool.and_true,Bool.true_and,Bool.and_false,Bool.false_and,Bool.or_true,Bool.true_or,Bool.or_false,Bool.false_or,Bool.not_not,hg5]);go_wp2;go_ret;exact ⟨kG HT.out.symm,EG⟩)
theorem kKj {w:World} {vl:Value} {l:(List kBb)} (hl:(Rep.slice 191 jM).raw w [vl] l) {cn:List Value} {n:kW} (hn:kL.raw w cn n) {cm:List Value} {m:kW} (hm:kL.raw w cm m) :
    Calls Tryz.prog 180 #[vl,.agg cn.toArray,.agg cm.toArray] w fun e w'=>e=.returned (.bool (zi l n m))∧Below w.heap.size w w':=by
 obtain ⟨al,pl,rfl,ll⟩:=Rep.sl hl
 have Hn:=yD hn
 obtain ⟨fnv0,rfl,fn_0⟩:=kM hn
 obtain ⟨fna0,fnp0,rfl,fnl0⟩:=Rep.sl fn_0
 have Hm:=yD hm
 obtain ⟨fmv0,rfl,fm_0⟩:=kM hm
 obtain ⟨fma0,fmp0,rfl,fml0⟩:=Rep.sl fm_0
 go_enter Tryz.func180,Tryz.ntmps180
 go_upto_region 1 with fail
 generalize hwB:World.alloc (World.alloc w _) _=wB
 have EB:Below w.heap.size w wB:=by rw [← hwB];exact bH
 have K4_0:wB.cell? ⟨w.heap.size,0,none⟩=some (.slice fna0 (n).length fnp0):=nV
 have K5_0:wB.cell? ⟨w.heap.size + 1,0,none⟩=some (.slice fma0 (m).length fmp0):=nV
 clear hwB
 have FX:=yD (fun (W:World) (hW:Below wB.heap.size wB W)=>cLs2 hW K4_0 K5_0)
 refine jE (fun W=>Below wB.heap.size wB W) [true,true,true,false,true,true] bR ?_
 intro wS HS
 iterate 3
  all_goals refine wkR ?_
 all_goals first | refine wkB (kGm (Rep.raw.below hl (tQ EB HS)) (Rep.raw.below Hn.out (tQ EB HS)) (Rep.raw.below Hm.out (tQ EB HS))) (fun wS1 HS=>?_) | refine wkR ?_
 all_goals refine wkR ?_
 all_goals (have hg5:=True.intro;first|(refine wkG (fun b hg5=>?_);cases b;all_goals first | exact Bool.noConfusion hg5 | simp only [zU,zV] at hg5 | skip) | refine wkR ?_)
 all_goals refine wkP ?_
 all_goals refine jA ?_
 all_goals have EG:=(tQ EB HS)
 all_goals first
   | (have HT:=yD (show (zi l n m)=false by simp only [zi,kSi,ge_iff_le,Bool.not_true,Bool.not_false,Bool.and_true,Bool.true_and,Bool.and_false,Bool.false_and,Bool.or_true,Bool.true_or,Bool.or_false,Bool.false_or,Bool.not_not,hg5]);go_wp2;go_ret;exact ⟨kG HT.out.symm,EG⟩)
   | (have HT:=yD (show (zi l n m)=true by simp only [zi,kSi,ge_iff_le,Bool.not_true,Bool.not_false,Bool.and_true,Bool.true_and,Bool.and_false,Bool.false_and,Bool.or_true,Bool.true_or,Bool.or_false,Bool.false_or,Bool.not_not,hg5]);go_wp2;go_ret;exact ⟨kG HT.out.symm,EG⟩)
def modP (x:Int):Int:=(x.tmod 2147483647 + 2147483647).tmod 2147483647
def kPc (d x:Int):Int:=(d * 1000003 + modP x + 13).tmod 2147483647
def digest (l:List Int):Int:=l.foldl kPc 11
def okSec (s:Int):Bool:=inR s 1 2147483646
theorem kLj {a:Int} (h:0≤a):0≤a.tmod 2147483647∧a.tmod 2147483647 < 2147483647:=by
 rw [Int.tmod_eq_emod_of_nonneg h];omega
theorem kLk {a:Int} (h:0≤a):a % 2147483647=a.tmod 2147483647:=(Int.tmod_eq_emod_of_nonneg h).symm
theorem kQx (a:Int):-2147483647 < a.tmod 2147483647∧a.tmod 2147483647 < 2147483647:=by
 by_cases h:0≤a
 · have:=kLj h;omega
 have:=kLj (a:=-a) rP
 rw [Int.neg_tmod] at this
 omega
theorem kIk (x:Int):0≤modP x∧modP x < 2147483647:=by
 have:=kQx x
 exact kLj rP
theorem dStep_rng {d:Int} (x:Int) (h:0≤d):0≤kPc d x∧kPc d x < 2147483647:=by
 have:=kIk x
 exact kLj rP
theorem foldl_rng (l:List Int):∀ d:Int,0≤d→d < 2147483647→0≤l.foldl kPc d∧l.foldl kPc d < 2147483647:=by
 induction l with
 | nil=>intro d h1 h2;exact ⟨h1,h2⟩
 | cons x l ih=>intro d h1 h2;have:=dStep_rng x h1;exact ih _ this.1 this.2
theorem kSo (l:List Int):0≤digest l∧digest l < 2147483647:=foldl_rng l 11 rP rP
theorem kPb {l:List Int} {k:Nat} (h:k < l.length):digest (l.take (k + 1))=kPc (digest (l.take k)) l[k]:=by
 unfold digest
 rw [List.take_succ_eq_append_getElem h,List.foldl_append]
 rfl
theorem kSp {l:List Int} {k:Nat} (h:¬ k < l.length):digest (l.take k)=digest l:=by rw [List.take_of_length_le rP]
theorem kLl {w:World} {s:Int}:Calls Tryz.prog 224 #[.int .i64 s] w fun e w'=>e=.returned (.bool (okSec s))∧w'=w:=by
 go_enter Tryz.func224,Tryz.ntmps224
 go_wp2_with fail
 refine kBf.mono ?_
 rintro e w1 ⟨rfl,hw⟩
 obtain rfl:=hw.symm
 go_wp2
 go_ret
 exact ⟨rfl,rfl⟩
theorem specMod_c {w:World} {x:Int} (hx:-9223372036854775808≤x∧x≤9223372036854775807):Calls Tryz.prog 245 #[.int .i64 x,.int .i64 2147483647] w fun e w'=>e=.returned (.int .i64 (modP x))∧w'=w:=by
 have h1:=kQx x
 have h2:=kIk x
 have HE:=yD (show modP x=(x.tmod 2147483647 + 2147483647).tmod 2147483647 from rfl)
 go_enter Tryz.func245,Tryz.ntmps245
 go_wp2_with fail
 refine kBf.mono ?_
 rintro e w1 ⟨rfl,hw⟩
 obtain rfl:=hw.symm
 have hin:inR (2147483647:Int) 1 1000000000000=true:=rM
 rw [hin]
 go_wp2
 go_ret
 exact ⟨ku (by rw [HE.out];exact kLk rP),rfl⟩
theorem kLo {w:World} {vl:Value} {l:List Int} (hl:(Rep.slice 3 Rep.int).raw w [vl] l) :
    Calls Tryz.prog 230 #[vl] w fun e w'=>e=.returned (.int .i64 (digest l))∧w'=w:=by
 obtain ⟨al,pl,rfl,ll⟩:=Rep.sl hl
 go_enter Tryz.func230,Tryz.ntmps230
 go_wp2
 go_loop [4,3] (fun i d=>∃ k:Nat,k≤l.length∧i=.int .i64 k∧d=.int .i64 (digest (l.take k))) (fun i _=>l.length - (intOf i).toNat)
 case atStart=>exact ⟨0,Nat.zero_le _,rfl,rfl⟩
 obtain ⟨k,hk,rfl,rfl⟩:=hrel
 by_cases hlt:k < l.length
 · obtain ⟨ba,offa,rfl,c0,hr,A0⟩:=Rep.kAy hl hlt rfl
   obtain ⟨he,hx⟩:=Rep.zu hr
   obtain rfl:c0=_:=by simpa using he
   clear he hr
   have hd:=kSo (l.take k)
   have HS:=yD (kPb hlt)
   generalize digest (l.take k)=d at *
   generalize l[k]=x at *
   have hm:=kIk x
   go_wp2_with fail
   refine (specMod_c hx).mono ?_
   rintro e w1 ⟨rfl,hw⟩
   obtain rfl:=hw.symm
   have HD:=yD (show kPc d x=(d * 1000003 + modP x + 13).tmod 2147483647 from rfl)
   generalize modP x=m at *
   go_wp2
   go_round
   case rel=>exact ⟨k + 1,by omega,by go_num,by rw [HS.out,HD.out,← kLk rP]⟩
   simp [intOf];omega
 have HT:=yD (kSp hlt)
 go_wp2
 go_ret
 exact ⟨ku HT.out,rfl⟩
theorem kMb {w:World} {s:Int}:Calls Tryz.prog 231 #[.int .i64 s] w fun e w'=>e=.returned (.bool (okSec s))∧w'=w:=by
 go_enter Tryz.func231,Tryz.ntmps231
 go_wp2_with fail
 refine kBp.mono ?_
 rintro e w1 ⟨rfl,hw⟩
 obtain rfl:=hw.symm
 go_wp2
 go_ret
 exact ⟨rfl,rfl⟩
theorem implMod_c {w:World} {x:Int} (hx:-9223372036854775808≤x∧x≤9223372036854775807):Calls Tryz.prog 251 #[.int .i64 x,.int .i64 2147483647] w fun e w'=>e=.returned (.int .i64 (modP x))∧w'=w:=by
 have h1:=kQx x
 have h2:=kIk x
 have HE:=yD (show modP x=(x.tmod 2147483647 + 2147483647).tmod 2147483647 from rfl)
 go_enter Tryz.func251,Tryz.ntmps251
 go_wp2_with fail
 refine kBp.mono ?_
 rintro e w1 ⟨rfl,hw⟩
 obtain rfl:=hw.symm
 have hin:inR (2147483647:Int) 1 1000000000000=true:=rM
 rw [hin]
 go_wp2
 go_ret
 exact ⟨ku (by rw [HE.out];exact kLk rP),rfl⟩
theorem kMe {w:World} {vl:Value} {l:List Int} (hl:(Rep.slice 3 Rep.int).raw w [vl] l) :
    Calls Tryz.prog 239 #[vl] w fun e w'=>e=.returned (.int .i64 (digest l))∧w'=w:=by
 obtain ⟨al,pl,rfl,ll⟩:=Rep.sl hl
 go_enter Tryz.func239,Tryz.ntmps239
 go_wp2
 go_loop [8,3] (fun i d=>∃ k:Nat,k≤l.length∧i=.int .i64 k∧d=.int .i64 (digest (l.take k))) (fun i _=>l.length - (intOf i).toNat)
 case atStart=>exact ⟨0,Nat.zero_le _,rfl,rfl⟩
 obtain ⟨k,hk,rfl,rfl⟩:=hrel
 by_cases hlt:k < l.length
 · obtain ⟨ba,offa,rfl,c0,hr,A0⟩:=Rep.kAy hl hlt rfl
   obtain ⟨he,hx⟩:=Rep.zu hr
   obtain rfl:c0=_:=by simpa using he
   clear he hr
   have hd:=kSo (l.take k)
   have HS:=yD (kPb hlt)
   generalize digest (l.take k)=d at *
   generalize l[k]=x at *
   have hm:=kIk x
   go_wp2_with fail
   refine (implMod_c hx).mono ?_
   rintro e w1 ⟨rfl,hw⟩
   obtain rfl:=hw.symm
   have HD:=yD (show kPc d x=(d * 1000003 + modP x + 13).tmod 2147483647 from rfl)
   generalize modP x=m at *
   go_wp2
   go_round
   case rel=>exact ⟨k + 1,by omega,by go_num,by rw [HS.out,HD.out,← kLk rP]⟩
   simp [intOf];omega
 have HT:=yD (kSp hlt)
 go_wp2
 go_ret
 exact ⟨ku HT.out,rfl⟩
end Go.Proofs.YtlfblpgkegeaeaaGreat

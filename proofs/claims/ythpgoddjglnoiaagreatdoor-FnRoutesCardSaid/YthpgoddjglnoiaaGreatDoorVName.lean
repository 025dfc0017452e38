/-
  Parts and names that are valid.
  Names that are valid.
-/
import Derived.Test.YthpgoddjglnoiaaGreatDoorName
import Derived.Deep.Cut
set_option linter.unusedVariables false
set_option linter.unusedSimpArgs false
set_option linter.unnecessarySimpa false
set_option maxRecDepth 100000
set_option maxHeartbeats 4000000
namespace Go.Proofs.YthpgoddjglnoiaaGreatDoor
open Go.RowKit
def kCw (c:Int):Bool:=!((!inR c 97 122 && !inR c 48 57) && (c != 45))
def okBi (c:Int):Bool:=((decide (c ≥ 97) && decide (c≤122)) || (decide (c ≥ 48) && decide (c≤57))) || (c==45)
def zK (s:ByteArray) (j:Nat):Int:=(s.data.toList.getD j 0).toNat
def yQ (s:ByteArray):Bool:=yV (fun j=>kCw (zK s j)) s.size && inR s.size 1 8
theorem okBi_eq (c:Int):okBi c=kCw c:=by
 unfold okBi kCw inR
 rw [Bool.eq_iff_iff]
 simp
 try omega
theorem vPart_out {s:ByteArray} (h:inR s.size 1 8=false):yQ s=false:=by simp [yQ,h]
theorem kHq {s:ByteArray} {k:Nat} (h:k < s.size) (q:kCw (zK s k)=false):yQ s=false:=by
 unfold yQ;rw [kEb h q];rfl
theorem kGf {s:ByteArray} {k:Nat} (q:yV (fun j=>kCw (zK s j)) k=true) (h:¬ k < s.size) (hk:k≤s.size):yQ s=inR s.size 1 8:=by
 obtain rfl:k=s.size:=fV
 unfold yQ;rw [q];rfl
theorem kHc {s:ByteArray} {k:Nat} (h:k < s.size):zK s k=(s[k].toNat:Int):=by
 unfold zK
 rw [jC fM]
 rfl
theorem kHb (s:ByteArray) (k:Nat):0≤zK s k∧zK s k < 256:=by
 unfold zK;have:=(s.data.toList.getD k 0).toNat_lt;omega
theorem kFr {w:World} {s:ByteArray} (hs:s.size≤maxLen):Calls Tryz.prog 82 #[.string s] w fun e w'=>e=.returned (.bool (yQ s))∧w'=w:=by
 unfold maxLen at hs
 go_enter Tryz.func82,Tryz.ntmps82
 go_wp2_with fail
 refine zY.mono ?_
 rintro e w1 ⟨rfl,hw⟩
 obtain rfl:=hw.symm
 cases hin:inR s.size 1 8
 · have HT:=yD (vPart_out hin)
   go_wp2
   go_ret
   exact ⟨kP HT.out.symm,rfl⟩
 have HI:=yD hin
 go_wp2
 go_loop [3] (fun i=>∃ k:Nat,k≤s.size∧i=.int .i64 k∧Hid (yV (fun j=>kCw (zK s j)) k=true)) (fun i=>s.size - (intOf i).toNat)
 case atStart=>exact ⟨0,Nat.zero_le _,rfl,yD rfl⟩
 obtain ⟨k,hk,rfl,HN⟩:=hrel
 by_cases hlt:k < s.size
 · have hr:=kHb s k
   have hg:=kHc hlt
   have HB:=yD (fun q=>kHq hlt q)
   have HX:=yD (fun q=>kAv (f:=fun j=>kCw (zK s j)) HN.out q)
   go_upto_region 7 with fail
   generalize (s[k].toNat:Int)=c at *
   have HC:=yD hg
   clear hg
   refine kg (fun W=>Hid (W=w)) [true,false,true,true,true,false,true,true,true,true,true,true] (yD rfl) ?_
   intro wS HS
   all_goals refine wkR ?_
   all_goals first | refine wkC (zY) ?_ | refine wkR ?_
   all_goals refine wkR ?_
   all_goals (have hg3:=True.intro;first|(refine wkG (fun b hg3=>?_);cases b;all_goals first | exact Bool.noConfusion hg3 | simp only [zU,zV] at hg3 | skip) | refine wkR ?_)
   all_goals refine wkP ?_
   all_goals refine wkR ?_
   all_goals first | refine wkC (zY) ?_ | refine wkR ?_
   all_goals refine wkR ?_
   all_goals refine wkR ?_
   all_goals (have hg8:=True.intro;first|(refine wkG (fun b hg8=>?_);cases b;all_goals first | exact Bool.noConfusion hg8 | simp only [zU,zV] at hg8 | skip) | refine wkR ?_)
   all_goals refine wkP ?_
   all_goals refine wkR ?_
   all_goals refine wkR ?_
   all_goals (have hg11:=True.intro;first|(refine wkG (fun b hg11=>?_);cases b;all_goals first | exact Bool.noConfusion hg11 | simp only [zU,zV] at hg11 | skip) | refine wkR ?_)
   all_goals refine wkP ?_
   all_goals refine kQ ?_
   all_goals obtain rfl:=HS.out.symm
   all_goals first
     | (have HV:=(congrArg kCw HC.out).trans (show _=false by simp only [kCw,Bool.not_true,Bool.not_false,Bool.and_true,Bool.true_and,Bool.and_false,Bool.false_and,Bool.or_true,Bool.true_or,Bool.or_false,Bool.false_or,Bool.not_not,hg3,hg8,hg11]);have HT:=yD (HB.out HV);clear HV HB HX HC;go_wp2;go_ret;exact ⟨kP HT.out.symm,rfl⟩)
     | (have HV:=(congrArg kCw HC.out).trans (show _=true by simp only [kCw,Bool.not_true,Bool.not_false,Bool.and_true,Bool.true_and,Bool.and_false,Bool.false_and,Bool.or_true,Bool.true_or,Bool.or_false,Bool.false_or,Bool.not_not,hg3,hg8,hg11]);have HT:=yD (HX.out HV);clear HV HB HX HC;go_wp2;go_round;(case rel=>exact ⟨k + 1,by omega,by go_num,HT⟩);(case measure=>simp [intOf];omega))
 have HT:=yD (kGf HN.out hlt hk)
 have HU:=yD (HT.out.trans HI.out)
 go_wp2
 go_ret
 exact ⟨kP HU.out.symm,rfl⟩
theorem kFu {w:World} {s:ByteArray} (hs:s.size≤maxLen):Calls Tryz.prog 81 #[.string s] w fun e w'=>e=.returned (.bool (yQ s))∧w'=w:=by
 unfold maxLen at hs
 go_enter Tryz.func81,Tryz.ntmps81
 go_wp2
 go_loop [7] (fun i=>∃ k:Nat,k≤s.size∧i=.int .i64 k∧Hid (yV (fun j=>kCw (zK s j)) k=true)) (fun i=>s.size - (intOf i).toNat)
 case atStart=>exact ⟨0,Nat.zero_le _,rfl,yD rfl⟩
 obtain ⟨k,hk,rfl,HN⟩:=hrel
 by_cases hlt:k < s.size
 · have hr:=kHb s k
   have hg:=kHc hlt
   have HB:=yD (fun q=>kHq hlt q)
   have HX:=yD (fun q=>kAv (f:=fun j=>kCw (zK s j)) HN.out q)
   go_upto_region 5 with fail
   generalize (s[k].toNat:Int)=c at *
   have HC:=yD hg
   clear hg
   refine kg (fun W=>Hid (W=w)) [true,true,true,true,true,true,true,true,true,true,true,true,true,true,true,true,true,true,true] (yD rfl) ?_
   intro wS HS
   all_goals refine wkR ?_
   all_goals refine wkR ?_
   all_goals (have hg2:=True.intro;first|(refine wkG (fun b hg2=>?_);cases b;all_goals first | exact Bool.noConfusion hg2 | simp only [zU,zV] at hg2 | skip) | refine wkR ?_)
   all_goals refine wkP ?_
   iterate 3
    all_goals refine wkR ?_
   all_goals (have hg6:=True.intro;first|(refine wkG (fun b hg6=>?_);cases b;all_goals first | exact Bool.noConfusion hg6 | simp only [zU,zV] at hg6 | skip) | refine wkR ?_)
   all_goals refine wkP ?_
   all_goals refine wkR ?_
   all_goals refine wkR ?_
   all_goals (have hg9:=True.intro;first|(refine wkG (fun b hg9=>?_);cases b;all_goals first | exact Bool.noConfusion hg9 | simp only [zU,zV] at hg9 | skip) | refine wkR ?_)
   all_goals refine wkP ?_
   iterate 4
    all_goals refine wkR ?_
   all_goals (have hg14:=True.intro;first|(refine wkG (fun b hg14=>?_);cases b;all_goals first | exact Bool.noConfusion hg14 | simp only [zU,zV] at hg14 | skip) | refine wkR ?_)
   all_goals refine wkP ?_
   iterate 3
    all_goals refine wkR ?_
   all_goals (have hg18:=True.intro;first|(refine wkG (fun b hg18=>?_);cases b;all_goals first | exact Bool.noConfusion hg18 | simp only [zU,zV] at hg18 | skip) | refine wkR ?_)
   all_goals refine wkP ?_
   all_goals refine kQ ?_
   all_goals obtain rfl:=HS.out.symm
   all_goals first
     | (have HV:=(congrArg kCw HC.out).trans ((okBi_eq _).symm.trans (show _=false by simp only [okBi,Bool.not_true,Bool.not_false,Bool.and_true,Bool.true_and,Bool.and_false,Bool.false_and,Bool.or_true,Bool.true_or,Bool.or_false,Bool.false_or,Bool.not_not,ge_iff_le,hg2,hg6,hg9,hg14,hg18]));have HT:=yD (HB.out HV);clear HV HB HX HC;go_wp2;go_ret;exact ⟨kP HT.out.symm,rfl⟩)
     | (have HV:=(congrArg kCw HC.out).trans ((okBi_eq _).symm.trans (show _=true by simp only [okBi,Bool.not_true,Bool.not_false,Bool.and_true,Bool.true_and,Bool.and_false,Bool.false_and,Bool.or_true,Bool.true_or,Bool.or_false,Bool.false_or,Bool.not_not,ge_iff_le,hg2,hg6,hg9,hg14,hg18]));have HT:=yD (HX.out HV);clear HV HB HX HC;go_wp2;go_round;(case rel=>exact ⟨k + 1,by omega,by go_num,HT⟩);(case measure=>simp [intOf];omega))
 have HT:=yD (kGf HN.out hlt hk)
 go_wp2_with fail
 refine kAc.mono ?_
 rintro e w1 ⟨rfl,hw⟩
 obtain rfl:=hw.symm
 go_wp2
 go_ret
 exact ⟨kP HT.out.symm,rfl⟩
def kAh (n:kR):Bool:=yV (fun j=>yQ (n.getD j ByteArray.empty)) n.length && decide (n.length≤6)
theorem vName_bad {n:kR} {k:Nat} (h:k < n.length) (q:yQ n[k]=false):kAh n=false:=by
 unfold kAh;rw [kEb h cZ];rfl
theorem vName_next {n:kR} {k:Nat} (h:k < n.length) (q:yQ n[k]=true) (a:yV (fun j=>yQ (n.getD j ByteArray.empty)) k=true):yV (fun j=>yQ (n.getD j ByteArray.empty)) (k + 1)=true :=
  kAv a cZ
theorem vName_good {n:kR} {k:Nat} (q:yV (fun j=>yQ (n.getD j ByteArray.empty)) k=true) (h:¬ k < n.length) (hk:k≤n.length):kAh n=decide (n.length≤6):=by
 obtain rfl:k=n.length:=fV
 unfold kAh;rw [q];rfl
theorem idx_all {α:Type} (p:α→Bool) (x:List α) (d:α):(!decide (0≤idxOf p x))=yV (fun j=>!p (x.getD j d)) x.length:=by
 unfold idxOf
 cases h:x.findIdx? p with
 | none =>
   have hn:=List.findIdx?_eq_none_iff.1 h
   have:yV (fun j=>!p (x.getD j d)) x.length=true:=by
     have key:∀ n,n≤x.length→yV (fun j=>!p (x.getD j d)) n=true:=by
       intro n
       induction n with
       | zero=>intro _;rfl
       | succ n ih =>
         intro hn2
         refine kAv (ih fV) ?_
         (try simp only)
         rw [jC fV,hn _ (List.getElem_mem _)]
         rfl
     exact key _ nL
   rw [this];simp
 | some i =>
   obtain ⟨hi,hp,_⟩:=List.findIdx?_eq_some_iff_getElem.1 h
   rw [kEb hi (by (try simp only);rw [jC hi,hp];rfl)]
   simp
theorem vName_idx (n:kR):kAh n=(decide (n.length≤6) && !decide (0≤idxOf (fun p=>!yQ p) n)):=by
 unfold kAh
 rw [idx_all _ n ByteArray.empty]
 simp only [Bool.not_not]
 exact Bool.and_comm _ _
theorem zI {w:World} {cn:List Value} {n:kR} (hn:kV.raw w cn n):Calls Tryz.prog 61 #[.agg cn.toArray] w fun e w'=>e=.returned (.bool (kAh n))∧Below w.heap.size w w':=by
 obtain ⟨av,rfl,a_0⟩:=kN hn
 obtain ⟨aa,capa,rfl,la⟩:=Rep.sl a_0
 clear hn
 go_enter Tryz.func61,Tryz.ntmps61
 go_wp2
 generalize hwB:World.alloc w _=wB
 have EB:Below w.heap.size w wB:=by rw [← hwB];exact bB
 have K0:wB.cell? ⟨w.heap.size,0,none⟩=some (.slice aa n.length capa):=dL
 clear hwB
 replace a_0:=a_0.below EB
 go_loopw [3] (fun i wr=>∃ k:Nat,k≤n.length∧i=.int .i64 k∧Hid (yV (fun j=>yQ (n.getD j ByteArray.empty)) k=true)∧Below wB.heap.size wB wr) (fun i _=>n.length - (intOf i).toNat)
 case atStart=>exact ⟨0,Nat.zero_le _,rfl,yD rfl,bR⟩
 obtain ⟨k,hk,rfl,HN,hbel⟩:=hrel
 replace K0:=cL hbel K0
 have EB2:=(tQ EB hbel)
 by_cases hlt:k < n.length
 · obtain ⟨ba,offa,rfl,c0,hr,A0⟩:=Rep.kAd (a_0.below hbel) hlt rfl
   obtain ⟨he,hsz⟩:=Rep.jv hr
   obtain rfl:c0=_:=by simpa using he
   clear he hr
   have hb:=fun q=>vName_bad hlt q
   have hx:=fun q=>vName_next hlt q HN.out
   generalize n[k]=s at *
   have HB:=yD hb;have HX:=yD hx;have HSZ:=yD hsz;clear hb hx hsz
   go_wp2_with fail
   refine (kFr HSZ.out).mono ?_
   rintro e w1 ⟨rfl,hw⟩
   obtain rfl:=hw.symm
   cases hv:yQ s
   · have HT:=yD (HB.out hv)
     go_wp2
     go_ret
     exact ⟨kP HT.out.symm,EB2⟩
   have HT:=yD (HX.out hv)
   go_wp2
   go_roundw
   case rel=>exact ⟨k + 1,by omega,by go_num,HT,hbel⟩
   simp [intOf];omega
 have HT:=yD (vName_good HN.out hlt hk)
 go_wp2
 go_ret
 exact ⟨kP (by rw [HT.out];simp;try omega),EB2⟩
theorem kEq {w:World} {s:ByteArray} (hs:s.size≤maxLen):Calls Tryz.prog 80 (#[.string s]++#[]) w fun e w'=>e=.returned (.bool (!yQ s))∧Below w.heap.size w w':=by
 show Calls Tryz.prog 80 #[_] w _
 go_enter Tryz.func80,Tryz.ntmps80
 go_wp2_with fail
 refine (kFu hs).mono ?_
 rintro e w1 ⟨rfl,hw⟩
 obtain rfl:=hw.symm
 go_wp2
 go_ret
 exact ⟨rfl,bR⟩
theorem zn:kY Tryz.prog 80:=yN Tryz.func80 fP fP
theorem kFv {w:World} {cn:List Value} {n:kR} (hn:kV.raw w cn n):Calls Tryz.prog 59 #[.agg cn.toArray] w fun e w'=>e=.returned (.bool (kAh n))∧Below w.heap.size w w':=by
 obtain ⟨av,rfl,a_0⟩:=kN hn
 obtain ⟨aa,capa,rfl,la⟩:=Rep.sl a_0
 clear hn
 have HV:=yD (vName_idx n)
 go_enter Tryz.func59,Tryz.ntmps59
 by_cases hl:n.length≤6
 · have hd:decide ((n.length:Int)≤6)=true:=fQ
   have hdn:decide (n.length≤6)=true:=fE
   go_wp2_with fail
   refine (kBp (fun p=>!yQ p) zn (a_0.below bB) ?_).mono ?_
   · intro wr hb i h c hr
     obtain ⟨he,hsz⟩:=Rep.jv hr
     obtain rfl:c=_:=by simpa using he
     exact kEq hsz
   rintro e w1 ⟨rfl,hb1⟩
   have EF:Below w.heap.size w w1:=Below.trans bB (hb1.mono fZ)
   clear hb1
   go_wp2
   go_ret
   exact ⟨kP (by rw [HV.out,hdn];simp),EF⟩
 have hd:decide ((n.length:Int)≤6)=false:=fQ
 have hdn:decide (n.length≤6)=false:=fE
 go_wp2
 go_ret
 exact ⟨kP (by rw [HV.out,hdn];rfl),bB⟩
end Go.Proofs.YthpgoddjglnoiaaGreatDoor

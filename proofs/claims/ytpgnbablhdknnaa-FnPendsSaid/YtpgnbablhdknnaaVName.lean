/-
  Parts and names that are valid.
  Names that are valid.
-/
import Derived.Test.YtpgnbablhdknnaaName
import Derived.Deep.Cut
set_option linter.unusedVariables false
set_option linter.unusedSimpArgs false
set_option linter.unnecessarySimpa false
set_option maxRecDepth 100000
set_option maxHeartbeats 4000000
namespace Go.Proofs.Ytpgnbablhdknnaa
open Go.RowKit
def kDw (c:Int):Bool:=!((!inR c 97 122 && !inR c 48 57) && (c != 45))
def okBi (c:Int):Bool:=((decide (c ≥ 97) && decide (c≤122)) || (decide (c ≥ 48) && decide (c≤57))) || (c==45)
def zX (s:ByteArray) (j:Nat):Int:=(s.data.toList.getD j 0).toNat
def yV (s:ByteArray):Bool:=yH (fun j=>kDw (zX s j)) s.size && inR s.size 1 8
theorem okBi_eq (c:Int):okBi c=kDw c:=by
 unfold okBi kDw inR
 rw [Bool.eq_iff_iff]
 simp
 try omega
theorem vPart_out {s:ByteArray} (h:inR s.size 1 8=false):yV s=false:=by simp [yV,h]
theorem kIg {s:ByteArray} {k:Nat} (h:k < s.size) (q:kDw (zX s k)=false):yV s=false:=by
 unfold yV;rw [kCr h q];rfl
theorem kGu {s:ByteArray} {k:Nat} (q:yH (fun j=>kDw (zX s j)) k=true) (h:¬ k < s.size) (hk:k≤s.size):yV s=inR s.size 1 8:=by
 obtain rfl:k=s.size:=gV
 unfold yV;rw [q];rfl
theorem kHq {s:ByteArray} {k:Nat} (h:k < s.size):zX s k=(s[k].toNat:Int):=by
 unfold zX
 rw [jQ gL]
 rfl
theorem kHp (s:ByteArray) (k:Nat):0≤zX s k∧zX s k < 256:=by
 unfold zX;have:=(s.data.toList.getD k 0).toNat_lt;omega
theorem kGc {w:World} {s:ByteArray} (hs:s.size≤maxLen):Calls Try.prog 91 #[.string s] w fun e w'=>e=.returned (.bool (yV s))∧w'=w:=by
 unfold maxLen at hs
 go_enter Try.func91,Try.ntmps91
 go_wp2_with fail
 refine jR.mono ?_
 rintro e w1 ⟨rfl,hw⟩
 obtain rfl:=hw.symm
 cases hin:inR s.size 1 8
 · have HT:=yD (vPart_out hin)
   go_wp2
   go_ret
   exact ⟨kP HT.out.symm,rfl⟩
 have HI:=yD hin
 go_wp2
 go_loop [3] (fun i=>∃ k:Nat,k≤s.size∧i=.int .i64 k∧Hid (yH (fun j=>kDw (zX s j)) k=true)) (fun i=>s.size - (intOf i).toNat)
 case atStart=>exact ⟨0,Nat.zero_le _,rfl,yD rfl⟩
 obtain ⟨k,hk,rfl,HN⟩:=hrel
 by_cases hlt:k < s.size
 · have hr:=kHp s k
   have hg:=kHq hlt
   have HB:=yD (fun q=>kIg hlt q)
   have HX:=yD (fun q=>zt (f:=fun j=>kDw (zX s j)) HN.out q)
   go_upto_region 7 with fail
   generalize (s[k].toNat:Int)=c at *
   have HC:=yD hg
   clear hg
   refine kS (fun W=>Hid (W=w)) [true,false,true,true,true,false,true,true,true,true,true,true] (yD rfl) ?_
   intro wS HS
   all_goals refine wkR ?_
   all_goals first | refine wkC (jR) ?_ | refine wkR ?_
   all_goals refine wkR ?_
   all_goals (have hg3:=True.intro;first|(refine wkG (fun b hg3=>?_);cases b;all_goals first | exact Bool.noConfusion hg3 | simp only [zU,zV] at hg3 | skip) | refine wkR ?_)
   all_goals refine wkP ?_
   all_goals refine wkR ?_
   all_goals first | refine wkC (jR) ?_ | refine wkR ?_
   all_goals refine wkR ?_
   all_goals refine wkR ?_
   all_goals (have hg8:=True.intro;first|(refine wkG (fun b hg8=>?_);cases b;all_goals first | exact Bool.noConfusion hg8 | simp only [zU,zV] at hg8 | skip) | refine wkR ?_)
   all_goals refine wkP ?_
   all_goals refine wkR ?_
   all_goals refine wkR ?_
   all_goals (have hg11:=True.intro;first|(refine wkG (fun b hg11=>?_);cases b;all_goals first | exact Bool.noConfusion hg11 | simp only [zU,zV] at hg11 | skip) | refine wkR ?_)
   all_goals refine wkP ?_
   all_goals refine kN ?_
   all_goals obtain rfl:=HS.out.symm
   all_goals first
     | (have HV:=(congrArg kDw HC.out).trans (show _=false by simp only [kDw,Bool.not_true,Bool.not_false,Bool.and_true,Bool.true_and,Bool.and_false,Bool.false_and,Bool.or_true,Bool.true_or,Bool.or_false,Bool.false_or,Bool.not_not,hg3,hg8,hg11]);have HT:=yD (HB.out HV);clear HV HB HX HC;go_wp2;go_ret;exact ⟨kP HT.out.symm,rfl⟩)
     | (have HV:=(congrArg kDw HC.out).trans (show _=true by simp only [kDw,Bool.not_true,Bool.not_false,Bool.and_true,Bool.true_and,Bool.and_false,Bool.false_and,Bool.or_true,Bool.true_or,Bool.or_false,Bool.false_or,Bool.not_not,hg3,hg8,hg11]);have HT:=yD (HX.out HV);clear HV HB HX HC;go_wp2;go_round;(case rel=>exact ⟨k + 1,by omega,by go_num,HT⟩);(case measure=>simp [intOf];omega))
 have HT:=yD (kGu HN.out hlt hk)
 have HU:=yD (HT.out.trans HI.out)
 go_wp2
 go_ret
 exact ⟨kP HU.out.symm,rfl⟩
theorem kGg {w:World} {s:ByteArray} (hs:s.size≤maxLen):Calls Try.prog 90 #[.string s] w fun e w'=>e=.returned (.bool (yV s))∧w'=w:=by
 unfold maxLen at hs
 go_enter Try.func90,Try.ntmps90
 go_wp2
 go_loop [7] (fun i=>∃ k:Nat,k≤s.size∧i=.int .i64 k∧Hid (yH (fun j=>kDw (zX s j)) k=true)) (fun i=>s.size - (intOf i).toNat)
 case atStart=>exact ⟨0,Nat.zero_le _,rfl,yD rfl⟩
 obtain ⟨k,hk,rfl,HN⟩:=hrel
 by_cases hlt:k < s.size
 · have hr:=kHp s k
   have hg:=kHq hlt
   have HB:=yD (fun q=>kIg hlt q)
   have HX:=yD (fun q=>zt (f:=fun j=>kDw (zX s j)) HN.out q)
   go_upto_region 5 with fail
   generalize (s[k].toNat:Int)=c at *
   have HC:=yD hg
   clear hg
   refine kS (fun W=>Hid (W=w)) [true,true,true,true,true,true,true,true,true,true,true,true,true,true,true,true,true,true,true] (yD rfl) ?_
   intro wS HS
   all_goals refine wkR ?_
   all_goals refine wkR ?_
   all_goals (have hg2:=True.intro;first|(refine wkG (fun b hg2=>?_);cases b;all_goals first | exact Bool.noConfusion hg2 | simp only [zU,zV] at hg2 | skip) | refine wkR ?_)
   all_goals refine wkP ?_
   iterate 3
    all_goals refine wkR ?_
   all_goals (have hg6:=True.intro;first|(refine wkG (fun b hg6=>?_);cases b;all_goals first | exact Bool.noConfusion hg6 | simp only [zU,zV] at hg6 | skip) | refine wkR ?_)
   all_goals refine wkP ?_
   all_goals refine wkR ?_
   all_goals refine wkR ?_
   all_goals (have hg9:=True.intro;first|(refine wkG (fun b hg9=>?_);cases b;all_goals first | exact Bool.noConfusion hg9 | simp only [zU,zV] at hg9 | skip) | refine wkR ?_)
   all_goals refine wkP ?_
   iterate 4
    all_goals refine wkR ?_
   all_goals (have hg14:=True.intro;first|(refine wkG (fun b hg14=>?_);cases b;all_goals first | exact Bool.noConfusion hg14 | simp only [zU,zV] at hg14 | skip) | refine wkR ?_)
   all_goals refine wkP ?_
   iterate 3
    all_goals refine wkR ?_
   all_goals (have hg18:=True.intro;first|(refine wkG (fun b hg18=>?_);cases b;all_goals first | exact Bool.noConfusion hg18 | simp only [zU,zV] at hg18 | skip) | refine wkR ?_)
   all_goals refine wkP ?_
   all_goals refine kN ?_
   all_goals obtain rfl:=HS.out.symm
   all_goals first
     | (have HV:=(congrArg kDw HC.out).trans ((okBi_eq _).symm.trans (show _=false by simp only [okBi,Bool.not_true,Bool.not_false,Bool.and_true,Bool.true_and,Bool.and_false,Bool.false_and,Bool.or_true,Bool.true_or,Bool.or_false,Bool.false_or,Bool.not_not,ge_iff_le,hg2,hg6,hg9,hg14,hg18]));have HT:=yD (HB.out HV);clear HV HB HX HC;go_wp2;go_ret;exact ⟨kP HT.out.symm,rfl⟩)
     | (have HV:=(congrArg kDw HC.out).trans ((okBi_eq _).symm.trans (show _=true by simp only [okBi,Bool.not_true,Bool.not_false,Bool.and_true,Bool.true_and,Bool.and_false,Bool.false_and,Bool.or_true,Bool.true_or,Bool.or_false,Bool.false_or,Bool.not_not,ge_iff_le,hg2,hg6,hg9,hg14,hg18]));have HT:=yD (HX.out HV);clear HV HB HX HC;go_wp2;go_round;(case rel=>exact ⟨k + 1,by omega,by go_num,HT⟩);(case measure=>simp [intOf];omega))
 have HT:=yD (kGu HN.out hlt hk)
 go_wp2_with fail
 refine jM.mono ?_
 rintro e w1 ⟨rfl,hw⟩
 obtain rfl:=hw.symm
 go_wp2
 go_ret
 exact ⟨kP HT.out.symm,rfl⟩
def yX (n:kw):Bool:=yH (fun j=>yV (n.getD j ByteArray.empty)) n.length && decide (n.length≤6)
theorem vName_bad {n:kw} {k:Nat} (h:k < n.length) (q:yV n[k]=false):yX n=false:=by
 unfold yX;rw [kCr h dE];rfl
theorem vName_next {n:kw} {k:Nat} (h:k < n.length) (q:yV n[k]=true) (a:yH (fun j=>yV (n.getD j ByteArray.empty)) k=true):yH (fun j=>yV (n.getD j ByteArray.empty)) (k + 1)=true :=
  zt a dE
theorem vName_good {n:kw} {k:Nat} (q:yH (fun j=>yV (n.getD j ByteArray.empty)) k=true) (h:¬ k < n.length) (hk:k≤n.length):yX n=decide (n.length≤6):=by
 obtain rfl:k=n.length:=gV
 unfold yX;rw [q];rfl
theorem idx_all {α:Type} (p:α→Bool) (x:List α) (d:α):(!decide (0≤idxOf p x))=yH (fun j=>!p (x.getD j d)) x.length:=by
 unfold idxOf
 cases h:x.findIdx? p with
 | none =>
   have hn:=List.findIdx?_eq_none_iff.1 h
   have:yH (fun j=>!p (x.getD j d)) x.length=true:=by
     have key:∀ n,n≤x.length→yH (fun j=>!p (x.getD j d)) n=true:=by
       intro n
       induction n with
       | zero=>intro _;rfl
       | succ n ih =>
         intro hn2
         refine zt (ih gV) ?_
         (try simp only)
         rw [jQ gV,hn _ (List.getElem_mem _)]
         rfl
     exact key _ nL
   rw [this];simp
 | some i =>
   obtain ⟨hi,hp,_⟩:=List.findIdx?_eq_some_iff_getElem.1 h
   rw [kCr hi (by (try simp only);rw [jQ hi,hp];rfl)]
   simp
theorem vName_idx (n:kw):yX n=(decide (n.length≤6) && !decide (0≤idxOf (fun p=>!yV p) n)):=by
 unfold yX
 rw [idx_all _ n ByteArray.empty]
 simp only [Bool.not_not]
 exact Bool.and_comm _ _
theorem yQ {w:World} {cn:List Value} {n:kw} (hn:kZ.raw w cn n):Calls Try.prog 66 #[.agg cn.toArray] w fun e w'=>e=.returned (.bool (yX n))∧Below w.heap.size w w':=by
 obtain ⟨av,rfl,a_0⟩:=kY hn
 obtain ⟨aa,capa,rfl,la⟩:=Rep.sl a_0
 clear hn
 go_enter Try.func66,Try.ntmps66
 go_wp2
 generalize hwB:World.alloc w _=wB
 have EB:Below w.heap.size w wB:=by rw [← hwB];exact bB
 have K0:wB.cell? ⟨w.heap.size,0,none⟩=some (.slice aa n.length capa):=dX
 clear hwB
 replace a_0:=a_0.below EB
 go_loopw [3] (fun i wr=>∃ k:Nat,k≤n.length∧i=.int .i64 k∧Hid (yH (fun j=>yV (n.getD j ByteArray.empty)) k=true)∧Below wB.heap.size wB wr) (fun i _=>n.length - (intOf i).toNat)
 case atStart=>exact ⟨0,Nat.zero_le _,rfl,yD rfl,bR⟩
 obtain ⟨k,hk,rfl,HN,hbel⟩:=hrel
 replace K0:=cL hbel K0
 have EB2:=(tQ EB hbel)
 by_cases hlt:k < n.length
 · obtain ⟨ba,offa,rfl,c0,hr,A0⟩:=Rep.get1 (a_0.below hbel) hlt rfl
   obtain ⟨he,hsz⟩:=Rep.yY hr
   obtain rfl:c0=_:=by simpa using he
   clear he hr
   have hb:=fun q=>vName_bad hlt q
   have hx:=fun q=>vName_next hlt q HN.out
   generalize n[k]=s at *
   have HB:=yD hb;have HX:=yD hx;have HSZ:=yD hsz;clear hb hx hsz
   go_wp2_with fail
   refine (kGc HSZ.out).mono ?_
   rintro e w1 ⟨rfl,hw⟩
   obtain rfl:=hw.symm
   cases hv:yV s
   · have HT:=yD (HB.out hv)
     go_wp2
     go_ret
     exact ⟨kP HT.out.symm,EB2⟩
   have HT:=yD (HX.out hv)
   go_wp2
   go_roundw
   case rel=>exact ⟨k + 1,by omega,by go_num,HT,hbel⟩
   simp [intOf];omega
 have HT:=yD (vName_good HN.out hlt hk)
 go_wp2
 go_ret
 exact ⟨kP (by rw [HT.out];simp;try omega),EB2⟩
theorem kFm {w:World} {s:ByteArray} (hs:s.size≤maxLen):Calls Try.prog 89 (#[.string s]++#[]) w fun e w'=>e=.returned (.bool (!yV s))∧Below w.heap.size w w':=by
 show Calls Try.prog 89 #[_] w _
 go_enter Try.func89,Try.ntmps89
 go_wp2_with fail
 refine (kGg hs).mono ?_
 rintro e w1 ⟨rfl,hw⟩
 obtain rfl:=hw.symm
 go_wp2
 go_ret
 exact ⟨rfl,bR⟩
theorem kAe:jG Try.prog 89:=jr Try.func89 gP gP
theorem kBz {w:World} {cn:List Value} {n:kw} (hn:kZ.raw w cn n):Calls Try.prog 65 #[.agg cn.toArray] w fun e w'=>e=.returned (.bool (yX n))∧Below w.heap.size w w':=by
 obtain ⟨av,rfl,a_0⟩:=kY hn
 obtain ⟨aa,capa,rfl,la⟩:=Rep.sl a_0
 clear hn
 have HV:=yD (vName_idx n)
 go_enter Try.func65,Try.ntmps65
 by_cases hl:n.length≤6
 · have hd:decide ((n.length:Int)≤6)=true:=gQ
   have hdn:decide (n.length≤6)=true:=gB
   go_wp2_with fail
   refine (kCg (fun p=>!yV p) kAe (a_0.below bB) ?_).mono ?_
   · intro wr hb i h c hr
     obtain ⟨he,hsz⟩:=Rep.yY hr
     obtain rfl:c=_:=by simpa using he
     exact kFm hsz
   rintro e w1 ⟨rfl,hb1⟩
   have EF:Below w.heap.size w w1:=Below.trans bB (hb1.mono gW)
   clear hb1
   go_wp2
   go_ret
   exact ⟨kP (by rw [HV.out,hdn];simp),EF⟩
 have hd:decide ((n.length:Int)≤6)=false:=gQ
 have hdn:decide (n.length≤6)=false:=gB
 go_wp2
 go_ret
 exact ⟨kP (by rw [HV.out,hdn];rfl),bB⟩
end Go.Proofs.Ytpgnbablhdknnaa

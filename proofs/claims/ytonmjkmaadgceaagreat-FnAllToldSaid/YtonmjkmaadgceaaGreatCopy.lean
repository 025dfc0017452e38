/-
  Copies of names.
-/
import Derived.Test.YtonmjkmaadgceaaGreatCur
set_option linter.unusedVariables false
set_option linter.unusedSimpArgs false
set_option linter.unnecessarySimpa false
set_option maxRecDepth 100000
set_option maxHeartbeats 4000000
namespace Go.Proofs.YtonmjkmaadgceaaGreat
open Go.RowKit _root_.Go.Proofs.Tryz
theorem kIe:∀ l:List UInt8,Op.bytesLess l l=false
  | []=>rfl
  | a :: l=>by simp [Op.bytesLess,kIe l]
def kIz (a b:ByteArray):Int:=if Op.bytesLess a.toList b.toList then -1 else if a=b then 0 else 1
theorem kFn {a b:ByteArray}:kIz a b=0↔a=b:=by
 unfold kIz
 constructor
 · intro h
   split at h
   · omega
   split at h
   · assumption
   omega
 rintro rfl
 simp [kIe]
def kJq:List ByteArray→List ByteArray→Int
  | [],[]=>0
  | [],_ :: _=>-1
  | _ :: _,[]=>1
  | a :: x,b :: y=>if kIz a b=0 then kJq x y else kIz a b
theorem kVx:∀ {x y:List ByteArray},kJq x y=0↔x=y
  | [],[]=>by simp [kJq]
  | [],_ :: _=>by simp [kJq]
  | _ :: _,[]=>by simp [kJq]
  | a :: x,b :: y=>by
    unfold kJq
    by_cases h:kIz a b=0
    · rw [if_pos h,kVx (x:=x) (y:=y)]
      have:=kFn.1 h
      subst this
      simp
    · rw [if_neg h]
      constructor
      · intro q;exact absurd q h
      · intro q
        simp only [List.cons.injEq] at q
        exact absurd (kFn.2 q.1) h
theorem kVy:∀ {x y:List ByteArray} {k:Nat} (hx:k < x.length) (hy:k < y.length),x.take k=y.take k→¬ kIz x[k] y[k]=0→kJq x y=kIz x[k] y[k]
  | [],_,_,hx,_,_,_=>by simp at hx
  | _ :: _,[],_,_,hy,_,_=>by simp at hy
  | a :: x,b :: y,0,_,_,_,h=>by
    simp at h
    simp [kJq,h]
  | a :: x,b :: y,k + 1,hx,hy,ht,h=>by
    simp only [List.take_succ_cons,List.cons.injEq] at ht
    simp only [List.getElem_cons_succ] at h ⊢
    have h0:=kFn.2 ht.1
    simp only [kJq,h0,if_true]
    exact kVy (by simpa using hx) (by simpa using hy) ht.2 h
theorem cmpN_end:∀ {x y:List ByteArray} {k:Nat},k≤x.length→k≤y.length→x.take k=y.take k→¬ (k < x.length∧k < y.length)→kJq x y=if x.length < y.length then -1 else if y.length < x.length then 1 else 0
  | [],[],_,_,_,_,_=>by simp [kJq]
  | [],b :: y,_,_,_,_,_=>by simp [kJq]
  | a :: x,[],_,_,_,_,_=>by simp [kJq]
  | a :: x,b :: y,0,_,_,_,h=>by simp at h
  | a :: x,b :: y,k + 1,hx,hy,ht,h=>by
    simp only [List.take_succ_cons,List.cons.injEq] at ht
    have h0:=kFn.2 ht.1
    simp only [kJq,h0,if_true,List.length_cons]
    rw [cmpN_end (k:=k) (by simpa using hx) (by simpa using hy) ht.2 bA5]
    simp
theorem take_next {x y:List ByteArray} {k:Nat} (hx:k < x.length) (hy:k < y.length) (h:x.take k=y.take k) (e:kIz x[k] y[k]=0):x.take (k + 1)=y.take (k + 1) :=
  kIn h hx hy (kFn.1 e)
def eqN (a b:kQ):Bool:=decide (a=b)
theorem specl4Cmp_c {w:World} {a b:ByteArray}:Calls prog 129 #[.string a,.string b] w fun e w'=>e=.returned (.int .i64 (kIz a b))∧w'=w:=by
 go_enter func129,ntmps129
 cases h1:Op.bytesLess a.toList b.toList
 · cases h2:(a.toList==b.toList)
   · have U:=yD (show kIz a b=1 by
       unfold kIz
       rw [h1]
       rw [kXb] at h2
       simp at h2
       simp [h2])
     exact lC
   have U:=yD (show kIz a b=0 by
     rw [kXb] at h2
     simp at h2
     exact kFn.2 h2)
   exact lC
 have U:=yD (show kIz a b=-1 by simp [kIz,h1])
 exact lC
theorem kMf {w:World} {ca cb:List Value} {a b:kQ} (ha:kM.raw w ca a) (hb:kM.raw w cb b) :
    Calls prog 96 #[.agg ca.toArray,.agg cb.toArray] w (bQ w (.int .i64 (kJq a b))):=by
 obtain ⟨av,rfl,ac⟩:=kU ha
 obtain ⟨bv,rfl,a4⟩:=kU hb
 clear ha hb
 obtain ⟨aa,J,rfl,la⟩:=kE.sl ac
 obtain ⟨ab,I,rfl,lb⟩:=kE.sl a4
 go_enter func96,ntmps96
 go_wp2
 generalize H:World.alloc (World.alloc w _) _=N
 obtain ⟨Z,K0,K1⟩:=CE
 clear H
 replace ac:=ac.below Z
 replace a4:=a4.below Z
 go_loopw [5] (fun i wr=>∃ k:Nat,k≤a.length∧k≤b.length∧i=.int .i64 k∧Hid (a.take k=b.take k)∧Below N.heap.size N wr) (fun i _=>a.length - (intOf i).toNat)
 case atStart=>exact ⟨0,Nat.zero_le _,Nat.zero_le _,rfl,yD rfl,bR⟩
 obtain ⟨k,hk,en,rfl,HN,D⟩:=hrel
 replace K0:=cL D K0
 replace K1:=cL D K1
 by_cases hc:k < a.length∧k < b.length
 · obtain ⟨hlt,bk⟩:=hc
   have hd:decide ((k:Int) < a.length)=true:=by simpa using hlt
   have e0:decide (k < a.length)=true:=by simpa using hlt
   obtain ⟨ba,ah,rfl,c0,hr,A0⟩:=kE.kBo (ac.below D) hlt rfl
   obtain ⟨bb,O,rfl,d0,R,B0⟩:=kE.kBo (a4.below D) bk rfl
   obtain ⟨he,_⟩:=kE.yY hr
   obtain rfl:c0=_:=by simpa using he
   obtain ⟨L,_⟩:=kE.yY R
   obtain rfl:d0=_:=by simpa using L
   clear he L hr R
   have V:=fun q=>kVy hlt bk HN.out q
   have F:=fun q=>take_next hlt bk HN.out q
   generalize a[k]=x at *
   generalize b[k]=y at *
   have HD:=yD V
   have HX:=yD F
   clear V F
   go_wp2_with fail
   have FX:=yD (fun (W:World) (hW:Below wr.heap.size wr W)=>kLd hW K0 K1 A0 B0)
   refine kW (fun W=>Below wr.heap.size wr W) [true,true,true,true,true,true,true,true,true,true,false,true] bB4 bB4 qD (bR.drew) ?_
   intro wS E
   iterate 10
    all_goals refine kS ?_
   all_goals first | refine wkC (specl4Cmp_c) ?_ | refine kS ?_
   all_goals refine kS ?_
   all_goals refine kZ ?_
   have EF:=(tQ Z (tQ D E))
   have G:=(tQ D E)
   by_cases hz:kIz x y=0
   · have U:=yD (HX.out hz)
     clear HD HX
     have X:(kIz x y==0)=true:=wW
     have an:(kIz x y != 0)=false:=wW
     clear hz
     go_wp2
     go_roundw
     case rel=>exact ⟨k + 1,by omega,by omega,by go_num,U,G⟩
     simp [intOf];omega
   have U:=yD (HD.out hz)
   clear HD HX
   have X:(kIz x y==0)=false:=wW
   have an:(kIz x y != 0)=true:=wW
   go_wp2
   go_ret
   exact ⟨jW U.out.symm,EF⟩
 have U:=yD (cmpN_end hk en HN.out hc)
 have EF:=(tQ Z D)
 by_cases h1:k < a.length
 · have hd:decide ((k:Int) < a.length)=true:=wM
   have e0:decide (k < a.length)=true:=wM
   have h2:¬ k < b.length:=fun q=>hc ⟨h1,q⟩
   have h3:¬ (a.length:Int) < b.length:=bB9
   have h4:(b.length:Int) < a.length:=bB9
   have HU:=yD (show kJq a b=1 by rw [U.out,if_neg bB9,if_pos bB9])
   clear hc U
   go_wp2
   all_goals go_ret
   all_goals exact ⟨jW HU.out.symm,EF⟩
 have hd:decide ((k:Int) < a.length)=false:=wM
 have e0:decide (k < a.length)=false:=wM
 clear hc
 by_cases h3:a.length < b.length
 · have HU:=yD (show kJq a b=-1 by rw [U.out,if_pos h3])
   clear U
   go_wp2
   go_ret
   exact ⟨jW HU.out.symm,EF⟩
 have h4:¬ b.length < a.length:=bB9
 have HU:=yD (show kJq a b=0 by rw [U.out,if_neg h3,if_neg h4])
 clear U
 go_wp2
 go_ret
 exact ⟨jW HU.out.symm,EF⟩
theorem kAe {w:World} {ca cb:List Value} {a b:kQ} (ha:kM.raw w ca a) (hb:kM.raw w cb b) :
    Calls prog 53 #[.agg ca.toArray,.agg cb.toArray] w (bQ w (.bool (eqN a b))):=by
 have HA:=yD ha
 have HB:=yD hb
 obtain ⟨av,rfl,ac⟩:=kU ha
 obtain ⟨bv,rfl,a4⟩:=kU hb
 clear ha hb
 obtain ⟨aa,J,rfl,la⟩:=kE.sl ac
 obtain ⟨ab,I,rfl,lb⟩:=kE.sl a4
 go_enter func53,ntmps53
 go_wp2_with fail
 refine (kMf (HA.out.below bI) (HB.out.below bI)).mono ?_
 rintro e w1 ⟨rfl,O⟩
 have EF:Below w.heap.size w w1:=Below.trans bI (O.mono wF)
 clear O
 go_wp2
 go_ret
 exact ⟨kR (by unfold eqN;rw [Bool.eq_iff_iff];simp [kVx]),EF⟩
theorem kKo {w:World} {va V:Value} {a b:List ByteArray} (ac:(kE.slice 9 kE.str).raw w [va] a) (a4:(kE.slice 9 kE.str).raw w [V] b) :
    Calls prog 89 #[va,V] w (bQ w (.bool (eqN a b))):=by
 obtain ⟨aa,J,rfl,la⟩:=kE.sl ac
 obtain ⟨ab,I,rfl,lb⟩:=kE.sl a4
 go_enter func89,ntmps89
 by_cases hl:a.length=b.length
 case neg =>
  have U:=yD (show eqN a b=false by unfold eqN;simp;rintro rfl;exact hl rfl)
  exact iM
 have hz:((a.length:Int) != b.length)=false:=bB5
 have H:(a.length != b.length)=false:=wI
 have HL:=yD hl;clear hl
 go_wp2
 go_loopw [13] (fun i wr=>∃ k:Nat,k≤a.length∧i=.int .i64 k∧Hid (a.take k=b.take k)∧Below w.heap.size w wr) (fun i _=>a.length - (intOf i).toNat)
 case atStart=>exact ⟨0,Nat.zero_le _,rfl,yD rfl,bR⟩
 obtain ⟨k,hk,rfl,HN,D⟩:=hrel
 by_cases hlt:k < a.length
 · have bk:k < b.length:=vN
   obtain ⟨ba,ah,rfl,c0,hr,A0⟩:=kE.kBo (ac.below D) hlt rfl
   obtain ⟨bb,O,rfl,d0,R,B0⟩:=kE.kBo (a4.below D) bk rfl
   obtain ⟨he,_⟩:=kE.yY hr
   obtain rfl:c0=_:=by simpa using he
   obtain ⟨L,_⟩:=kE.yY R
   obtain rfl:d0=_:=by simpa using L
   clear he L hr R
   have hne:=fun q=>kVm hlt bk q
   have F:=fun q=>kIn HN.out hlt bk q
   generalize a[k]=x at *
   generalize b[k]=y at *
   have HD:=yD hne
   have HX:=yD F
   clear hne F
   go_wp2_with fail
   have FX:=yD (fun (W:World) (hW:Below wr.heap.size wr W)=>cLs2 hW A0 B0)
   refine kW (fun W=>Below wr.heap.size wr W) [true,true,true,true,true,true,true,true,true] bB4 bB4 qD (bR.drew) ?_
   intro wS E
   iterate 9
    all_goals refine kS ?_
   all_goals refine kZ ?_
   have G:=(tQ D E)
   cases hz:(x.toList==y.toList)
   · have U:=yD (show eqN a b=false by
       rw [kXb] at hz;simp at hz;unfold eqN;simp;exact HD.out hz)
     clear HD HX
     exact iN
   have U:=yD (HX.out (by rw [kXb] at hz;simpa using hz))
   exact iO
 have U:=yD (show eqN a b=true by unfold eqN;simp;exact kTn HN.out hlt HL.out)
 go_wp2
 go_ret
 exact ⟨kR U.out.symm,D⟩
theorem ym {w:World} {ca cb:List Value} {a b:kQ} (ha:kM.raw w ca a) (hb:kM.raw w cb b) :
    Calls prog 46 #[.agg ca.toArray,.agg cb.toArray] w (bQ w (.bool (eqN a b))):=by
 obtain ⟨av,rfl,ac⟩:=kU ha
 obtain ⟨bv,rfl,a4⟩:=kU hb
 clear ha hb
 obtain ⟨aa,J,rfl,la⟩:=kE.sl ac
 obtain ⟨ab,I,rfl,lb⟩:=kE.sl a4
 go_enter func46,ntmps46
 go_wp2_with fail
 refine (kKo (ac.below bI) (a4.below bI)).mono ?_
 rintro e w1 ⟨rfl,O⟩
 have EF:Below w.heap.size w w1:=Below.trans bI (O.mono wF)
 clear O
 go_wp2
 go_ret
 exact ⟨rfl,EF⟩
def kMj (c:Int):Bool:=!((!inR c 97 122 && !inR c 48 57) && (c != 45))
def okBi (c:Int):Bool:=((decide (c ≥ 97) && decide (c≤122)) || (decide (c ≥ 48) && decide (c≤57))) || (c==45)
def kBf (s:ByteArray) (j:Nat):Int:=(s.data.toList.getD j 0).toNat
def kBy (s:ByteArray):Bool:=yX (fun j=>kMj (kBf s j)) s.size && inR s.size 1 8
theorem okBi_eq (c:Int):okBi c=kMj c:=by
 unfold okBi kMj inR
 rw [Bool.eq_iff_iff]
 simp
 try omega
theorem vPart_out {s:ByteArray} (h:inR s.size 1 8=false):kBy s=false:=by simp [kBy,h]
theorem kUr {s:ByteArray} {k:Nat} (h:k < s.size) (q:kMj (kBf s k)=false):kBy s=false:=by
 unfold kBy;rw [kCj h q];rfl
theorem kRy {s:ByteArray} {k:Nat} (q:yX (fun j=>kMj (kBf s j)) k=true) (h:¬ k < s.size) (hk:k≤s.size):kBy s=inR s.size 1 8:=by
 obtain rfl:k=s.size:=bB9
 unfold kBy;rw [q];rfl
theorem kEt {s:ByteArray} {k:Nat} (h:k < s.size):kBf s k=(s[k].toNat:Int):=by
 unfold kBf
 rw [jM bA5]
 rfl
theorem kJa (s:ByteArray) (k:Nat):0≤kBf s k∧kBf s k < 256:=by
 unfold kBf;have:=(s.data.toList.getD k 0).toNat_lt;omega
theorem kJe {w:World} {s:ByteArray} (hs:s.size≤maxLen):Calls prog 95 #[.string s] w fun e w'=>e=.returned (.bool (kBy s))∧w'=w:=by
 unfold maxLen at hs
 go_enter func95,ntmps95
 go_wp2_with fail
 refine ji.mono ?_
 rintro e w1 ⟨rfl,hw⟩
 obtain rfl:=hw.symm
 cases R:inR s.size 1 8
 · have U:=yD (vPart_out R)
   go_wp2
   go_ret
   exact ⟨kR U.out.symm,rfl⟩
 have HI:=yD R
 go_wp2
 go_loop [3] (fun i=>∃ k:Nat,k≤s.size∧i=.int .i64 k∧Hid (yX (fun j=>kMj (kBf s j)) k=true)) (fun i=>s.size - (intOf i).toNat)
 case atStart=>exact ⟨0,Nat.zero_le _,rfl,yD rfl⟩
 obtain ⟨k,hk,rfl,HN⟩:=hrel
 by_cases hlt:k < s.size
 · have hr:=kJa s k
   have hg:=kEt hlt
   have HB:=yD (fun q=>kUr hlt q)
   have HX:=yD (fun q=>kAq (f:=fun j=>kMj (kBf s j)) HN.out q)
   go_upto_region 7 with fail
   generalize (s[k].toNat:Int)=c at *
   have HC:=yD hg
   clear hg
   refine kz (fun W=>Hid (W=w)) [true,false,true,true,true,false,true,true,true,true,true,true] (yD rfl) ?_
   intro wS E
   all_goals refine kS ?_
   all_goals first | refine wkC (ji) ?_ | refine kS ?_
   all_goals refine kS ?_
   all_goals (have ag:=True.intro;first|(refine yT (fun b ag=>?_);cases b;all_goals first | exact Bool.noConfusion ag | simp only [zU,zV] at ag | skip) | refine kS ?_)
   all_goals refine kX ?_
   all_goals refine kS ?_
   all_goals first | refine wkC (ji) ?_ | refine kS ?_
   all_goals refine kS ?_
   all_goals refine kS ?_
   all_goals (have ac:=True.intro;first|(refine yT (fun b ac=>?_);cases b;all_goals first | exact Bool.noConfusion ac | simp only [zU,zV] at ac | skip) | refine kS ?_)
   all_goals refine kX ?_
   all_goals refine kS ?_
   all_goals refine kS ?_
   all_goals (have Y:=True.intro;first|(refine yT (fun b Y=>?_);cases b;all_goals first | exact Bool.noConfusion Y | simp only [zU,zV] at Y | skip) | refine kS ?_)
   all_goals refine kX ?_
   all_goals refine kZ ?_
   all_goals obtain rfl:=E.out.symm
   all_goals first
     | (have HV:=(congrArg kMj HC.out).trans (show _=false by simp only [kMj,Bool.not_true,Bool.not_false,Bool.and_true,Bool.true_and,Bool.and_false,Bool.false_and,Bool.or_true,Bool.true_or,Bool.or_false,Bool.false_or,Bool.not_not,ag,ac,Y]);have U:=yD (HB.out HV);clear HV HB HX HC;go_wp2;go_ret;exact ⟨kR U.out.symm,rfl⟩)
     | (have HV:=(congrArg kMj HC.out).trans (show _=true by simp only [kMj,Bool.not_true,Bool.not_false,Bool.and_true,Bool.true_and,Bool.and_false,Bool.false_and,Bool.or_true,Bool.true_or,Bool.or_false,Bool.false_or,Bool.not_not,ag,ac,Y]);have U:=yD (HX.out HV);clear HV HB HX HC;go_wp2;go_round;(case rel=>exact ⟨k + 1,by omega,by go_num,U⟩);(case measure=>simp [intOf];omega))
 have U:=yD (kRy HN.out hlt hk)
 have HU:=yD (U.out.trans HI.out)
 go_wp2
 go_ret
 exact ⟨kR HU.out.symm,rfl⟩
theorem kJk {w:World} {s:ByteArray} (hs:s.size≤maxLen):Calls prog 88 #[.string s] w fun e w'=>e=.returned (.bool (kBy s))∧w'=w:=by
 unfold maxLen at hs
 go_enter func88,ntmps88
 go_wp2
 go_loop [7] (fun i=>∃ k:Nat,k≤s.size∧i=.int .i64 k∧Hid (yX (fun j=>kMj (kBf s j)) k=true)) (fun i=>s.size - (intOf i).toNat)
 case atStart=>exact ⟨0,Nat.zero_le _,rfl,yD rfl⟩
 obtain ⟨k,hk,rfl,HN⟩:=hrel
 by_cases hlt:k < s.size
 · have hr:=kJa s k
   have hg:=kEt hlt
   have HB:=yD (fun q=>kUr hlt q)
   have HX:=yD (fun q=>kAq (f:=fun j=>kMj (kBf s j)) HN.out q)
   go_upto_region 5 with fail
   generalize (s[k].toNat:Int)=c at *
   have HC:=yD hg
   clear hg
   refine kz (fun W=>Hid (W=w)) [true,true,true,true,true,true,true,true,true,true,true,true,true,true,true,true,true,true,true] (yD rfl) ?_
   intro wS E
   all_goals refine kS ?_
   all_goals refine kS ?_
   all_goals (have R:=True.intro;first|(refine yT (fun b R=>?_);cases b;all_goals first | exact Bool.noConfusion R | simp only [zU,zV] at R | skip) | refine kS ?_)
   all_goals refine kX ?_
   iterate 3
    all_goals refine kS ?_
   all_goals (have O:=True.intro;first|(refine yT (fun b O=>?_);cases b;all_goals first | exact Bool.noConfusion O | simp only [zU,zV] at O | skip) | refine kS ?_)
   all_goals refine kX ?_
   all_goals refine kS ?_
   all_goals refine kS ?_
   all_goals (have L:=True.intro;first|(refine yT (fun b L=>?_);cases b;all_goals first | exact Bool.noConfusion L | simp only [zU,zV] at L | skip) | refine kS ?_)
   all_goals refine kX ?_
   iterate 4
    all_goals refine kS ?_
   all_goals (have I:=True.intro;first|(refine yT (fun b I=>?_);cases b;all_goals first | exact Bool.noConfusion I | simp only [zU,zV] at I | skip) | refine kS ?_)
   all_goals refine kX ?_
   iterate 3
    all_goals refine kS ?_
   all_goals (have X:=True.intro;first|(refine yT (fun b X=>?_);cases b;all_goals first | exact Bool.noConfusion X | simp only [zU,zV] at X | skip) | refine kS ?_)
   all_goals refine kX ?_
   all_goals refine kZ ?_
   all_goals obtain rfl:=E.out.symm
   all_goals first
     | (have HV:=(congrArg kMj HC.out).trans ((okBi_eq _).symm.trans (show _=false by simp only [okBi,Bool.not_true,Bool.not_false,Bool.and_true,Bool.true_and,Bool.and_false,Bool.false_and,Bool.or_true,Bool.true_or,Bool.or_false,Bool.false_or,Bool.not_not,ge_iff_le,R,O,L,I,X]));have U:=yD (HB.out HV);clear HV HB HX HC;go_wp2;go_ret;exact ⟨kR U.out.symm,rfl⟩)
     | (have HV:=(congrArg kMj HC.out).trans ((okBi_eq _).symm.trans (show _=true by simp only [okBi,Bool.not_true,Bool.not_false,Bool.and_true,Bool.true_and,Bool.and_false,Bool.false_and,Bool.or_true,Bool.true_or,Bool.or_false,Bool.false_or,Bool.not_not,ge_iff_le,R,O,L,I,X]));have U:=yD (HX.out HV);clear HV HB HX HC;go_wp2;go_round;(case rel=>exact ⟨k + 1,by omega,by go_num,U⟩);(case measure=>simp [intOf];omega))
 have U:=yD (kRy HN.out hlt hk)
 go_wp2_with fail
 refine jh.mono ?_
 rintro e w1 ⟨rfl,hw⟩
 obtain rfl:=hw.symm
 go_wp2
 go_ret
 exact ⟨kR U.out.symm,rfl⟩
def yZ (n:kQ):Bool:=yX (fun j=>kBy (n.getD j ByteArray.empty)) n.length && decide (n.length≤6)
theorem kUs {n:kQ} {k:Nat} (h:k < n.length) (q:kBy n[k]=false):yZ n=false:=by
 unfold yZ;rw [kCj h qR];rfl
theorem vName_next {n:kQ} {k:Nat} (h:k < n.length) (q:kBy n[k]=true) (a:yX (fun j=>kBy (n.getD j ByteArray.empty)) k=true):yX (fun j=>kBy (n.getD j ByteArray.empty)) (k + 1)=true :=
  kAq a qR
theorem vName_good {n:kQ} {k:Nat} (q:yX (fun j=>kBy (n.getD j ByteArray.empty)) k=true) (h:¬ k < n.length) (hk:k≤n.length):yZ n=decide (n.length≤6):=by
 obtain rfl:k=n.length:=bB9
 unfold yZ;rw [q];rfl
theorem idx_all {α:Type} (p:α→Bool) (x:List α) (d:α):(!decide (0≤idxOf p x))=yX (fun j=>!p (x.getD j d)) x.length:=by
 unfold idxOf
 cases h:x.findIdx? p with
 | none =>
   have hn:=List.findIdx?_eq_none_iff.1 h
   have:yX (fun j=>!p (x.getD j d)) x.length=true:=by
     have key:∀ n,n≤x.length→yX (fun j=>!p (x.getD j d)) n=true:=by
       intro n
       induction n with
       | zero=>intro _;rfl
       | succ n ih =>
         intro L
         refine kAq (ih bB9) ?_
         (try simp only)
         rw [jM bB9,hn _ (List.getElem_mem _)]
         rfl
     exact key _ nL
   rw [this];simp
 | some i =>
   obtain ⟨hi,hp,_⟩:=List.findIdx?_eq_some_iff_getElem.1 h
   rw [kCj hi (by (try simp only);rw [jM hi,hp];rfl)]
   simp
theorem vName_idx (n:kQ):yZ n=(decide (n.length≤6) && !decide (0≤idxOf (fun p=>!kBy p) n)):=by
 unfold yZ
 rw [idx_all _ n ByteArray.empty]
 simp only [Bool.not_not]
 exact Bool.and_comm _ _
theorem yS {w:World} {cn:List Value} {n:kQ} (hn:kM.raw w cn n):Calls prog 51 #[.agg cn.toArray] w (bQ w (.bool (yZ n))):=by
 obtain ⟨av,rfl,ac⟩:=kU hn
 obtain ⟨aa,J,rfl,la⟩:=kE.sl ac
 clear hn
 go_enter func51,ntmps51
 go_wp2
 generalize H:World.alloc w _=N
 have Z:Below w.heap.size w N:=by rw [← H];exact bI
 have K0:N.cell? ⟨w.heap.size,0,none⟩=some (.slice aa n.length J):=tN
 clear H
 replace ac:=ac.below Z
 go_loopw [3] (fun i wr=>∃ k:Nat,k≤n.length∧i=.int .i64 k∧Hid (yX (fun j=>kBy (n.getD j ByteArray.empty)) k=true)∧Below N.heap.size N wr) (fun i _=>n.length - (intOf i).toNat)
 case atStart=>exact ⟨0,Nat.zero_le _,rfl,yD rfl,bR⟩
 obtain ⟨k,hk,rfl,HN,D⟩:=hrel
 replace K0:=cL D K0
 have I:=(tQ Z D)
 by_cases hlt:k < n.length
 · obtain ⟨ba,ah,rfl,c0,hr,A0⟩:=kE.kBo (ac.below D) hlt rfl
   obtain ⟨he,b0⟩:=kE.yY hr
   obtain rfl:c0=_:=by simpa using he
   clear he hr
   have hb:=fun q=>kUs hlt q
   have hx:=fun q=>vName_next hlt q HN.out
   generalize n[k]=s at *
   have HB:=yD hb;have HX:=yD hx;have O:=yD b0;clear hb hx b0
   go_wp2_with fail
   refine (kJe O.out).mono ?_
   rintro e w1 ⟨rfl,hw⟩
   obtain rfl:=hw.symm
   cases hv:kBy s
   · have U:=yD (HB.out hv)
     go_wp2
     go_ret
     exact ⟨kR U.out.symm,I⟩
   have U:=yD (HX.out hv)
   go_wp2
   go_roundw
   case rel=>exact ⟨k + 1,by omega,by go_num,U,D⟩
   simp [intOf];omega
 have U:=yD (vName_good HN.out hlt hk)
 go_wp2
 go_ret
 exact ⟨kR sW,I⟩
theorem kPf {w:World} {s:ByteArray} (hs:s.size≤maxLen):Calls prog 87 (#[.string s]++#[]) w (bQ w (.bool (!kBy s))):=by
 show Calls prog 87 #[_] w _
 go_enter func87,ntmps87
 go_wp2_with fail
 refine (kJk hs).mono ?_
 rintro e w1 ⟨rfl,hw⟩
 obtain rfl:=hw.symm
 go_wp2
 go_ret
 exact ⟨rfl,bR⟩
theorem kGg:jb prog 87:=zY func87 bB4 bB4
theorem zX {w:World} {cn:List Value} {n:kQ} (hn:kM.raw w cn n):Calls prog 42 #[.agg cn.toArray] w (bQ w (.bool (yZ n))):=by
 obtain ⟨av,rfl,ac⟩:=kU hn
 obtain ⟨aa,J,rfl,la⟩:=kE.sl ac
 clear hn
 have HV:=yD (vName_idx n)
 go_enter func42,ntmps42
 by_cases hl:n.length≤6
 · have hd:decide ((n.length:Int)≤6)=true:=bB5
   have e0:decide (n.length≤6)=true:=wI
   go_wp2_with fail
   refine (kJt (fun p=>!kBy p) kGg (ac.below bI) ?_).mono ?_
   · intro wr hb i h c hr
     obtain ⟨he,b0⟩:=kE.yY hr
     obtain rfl:c=_:=by simpa using he
     exact kPf b0
   rintro e w1 ⟨rfl,O⟩
   have EF:Below w.heap.size w w1:=Below.trans bI (O.mono bC0)
   clear O
   go_wp2
   go_ret
   exact ⟨kR (by rw [HV.out,e0];simp),EF⟩
 have hd:decide ((n.length:Int)≤6)=false:=bB5
 have e0:decide (n.length≤6)=false:=wI
 go_wp2
 go_ret
 exact ⟨kR (by rw [HV.out,e0];rfl),bI⟩
namespace kE
def kDq {α:Type} (r:kE α):Prop:=∀ {o:Bool} {w w':World} {cs:List Value} {x:α} {S:Nat→Prop},r.is o w cs x S→r.is true w' cs x (fun _=>False)
theorem jl:int.kDq:=fun h=>h
theorem kCh:byte.kDq:=fun h=>h
theorem kCg:str.kDq:=fun h=>h
theorem kKi {α β:Type} {r:kE α} {s:kE β} (h:r.kDq) (k:s.kDq):(pair r s).kDq:=by
 intro o w w' cs x S q
 obtain ⟨c,d,A,B,rfl,h1,h2,_⟩:=q
 exact ⟨c,d,_,_,rfl,h h1,k h2,fun _ h=>h,fun _ h=>h,fun _ _ h _=>h⟩
section
variable {α:Type} {r:kE α} {e:TypeId} {w w':World} {v:Value} {xs ys:List α} {S T:Nat→Prop}
theorem kNj (hr:r.kDq) {o:Bool}:∀ {cells:List Value} {ys:List α} {S:Nat→Prop},row r o w cells ys S→row r true w' cells ys (fun _=>False)
  | _,[],_,h=>h
  | _,y :: ys,_,⟨c,d,A,B,h,h1,h2,_⟩=>⟨c,d,_,_,h,hr h1,kNj hr h2,fun _ h=>h,fun _ h=>h,fun _ _ h _=>h⟩
theorem kUz {P:Program} {t ty:TypeId} {z:Value} {bytes:Nat} (ht:P.underlying t=some (.slice e)) (hinf:(P.info? e).map (fun i=>(i.zero,i.size,i.bytes))=some (some z,r.n,bytes)) (hzs:z.cells.size=r.n) (hn:0 < r.n) (hby:bytes≤1000) (hf:r.kDq)
    {B:Nat} (hown:ku e r w v xs S) {av:Option Addr} {len cap:Nat} (hy:(slice e r).rd w [.slice av len cap] ys) (hSB:∀ k,S k→B≤k∧k < w.heap.size) (hB:B≤w.heap.size) (hlen:xs.length + ys.length≤1000000000) :
    ∃ v' w',(Builtin.append_ #[t,t] ty #[v,.slice av len cap]).run P w=.ok v' w'∧ku e r w' v' (xs++ys) (jR B w'.heap.size)∧Below B w w'∧w.heap.size≤w'.heap.size:=by
 obtain ⟨i,hi,hz,hsize,E⟩:=info_parts hinf
 obtain ⟨cells,hsrc,hrow⟩:=kWq hy.1
 have D:row r true w cells ys (fun _=>False):=kNj hf hrow
 obtain ⟨v',w',hr,h2,h3⟩:=kEz (P:=P) (ty:=ty) ht hi hz hsize hzs hn bB9 hown hsrc (zH hrow) (row_one hrow) hlen
 refine ⟨v',w',hr,(h3 D (fun _ _ h=>h) hy.2.2).wide ?_,h2.below hB ?_,h2.size⟩
 · exact iV
 intro k hk;exact (hSB k hk.2).1
theorem jP {P:Program} {o:Oper} {a:Act} {K:Act→World→Prop} {Q:Exit→Act→World→Prop} (s x:Operand) (t:TypeId)
    (ho:o.op=.call { callee:=.builtin .append,args:=#[s,x],argTypes:=#[t,t] }) {v sv v':Value} (hs:a.eval s=v) (hx:a.eval x=sv) {w w':World}
    (hr:(Builtin.append_ #[t,t] o.type #[v,sv]).run P w=.ok v' w') (h:K (a.put o.dst v') w'):o.wp P a w K Q:=by
 unfold Oper.wp execOp
 simp only [ho,resolve,invoke,builtin,Sem.run_bind,Sem.run_pure,Result.andThen_ok,List.map_toArray,List.map_cons,List.map_nil,hs,hx,hr]
 exact h
theorem yF {P:Program} {ops:Array Oper} {rest:List Oper} {o:Oper} {a:Act} {Q:Exit→Act→World→Prop} (D:o.guard=none) (s x:Operand) (t:TypeId)
    (ho:o.op=.call { callee:=.builtin .append,args:=#[s,x],argTypes:=#[t,t] })
    {z:Value} {bytes:Nat} (ht:P.underlying t=some (.slice e)) (hinf:(P.info? e).map (fun i=>(i.zero,i.size,i.bytes))=some (some z,r.n,bytes)) (hzs:z.cells.size=r.n) (hn:0 < r.n) (hby:bytes≤1000) (hf:r.kDq)
    {B:Nat} (hown:ku e r w v xs S) (hs:a.eval s=v) {av:Option Addr} {len cap:Nat} (hx:a.eval x=.slice av len cap) (hy:(slice e r).rd w [.slice av len cap] ys) (hSB:∀ k,S k→B≤k∧k < w.heap.size) (hB:B≤w.heap.size) (hlen:xs.length + ys.length≤1000000000)
    (h:∀ v' w',ku e r w' v' (xs++ys) (jR B w'.heap.size)→Below B w w'→w.heap.size≤w'.heap.size→wpList P ops Q rest (a.put o.dst v') w'):wpList P ops Q (o :: rest) a w:=by
 refine wpList_plain D fun _ J=>?_
 obtain ⟨v',w',hr,h1,h2,h3⟩:=kUz (ty:=o.type) ht hinf hzs hn hby hf hown hy hSB hB hlen
 exact jP s x t ho hs hx hr (J _ _ (h v' w' h1 h2 h3))
end
end kE
theorem kTw {w:World} {va:Value} {x:List ByteArray} (ha:(kE.slice 9 kE.str).rd w [va] x):Calls prog 103 #[va] w (kCk (kE.slice 9 kE.str) x w):=by
 obtain ⟨aa,J,rfl,la⟩:=kE.sl ha.1
 have HA:=yD ha
 have E:=fun (W:World) (a:Option Addr) (n c:Nat)=>Lib.run_eql_slice_nil (P:=prog) W 39 9 a n c 0 0 underlying39
 cases aa with
 | none =>
   have hx:x=[]:=by
     cases x with
     | nil=>rfl
     | cons y ys =>
       exact aJ
   subst hx
   clear ha
   go_enter func103,ntmps103
   go_wp2
   go_ret
   exact ⟨_,rfl,kE.jf,bR⟩
 | some a =>
   have hb:x.length≤16777216:=ha.2.1
   clear ha
   go_enter func103,ntmps103
   have O0:kE.ku 9 kE.str (w.alloc (.cells #[] 9)) (.slice (some ⟨w.heap.size,0,none⟩) 0 0) [] (fun k=>k=w.heap.size):=kE.yV (cs:=[]) (xs:=[]) (T:=fun _=>False) bC0 bC0 rfl (fun _ h=>h.elim) rfl
   go_wp2_with (at_builtin;refine kE.yF rfl _ _ 39 rfl (r:=kE.str) (e:=9) underlying39 kCp rfl bB8 bB8 kE.kCg (B:=w.heap.size) O0 bC1 bC1 (HA.out.alloc _) qZ bC0 bB5 ?_)
   exact aK
theorem zG {w:World} {ca:List Value} {x:kQ} (ha:kM.rd w ca x):Calls prog 69 #[.agg ca.toArray] w (kAn kM x w):=by
 have HA:=yD ha
 obtain ⟨av,rfl,ac⟩:=kU ha.1
 obtain ⟨aa,J,rfl,la⟩:=kE.sl ac
 have hb:x.length≤16777216:=ha.2.1
 clear ha
 go_enter func69,ntmps69
 go_wp2_with fail
 refine (kTw (HA.out.below bI)).mono ?_
 rintro e V ⟨v2,rfl,O2,D⟩
 obtain ⟨a2,c2,hv,_⟩:=kE.kAx O2.raw
 obtain rfl:v2=_:=by simpa using hv
 have L:Hid (kM.own V [.slice a2 x.length c2] x (jR (w.heap.size + 2) V.heap.size)):=yD (O2.wide nE)
 have G:Below w.heap.size w V:=Below.trans bI (D.mono rH)
 clear hv O2
 obtain ⟨R0,F0⟩:=uL
 clear D
 go_wp2
 refine bodyPost_ret (v:=.agg #[.slice a2 x.length c2]) (by simp [results,results69,go_sem,R0,F0]) rfl ⟨[_],rfl,?_,?_⟩
 · exact (L.out.setCell fI).wide gD
 exact G.setCell bC0 _
theorem zi {w:World} {ca:List Value} {x:kQ} (ha:kM.rd w ca x):Calls prog 153 #[.agg ca.toArray] w (kAn kM x w):=by
 have HA:=yD ha
 obtain ⟨av,rfl,ac⟩:=kU ha.1
 obtain ⟨aa,J,rfl,la⟩:=kE.sl ac
 have hb:x.length≤16777216:=ha.2.1
 clear ha
 go_enter func153,ntmps153
 have O0:kE.ku 9 kE.str (((w.alloc (.cells #[.slice aa x.length J] 41)).alloc (.cells #[.slice none 0 0] 41)).alloc (.cells #[] 9)) (.slice (some ⟨w.heap.size + 1 + 1,0,none⟩) 0 0) [] (fun k=>k=w.heap.size + 1 + 1):=by
  exact aL
 go_wp2_with (at_builtin;refine kE.yF rfl _ _ 39 rfl (r:=kE.str) (e:=9) underlying39 kCp rfl bB8 bB8 kE.kCg (B:=w.heap.size + 1 + 1) O0 bC1 bC1 (HA.out.below bI) qZ bC0 bB5 ?_)
 intro v2 V hown D hz
 obtain ⟨a2,c2,hv⟩:=hown.zL
 obtain rfl:=hv
 have hw:=hown.own vG
 have L:Hid (kM.own V [.slice a2 x.length c2] x (jR (w.heap.size + 1 + 1) V.heap.size)):=yD hw
 have G:Below w.heap.size w V:=Below.trans bI (D.mono rH)
 clear hown O0 hw
 obtain ⟨R0,F0⟩:=uL
 clear D
 go_wp2
 refine bodyPost_ret (v:=.agg #[.slice a2 x.length c2]) nJ rfl ⟨[_],rfl,?_,?_⟩
 · exact (L.out.setCell fI).wide gD
 exact G.setCell bC0 _
end Go.Proofs.YtonmjkmaadgceaaGreat

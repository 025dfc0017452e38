/-
  Names: compared.
-/
import Derived.Test.YthpgoddjglnoiaaGreatDoorNum
import Derived.Test.YthpgoddjglnoiaaGreatDoorSoft
set_option linter.unusedVariables false
set_option linter.unusedSimpArgs false
set_option linter.unnecessarySimpa false
set_option maxHeartbeats 4000000
namespace Go.Proofs.YthpgoddjglnoiaaGreatDoor
open Go.RowKit
theorem kAu:∀ l:List UInt8,Op.bytesLess l l=false
  | []=>rfl
  | a :: l=>by simp [Op.bytesLess,kAu l]
def kBh (a b:ByteArray):Int:=if Op.bytesLess a.toList b.toList then -1 else if a=b then 0 else 1
theorem zW {a b:ByteArray}:kBh a b=0↔a=b:=by
 unfold kBh
 constructor
 · intro h
   split at h
   · omega
   split at h
   · assumption
   omega
 rintro rfl
 simp [kAu]
def kBo:List ByteArray→List ByteArray→Int
  | [],[]=>0
  | [],_ :: _=>-1
  | _ :: _,[]=>1
  | a :: x,b :: y=>if kBh a b=0 then kBo x y else kBh a b
theorem kIj:∀ {x y:List ByteArray},kBo x y=0↔x=y
  | [],[]=>by simp [kBo]
  | [],_ :: _=>by simp [kBo]
  | _ :: _,[]=>by simp [kBo]
  | a :: x,b :: y=>by
    unfold kBo
    by_cases h:kBh a b=0
    · rw [if_pos h,kIj (x:=x) (y:=y)]
      have:=zW.1 h
      subst this
      simp
    · rw [if_neg h]
      constructor
      · intro q;exact absurd q h
      · intro q
        simp only [List.cons.injEq] at q
        exact absurd (zW.2 q.1) h
theorem kIk:∀ {x y:List ByteArray} {k:Nat} (hx:k < x.length) (hy:k < y.length),x.take k=y.take k→¬ kBh x[k] y[k]=0→kBo x y=kBh x[k] y[k]
  | [],_,_,hx,_,_,_=>by simp at hx
  | _ :: _,[],_,_,hy,_,_=>by simp at hy
  | a :: x,b :: y,0,_,_,_,h=>by
    simp at h
    simp [kBo,h]
  | a :: x,b :: y,k + 1,hx,hy,ht,h=>by
    simp only [List.take_succ_cons,List.cons.injEq] at ht
    simp only [List.getElem_cons_succ] at h ⊢
    have h0:=zW.2 ht.1
    simp only [kBo,h0,if_true]
    exact kIk (by simpa using hx) (by simpa using hy) ht.2 h
theorem cmpN_end:∀ {x y:List ByteArray} {k:Nat},k≤x.length→k≤y.length→x.take k=y.take k→¬ (k < x.length∧k < y.length)→kBo x y=if x.length < y.length then -1 else if y.length < x.length then 1 else 0
  | [],[],_,_,_,_,_=>by simp [kBo]
  | [],b :: y,_,_,_,_,_=>by simp [kBo]
  | a :: x,[],_,_,_,_,_=>by simp [kBo]
  | a :: x,b :: y,0,_,_,_,h=>by simp at h
  | a :: x,b :: y,k + 1,hx,hy,ht,h=>by
    simp only [List.take_succ_cons,List.cons.injEq] at ht
    have h0:=zW.2 ht.1
    simp only [kBo,h0,if_true,List.length_cons]
    rw [cmpN_end (k:=k) (by simpa using hx) (by simpa using hy) ht.2 fM]
    simp
theorem take_next {x y:List ByteArray} {k:Nat} (hx:k < x.length) (hy:k < y.length) (h:x.take k=y.take k) (e:kBh x[k] y[k]=0):x.take (k + 1)=y.take (k + 1) :=
  jq h hx hy (zW.1 e)
def eqN (a b:kR):Bool:=decide (a=b)
theorem specl4Cmp_c {w:World} {a b:ByteArray}:Calls Tryz.prog 89 #[.string a,.string b] w fun e w'=>e=.returned (.int .i64 (kBh a b))∧w'=w:=by
 go_enter Tryz.func89,Tryz.ntmps89
 cases h1:Op.bytesLess a.toList b.toList
 · cases h2:(a.toList==b.toList)
   · have HT:=yD (show kBh a b=1 by
       unfold kBh
       rw [h1]
       rw [kEw] at h2
       simp at h2
       simp [h2])
     go_wp2
     go_ret
     exact ⟨jB HT.out.symm,rfl⟩
   have HT:=yD (show kBh a b=0 by
     rw [kEw] at h2
     simp at h2
     exact zW.2 h2)
   go_wp2
   go_ret
   exact ⟨jB HT.out.symm,rfl⟩
 have HT:=yD (show kBh a b=-1 by simp [kBh,h1])
 go_wp2
 go_ret
 exact ⟨jB HT.out.symm,rfl⟩
theorem kCu {w:World} {ca cb:List Value} {a b:kR} (ha:kV.raw w ca a) (hb:kV.raw w cb b) :
    Calls Tryz.prog 75 #[.agg ca.toArray,.agg cb.toArray] w fun e w'=>e=.returned (.int .i64 (kBo a b))∧Below w.heap.size w w':=by
 obtain ⟨av,rfl,a_0⟩:=kN ha
 obtain ⟨bv,rfl,b_0⟩:=kN hb
 clear ha hb
 obtain ⟨aa,capa,rfl,la⟩:=Rep.sl a_0
 obtain ⟨ab,capb,rfl,lb⟩:=Rep.sl b_0
 go_enter Tryz.func75,Tryz.ntmps75
 go_wp2
 generalize hwB:World.alloc (World.alloc w _) _=wB
 have EB:Below w.heap.size w wB:=by rw [← hwB];exact bB
 have K0:wB.cell? ⟨w.heap.size,0,none⟩=some (.slice aa a.length capa):=dL
 have K1:wB.cell? ⟨w.heap.size + 1,0,none⟩=some (.slice ab b.length capb):=dL
 clear hwB
 replace a_0:=a_0.below EB
 replace b_0:=b_0.below EB
 go_loopw [5] (fun i wr=>∃ k:Nat,k≤a.length∧k≤b.length∧i=.int .i64 k∧Hid (a.take k=b.take k)∧Below wB.heap.size wB wr) (fun i _=>a.length - (intOf i).toNat)
 case atStart=>exact ⟨0,Nat.zero_le _,Nat.zero_le _,rfl,yD rfl,bR⟩
 obtain ⟨k,hk,hk2,rfl,HN,hbel⟩:=hrel
 replace K0:=cL hbel K0
 replace K1:=cL hbel K1
 by_cases hc:k < a.length∧k < b.length
 · obtain ⟨hlt,hlt2⟩:=hc
   have hd:decide ((k:Int) < a.length)=true:=by simpa using hlt
   have hdn:decide (k < a.length)=true:=by simpa using hlt
   obtain ⟨ba,offa,rfl,c0,hr,A0⟩:=Rep.kAd (a_0.below hbel) hlt rfl
   obtain ⟨bb,offb,rfl,d0,hr2,B0⟩:=Rep.kAd (b_0.below hbel) hlt2 rfl
   obtain ⟨he,_⟩:=Rep.jv hr
   obtain rfl:c0=_:=by simpa using he
   obtain ⟨he2,_⟩:=Rep.jv hr2
   obtain rfl:d0=_:=by simpa using he2
   clear he he2 hr hr2
   have hdf:=fun q=>kIk hlt hlt2 HN.out q
   have hnx:=fun q=>take_next hlt hlt2 HN.out q
   generalize a[k]=x at *
   generalize b[k]=y at *
   have HD:=yD hdf
   have HX:=yD hnx
   clear hdf hnx
   go_wp2_with fail
   have FX:=yD (fun (W:World) (hW:Below wr.heap.size wr W)=>cLs4 hW K0 K1 A0 B0)
   refine kI (fun W=>Below wr.heap.size wr W) [true,true,true,true,true,true,true,true,true,true,false,true] fP fP bW (bR.drew) ?_
   intro wS HS
   iterate 10
    all_goals refine wkR ?_
   all_goals first | refine wkC (specl4Cmp_c) ?_ | refine wkR ?_
   all_goals refine wkR ?_
   all_goals refine kQ ?_
   have EF:=(tQ EB (tQ hbel HS))
   have EG:=(tQ hbel HS)
   by_cases hz:kBh x y=0
   · have HT:=yD (HX.out hz)
     clear HD HX
     have hz':(kBh x y==0)=true:=fI
     have hz2:(kBh x y != 0)=false:=fI
     clear hz
     go_wp2
     go_roundw
     case rel=>exact ⟨k + 1,by omega,by omega,by go_num,HT,EG⟩
     simp [intOf];omega
   have HT:=yD (HD.out hz)
   clear HD HX
   have hz':(kBh x y==0)=false:=fI
   have hz2:(kBh x y != 0)=true:=fI
   go_wp2
   go_ret
   exact ⟨jB HT.out.symm,EF⟩
 have HT:=yD (cmpN_end hk hk2 HN.out hc)
 have EF:=(tQ EB hbel)
 by_cases h1:k < a.length
 · have hd:decide ((k:Int) < a.length)=true:=fH
   have hdn:decide (k < a.length)=true:=fH
   have h2:¬ k < b.length:=fun q=>hc ⟨h1,q⟩
   have h3:¬ (a.length:Int) < b.length:=fV
   have h4:(b.length:Int) < a.length:=fV
   have HU:=yD (show kBo a b=1 by rw [HT.out,if_neg fV,if_pos fV])
   clear hc HT
   go_wp2
   all_goals go_ret
   all_goals exact ⟨jB HU.out.symm,EF⟩
 have hd:decide ((k:Int) < a.length)=false:=fH
 have hdn:decide (k < a.length)=false:=fH
 clear hc
 by_cases h3:a.length < b.length
 · have HU:=yD (show kBo a b=-1 by rw [HT.out,if_pos h3])
   clear HT
   go_wp2
   go_ret
   exact ⟨jB HU.out.symm,EF⟩
 have h4:¬ b.length < a.length:=fV
 have HU:=yD (show kBo a b=0 by rw [HT.out,if_neg h3,if_neg h4])
 clear HT
 go_wp2
 go_ret
 exact ⟨jB HU.out.symm,EF⟩
theorem yY {w:World} {ca cb:List Value} {a b:kR} (ha:kV.raw w ca a) (hb:kV.raw w cb b) :
    Calls Tryz.prog 48 #[.agg ca.toArray,.agg cb.toArray] w fun e w'=>e=.returned (.bool (eqN a b))∧Below w.heap.size w w':=by
 have HA:=yD ha
 have HB:=yD hb
 obtain ⟨av,rfl,a_0⟩:=kN ha
 obtain ⟨bv,rfl,b_0⟩:=kN hb
 clear ha hb
 obtain ⟨aa,capa,rfl,la⟩:=Rep.sl a_0
 obtain ⟨ab,capb,rfl,lb⟩:=Rep.sl b_0
 go_enter Tryz.func48,Tryz.ntmps48
 go_wp2_with fail
 refine (kCu (HA.out.below bB) (HB.out.below bB)).mono ?_
 rintro e w1 ⟨rfl,hb1⟩
 have EF:Below w.heap.size w w1:=Below.trans bB (hb1.mono fC)
 clear hb1
 go_wp2
 go_ret
 exact ⟨kP (by unfold eqN;rw [Bool.eq_iff_iff];simp [kIj]),EF⟩
theorem kCa {w:World} {va vb:Value} {a b:List ByteArray} (a_0:(Rep.slice 9 Rep.str).raw w [va] a) (b_0:(Rep.slice 9 Rep.str).raw w [vb] b) :
    Calls Tryz.prog 63 #[va,vb] w fun e w'=>e=.returned (.bool (eqN a b))∧Below w.heap.size w w':=by
 obtain ⟨aa,capa,rfl,la⟩:=Rep.sl a_0
 obtain ⟨ab,capb,rfl,lb⟩:=Rep.sl b_0
 go_enter Tryz.func63,Tryz.ntmps63
 by_cases hl:a.length=b.length
 case neg =>
  have HT:=yD (show eqN a b=false by unfold eqN;simp;rintro rfl;exact hl rfl)
  have hz:((a.length:Int) != b.length)=true:=fQ
  have hzn:(a.length != b.length)=true:=fE
  go_wp2
  go_ret
  exact ⟨kP HT.out.symm,bR⟩
 have hz:((a.length:Int) != b.length)=false:=fQ
 have hzn:(a.length != b.length)=false:=fE
 have HL:=yD hl;clear hl
 go_wp2
 go_loopw [13] (fun i wr=>∃ k:Nat,k≤a.length∧i=.int .i64 k∧Hid (a.take k=b.take k)∧Below w.heap.size w wr) (fun i _=>a.length - (intOf i).toNat)
 case atStart=>exact ⟨0,Nat.zero_le _,rfl,yD rfl,bR⟩
 obtain ⟨k,hk,rfl,HN,hbel⟩:=hrel
 by_cases hlt:k < a.length
 · have hlt2:k < b.length:=dW
   obtain ⟨ba,offa,rfl,c0,hr,A0⟩:=Rep.kAd (a_0.below hbel) hlt rfl
   obtain ⟨bb,offb,rfl,d0,hr2,B0⟩:=Rep.kAd (b_0.below hbel) hlt2 rfl
   obtain ⟨he,_⟩:=Rep.jv hr
   obtain rfl:c0=_:=by simpa using he
   obtain ⟨he2,_⟩:=Rep.jv hr2
   obtain rfl:d0=_:=by simpa using he2
   clear he he2 hr hr2
   have hne:=fun q=>kAo hlt hlt2 q
   have hnx:=fun q=>jq HN.out hlt hlt2 q
   generalize a[k]=x at *
   generalize b[k]=y at *
   have HD:=yD hne
   have HX:=yD hnx
   clear hne hnx
   go_wp2_with fail
   have FX:=yD (fun (W:World) (hW:Below wr.heap.size wr W)=>cLs2 hW A0 B0)
   refine kI (fun W=>Below wr.heap.size wr W) [true,true,true,true,true,true,true,true,true] fP fP bW (bR.drew) ?_
   intro wS HS
   iterate 9
    all_goals refine wkR ?_
   all_goals refine kQ ?_
   have EG:=(tQ hbel HS)
   cases hz:(x.toList==y.toList)
   · have HT:=yD (show eqN a b=false by
       rw [kEw] at hz;simp at hz;unfold eqN;simp;exact HD.out hz)
     clear HD HX
     go_wp2
     go_ret
     exact ⟨kP HT.out.symm,EG⟩
   have HT:=yD (HX.out (by rw [kEw] at hz;simpa using hz))
   clear HD HX
   go_wp2
   go_roundw
   case rel=>exact ⟨k + 1,by omega,by go_num,HT,EG⟩
   simp [intOf];omega
 have HT:=yD (show eqN a b=true by unfold eqN;simp;exact zi HN.out hlt HL.out)
 go_wp2
 go_ret
 exact ⟨kP HT.out.symm,hbel⟩
theorem yA {w:World} {ca cb:List Value} {a b:kR} (ha:kV.raw w ca a) (hb:kV.raw w cb b) :
    Calls Tryz.prog 27 #[.agg ca.toArray,.agg cb.toArray] w fun e w'=>e=.returned (.bool (eqN a b))∧Below w.heap.size w w':=by
 obtain ⟨av,rfl,a_0⟩:=kN ha
 obtain ⟨bv,rfl,b_0⟩:=kN hb
 clear ha hb
 obtain ⟨aa,capa,rfl,la⟩:=Rep.sl a_0
 obtain ⟨ab,capb,rfl,lb⟩:=Rep.sl b_0
 go_enter Tryz.func27,Tryz.ntmps27
 go_wp2_with fail
 refine (kCa (a_0.below bB) (b_0.below bB)).mono ?_
 rintro e w1 ⟨rfl,hb1⟩
 have EF:Below w.heap.size w w1:=Below.trans bB (hb1.mono fC)
 clear hb1
 go_wp2
 go_ret
 exact ⟨rfl,EF⟩
end Go.Proofs.YthpgoddjglnoiaaGreatDoor

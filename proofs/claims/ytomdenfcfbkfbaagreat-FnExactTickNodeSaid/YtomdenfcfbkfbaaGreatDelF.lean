/-
  slices.DeleteFunc and slices.Delete over owned slices.
-/
import Derived.Test.YtomdenfcfbkfbaaGreatBase
import Derived.Test.YtomdenfcfbkfbaaGreatCopyP0
import Derived.Test.YtomdenfcfbkfbaaGreatTake
import Derived.Test.YtomdenfcfbkfbaaGreatLib
import Derived.Test.YtomdenfcfbkfbaaGreatSoft2
import Derived.IntWalk
import Derived.Deep.Cut
import Derived.WalkSpells
import Derived.WalkLawsBesides
namespace Go.Proofs.YtomdenfcfbkfbaaGreat
open Go.RowKit
set_option linter.unusedVariables false
set_option linter.unusedSimpArgs false
set_option linter.unnecessarySimpa false
theorem idxOf_cases {α:Type} (p:α→Bool) (x:List α):(idxOf p x=-1∧∀ j (h:j < x.length),p x[j]=false)∨∃ k,∃ h:k < x.length,idxOf p x=(k:Int)∧p x[k]=true∧∀ j (h:j < k) (h2:j < x.length),p x[j]=false:=by
 unfold idxOf
 cases hf:x.findIdx? p with
 | none =>
   refine .inl ⟨rfl,fun j h=>?_⟩
   rw [List.findIdx?_eq_none_iff] at hf
   exact hf _ (List.getElem_mem h)
 | some k =>
   obtain ⟨h1,h2,h3⟩:=List.findIdx?_eq_some_iff_getElem.1 hf
   exact .inr ⟨k,h1,rfl,h2,fun j h h4=>by simpa using h3 j h⟩
theorem filter_none {α:Type} {p:α→Bool} {x:List α} (h:∀ j (h:j < x.length),p x[j]=false):x.filter (fun y=>!p y)=x:=by
 rw [List.filter_eq_self]
 intro y hy
 obtain ⟨j,hj,rfl⟩:=List.getElem_of_mem hy
 simp [h j hj]
theorem filter_before {α:Type} {p:α→Bool} {x:List α} {k:Nat} (hk:k < x.length) (h:∀ j (h:j < k) (h2:j < x.length),p x[j]=false):(x.take k).filter (fun y=>!p y)=x.take k:=by
 rw [List.filter_eq_self]
 intro y hy
 obtain ⟨j,hj,rfl⟩:=List.getElem_of_mem hy
 simp only [List.length_take] at hj
 simp only [List.getElem_take]
 simp [h j (by omega) (by omega)]
theorem zero_one (z:Value) (h:(z.cells.toList.all fun u=>u.oneCell')=true):∀ u∈z.cells,u.oneCell'=true:=by
 intro u hu
 exact List.all_eq_true.1 h u (by simpa using hu)
set_option maxRecDepth 100000 in
set_option maxHeartbeats 2000000 in
theorem DeleteFunc_Route_c {w:World} {v:Value} {l:List LRoute} {g:FuncId} {cp:Array Value} {S:Nat→Prop} (p:LRoute→Bool) (hg:Callable Tryz.prog g) (hl:Rep.own0 159 RRoute w v l S) (hlen:l.length≤16777216)
    (hcl:∀ wr,Touch S w wr→∀ x cs,RRoute.raw wr cs x→Calls Tryz.prog g (#[.agg cs.toArray]++cp) wr (fun e w'=>e=.returned (.bool (p x))∧Below wr.heap.size wr w')) :
    Calls Tryz.prog 198 #[v,.func (.func g) #[] cp] w fun e w'=>∃ v',e=.returned v'∧Rep.own0 159 RRoute w' v' (l.filter (fun x=>!p x)) S∧Touch S w w':=by
 have HCL:=hD hcl;clear hcl
 have HO:=hD hl
 unfold Callable at hg
 have HI:Hid (∀ va,v=va→Calls Tryz.prog 226 #[va,.func (.func g) #[] cp] w fun e w'=>e=.returned (.int .i64 (idxOf p l))∧Below w.heap.size w w'):=hD (fun va hv=>by
   subst hv
   exact IndexFunc_Route_c p hg (HO.out.own hlen).raw (fun wr hb i h cs hr=>HCL.out wr (Touch.of_below hb) _ cs hr))
 rcases idxOf_cases p l with ⟨hi,hno⟩|⟨i,hil,hi,hyes,hno⟩
 · obtain ⟨oa,on,oc,ho,HON⟩:=hl.parts;obtain rfl:=ho
   rw [hi] at HI
   have HF:=hD (filter_none hno).symm
   clear hno hi hl
   go_enter Tryz.func198,Tryz.ntmps198
   go_wp2_with fail
   refine (HI.out _ rfl).mono ?_
   rintro e w1 ⟨rfl,hb1⟩
   have HO1:=hD (HO.out.below hb1)
   go_wp2
   go_ret
   exact ⟨_,rfl,HO1.out.cast HF.out,Touch.of_below hb1⟩
 obtain ⟨b,cap,rfl,hgap⟩:=Rep.gap_start hl hil
 rw [hi] at HI
 rw [List.drop_eq_getElem_cons hil] at hgap
 have hgap1:=hgap.skip
 have HK0:=hD (filter_before hil hno)
 have HNY:=hD (filter_no (p:=fun y=>!p y) hil (by simp [hyes]))
 have HSb:=hD hgap.mem
 have hcap:=hgap.len
 simp only [List.length_take,List.length_cons,List.length_drop] at hcap
 have hcap2:l.length≤cap:=hcap.2.1
 have hcap3:cap≤9223372036854775807:=by have:=hcap.2.2;unfold maxLen at this;omega
 clear hno hi hl hgap hyes HO hcap
 have hi1:((i:Int)==-1)=false:=by first|(simp;done)|(simp;omega)
 go_enter Tryz.func198,Tryz.ntmps198
 go_wp2_with fail
 refine (HI.out _ rfl).mono ?_
 rintro e w1 ⟨rfl,hb1⟩
 have G1:=hD (hgap1.below hb1)
 have E1:=hD (Touch.of_below (S:=S) hb1)
 clear hgap1 HI
 go_wp2
 go_loopw [5,6] (fun q c wr=>∃ m kn:Nat,m≤l.length∧kn + 1≤m∧q=.int .i64 kn∧c=.int .i64 m∧Hid (kn=((l.take m).filter (fun y=>!p y)).length)∧Hid (Rep.gap 159 RRoute wr b cap l.length ((l.take m).filter (fun y=>!p y)) (m - kn) (l.drop m) S)∧Hid (Touch S w wr)) (fun _ c _=>l.length - (intOf c).toNat)
 case atStart =>
  refine ⟨i + 1,i,by omega,by omega,rfl,by go_num,hD (by rw [HNY.out,HK0.out];simp;omega),hD ?_,E1⟩
  rw [HNY.out,HK0.out,show i + 1 - i=0 + 1 by omega]
  exact G1.out
 clear E1 G1 HNY HK0 hb1
 obtain ⟨m,kn,hm,hkn,rfl,rfl,HKN,G,E⟩:=hrel
 by_cases hlt:m < l.length
 · have hG:=G.out
   rw [List.drop_eq_getElem_cons hlt] at hG
   have hfy:=fun q=>filter_yes (p:=fun y=>!p y) hlt q
   have hfn:=fun q=>filter_no (p:=fun y=>!p y) hlt q
   obtain ⟨cs,hr,hcl,hbd,hcell,hnext⟩:=hG.next
   have hskip:=hG.skip
   have hfz:=hG.frozen
   generalize l[m]=x at *
   have HFY:=hD hfy;have HFN:=hD hfn;clear hfy hfn hG
   rw [← HKN.out] at hcell hnext
   rw [show kn + (m - kn)=m by omega] at hcell
   obtain ⟨c0,c1,c2,rfl⟩:∃ c0 c1 c2,cs=[c0,c1,c2]:=by
    have hl2:=RRoute.len hr
    match cs,hl2 with
    | [c0,c1,c2],_=>exact ⟨_,_,_,rfl⟩
   have A0:wr.cell? ⟨b,m * 3,none⟩=some c0:=hcell 0 c0 rfl
   have A1:wr.cell? ⟨b,m * 3 + 1,none⟩=some c1:=hcell 1 c1 rfl
   have A2:wr.cell? ⟨b,m * 3 + 2,none⟩=some c2:=hcell 2 c2 rfl
   have hroom:∀ q,q < 3→kn * 3 + q < cap * 3:=by intro q hq;omega
   obtain ⟨o0,O0⟩:=Option.isSome_iff_exists.1 (G.out.cells (i:=kn * 3) (by have:=hroom 0 (by omega);simp only [show RRoute.n=3 from rfl];omega))
   have Z0:=hfz (kn * 3)
   obtain ⟨o1,O1⟩:=Option.isSome_iff_exists.1 (G.out.cells (i:=kn * 3 + 1) (by have:=hroom 1 (by omega);simp only [show RRoute.n=3 from rfl];omega))
   have Z1:=hfz (kn * 3 + 1)
   obtain ⟨o2,O2⟩:=Option.isSome_iff_exists.1 (G.out.cells (i:=kn * 3 + 2) (by have:=hroom 2 (by omega);simp only [show RRoute.n=3 from rfl];omega))
   have Z2:=hfz (kn * 3 + 2)
   have HR:=hD hr
   obtain ⟨rv0,rhe,r_0,r_1,r_2,r_3⟩:=RRoute_raw hr
   simp only [List.cons.injEq,and_true] at rhe
   obtain ⟨rfl,rfl,rfl⟩:=rhe
   obtain ⟨ra0,rp0,rh0,rl0⟩:=Rep.kR r_1;obtain rfl:c0=_:=by simpa using rh0
   clear rh0
   clear r_0 r_1 r_2 r_3 hr hcl hcell hroom hfz
   have HNX:=hD hnext;have HSK:=hD hskip;clear hnext hskip
   have HB:=hD (G.out.lt)
   go_wp2_with fail
   generalize hwC:World.alloc wr _=wC
   have EC:Below wr.heap.size wr wC:=by rw [← hwC];exact (Below.refl _ _).alloc (Nat.le_refl _) _
   have M0:wC.cell? ⟨wr.heap.size,0,none⟩=some (.slice ra0 (x.1).length rp0):=by rw [← hwC];simp [go_sem]
   have M1:wC.cell? ⟨wr.heap.size,1,none⟩=some (.int .i64 x.2.1):=by rw [← hwC];simp [go_sem]
   have M2:wC.cell? ⟨wr.heap.size,2,none⟩=some (.int .i64 x.2.2):=by rw [← hwC];simp [go_sem]
   clear hwC
   refine (HCL.out wC (E.out.trans (Touch.of_below EC)) _ _ (HR.out.below EC)).mono ?_
   rintro e w5 ⟨rfl,hb5⟩
   have E5:=hD (EC.trans (hb5.mono EC.size))
   replace M0:=cL hb5 M0
   replace M1:=cL hb5 M1
   replace M2:=cL hb5 M2
   clear EC hb5
   cases hp:p x
   · have HT:=hD (HFY.out (by simp [hp]))
     replace O0:=cL E5.out O0
     replace Z0:=(E5.out.frozen (p:=⟨b,kn * 3,none⟩) HB.out).trans Z0
     replace O1:=cL E5.out O1
     replace Z1:=(E5.out.frozen (p:=⟨b,kn * 3 + 1,none⟩) HB.out).trans Z1
     replace O2:=cL E5.out O2
     replace Z2:=(E5.out.frozen (p:=⟨b,kn * 3 + 2,none⟩) HB.out).trans Z2
     obtain ⟨hg1,hg2⟩:=HNX.out w5 E5.out (by omega) _ rfl
     simp only [show RRoute.n=3 from rfl] at hg1 hg2
     have HG1:=hD hg1;have HG2:=hD hg2;clear hg1 hg2 HNX HSK HFN HFY
     go_wp2
     go_roundw
     case rel =>
      refine ⟨m + 1,kn + 1,by omega,by omega,by go_num,by go_num,hD (by rw [HT.out,List.length_append,← HKN.out];rfl),hD ?_,hD ((E.out.trans (Touch.of_below E5.out)).trans (HG2.out.wide (fun j hj=>hj ▸ HSb.out)))⟩
      rw [HT.out,show m + 1 - (kn + 1)=m - kn by omega]
      exact HG1.out
     simp [intOf];omega
   have HT:=hD (HFN.out (by simp [hp]))
   go_wp2
   go_roundw
   case rel =>
    refine ⟨m + 1,kn,by omega,by omega,rfl,by go_num,hD (by rw [HT.out];exact HKN.out),hD ?_,hD (E.out.trans (Touch.of_below E5.out))⟩
    rw [HT.out,show m + 1 - kn=(m - kn) + 1 by omega]
    exact HSK.out.below E5.out
   simp [intOf];omega
 obtain rfl:m=l.length:=by omega
 have hG:=G.out
 rw [List.drop_length,List.take_length] at hG
 rw [List.take_length] at HKN
 have HG:=hD hG;clear hG G
 have hknI:(kn:Int)≤l.length:=by omega
 have hknC:(kn:Int)≤cap:=by omega
 have hknN:kn≤l.length:=by omega
 have hlcI:(l.length:Int)≤cap:=by omega
 have hj0:0 < l.length - kn:=by omega
 obtain ⟨w6,hrun,h6,t6⟩:=HG.out.run_clear (P:=Tryz.prog) (t:=39) (ty:=0) (c:=cap - kn) (p:=kn * 3) hj0 Tryz.underlying39 infRoute rfl (by decide) (zero_one _ (by decide)) (by simp only [show RRoute.n=3 from rfl];rw [← HKN.out])
 have H6:=hD h6;have T6:=hD t6;clear h6 t6 HG
 go_wp2
 go_ret
 exact ⟨_,rfl,by rw [HKN.out];exact H6.out,E.out.trans (T6.out.wide (fun j hj=>hj ▸ HSb.out))⟩
set_option maxRecDepth 100000 in
set_option maxHeartbeats 2000000 in
theorem DeleteFunc_Requester_c {w:World} {v:Value} {l:List LRequester} {g:FuncId} {cp:Array Value} {S:Nat→Prop} (p:LRequester→Bool) (hg:Callable Tryz.prog g) (hl:Rep.own0 81 kM w v l S) (hlen:l.length≤16777216)
    (hcl:∀ wr,Touch S w wr→∀ x cs,kM.raw wr cs x→Calls Tryz.prog g (#[.agg cs.toArray]++cp) wr (fun e w'=>e=.returned (.bool (p x))∧Below wr.heap.size wr w')) :
    Calls Tryz.prog 131 #[v,.func (.func g) #[] cp] w fun e w'=>∃ v',e=.returned v'∧Rep.own0 81 kM w' v' (l.filter (fun x=>!p x)) S∧Touch S w w':=by
 have HCL:=hD hcl;clear hcl
 have HO:=hD hl
 unfold Callable at hg
 have HI:Hid (∀ va,v=va→Calls Tryz.prog 175 #[va,.func (.func g) #[] cp] w fun e w'=>e=.returned (.int .i64 (idxOf p l))∧Below w.heap.size w w'):=hD (fun va hv=>by
   subst hv
   exact IndexFunc_Requester_c p hg (HO.out.own hlen).raw (fun wr hb i h cs hr=>HCL.out wr (Touch.of_below hb) _ cs hr))
 rcases idxOf_cases p l with ⟨hi,hno⟩|⟨i,hil,hi,hyes,hno⟩
 · obtain ⟨oa,on,oc,ho,HON⟩:=hl.parts;obtain rfl:=ho
   rw [hi] at HI
   have HF:=hD (filter_none hno).symm
   clear hno hi hl
   go_enter Tryz.func131,Tryz.ntmps131
   go_wp2_with fail
   refine (HI.out _ rfl).mono ?_
   rintro e w1 ⟨rfl,hb1⟩
   have HO1:=hD (HO.out.below hb1)
   go_wp2
   go_ret
   exact ⟨_,rfl,HO1.out.cast HF.out,Touch.of_below hb1⟩
 obtain ⟨b,cap,rfl,hgap⟩:=Rep.gap_start hl hil
 rw [hi] at HI
 rw [List.drop_eq_getElem_cons hil] at hgap
 have hgap1:=hgap.skip
 have HK0:=hD (filter_before hil hno)
 have HNY:=hD (filter_no (p:=fun y=>!p y) hil (by simp [hyes]))
 have HSb:=hD hgap.mem
 have hcap:=hgap.len
 simp only [List.length_take,List.length_cons,List.length_drop] at hcap
 have hcap2:l.length≤cap:=hcap.2.1
 have hcap3:cap≤9223372036854775807:=by have:=hcap.2.2;unfold maxLen at this;omega
 clear hno hi hl hgap hyes HO hcap
 have hi1:((i:Int)==-1)=false:=by first|(simp;done)|(simp;omega)
 go_enter Tryz.func131,Tryz.ntmps131
 go_wp2_with fail
 refine (HI.out _ rfl).mono ?_
 rintro e w1 ⟨rfl,hb1⟩
 have G1:=hD (hgap1.below hb1)
 have E1:=hD (Touch.of_below (S:=S) hb1)
 clear hgap1 HI
 go_wp2
 go_loopw [5,6] (fun q c wr=>∃ m kn:Nat,m≤l.length∧kn + 1≤m∧q=.int .i64 kn∧c=.int .i64 m∧Hid (kn=((l.take m).filter (fun y=>!p y)).length)∧Hid (Rep.gap 81 kM wr b cap l.length ((l.take m).filter (fun y=>!p y)) (m - kn) (l.drop m) S)∧Hid (Touch S w wr)) (fun _ c _=>l.length - (intOf c).toNat)
 case atStart =>
  refine ⟨i + 1,i,by omega,by omega,rfl,by go_num,hD (by rw [HNY.out,HK0.out];simp;omega),hD ?_,E1⟩
  rw [HNY.out,HK0.out,show i + 1 - i=0 + 1 by omega]
  exact G1.out
 clear E1 G1 HNY HK0 hb1
 obtain ⟨m,kn,hm,hkn,rfl,rfl,HKN,G,E⟩:=hrel
 by_cases hlt:m < l.length
 · have hG:=G.out
   rw [List.drop_eq_getElem_cons hlt] at hG
   have hfy:=fun q=>filter_yes (p:=fun y=>!p y) hlt q
   have hfn:=fun q=>filter_no (p:=fun y=>!p y) hlt q
   obtain ⟨cs,hr,hcl,hbd,hcell,hnext⟩:=hG.next
   have hskip:=hG.skip
   have hfz:=hG.frozen
   generalize l[m]=x at *
   have HFY:=hD hfy;have HFN:=hD hfn;clear hfy hfn hG
   rw [← HKN.out] at hcell hnext
   rw [show kn + (m - kn)=m by omega] at hcell
   obtain ⟨c0,c1,c2,rfl⟩:∃ c0 c1 c2,cs=[c0,c1,c2]:=by
    have hl2:=kM.len hr
    match cs,hl2 with
    | [c0,c1,c2],_=>exact ⟨_,_,_,rfl⟩
   have A0:wr.cell? ⟨b,m * 3,none⟩=some c0:=hcell 0 c0 rfl
   have A1:wr.cell? ⟨b,m * 3 + 1,none⟩=some c1:=hcell 1 c1 rfl
   have A2:wr.cell? ⟨b,m * 3 + 2,none⟩=some c2:=hcell 2 c2 rfl
   have hroom:∀ q,q < 3→kn * 3 + q < cap * 3:=by intro q hq;omega
   obtain ⟨o0,O0⟩:=Option.isSome_iff_exists.1 (G.out.cells (i:=kn * 3) (by have:=hroom 0 (by omega);simp only [show kM.n=3 from rfl];omega))
   have Z0:=hfz (kn * 3)
   obtain ⟨o1,O1⟩:=Option.isSome_iff_exists.1 (G.out.cells (i:=kn * 3 + 1) (by have:=hroom 1 (by omega);simp only [show kM.n=3 from rfl];omega))
   have Z1:=hfz (kn * 3 + 1)
   obtain ⟨o2,O2⟩:=Option.isSome_iff_exists.1 (G.out.cells (i:=kn * 3 + 2) (by have:=hroom 2 (by omega);simp only [show kM.n=3 from rfl];omega))
   have Z2:=hfz (kn * 3 + 2)
   have HR:=hD hr
   obtain ⟨rhe,r_0,r_1,r_2⟩:=RRequester_raw hr
   simp only [List.cons.injEq,and_true] at rhe
   obtain ⟨rfl,rfl,rfl⟩:=rhe
   clear r_0 r_1 r_2 hr hcl hcell hroom hfz
   have HNX:=hD hnext;have HSK:=hD hskip;clear hnext hskip
   have HB:=hD (G.out.lt)
   go_wp2_with fail
   generalize hwC:World.alloc wr _=wC
   have EC:Below wr.heap.size wr wC:=by rw [← hwC];exact (Below.refl _ _).alloc (Nat.le_refl _) _
   have M0:wC.cell? ⟨wr.heap.size,0,none⟩=some (.int .i64 x.1):=by rw [← hwC];simp [go_sem]
   have M1:wC.cell? ⟨wr.heap.size,1,none⟩=some (.int .i64 x.2.1):=by rw [← hwC];simp [go_sem]
   have M2:wC.cell? ⟨wr.heap.size,2,none⟩=some (.int .i64 x.2.2):=by rw [← hwC];simp [go_sem]
   clear hwC
   refine (HCL.out wC (E.out.trans (Touch.of_below EC)) _ _ (HR.out.below EC)).mono ?_
   rintro e w5 ⟨rfl,hb5⟩
   have E5:=hD (EC.trans (hb5.mono EC.size))
   replace M0:=cL hb5 M0
   replace M1:=cL hb5 M1
   replace M2:=cL hb5 M2
   clear EC hb5
   cases hp:p x
   · have HT:=hD (HFY.out (by simp [hp]))
     replace O0:=cL E5.out O0
     replace Z0:=(E5.out.frozen (p:=⟨b,kn * 3,none⟩) HB.out).trans Z0
     replace O1:=cL E5.out O1
     replace Z1:=(E5.out.frozen (p:=⟨b,kn * 3 + 1,none⟩) HB.out).trans Z1
     replace O2:=cL E5.out O2
     replace Z2:=(E5.out.frozen (p:=⟨b,kn * 3 + 2,none⟩) HB.out).trans Z2
     obtain ⟨hg1,hg2⟩:=HNX.out w5 E5.out (by omega) _ rfl
     simp only [show kM.n=3 from rfl] at hg1 hg2
     have HG1:=hD hg1;have HG2:=hD hg2;clear hg1 hg2 HNX HSK HFN HFY
     go_wp2
     go_roundw
     case rel =>
      refine ⟨m + 1,kn + 1,by omega,by omega,by go_num,by go_num,hD (by rw [HT.out,List.length_append,← HKN.out];rfl),hD ?_,hD ((E.out.trans (Touch.of_below E5.out)).trans (HG2.out.wide (fun j hj=>hj ▸ HSb.out)))⟩
      rw [HT.out,show m + 1 - (kn + 1)=m - kn by omega]
      exact HG1.out
     simp [intOf];omega
   have HT:=hD (HFN.out (by simp [hp]))
   go_wp2
   go_roundw
   case rel =>
    refine ⟨m + 1,kn,by omega,by omega,rfl,by go_num,hD (by rw [HT.out];exact HKN.out),hD ?_,hD (E.out.trans (Touch.of_below E5.out))⟩
    rw [HT.out,show m + 1 - kn=(m - kn) + 1 by omega]
    exact HSK.out.below E5.out
   simp [intOf];omega
 obtain rfl:m=l.length:=by omega
 have hG:=G.out
 rw [List.drop_length,List.take_length] at hG
 rw [List.take_length] at HKN
 have HG:=hD hG;clear hG G
 have hknI:(kn:Int)≤l.length:=by omega
 have hknC:(kn:Int)≤cap:=by omega
 have hknN:kn≤l.length:=by omega
 have hlcI:(l.length:Int)≤cap:=by omega
 have hj0:0 < l.length - kn:=by omega
 obtain ⟨w6,hrun,h6,t6⟩:=HG.out.run_clear (P:=Tryz.prog) (t:=75) (ty:=0) (c:=cap - kn) (p:=kn * 3) hj0 Tryz.underlying75 infRequester rfl (by decide) (zero_one _ (by decide)) (by simp only [show kM.n=3 from rfl];rw [← HKN.out])
 have H6:=hD h6;have T6:=hD t6;clear h6 t6 HG
 go_wp2
 go_ret
 exact ⟨_,rfl,by rw [HKN.out];exact H6.out,E.out.trans (T6.out.wide (fun j hj=>hj ▸ HSb.out))⟩
end Go.Proofs.YtomdenfcfbkfbaaGreat

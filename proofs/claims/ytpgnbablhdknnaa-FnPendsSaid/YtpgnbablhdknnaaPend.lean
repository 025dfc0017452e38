/-
  slices.DeleteFunc and slices.Delete over owned slices.
  Pending interests: found.
-/
import Derived.Test.YtpgnbablhdknnaaSoft3
set_option linter.unusedVariables false
set_option linter.unusedSimpArgs false
set_option linter.unnecessarySimpa false
set_option maxRecDepth 100000
set_option maxHeartbeats 4000000
namespace Go.Proofs.Ytpgnbablhdknnaa
open Go.RowKit
theorem idxOf_cases {α:Type} (p:α→Bool) (x:List α):(idxOf p x=-1∧∀ j (h:j < x.length),p x[j]=false)∨∃ k,∃ h:k < x.length,idxOf p x=(k:Int)∧p x[k]=true∧∀ j (h:j < k) (h2:j < x.length),p x[j]=false:=by
 unfold idxOf
 cases hf:x.findIdx? p with
 | none =>
   refine .inl ⟨rfl,fun j h=>?_⟩
   rw [List.findIdx?_eq_none_iff] at hf
   exact hf _ (List.getElem_mem h)
 | some k =>
   obtain ⟨h1,h2,h3⟩:=List.findIdx?_eq_some_iff_getElem.1 hf
   exact .inr ⟨k,h1,rfl,h2,fun j h h4=>by simpa using h3 j h⟩
theorem filter_none {α:Type} {p:α→Bool} {x:List α} (h:∀ j (h:j < x.length),p x[j]=false):x.filter (fun y=>!p y)=x:=by
 rw [List.filter_eq_self]
 intro y hy
 obtain ⟨j,hj,rfl⟩:=List.getElem_of_mem hy
 simp [h j hj]
theorem kId {α:Type} {p:α→Bool} {x:List α} {k:Nat} (hk:k < x.length) (h:∀ j (h:j < k) (h2:j < x.length),p x[j]=false):(x.take k).filter (fun y=>!p y)=x.take k:=by
 rw [List.filter_eq_self]
 intro y hy
 obtain ⟨j,hj,rfl⟩:=List.getElem_of_mem hy
 simp only [List.length_take] at hj
 simp only [List.getElem_take]
 simp [h j gV gV]
theorem kGo (z:Value) (h:(z.cells.toList.all fun u=>u.oneCell')=true):∀ u∈z.cells,u.oneCell'=true:=by
 intro u hu
 exact List.all_eq_true.1 h u (by simpa using hu)
theorem ym {w:World} {v:Value} {l:List kH} {g:FuncId} {cp:Array Value} {S:Nat→Prop} (p:kH→Bool) (hg:jG Try.prog g) (hl:Rep.kT 56 kF w v l S) (hlen:l.length≤16777216)
    (hcl:∀ wr,Touch S w wr→∀ x cs,kF.raw wr cs x→Calls Try.prog g (#[.agg cs.toArray]++cp) wr (fun e w'=>e=.returned (.bool (p x))∧Below wr.heap.size wr w')) :
    Calls Try.prog 39 #[v,.func (.func g) #[] cp] w fun e w'=>∃ v',e=.returned v'∧Rep.kT 56 kF w' v' (l.filter (fun x=>!p x)) S∧Touch S w w':=by
 have HCL:=yD hcl;clear hcl
 have HO:=yD hl
 unfold jG at hg
 have HI:Hid (∀ va,v=va→Calls Try.prog 41 #[va,.func (.func g) #[] cp] w fun e w'=>e=.returned (.int .i64 (idxOf p l))∧Below w.heap.size w w'):=yD (fun va hv=>by
   subst hv
   exact yG p hg (HO.out.own hlen).raw (fun wr hb i h cs hr=>HCL.out wr (Touch.of_below hb) _ cs hr))
 rcases idxOf_cases p l with ⟨hi,hno⟩|⟨i,hil,hi,hyes,hno⟩
 · obtain ⟨oa,on,oc,ho,HON⟩:=hl.parts;obtain rfl:=ho
   rw [hi] at HI
   have HF:=yD (filter_none hno).symm
   clear hno hi hl
   go_enter Try.func39,Try.ntmps39
   go_wp2_with fail
   refine (HI.out _ rfl).mono ?_
   rintro e w1 ⟨rfl,hb1⟩
   have HO1:=yD (HO.out.below hb1)
   go_wp2
   go_ret
   exact ⟨_,rfl,HO1.out.cast HF.out,Touch.of_below hb1⟩
 obtain ⟨b,cap,rfl,hgap⟩:=Rep.kCy hl hil
 rw [hi] at HI
 rw [List.drop_eq_getElem_cons hil] at hgap
 have hgap1:=hgap.skip
 have HK0:=yD (kId hil hno)
 have HNY:=yD (kFo (p:=fun y=>!p y) hil (by simp [hyes]))
 have HSb:=yD hgap.mem
 have hcap:=hgap.len
 simp only [List.length_take,List.length_cons,List.length_drop] at hcap
 have hcap2:l.length≤cap:=hcap.2.1
 have hcap3:cap≤9223372036854775807:=bN
 clear hno hi hl hgap hyes HO hcap
 have hi1:((i:Int)==-1)=false:=by first|(simp;done)|(simp;omega)
 go_enter Try.func39,Try.ntmps39
 go_wp2_with fail
 refine (HI.out _ rfl).mono ?_
 rintro e w1 ⟨rfl,hb1⟩
 have G1:=yD (hgap1.below hb1)
 have E1:=yD (Touch.of_below (S:=S) hb1)
 clear hgap1 HI
 go_wp2
 go_loopw [5,6] (fun q c wr=>∃ m kn:Nat,m≤l.length∧kn + 1≤m∧q=.int .i64 kn∧c=.int .i64 m∧Hid (kn=((l.take m).filter (fun y=>!p y)).length)∧Hid (Rep.gap 56 kF wr b cap l.length ((l.take m).filter (fun y=>!p y)) (m - kn) (l.drop m) S)∧Hid (Touch S w wr)) (fun _ c _=>l.length - (intOf c).toNat)
 case atStart =>
  refine ⟨i + 1,i,by omega,by omega,rfl,by go_num,yD (by rw [HNY.out,HK0.out];simp;omega),yD ?_,E1⟩
  rw [HNY.out,HK0.out,show i + 1 - i=0 + 1 by omega]
  exact G1.out
 clear E1 G1 HNY HK0 hb1
 obtain ⟨m,kn,hm,hkn,rfl,rfl,HKN,G,E⟩:=hrel
 by_cases hlt:m < l.length
 · have hG:=G.out
   rw [List.drop_eq_getElem_cons hlt] at hG
   have hfy:=fun q=>kHn (p:=fun y=>!p y) hlt q
   have hfn:=fun q=>kFo (p:=fun y=>!p y) hlt q
   obtain ⟨cs,hr,hcl,hbd,hcell,hnext⟩:=hG.next
   have hskip:=hG.skip
   have hfz:=hG.frozen
   generalize l[m]=x at *
   have HFY:=yD hfy;have HFN:=yD hfn;clear hfy hfn hG
   rw [← HKN.out] at hcell hnext
   rw [show kn + (m - kn)=m by omega] at hcell
   obtain ⟨c0,c1,c2,rfl⟩:∃ c0 c1 c2,cs=[c0,c1,c2]:=by
    have hl2:=kF.len hr
    match cs,hl2 with
    | [c0,c1,c2],_=>exact ⟨_,_,_,rfl⟩
   have A0:wr.cell? ⟨b,m * 3,none⟩=some c0:=hcell 0 c0 rfl
   have A1:wr.cell? ⟨b,m * 3 + 1,none⟩=some c1:=hcell 1 c1 rfl
   have A2:wr.cell? ⟨b,m * 3 + 2,none⟩=some c2:=hcell 2 c2 rfl
   have hroom:∀ q,q < 3→kn * 3 + q < cap * 3:=by intro q hq;omega
   obtain ⟨o0,O0⟩:=Option.isSome_iff_exists.1 (G.out.cells (i:=kn * 3) (by have:=hroom 0 gV;simp only [show kF.n=3 from rfl];omega))
   have Z0:=hfz (kn * 3)
   obtain ⟨o1,O1⟩:=Option.isSome_iff_exists.1 (G.out.cells (i:=kn * 3 + 1) (by have:=hroom 1 gV;simp only [show kF.n=3 from rfl];omega))
   have Z1:=hfz (kn * 3 + 1)
   obtain ⟨o2,O2⟩:=Option.isSome_iff_exists.1 (G.out.cells (i:=kn * 3 + 2) (by have:=hroom 2 gV;simp only [show kF.n=3 from rfl];omega))
   have Z2:=hfz (kn * 3 + 2)
   have HR:=yD hr
   obtain ⟨rhe,r_0,r_1,r_2⟩:=ko hr
   simp only [List.cons.injEq,and_true] at rhe
   obtain ⟨rfl,rfl,rfl⟩:=rhe
   clear r_0 r_1 r_2 hr hcl hcell hroom hfz
   have HNX:=yD hnext;have HSK:=yD hskip;clear hnext hskip
   have HB:=yD (G.out.lt)
   go_wp2_with fail
   generalize hwC:World.alloc wr _=wC
   have EC:Below wr.heap.size wr wC:=dI
   have M0:wC.cell? ⟨wr.heap.size,0,none⟩=some (.int .i64 x.1):=dY
   have M1:wC.cell? ⟨wr.heap.size,1,none⟩=some (.int .i64 x.2.1):=dY
   have M2:wC.cell? ⟨wr.heap.size,2,none⟩=some (.int .i64 x.2.2):=dY
   clear hwC
   refine (HCL.out wC (E.out.trans (Touch.of_below EC)) _ _ (HR.out.below EC)).mono ?_
   rintro e w5 ⟨rfl,hb5⟩
   have E5:=yD (tQ EC hb5)
   replace M0:=cL hb5 M0
   replace M1:=cL hb5 M1
   replace M2:=cL hb5 M2
   clear EC hb5
   cases hp:p x
   · have HT:=yD (HFY.out (by simp [hp]))
     replace O0:=cL E5.out O0
     replace Z0:=(E5.out.frozen (p:=⟨b,kn * 3,none⟩) HB.out).trans Z0
     replace O1:=cL E5.out O1
     replace Z1:=(E5.out.frozen (p:=⟨b,kn * 3 + 1,none⟩) HB.out).trans Z1
     replace O2:=cL E5.out O2
     replace Z2:=(E5.out.frozen (p:=⟨b,kn * 3 + 2,none⟩) HB.out).trans Z2
     obtain ⟨hg1,hg2⟩:=HNX.out w5 E5.out gV _ rfl
     simp only [show kF.n=3 from rfl] at hg1 hg2
     have HG1:=yD hg1;have HG2:=yD hg2;clear hg1 hg2 HNX HSK HFN HFY
     go_wp2
     go_roundw
     case rel =>
      refine ⟨m + 1,kn + 1,by omega,by omega,by go_num,by go_num,yD (by rw [HT.out,List.length_append,← HKN.out];rfl),yD ?_,yD ((E.out.trans (Touch.of_below E5.out)).trans (HG2.out.wide (fun j hj=>hj ▸ HSb.out)))⟩
      rw [HT.out,show m + 1 - (kn + 1)=m - kn by omega]
      exact HG1.out
     simp [intOf];omega
   have HT:=yD (HFN.out (by simp [hp]))
   go_wp2
   go_roundw
   case rel =>
    refine ⟨m + 1,kn,by omega,by omega,rfl,by go_num,yD (by rw [HT.out];exact HKN.out),yD ?_,yD (E.out.trans (Touch.of_below E5.out))⟩
    rw [HT.out,show m + 1 - kn=(m - kn) + 1 by omega]
    exact HSK.out.below E5.out
   simp [intOf];omega
 obtain rfl:m=l.length:=gV
 have hG:=G.out
 rw [List.drop_length,List.take_length] at hG
 rw [List.take_length] at HKN
 have HG:=yD hG;clear hG G
 have hknI:(kn:Int)≤l.length:=gV
 have hknC:(kn:Int)≤cap:=gV
 have hknN:kn≤l.length:=gV
 have hlcI:(l.length:Int)≤cap:=gV
 have hj0:0 < l.length - kn:=gV
 obtain ⟨w6,hrun,h6,t6⟩:=HG.out.kAz (P:=Try.prog) (t:=36) (ty:=0) (c:=cap - kn) (p:=kn * 3) hj0 Try.underlying36 jC rfl gU (kGo _ gU) (by simp only [show kF.n=3 from rfl];rw [← HKN.out])
 have H6:=yD h6;have T6:=yD t6;clear h6 t6 HG
 go_wp2
 go_ret
 exact ⟨_,rfl,by rw [HKN.out];exact H6.out,E.out.trans (T6.out.wide (fun j hj=>hj ▸ HSb.out))⟩
def kR (n:kw) (p:kD):Bool:=eqN p.1 n
theorem jy {α:Type} {p:α→Bool} {x:List α} (h:¬ idxOf p x < 0):∃ k:Nat,k < x.length∧idxOf p x=k:=by
 unfold idxOf at *
 cases e:x.findIdx? p with
 | none=>rw [e] at h;simp at h
 | some i=>exact ⟨i,(List.findIdx?_eq_some_iff_getElem.1 e).1,rfl⟩
theorem yA {w:World} {vl:Value} {l:(List kD)} (hl:(Rep.slice 67 kE).raw w [vl] l) {cn:List Value} {n:kw} (hn:kZ.raw w cn n) :
    Calls Try.prog 45 #[vl,.agg cn.toArray] w fun e w'=>e=.returned (.int .i64 (idxOf (kR n) l))∧Below w.heap.size w w':=by
 obtain ⟨al,pl,rfl,ll⟩:=Rep.sl hl
 have Hn:=yD hn
 obtain ⟨fnv0,rfl,fn_0⟩:=kY hn
 obtain ⟨fna0,fnp0,rfl,fnl0⟩:=Rep.sl fn_0
 go_enter Try.func45,Try.ntmps45
 go_wp2
 generalize hwB:World.alloc w _=wB
 have EB:Below w.heap.size w wB:=by rw [← hwB];exact bB
 have K3_0:wB.cell? ⟨w.heap.size,0,none⟩=some (.slice fna0 (n).length fnp0):=dX
 clear hwB
 replace hl:=hl.below EB
 go_loopw [5] (fun i wr=>∃ k:Nat,k≤l.length∧i=.int .i64 k∧Hid (∀ j,(h:j < k)→(h2:j < l.length)→(kR n) l[j]=false)∧Below wB.heap.size wB wr) (fun i _=>l.length - (intOf i).toNat)
 case atStart=>exact ⟨0,Nat.zero_le _,rfl,yD (fun _ h=>by omega),bR⟩
 obtain ⟨k,hk,rfl,HN,hbel⟩:=hrel
 replace K3_0:=cL hbel K3_0
 by_cases hlt:k < l.length
 · obtain ⟨qb,qo,rfl,qc0,qc1,qc2,qr,Aq0,Aq1,Aq2⟩:=Rep.yP (hl.below hbel) (i:=k) gV rfl
   have hhit:=fun q=>idxOf_hit hlt q HN.out
   have hmis:=fun q=>kEn hlt q HN.out
   generalize l[k]=x at *
   have HD:=yD hhit;have HX:=yD hmis;clear hhit hmis
   obtain ⟨x0,x1,x2⟩:=x
   obtain ⟨qv0,qv1,qhe,q_0,q_1,q_2,q_3⟩:=kM qr
   simp only [List.cons.injEq,and_true] at qhe
   obtain ⟨rfl,rfl,rfl⟩:=qhe
   obtain ⟨qa0,qp0,rfl,ql0⟩:=Rep.sl q_1
   obtain ⟨qa1,qp1,rfl,ql1⟩:=Rep.sl q_2
   go_upto_region 4 with fail
   have FX:=yD (fun (W:World) (hW:Below wr.heap.size wr W)=>zi hW K3_0 Aq0 Aq1 Aq2)
   refine kK (fun W=>Below wr.heap.size wr W) [true,true,true,true,true,true,false] gP gP bX (bR.drew) ?_
   intro wS HS
   iterate 6
    all_goals refine wkR ?_
   all_goals first | refine wkB (jN (Rep.raw.below q_0 HS) (Rep.raw.below Hn.out ((tQ EB (tQ hbel HS))))) (fun wS1 HS=>?_) | refine wkR ?_
   all_goals refine kN ?_
   all_goals cases hg6:eqN x0 n
   all_goals have EG:=(tQ hbel HS)
   all_goals first
     | (have HT:=yD (HD.out (show _=true by simp only [kR,Bool.not_true,Bool.not_false,Bool.and_true,Bool.true_and,Bool.and_false,Bool.false_and,Bool.or_true,Bool.true_or,Bool.or_false,Bool.false_or,Bool.not_not,hg6]));clear HD HX;go_wp2;go_ret;exact ⟨jS HT.out.symm,(tQ EB EG)⟩)
     | (have HT:=yD (HX.out (show _=false by simp only [kR,Bool.not_true,Bool.not_false,Bool.and_true,Bool.true_and,Bool.and_false,Bool.false_and,Bool.or_true,Bool.true_or,Bool.or_false,Bool.false_or,Bool.not_not,hg6]));clear HD HX;go_wp2;go_roundw;(case rel=>exact ⟨k + 1,by omega,by go_num,HT,EG⟩);(case measure=>simp [intOf];omega))
 have HT:=yD (idxOf_miss hlt HN.out)
 go_wp2
 go_ret
 exact ⟨jS HT.out.symm,(tQ EB hbel)⟩
theorem kFl {w:World} {cp:List Value} {p:kD} (hp:kE.raw w cp p) {n:kw} {nc0:Value} {Bn:Nat} (nr:kZ.raw w [nc0] n) (An0:w.cell? ⟨Bn,0,none⟩=some nc0) :
    Calls Try.prog 78 (#[.agg cp.toArray]++#[.pointer (some ⟨Bn,0,none⟩)]) w fun e w'=>e=.returned (.bool (kR n p))∧Below w.heap.size w w':=by
 have Hp:=yD hp
 obtain ⟨fpv0,fpv1,rfl,fp_0,fp_1,fp_2,fp_3⟩:=kM hp
 obtain ⟨fpa0,fpp0,rfl,fpl0⟩:=Rep.sl fp_1
 obtain ⟨fpa1,fpp1,rfl,fpl1⟩:=Rep.sl fp_2
 obtain ⟨nv0,nhe,n_0⟩:=kY nr
 simp only [List.cons.injEq,and_true] at nhe
 obtain rfl:=nhe
 obtain ⟨na0,np0,rfl,nl0⟩:=Rep.sl n_0
 show Calls Try.prog 78 #[_,_] w _
 go_enter Try.func78,Try.ntmps78
 go_upto_region 1 with fail
 generalize hwB:World.alloc w _=wB
 have EB:Below w.heap.size w wB:=by rw [← hwB];exact bB
 have K2_0:wB.cell? ⟨w.heap.size,0,none⟩=some (.slice fpa0 (p.1).length fpp0):=dX
 have K2_1:wB.cell? ⟨w.heap.size,1,none⟩=some (.slice fpa1 (p.2.1).length fpp1):=dX
 have K2_2:wB.cell? ⟨w.heap.size,2,none⟩=some (.int .i64 p.2.2):=dX
 clear hwB
 replace An0:=cL EB An0
 have FX:=yD (fun (W:World) (hW:Below wB.heap.size wB W)=>zi hW K2_0 K2_1 K2_2 An0)
 refine kS (fun W=>Below wB.heap.size wB W) [true,true,true,false,true] bR ?_
 intro wS HS
 iterate 3
  all_goals refine wkR ?_
 all_goals first | refine wkB (yN (Rep.raw.below fp_0 (tQ EB HS)) (Rep.raw.below nr (tQ EB HS))) (fun wS1 HS=>?_) | refine wkR ?_
 all_goals (have hg4:=True.intro;first|(refine wkG (fun b hg4=>?_);cases b;all_goals first | exact Bool.noConfusion hg4 | simp only [zU,zV] at hg4 | skip) | refine wkR ?_)
 all_goals refine wkP ?_
 all_goals refine kN ?_
 all_goals have EG:=(tQ EB HS)
 all_goals first
   | (have HT:=yD (show (kR n p)=false by simp only [kR,Bool.not_true,Bool.not_false,Bool.and_true,Bool.true_and,Bool.and_false,Bool.false_and,Bool.or_true,Bool.true_or,Bool.or_false,Bool.false_or,Bool.not_not,hg4]);go_wp2;go_ret;exact ⟨kP HT.out.symm,EG⟩)
   | (have HT:=yD (show (kR n p)=true by simp only [kR,Bool.not_true,Bool.not_false,Bool.and_true,Bool.true_and,Bool.and_false,Bool.false_and,Bool.or_true,Bool.true_or,Bool.or_false,Bool.false_or,Bool.not_not,hg4]);go_wp2;go_ret;exact ⟨kP HT.out.symm,EG⟩)
theorem kAd:jG Try.prog 78:=jr Try.func78 gP gP
theorem ji {w:World} {vl:Value} {l:(List kD)} (hl:(Rep.slice 67 kE).raw w [vl] l) {cn:List Value} {n:kw} (hn:kZ.raw w cn n) :
    Calls Try.prog 35 #[vl,.agg cn.toArray] w fun e w'=>e=.returned (.int .i64 (idxOf (kR n) l))∧Below w.heap.size w w':=by
 obtain ⟨al,pl,rfl,ll⟩:=Rep.sl hl
 have Hn:=yD hn
 obtain ⟨fnv0,rfl,fn_0⟩:=kY hn
 obtain ⟨fna0,fnp0,rfl,fnl0⟩:=Rep.sl fn_0
 go_enter Try.func35,Try.ntmps35
 go_upto_region 1 with fail
 generalize hwB:World.alloc w _=wB
 have EB:Below w.heap.size w wB:=by rw [← hwB];exact bB
 have K3_0:wB.cell? ⟨w.heap.size,0,none⟩=some (.slice fna0 (n).length fnp0):=dX
 clear hwB
 go_wp2_with fail
 refine (zk (kR n) kAd (Rep.raw.below hl EB) ?_).mono ?_
 · intro wr hb i h cs hr
   exact kFl hr (Rep.raw.below Hn.out (tQ EB hb)) (cL hb K3_0)
 rintro e w1 ⟨rfl,hb1⟩
 have EG:Below w.heap.size w w1:=(tQ EB hb1)
 clear hb1
 go_wp2
 go_ret
 exact ⟨rfl,EG⟩
end Go.Proofs.Ytpgnbablhdknnaa

/-
  Routes: a name's next hops are the routes of its longest prefix, the nearest first. Plain.
  Texts, names and numbers compared by the laws.
  Routes compared by the laws.
-/
import Derived.Test.YthpgoddjglnoiaaGreatDoorPAll
import Derived.Test.YthpgoddjglnoiaaGreatDoorSzW
import Derived.Test.YthpgoddjglnoiaaGreatDoorHops
set_option linter.unusedVariables false
set_option linter.unusedSimpArgs false
set_option linter.unnecessarySimpa false
set_option maxRecDepth 100000
set_option maxHeartbeats 4000000
namespace Go.Proofs.YthpgoddjglnoiaaGreatDoor
open Go.RowKit
def kAp (m:kD):kR × Int:=(m.1,m.2.1)
theorem kFk {n:kR} {f:Int} {m:kD}:kZ n f m=true↔kAp m=(n,f):=by
 unfold kZ kAp eqN
 simp [Prod.ext_iff,and_comm]
def okRt (m:kD):Prop:=kAh m.1=true∧1≤m.2.1∧m.2.1≤6∧0≤m.2.2∧m.2.2≤1000
theorem kFh {l:List kD} {k:Nat} {m:kD}:jb l k m=true↔okRt m∧∀ y∈l.take k,kAp y≠kAp m:=by
 have h:(decide (idxOf (kZ m.1 m.2.1) (l.take k) ≥ 0)=false)↔∀ y∈l.take k,kAp y≠kAp m:=by
  rw [decide_eq_false_iff_not,show (¬ idxOf (kZ m.1 m.2.1) (l.take k) ≥ 0)↔idxOf (kZ m.1 m.2.1) (l.take k) < 0 by omega,idxOf_neg]
  constructor
  · intro h y hy q
    have:=h y hy
    rw [kFk.2 q] at this;cases this
  intro h y hy
  cases e:kZ m.1 m.2.1 y with
  | false=>rfl
  | true=>exact absurd (kFk.1 e) (h y hy)
 unfold jb okRt inR
 simp only [Bool.not_eq_true',Bool.or_eq_false_iff,Bool.not_eq_false',h,Bool.and_eq_true,decide_eq_true_eq]
 constructor
 · rintro ⟨a,⟨b,c⟩,⟨d,e⟩,f⟩;exact ⟨⟨a,b,c,d,e⟩,f⟩
 rintro ⟨⟨a,b,c,d,e⟩,f⟩;exact ⟨a,⟨b,c⟩,⟨d,e⟩,f⟩
theorem zo {l:List kD}:kr l=true↔l.length≤24∧(∀ m∈l,okRt m)∧(l.map kAp).Nodup:=by
 unfold kr
 rw [Bool.and_eq_true,allB_iff,decide_eq_true_eq]
 have e:(∀ j,j < l.length→jb l j (l.getD j ([],0,0))=true)↔(∀ m∈l,okRt m)∧(l.map kAp).Nodup:=by
  constructor
  · intro h
    have h':∀ j (hj:j < l.length),okRt l[j]∧∀ y∈l.take j,kAp y≠kAp l[j]:=fun j hj=>kFh.1 (by have:=h j hj;rwa [jC hj] at this)
    refine ⟨fun m hm=>?_,?_⟩
    · obtain ⟨j,hj,rfl⟩:=List.getElem_of_mem hm
      exact (h' j hj).1
    rw [List.Nodup,List.pairwise_iff_getElem]
    intro i j hi hj hij
    simp only [List.length_map] at hi hj
    simp only [List.getElem_map]
    exact (h' j hj).2 _ (List.mem_take_iff_getElem.2 ⟨i,by omega,rfl⟩)
  rintro ⟨h1,h2⟩ j hj
  rw [jC hj]
  refine kFh.2 ⟨h1 _ (List.getElem_mem hj),fun y hy=>?_⟩
  obtain ⟨i,hi,rfl⟩:=List.mem_take_iff_getElem.1 hy
  rw [List.Nodup,List.pairwise_iff_getElem] at h2
  have:=h2 i j fQ fD fV
  simpa using this
 rw [e]
 constructor
 · rintro ⟨a,b⟩;exact ⟨b,a⟩
 rintro ⟨a,b⟩;exact ⟨b,a⟩
theorem vRoutes_one {l:List kD} (h:kr l=true) {x y:kD} (hx:x∈l) (hy:y∈l) (e:kAp x=kAp y):x=y:=by
 have hn:=(zo.1 h).2.2
 obtain ⟨i,hi,rfl⟩:=List.getElem_of_mem hx
 obtain ⟨j,hj,rfl⟩:=List.getElem_of_mem hy
 rw [List.Nodup,List.pairwise_iff_getElem] at hn
 by_cases hij:i=j
 · subst hij;rfl
 exfalso
 rcases Nat.lt_or_gt_of_ne hij with q | q
 · have:=hn i j (by simpa using hi) fD q
   simp only [List.getElem_map] at this
   exact this e
 have:=hn j i fD (by simpa using hi) q
 simp only [List.getElem_map] at this
 exact this e.symm
theorem mB_pre {n:kR} {l:List kD}:∀ {k j:Nat},k≤l.length→mB n l k=(j:Int)→∃ h:j < l.length,zD n l[j].1=true
  | 0,j,_,h=>by unfold mB at h;omega
  | k + 1,j,hk,h=>by
    have hkl:k < l.length:=fV
    unfold mB at h
    rw [jC hkl] at h
    by_cases q:zD n l[k].1=true∧(mB n l k < 0∨(l.getD (mB n l k).toNat ([],0,0)).1.length < l[k].1.length)
    · rw [if_pos q] at h
      obtain rfl:k=j:=fV
      exact ⟨hkl,q.1⟩
    · rw [if_neg q] at h
      exact mB_pre fV h
theorem m_some {n:kR} {l:List kD} (h:mOk n l=true):∃ r∈l,yM n l=r.1∧zD n r.1=true:=by
 rcases mB_rng n l l.length with q|⟨j,hj,q⟩
 · rw [(m_no q).1] at h;cases h
 obtain ⟨hjl,hp⟩:=mB_pre nL q
 exact ⟨l[j],List.getElem_mem hjl,(m_yes hjl q).2,hp⟩
theorem m_prefix {n:kR} {l:List kD} (h:mOk n l=true):zD n (yM n l)=true:=by
 obtain ⟨r,_,e,hp⟩:=m_some h
 rw [e];exact hp
theorem kAq {n:kR} {l:List kD} {r:kD}:r∈yG n l↔r∈l∧r.1=yM n l:=by
 have hs:=(Srt.zt (key:=jQ) (l.filter (zh n l))).2
 have e:zh n l r=true↔r.1=yM n l:=by unfold zh eqN;simp
 unfold yG
 constructor
 · intro h
   have h1:=List.mem_filter.1 (Srt.Same.mem hs.symm h)
   exact ⟨h1.1,e.1 h1.2⟩
 rintro ⟨h1,h2⟩
 exact Srt.Same.mem hs (List.mem_filter.2 ⟨h1,e.2 h2⟩)
theorem hopsF_pos {n:kR} {l:List kD}:mOk n l=decide (0 < (jf l n).length):=by
 cases h:mOk n l
 · rw [kDy h];rfl
 obtain ⟨r,hr,e,_⟩:=m_some h
 have hm:r∈yG n l:=kAq.2 ⟨hr,e.symm⟩
 rw [kCg h,List.length_map,decide_eq_true (List.length_pos_of_mem hm)]
theorem kEv {n:kR} {l:List kD} {i:Nat} (h:i < (jf l n).length):∃ h2:i < (yG n l).length,(jf l n)[i]=(yG n l)[i].2.1:=by
 cases hm:mOk n l
 · simp only [kDy hm,List.length_nil] at h;omega
 have e:=kCg hm
 have h2:i < (yG n l).length:=by rw [e,List.length_map] at h;exact h
 exact ⟨h2,by simp only [e,List.getElem_map]⟩
def kFn (n:kR) (l:List kD) (i:Nat):Int:=((yG n l)[i]?.getD ([],0,0)).2.2
theorem costR_hit {n:kR} {l:List kD} (hv:kr l=true) {i:Nat} (h:i < (jf l n).length) {r:kD} (hr:r∈l) (hf:r.2.1=(jf l n)[i]) (hn:r.1=yM n l):r.2.2=kFn n l i:=by
 obtain ⟨h2,e⟩:=kEv h
 have hm:=kAq.1 (List.getElem_mem h2)
 have:r=(yG n l)[i]:=vRoutes_one hv hr hm.1 (by unfold kAp;rw [hn,hm.2,hf,e])
 unfold kFn
 rw [List.getElem?_eq_getElem h2,Option.getD_some,← this]
theorem costR_asc {n:kR} {l:List kD} (hv:kr l=true) {i:Nat} (h:i + 1 < (jf l n).length):kFn n l i≤kFn n l (i + 1):=by
 obtain ⟨h2,_⟩:=kEv h
 have ha:=(Srt.zt (key:=jQ) (l.filter (zh n l))).1
 have hk:jQ (yG n l)[i]≤jQ (yG n l)[i + 1]:=List.pairwise_iff_getElem.1 ha i (i + 1) (by unfold yG at h2;omega) h2 fV
 have o1:=(zo.1 hv).2.1 _ (kAq.1 (List.getElem_mem (show i < (yG n l).length by omega))).1
 have o2:=(zo.1 hv).2.1 _ (kAq.1 (List.getElem_mem h2)).1
 unfold kFn
 rw [List.getElem?_eq_getElem (show i < (yG n l).length by omega),List.getElem?_eq_getElem h2]
 unfold jQ at hk
 unfold okRt at o1 o2
 simp only [Option.getD_some]
 omega
theorem costR_pos {n:kR} {l:List kD} (hv:kr l=true) {i:Nat} (h:i < (jf l n).length):0≤kFn n l i:=by
 obtain ⟨h2,_⟩:=kEv h
 have o2:=(zo.1 hv).2.1 _ (kAq.1 (List.getElem_mem h2)).1
 unfold kFn
 rw [List.getElem?_eq_getElem h2]
 exact o2.2.2.2.1
theorem addR_said {r:kD} {l:List kD}:(kBz r l=true→kr (addR r l)=true)∧(kBz r l=false→addR r l=l):=by
 cases h:kr (zL r l)
 · obtain ⟨a,b⟩:=kCi h
   exact ⟨fun q=>(by rw [b] at q;cases q),fun _=>a⟩
 obtain ⟨a,b⟩:=kAw h
 exact ⟨fun _=>by rw [a];exact h,fun q=>(by rw [b] at q;cases q)⟩
theorem kFt {w:World} {va vb:Value} {a b:List ByteArray} (a_0:(Rep.slice 9 Rep.str).raw w [va] a) (b_0:(Rep.slice 9 Rep.str).raw w [vb] b) :
    Calls Tryz.prog 50 #[va,vb] w fun e w'=>e=.returned (.bool (eqN a b))∧Below w.heap.size w w':=by
 obtain ⟨aa,capa,rfl,la⟩:=Rep.sl a_0
 obtain ⟨ab,capb,rfl,lb⟩:=Rep.sl b_0
 go_enter Tryz.func50,Tryz.ntmps50
 by_cases hl:a.length=b.length
 case neg =>
  have HT:=yD (show eqN a b=false by unfold eqN;simp;rintro rfl;exact hl rfl)
  have hz:((a.length:Int) != b.length)=true:=fQ
  have hzn:(a.length != b.length)=true:=fE
  go_wp2
  go_ret
  exact ⟨kP HT.out.symm,bR⟩
 have hz:((a.length:Int) != b.length)=false:=fQ
 have hzn:(a.length != b.length)=false:=fE
 have HL:=yD hl;clear hl
 go_wp2
 go_loopw [5] (fun i wr=>∃ k:Nat,k≤a.length∧i=.int .i64 k∧Hid (a.take k=b.take k)∧Below w.heap.size w wr) (fun i _=>a.length - (intOf i).toNat)
 case atStart=>exact ⟨0,Nat.zero_le _,rfl,yD rfl,bR⟩
 obtain ⟨k,hk,rfl,HN,hbel⟩:=hrel
 by_cases hlt:k < a.length
 · have hlt2:k < b.length:=dW
   obtain ⟨ba,offa,rfl,c0,hr,A0⟩:=Rep.kAd (a_0.below hbel) hlt rfl
   obtain ⟨bb,offb,rfl,d0,hr2,B0⟩:=Rep.kAd (b_0.below hbel) hlt2 rfl
   obtain ⟨he,_⟩:=Rep.jv hr
   obtain rfl:c0=_:=by simpa using he
   obtain ⟨he2,_⟩:=Rep.jv hr2
   obtain rfl:d0=_:=by simpa using he2
   clear he he2 hr hr2
   have hne:=fun q=>kAo hlt hlt2 q
   have hnx:=fun q=>jq HN.out hlt hlt2 q
   generalize a[k]=x at *
   generalize b[k]=y at *
   have HD:=yD hne
   have HX:=yD hnx
   clear hne hnx
   go_wp2_with fail
   have FX:=yD (fun (W:World) (hW:Below wr.heap.size wr W)=>cLs2 hW A0 B0)
   refine kI (fun W=>Below wr.heap.size wr W) [true,true,true,true,true,true,true,true,true] fP fP bW (bR.drew) ?_
   intro wS HS
   iterate 9
    all_goals refine wkR ?_
   all_goals refine kQ ?_
   have EG:=(tQ hbel HS)
   cases hz:(x.toList==y.toList)
   · have HT:=yD (show eqN a b=false by
       rw [kEw] at hz;simp at hz;unfold eqN;simp;exact HD.out hz)
     clear HD HX
     go_wp2
     go_ret
     exact ⟨kP HT.out.symm,EG⟩
   have HT:=yD (HX.out (by rw [kEw] at hz;simpa using hz))
   clear HD HX
   go_wp2
   go_roundw
   case rel=>exact ⟨k + 1,by omega,by go_num,HT,EG⟩
   simp [intOf];omega
 have HT:=yD (show eqN a b=true by unfold eqN;simp;exact zi HN.out hlt HL.out)
 go_wp2
 go_ret
 exact ⟨kP HT.out.symm,hbel⟩
theorem kBw {w:World} {ca:List Value} {a:kR} (ha:kV.raw w ca a) {cb:List Value} {b:kR} (hb:kV.raw w cb b) :
    Calls Tryz.prog 18 #[.agg ca.toArray,.agg cb.toArray] w fun e w'=>e=.returned (.bool (eqN a b))∧Below w.heap.size w w':=by
 obtain ⟨av,rfl,a_0⟩:=kN ha
 obtain ⟨bv,rfl,b_0⟩:=kN hb
 obtain ⟨aa,capa,rfl,la⟩:=Rep.sl a_0
 obtain ⟨ab,capb,rfl,lb⟩:=Rep.sl b_0
 go_enter Tryz.func18,Tryz.ntmps18
 go_wp2_with fail
 refine (kFt (a_0.below bB) (b_0.below bB)).mono ?_
 rintro e w1 ⟨rfl,hb1⟩
 have EF:Below w.heap.size w w1:=Below.trans bB (hb1.mono fQ)
 clear hb1
 go_wp2
 go_ret
 exact ⟨rfl,EF⟩
theorem jJ {w:World} {va vb:Value} {a b:(List kD)} (a_0:(Rep.slice 29 kE).raw w [va] a) (b_0:(Rep.slice 29 kE).raw w [vb] b) :
    Calls Tryz.prog 15 #[va,vb] w fun e w'=>e=.returned (.bool (decide (a=b)))∧Below w.heap.size w w':=by
 obtain ⟨aa,capa,rfl,la⟩:=Rep.sl a_0
 obtain ⟨ab,capb,rfl,lb⟩:=Rep.sl b_0
 go_enter Tryz.func15,Tryz.ntmps15
 by_cases hl:a.length=b.length
 case neg =>
  have HT:=yD (show decide (a=b)=false by simp;rintro rfl;exact hl rfl)
  have hz:((a.length:Int) != b.length)=true:=fQ
  have hzn:(a.length != b.length)=true:=fE
  go_wp2
  go_ret
  exact ⟨kP HT.out.symm,bR⟩
 have hz:((a.length:Int) != b.length)=false:=fQ
 have hzn:(a.length != b.length)=false:=fE
 have HL:=yD hl;clear hl
 go_wp2
 go_loopw [5] (fun i wr=>∃ k:Nat,k≤a.length∧i=.int .i64 k∧Hid (a.take k=b.take k)∧Below w.heap.size w wr) (fun i _=>a.length - (intOf i).toNat)
 case atStart=>exact ⟨0,Nat.zero_le _,rfl,yD rfl,bR⟩
 obtain ⟨k,hk,rfl,HN,hbel⟩:=hrel
 by_cases hlt:k < a.length
 · have hlt2:k < b.length:=dW
   obtain ⟨pb,po,rfl,pc0,pc1,pc2,pr,Ap0,Ap1,Ap2⟩:=Rep.yg (a_0.below hbel) (i:=k) fV rfl
   obtain ⟨qb,qo,rfl,qc0,qc1,qc2,qr,Aq0,Aq1,Aq2⟩:=Rep.yg (b_0.below hbel) (i:=k) fV rfl
   have hne:=fun q=>kAo hlt hlt2 q
   have hnx:=fun q=>jq HN.out hlt hlt2 q
   generalize a[k]=x at *
   generalize b[k]=y at *
   have HD:Hid (decide (x=y)=false→decide (a=b)=false):=yD (fun q=>by simp at q;simpa using hne q)
   have HX:Hid (decide (x=y)=true→a.take (k + 1)=b.take (k + 1)):=yD (fun q=>hnx (by simpa using q))
   have HV0:=yD (vRouteS_eq x y)
   clear hne hnx
   obtain ⟨x0,x1,x2⟩:=x
   obtain ⟨y0,y1,y2⟩:=y
   obtain ⟨pv0,phe,p_0,p_1,p_2,p_3⟩:=kG pr
   simp only [List.cons.injEq,and_true] at phe
   obtain ⟨rfl,rfl,rfl⟩:=phe
   obtain ⟨pa0,pp0,rfl,pl0⟩:=Rep.sl p_1
   obtain ⟨qv0,qhe,q_0,q_1,q_2,q_3⟩:=kG qr
   simp only [List.cons.injEq,and_true] at qhe
   obtain ⟨rfl,rfl,rfl⟩:=qhe
   obtain ⟨qa0,qp0,rfl,ql0⟩:=Rep.sl q_1
   go_wp2_with fail
   have FX:=yD (fun (W:World) (hW:Below wr.heap.size wr W)=>cLs6 hW Ap0 Ap1 Ap2 Aq0 Aq1 Aq2)
   refine kI (fun W=>Below wr.heap.size wr W) [true,true,true,true,true,true,true,true,true,true,true,true,true,true,true,true,true,true,true,true,true,true,true,true,true,true,true,true,true,true,true,true,true,true,true,false,true,true] fP fP bW (bR.drew) ?_
   intro wS HS
   iterate 11
    all_goals refine wkR ?_
   all_goals (have hg11:=True.intro;first|(refine wkG (fun b hg11=>?_);cases b;all_goals first | exact Bool.noConfusion hg11 | simp only [zU,zV] at hg11 | skip) | refine wkR ?_)
   all_goals refine wkP ?_
   iterate 12
    all_goals refine wkR ?_
   all_goals (have hg24:=True.intro;first|(refine wkG (fun b hg24=>?_);cases b;all_goals first | exact Bool.noConfusion hg24 | simp only [zU,zV] at hg24 | skip) | refine wkR ?_)
   all_goals refine wkP ?_
   iterate 10
    all_goals refine wkR ?_
   all_goals first | refine wkB (kBw (Rep.raw.below p_0 HS) (Rep.raw.below q_0 HS)) (fun wS1 HS=>?_) | refine wkR ?_
   all_goals refine wkR ?_
   all_goals (have hg37:=True.intro;first|(refine wkG (fun b hg37=>?_);cases b;all_goals first | exact Bool.noConfusion hg37 | simp only [zU,zV] at hg37 | skip) | refine wkR ?_)
   all_goals refine wkP ?_
   all_goals refine kQ ?_
   all_goals have EG:=(tQ hbel HS)
   all_goals first
     | (have HV:=HV0.out.symm.trans (show _=false by simp only [kFy,Bool.not_true,Bool.not_false,Bool.and_true,Bool.true_and,Bool.and_false,Bool.false_and,Bool.or_true,Bool.true_or,Bool.or_false,Bool.false_or,Bool.not_not,hg11,hg24,hg37]);have HT:=yD (HD.out HV);clear HV HV0 HD HX;go_wp2;go_ret;exact ⟨kP HT.out.symm,EG⟩)
     | (have HV:=HV0.out.symm.trans (show _=true by simp only [kFy,Bool.not_true,Bool.not_false,Bool.and_true,Bool.true_and,Bool.and_false,Bool.false_and,Bool.or_true,Bool.true_or,Bool.or_false,Bool.false_or,Bool.not_not,hg11,hg24,hg37]);have HT:=yD (HX.out HV);clear HV HV0 HD HX;go_wp2;go_roundw;(case rel=>exact ⟨k + 1,by omega,by go_num,HT,EG⟩);(case measure=>simp [intOf];omega))
 have HT:=yD (show decide (a=b)=true by simp;exact zi HN.out hlt HL.out)
 go_wp2
 go_ret
 exact ⟨kP HT.out.symm,hbel⟩
end Go.Proofs.YthpgoddjglnoiaaGreatDoor

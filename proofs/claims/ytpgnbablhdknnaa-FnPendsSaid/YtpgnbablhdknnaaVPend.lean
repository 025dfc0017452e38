/-
  Plain facts on tests of all elements and on the first that is hit.
  Requesters that are valid: in order, in range.
  Lists of pending interests that are valid.
-/
import Derived.Test.YtpgnbablhdknnaaPend
set_option linter.unusedVariables false
set_option linter.unusedSimpArgs false
set_option linter.unnecessarySimpa false
set_option maxRecDepth 100000
set_option maxHeartbeats 4000000
namespace Go.Proofs.Ytpgnbablhdknnaa
theorem kHs {f:Nat→Bool}:∀ {n:Nat},yH f n=true↔∀ j,j < n→f j=true
  | 0=>by simp [yH]
  | n + 1=>by
    rw [yH,Bool.and_eq_true,kHs]
    constructor
    · rintro ⟨h,k⟩ j hj
      by_cases e:j=n
      · rw [e];exact k
      · exact h j gV
    · intro h;exact ⟨fun j hj=>h j gV,h n gV⟩
theorem kBb {α:Type} {p:α→Bool} {x:List α}:idxOf p x < 0↔∀ y∈x,p y=false:=by
 unfold idxOf
 cases h:x.findIdx? p with
 | none=>simp [List.findIdx?_eq_none_iff.1 h];exact List.findIdx?_eq_none_iff.1 h
 | some i =>
   obtain ⟨hi,hp,_⟩:=List.findIdx?_eq_some_iff_getElem.1 h
   constructor
   · intro q;simp at q;omega
   · intro q;rw [q _ (List.getElem_mem hi)] at hp;cases hp
theorem zQ {α:Type} {p:α→Bool} {x:List α} {k:Nat} (h:idxOf p x=k):∃ hk:k < x.length,p x[k]=true∧∀ j (hj:j < k),p (x[j]'(Nat.lt_trans hj hk))=false:=by
 unfold idxOf at h
 cases e:x.findIdx? p with
 | none=>rw [e] at h;simp at h
 | some i =>
   rw [e] at h
   obtain rfl:i=k:=by simp only at h;omega
   obtain ⟨hi,hp,hq⟩:=List.findIdx?_eq_some_iff_getElem.1 e
   exact ⟨hi,hp,fun j hj=>by have:=hq j hj;simpa using this⟩
theorem kDk {α:Type} {R:α→α→Prop} (tr:∀ a b c,R a b→R b c→R a c):∀ {l:List α},(∀ k (h:k + 1 < l.length),R (l[k]'(Nat.lt_of_succ_lt h)) l[k + 1])→l.Pairwise R
  | [],_=>.nil
  | [a],_=>by simp
  | a :: b :: l,h=>by
    have ih:=kDk tr (l:=b :: l) (fun k hk=>h (k + 1) (by simp only [List.length_cons] at hk ⊢;omega))
    have hab:=h 0 gW
    refine List.pairwise_cons.2 ⟨?_,ih⟩
    intro x hx
    rcases List.mem_cons.1 hx with rfl | hx
    · exact hab
    · exact tr _ _ _ hab ((List.pairwise_cons.1 ih).1 x hx)
end Go.Proofs.Ytpgnbablhdknnaa
namespace Go.Proofs.Ytpgnbablhdknnaa
open Go.RowKit
def okA (y x:kH):Bool:=!((!inR x.1 0 6 || !inR x.2.1 0 1000000) || decide (x.1≤y.1))
def okA0 (x:kH):Bool:=!(!inR x.1 0 6 || !inR x.2.1 0 1000000)
def kBy (l:List kH) (k:Nat) (x:kH):Bool:=if 0 < k then okA (l.getD (k - 1) (0,0,0)) x else okA0 x
def kCa (l:List kH):Bool:=yH (fun j=>kBy l j (l.getD j (0,0,0))) l.length && decide (0 < l.length)
theorem vAsk_bad {l:List kH} {k:Nat} (h:k < l.length) (q:kBy l k l[k]=false):kCa l=false:=by
 unfold kCa;rw [kCr h dE];rfl
theorem kIh {l:List kH} {k:Nat} (h:k < l.length) (q:kBy l k l[k]=true) (a:yH (fun j=>kBy l j (l.getD j (0,0,0))) k=true):yH (fun j=>kBy l j (l.getD j (0,0,0))) (k + 1)=true :=
  zt a dE
theorem kIi {l:List kH} {k:Nat} (q:yH (fun j=>kBy l j (l.getD j (0,0,0))) k=true) (h:¬ k < l.length) (hk:k≤l.length):kCa l=decide (0 < l.length):=by
 obtain rfl:k=l.length:=gV
 unfold kCa;rw [q];rfl
theorem kBo {l:List kH} {k:Nat} {x:kH} (h:¬ 0 < k):kBy l k x=okA0 x:=by unfold kBy;rw [if_neg h]
theorem kCv {l:List kH} {k j:Nat} {x:kH} (h:0 < k) (e:k - 1=j) (hj:j < l.length):kBy l k x=okA l[j] x:=by unfold kBy;rw [if_pos h,e,jQ hj]
theorem kGb {w:World} {vl:Value} {l:List kH} (hl:(Rep.slice 56 kF).raw w [vl] l) :
    Calls Try.prog 67 #[vl] w fun e w'=>e=.returned (.bool (kCa l))∧Below w.heap.size w w':=by
 obtain ⟨al,pl,rfl,ll⟩:=Rep.sl hl
 go_enter Try.func67,Try.ntmps67
 go_wp2
 go_loopw [3] (fun i wr=>∃ k:Nat,k≤l.length∧i=.int .i64 k∧Hid (yH (fun j=>kBy l j (l.getD j (0,0,0))) k=true)∧Below w.heap.size w wr) (fun i _=>l.length - (intOf i).toNat)
 case atStart=>exact ⟨0,Nat.zero_le _,rfl,yD rfl,bR⟩
 obtain ⟨k,hk,rfl,HN,hbel⟩:=hrel
 by_cases hlt:k < l.length
 · have hkI:=Int.ofNat_lt.2 hlt
   have hk0:=Int.natCast_nonneg k
   obtain ⟨qb,qo,rfl,qc0,qc1,qc2,qr,Aq0,Aq1,Aq2⟩:=Rep.yP (hl.below hbel) (i:=k) gV rfl
   have hb:=fun q=>vAsk_bad hlt q
   have hxx:=fun q=>kIh hlt q HN.out
   by_cases h0:0 < k
   · obtain ⟨j,hj⟩:∃ j,k - 1=j:=⟨_,rfl⟩
     have hjl:j < l.length:=gV
     have HO:=yD (kCv (l:=l) (x:=l[k]) h0 hj hjl)
     have hsub:(k:Int) - 1=(j:Int):=gV
     obtain ⟨yb,yo,yE,yc0,yc1,yc2,yr,Ay0,Ay1,Ay2⟩:=Rep.yP (hl.below hbel) hjl rfl
     simp only [Option.some.injEq,Addr.mk.injEq,and_true] at yE
     obtain ⟨rfl,rfl⟩:=yE
     generalize l[j]=y at *
     obtain ⟨yhe,y_0,y_1,y_2⟩:=ko yr
     simp only [List.cons.injEq,and_true] at yhe
     obtain ⟨rfl,rfl,rfl⟩:=yhe
     clear yr
     have hw:IntKind.i64.wrap (j:Int)=j:=IntWalk.i64_in _ gV
     have hj0:=Int.natCast_nonneg j
     have hj2:=Int.ofNat_lt.2 hjl
     clear hj
     have hp:decide ((k:Int) > 0)=true:=gQ
     have hp2:decide (0 < k)=true:=gJ
     have hp3:(0:Int) < k:=gV
     generalize l[k]=x at *
     have HB:=yD hb;have HX:=yD hxx;clear hb hxx
     obtain ⟨qhe,q_0,q_1,q_2⟩:=ko qr
     simp only [List.cons.injEq,and_true] at qhe
     obtain ⟨rfl,rfl,rfl⟩:=qhe
     go_upto_region 4 with fail
     have FX:=yD (fun (W:World) (hW:Below wr.heap.size wr W)=>zi hW Aq0 Aq1 Aq2 Ay0)
     refine kK (fun W=>Below wr.heap.size wr W) [true,true,true,true,true,false,true,true,true,true,true,true,true,false,true,true,true,true,true,true,true,true,true,true,true,true,true,true,true,true,true,true,true,true] gP gP bX (bR.drew) ?_
     intro wS HS
     iterate 5
      all_goals refine wkR ?_
     all_goals first | refine wkC (jR) ?_ | refine wkR ?_
     all_goals refine wkR ?_
     all_goals (have hg7:=True.intro;first|(refine wkG (fun b hg7=>?_);cases b;all_goals first | exact Bool.noConfusion hg7 | simp only [zU,zV] at hg7 | skip) | refine wkR ?_)
     all_goals refine wkP ?_
     iterate 5
      all_goals refine wkR ?_
     all_goals first | refine wkC (jR) ?_ | refine wkR ?_
     all_goals refine wkR ?_
     all_goals refine wkR ?_
     all_goals (have hg16:=True.intro;first|(refine wkG (fun b hg16=>?_);cases b;all_goals first | exact Bool.noConfusion hg16 | simp only [zU,zV] at hg16 | skip) | refine wkR ?_)
     all_goals refine wkP ?_
     all_goals refine wkR ?_
     all_goals refine wkR ?_
     all_goals (have hg19:=True.intro;first|(refine wkG (fun b hg19=>?_);cases b;all_goals first | exact Bool.noConfusion hg19 | simp only [zU,zV] at hg19 | skip) | refine wkR ?_)
     all_goals refine wkP ?_
     iterate 13
      all_goals refine wkR ?_
     all_goals (have hg33:=True.intro;first|(refine wkG (fun b hg33=>?_);cases b;all_goals first | exact Bool.noConfusion hg33 | simp only [zU,zV] at hg33 | skip) | refine wkR ?_)
     all_goals refine wkP ?_
     all_goals refine kN ?_
     all_goals have EG:=(tQ hbel HS)
     all_goals first
       | (have HT:=yD (HB.out (show _=false by rw [HO.out];simp only [okA,Bool.not_true,Bool.not_false,Bool.and_true,Bool.true_and,Bool.and_false,Bool.false_and,Bool.or_true,Bool.true_or,Bool.or_false,Bool.false_or,Bool.not_not,ge_iff_le,hg7,hg16,hg19,hg33]));clear HB HX HN HO;go_wp2;go_ret;exact ⟨kP HT.out.symm,EG⟩)
       | (have HT:=yD (HX.out (show _=true by rw [HO.out];simp only [okA,Bool.not_true,Bool.not_false,Bool.and_true,Bool.true_and,Bool.and_false,Bool.false_and,Bool.or_true,Bool.true_or,Bool.or_false,Bool.false_or,Bool.not_not,ge_iff_le,hg7,hg16,hg19,hg33]));clear HB HX HN HO;go_wp2;go_roundw;(case rel=>exact ⟨k + 1,by omega,by go_num,HT,EG⟩);(case measure=>simp [intOf];omega))
   have HO:=yD (kBo (l:=l) (x:=l[k]) h0)
   have hp:decide ((k:Int) > 0)=false:=gQ
   have hp2:decide (0 < k)=false:=gJ
   have hp3:¬ (0:Int) < k:=gV
   generalize l[k]=x at *
   have HB:=yD hb;have HX:=yD hxx;clear hb hxx
   obtain ⟨qhe,q_0,q_1,q_2⟩:=ko qr
   simp only [List.cons.injEq,and_true] at qhe
   obtain ⟨rfl,rfl,rfl⟩:=qhe
   go_upto_region 4 with fail
   have FX:=yD (fun (W:World) (hW:Below wr.heap.size wr W)=>cLs3 hW Aq0 Aq1 Aq2)
   refine kK (fun W=>Below wr.heap.size wr W) [true,true,true,true,true,false,true,true,true,true,true,true,true,false,true,true,true,true,true,true,true,true,true,true,true,true,true,true,true,true,true,true,true,true] gP gP bX (bR.drew) ?_
   intro wS HS
   iterate 5
    all_goals refine wkR ?_
   all_goals first | refine wkC (jR) ?_ | refine wkR ?_
   all_goals refine wkR ?_
   all_goals (have hg7:=True.intro;first|(refine wkG (fun b hg7=>?_);cases b;all_goals first | exact Bool.noConfusion hg7 | simp only [zU,zV] at hg7 | skip) | refine wkR ?_)
   all_goals refine wkP ?_
   iterate 5
    all_goals refine wkR ?_
   all_goals first | refine wkC (jR) ?_ | refine wkR ?_
   all_goals refine wkR ?_
   all_goals refine wkR ?_
   all_goals (have hg16:=True.intro;first|(refine wkG (fun b hg16=>?_);cases b;all_goals first | exact Bool.noConfusion hg16 | simp only [zU,zV] at hg16 | skip) | refine wkR ?_)
   all_goals refine wkP ?_
   all_goals refine wkR ?_
   all_goals refine wkR ?_
   all_goals (have hg19:=True.intro;first|(refine wkG (fun b hg19=>?_);cases b;all_goals first | exact Bool.noConfusion hg19 | simp only [zU,zV] at hg19 | skip) | refine wkR ?_)
   all_goals refine wkP ?_
   iterate 13
    all_goals refine wkR ?_
   all_goals (have hg33:=True.intro;first|(refine wkG (fun b hg33=>?_);cases b;all_goals first | exact Bool.noConfusion hg33 | simp only [zU,zV] at hg33 | skip) | refine wkR ?_)
   all_goals refine wkP ?_
   all_goals refine kN ?_
   all_goals have EG:=(tQ hbel HS)
   all_goals first
     | (have HT:=yD (HB.out (show _=false by rw [HO.out];simp only [okA0,Bool.not_true,Bool.not_false,Bool.and_true,Bool.true_and,Bool.and_false,Bool.false_and,Bool.or_true,Bool.true_or,Bool.or_false,Bool.false_or,Bool.not_not,ge_iff_le,hg7,hg16,hg19,hg33]));clear HB HX HN HO;go_wp2;go_ret;exact ⟨kP HT.out.symm,EG⟩)
     | (have HT:=yD (HX.out (show _=true by rw [HO.out];simp only [okA0,Bool.not_true,Bool.not_false,Bool.and_true,Bool.true_and,Bool.and_false,Bool.false_and,Bool.or_true,Bool.true_or,Bool.or_false,Bool.false_or,Bool.not_not,ge_iff_le,hg7,hg16,hg19,hg33]));clear HB HX HN HO;go_wp2;go_roundw;(case rel=>exact ⟨k + 1,by omega,by go_num,HT,EG⟩);(case measure=>simp [intOf];omega))
 have HT:=yD (kIi HN.out hlt hk)
 have hkn:¬ (k:Int) < l.length:=gV
 go_wp2
 go_ret
 exact ⟨kP (HT.out.trans gW).symm,hbel⟩
def yC (l:List kD) (k:Nat) (x:kD):Bool:=!((((!yX x.1 || ((x.1.length:Int)==0)) || !kCa x.2.1) || !inR x.2.2 0 100000) || decide (idxOf (kR x.1) (l.take k) ≥ 0))
def yR (l:List kD):Bool:=yH (fun j=>yC l j (l.getD j ([],[],0))) l.length && decide (l.length≤12)
theorem kGr {l:List kD} {k:Nat} (h:k < l.length) (q:yC l k l[k]=false):yR l=false:=by
 unfold yR;rw [kCr h dE];rfl
theorem kFr {l:List kD} {k:Nat} (h:k < l.length) (q:yC l k l[k]=true) (a:yH (fun j=>yC l j (l.getD j ([],[],0))) k=true):yH (fun j=>yC l j (l.getD j ([],[],0))) (k + 1)=true :=
  zt a dE
theorem kFs {l:List kD} {k:Nat} (q:yH (fun j=>yC l j (l.getD j ([],[],0))) k=true) (h:¬ k < l.length) (hk:k≤l.length):yR l=decide (l.length≤12):=by
 obtain rfl:k=l.length:=gV
 unfold yR;rw [q];rfl
theorem kDo {w:World} {vl:Value} {l:List kD} (hl:(Rep.slice 67 kE).raw w [vl] l) :
    Calls Try.prog 29 #[vl] w fun e w'=>e=.returned (.bool (yR l))∧Below w.heap.size w w':=by
 obtain ⟨al,pl,rfl,ll⟩:=Rep.sl hl
 have hcap:=Rep.kGn hl
 go_enter Try.func29,Try.ntmps29
 go_wp2
 go_loopw [3] (fun i wr=>∃ k:Nat,k≤l.length∧i=.int .i64 k∧Hid (yH (fun j=>yC l j (l.getD j ([],[],0))) k=true)∧Below w.heap.size w wr) (fun i _=>l.length - (intOf i).toNat)
 case atStart=>exact ⟨0,Nat.zero_le _,rfl,yD rfl,bR⟩
 obtain ⟨k,hk,rfl,HN,hbel⟩:=hrel
 by_cases hlt:k < l.length
 · obtain ⟨qb,qo,rfl,qc0,qc1,qc2,qr,Aq0,Aq1,Aq2⟩:=Rep.yP (hl.below hbel) (i:=k) gV rfl
   have HTK:=yD (Rep.take_raw (hl.below hbel) hk)
   have hb:=fun q=>kGr hlt q
   have hx:=fun q=>kFr hlt q HN.out
   generalize l[k]=x at *
   have HB:=yD hb;have HX:=yD hx;clear hb hx
   obtain ⟨x0,x1,x2⟩:=x
   obtain ⟨qv0,qv1,qhe,q_0,q_1,q_2,q_3⟩:=kM qr
   simp only [List.cons.injEq,and_true] at qhe
   obtain ⟨rfl,rfl,rfl⟩:=qhe
   obtain ⟨qa0,qp0,rfl,ql0⟩:=Rep.sl q_1
   obtain ⟨qa1,qp1,rfl,ql1⟩:=Rep.sl q_2
   have hkI:=Int.ofNat_lt.2 hlt
   have hk0:=Int.natCast_nonneg k
   have hkc:(k:Int)≤(pl:Int):=gV
   have hkd:k≤pl:=gV
   go_upto_region 4 with fail
   have FX:=yD (fun (W:World) (hW:Below wr.heap.size wr W)=>cLs3 hW Aq0 Aq1 Aq2)
   refine kK (fun W=>Below wr.heap.size wr W) [true,true,true,true,true,false,true,true,true,true,true,true,true,true,true,true,true,true,true,true,true,true,true,false,true,true,true,true,true,true,true,true,false,true,true,true,true,true,true,true,true,true,true,true,false,true,true] gP gP bX (bR.drew) ?_
   intro wS HS
   iterate 5
    all_goals refine wkR ?_
   all_goals first | refine wkB (yQ (Rep.raw.below q_0 HS)) (fun wS1 HS=>?_) | refine wkR ?_
   all_goals refine wkR ?_
   all_goals (have hg7:=True.intro;first|(refine wkG (fun b hg7=>?_);cases b;all_goals first | exact Bool.noConfusion hg7 | simp only [zU,zV] at hg7 | skip) | refine wkR ?_)
   all_goals refine wkP ?_
   iterate 9
    all_goals refine wkR ?_
   all_goals (have hg17:=True.intro;first|(refine wkG (fun b hg17=>?_);cases b;all_goals first | exact Bool.noConfusion hg17 | simp only [zU,zV] at hg17 | skip) | refine wkR ?_)
   all_goals refine wkP ?_
   iterate 5
    all_goals refine wkR ?_
   all_goals first | refine wkB (kGb (Rep.raw.below q_2 HS)) (fun wS1 HS=>?_) | refine wkR ?_
   all_goals refine wkR ?_
   all_goals refine wkR ?_
   all_goals (have hg26:=True.intro;first|(refine wkG (fun b hg26=>?_);cases b;all_goals first | exact Bool.noConfusion hg26 | simp only [zU,zV] at hg26 | skip) | refine wkR ?_)
   all_goals refine wkP ?_
   iterate 5
    all_goals refine wkR ?_
   all_goals first | refine wkC (jR) ?_ | refine wkR ?_
   all_goals refine wkR ?_
   all_goals refine wkR ?_
   all_goals (have hg35:=True.intro;first|(refine wkG (fun b hg35=>?_);cases b;all_goals first | exact Bool.noConfusion hg35 | simp only [zU,zV] at hg35 | skip) | refine wkR ?_)
   all_goals refine wkP ?_
   iterate 8
    all_goals refine wkR ?_
   all_goals first | refine wkB (yA (Rep.raw.below HTK.out HS) (Rep.raw.below q_0 HS)) (fun wS1 HS=>?_) | refine wkR ?_
   all_goals refine wkR ?_
   all_goals (have hg46:=True.intro;first|(refine wkG (fun b hg46=>?_);cases b;all_goals first | exact Bool.noConfusion hg46 | simp only [zU,zV] at hg46 | skip) | refine wkR ?_)
   all_goals refine wkP ?_
   all_goals refine kN ?_
   all_goals have EG:=hbel.trans (Below.mono HS hbel.size)
   all_goals first
     | (have HT:=yD (HB.out (show _=false by simp only [yC,Bool.not_true,Bool.not_false,Bool.and_true,Bool.true_and,Bool.and_false,Bool.false_and,Bool.or_true,Bool.true_or,Bool.or_false,Bool.false_or,Bool.not_not,ge_iff_le,hg7,hg17,hg26,hg35,hg46]));clear HB HX HN HTK;go_wp2;go_ret;exact ⟨kP HT.out.symm,EG⟩)
     | (have HT:=yD (HX.out (show _=true by simp only [yC,Bool.not_true,Bool.not_false,Bool.and_true,Bool.true_and,Bool.and_false,Bool.false_and,Bool.or_true,Bool.true_or,Bool.or_false,Bool.false_or,Bool.not_not,ge_iff_le,hg7,hg17,hg26,hg35,hg46]));clear HB HX HN HTK;go_wp2;go_roundw;(case rel=>exact ⟨k + 1,by omega,by go_num,HT,EG⟩);(case measure=>simp [intOf];omega))
 have HT:=yD (kFs HN.out hlt hk)
 go_wp2
 go_ret
 exact ⟨kP (by rw [HT.out];first | rfl|(simp;done)|(rw [Bool.eq_iff_iff];simp;omega)),hbel⟩
end Go.Proofs.Ytpgnbablhdknnaa

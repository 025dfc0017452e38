/-
  A requester put in its place.
  An interest that is valid.
  An owned slice, one of whose elements gets a part that is owned elsewhere. No program in sight.
-/
import Derived.Test.YtomdenfcfbkfbaaGreatIns
import Derived.Test.YtomdenfcfbkfbaaGreatLoop
set_option linter.unusedVariables false
set_option linter.unusedSimpArgs false
set_option linter.unnecessarySimpa false
set_option maxRecDepth 100000
set_option maxHeartbeats 4000000
namespace Go.Proofs.YtomdenfcfbkfbaaGreat
open Go.RowKit
def ze (f:Int) (l:List kS):List kS:=l.filter (fun r=>!(r.1==f))
def putR (a:kS) (l:List kS):List kS :=
  match (ze a.1 l).findIdx? (fun r=>decide (a.1≤r.1)) with
  | none=>ze a.1 l++[a]
  | some i=>(ze a.1 l).take i++a :: (ze a.1 l).drop i
def kCq (a:kS) (s:List kS × Bool) (r:kS):List kS × Bool :=
  let s1:=if !s.2 && decide (a.1 < r.1) then (s.1++[a],true) else s
  if r.1=a.1 then s1 else (s1.1++[r],s1.2)
def kHd (a:kS) (l:List kS) (k:Nat):List kS × Bool:=(l.take k).foldl (kCq a) ([],false)
theorem putK_next {a:kS} {l:List kS} {k:Nat} (h:k < l.length):kHd a l (k + 1)=kCq a (kHd a l k) l[k]:=by
 unfold kHd;rw [List.take_succ_eq_append_getElem h,List.foldl_append];rfl
def putM (a:kS) (l:List kS):List kS × Bool :=
  match (ze a.1 l).findIdx? (fun r=>decide (a.1≤r.1)) with
  | none=>(ze a.1 l,false)
  | some i=>((ze a.1 l).take i++a :: (ze a.1 l).drop i,true)
theorem putM_snoc (a:kS) (l:List kS) (r:kS):putM a (l++[r])=kCq a (putM a l) r:=by
 have hf:ze a.1 (l++[r])=if r.1=a.1 then ze a.1 l else ze a.1 l++[r]:=by
  unfold ze;rw [List.filter_append]
  by_cases h:r.1=a.1 <;> simp [h]
 unfold putM kCq
 rw [hf]
 generalize ze a.1 l=O
 by_cases h:r.1=a.1
 · rw [if_pos h,if_pos h]
   have hlt:¬ a.1 < r.1:=rJ
   cases hq:O.findIdx? (fun r=>decide (a.1≤r.1)) <;> simp [hlt]
 rw [if_neg h,if_neg h]
 rw [List.findIdx?_append]
 cases hq:O.findIdx? (fun r=>decide (a.1≤r.1)) with
 | none =>
   by_cases hlt:a.1 < r.1
   · have hle:a.1≤r.1:=rJ
     simp [hlt,hle,List.findIdx?_cons]
   · have hle:¬ a.1≤r.1:=rJ
     simp [hlt,hle,List.findIdx?_cons]
 | some i =>
   obtain ⟨hi,_⟩:=List.findIdx?_eq_some_iff_getElem.1 hq
   simp [List.take_append_of_le_length (Nat.le_of_lt hi),List.drop_append_of_le_length (Nat.le_of_lt hi)]
theorem kSk (a:kS) (l:List kS):l.foldl (kCq a) ([],false)=putM a l:=by
 have h:∀ n,∀ l:List kS,l.length=n→l.foldl (kCq a) ([],false)=putM a l:=by
  intro n
  induction n with
  | zero=>intro l hl;rw [List.length_eq_zero_iff.1 hl];rfl
  | succ n ih =>
    intro l hl
    obtain ⟨l',r,rfl⟩:∃ l' r,l=l'++[r]:=⟨l.dropLast,l.getLast (by intro q;rw [q] at hl;simp at hl),(List.dropLast_concat_getLast _).symm⟩
    rw [List.foldl_append,ih l' qP,putM_snoc];rfl
 exact h _ l rfl
theorem putK_all {a:kS} {l:List kS} {k:Nat} (h:¬ k < l.length):(if (kHd a l k).2 then (kHd a l k).1 else (kHd a l k).1++[a])=putR a l:=by
 unfold kHd
 rw [List.take_of_length_le rJ,kSk]
 unfold putM putR
 cases (ze a.1 l).findIdx? (fun r=>decide (a.1≤r.1)) <;> simp
theorem putK_len {a:kS} {l:List kS} (k:Nat):(kHd a l k).1.length≤l.length + 1:=by
 unfold kHd
 rw [kSk]
 have h:(ze a.1 (l.take k)).length≤l.length:=Nat.le_trans (List.length_filter_le _ _) (by rw [List.length_take];omega)
 unfold putM
 cases hq:(ze a.1 (l.take k)).findIdx? (fun r=>decide (a.1≤r.1)) with
 | none=>simp;omega
 | some i=>simp;omega
theorem kRh (a:kS) (l:List kS):(putR a l).length≤l.length + 1:=by
 have h:(ze a.1 l).length≤l.length:=List.length_filter_le _ _
 unfold putR
 cases hq:(ze a.1 l).findIdx? (fun r=>decide (a.1≤r.1)) with
 | none=>simp;omega
 | some i=>simp;omega
theorem putR_idx (a:kS) (l:List kS):∃ i,i≤(ze a.1 l).length∧putR a l=(ze a.1 l).take i++a :: (ze a.1 l).drop i∧((idxOf (fun r=>decide (a.1≤r.1)) (ze a.1 l)=-1∧i=(ze a.1 l).length)∨idxOf (fun r=>decide (a.1≤r.1)) (ze a.1 l)=(i:Int)):=by
 unfold putR idxOf
 cases hq:(ze a.1 l).findIdx? (fun r=>decide (a.1≤r.1)) with
 | none=>exact ⟨_,Nat.le_refl _,by simp,.inl ⟨rfl,rfl⟩⟩
 | some i =>
   obtain ⟨hi,_⟩:=List.findIdx?_eq_some_iff_getElem.1 hq
   exact ⟨i,Nat.le_of_lt hi,rfl,.inr rfl⟩
theorem kVy {w:World} {vl:Value} {l:List kS} (hl:(Rep.slice 81 kF).rd w [vl] l) {f n x:Int} (hf:-9223372036854775808≤f∧f≤9223372036854775807) (hn:-9223372036854775808≤n∧n≤9223372036854775807) (hx:-9223372036854775808≤x∧x≤9223372036854775807) :
    Calls Tryz.prog 164 #[vl,.agg #[.int .i64 f,.int .i64 n,.int .i64 x]] w (kDc 81 kF (putR (f,n,x) l) w):=by
 have HL:=yD hl
 obtain ⟨la,lp,rfl,ll⟩:=Rep.sl hl.1
 have hlb:l.length≤16777216:=hl.2.1
 have HA:Hid (∀ W,kF.own W [.int .i64 f,.int .i64 n,.int .i64 x] (f,n,x) (fun _=>False)):=yD (fun W=>Rep.flat.own (Rep.jY (Rep.kr hf) (Rep.jY (Rep.kr hn) (Rep.kr hx))))
 clear hl hf hn hx
 go_enter Tryz.func164,Tryz.ntmps164
 go_upto_region 3 with fail
 generalize hwB:World.alloc (World.alloc w _) _=wB
 have EB:Below w.heap.size w wB:=by rw [← hwB];exact bD
 have KA0:wB.cell? ⟨w.heap.size,0,none⟩=some (.int .i64 f):=nJ
 have KA1:wB.cell? ⟨w.heap.size,1,none⟩=some (.int .i64 n):=nJ
 have KA2:wB.cell? ⟨w.heap.size,2,none⟩=some (.int .i64 x):=nJ
 have hzB:wB.heap.size=w.heap.size + 2:=qF
 have O0:Hid (Rep.kQ 81 kF wB (.slice (some ⟨w.heap.size + 1,0,none⟩) 0 0) [] (Btw (w.heap.size + 1) wB.heap.size)):=yD Rep.kQ.void
 clear hwB
 go_wp2
 go_loopw [5,6,7] (fun v d i wr=>∃ k:Nat,k≤l.length∧i=.int .i64 k∧d=.bool (kHd (f,n,x) l k).2∧Hid (Rep.kQ 81 kF wr v (kHd (f,n,x) l k).1 (Btw (w.heap.size + 1) wr.heap.size))∧Below (w.heap.size + 1) wB wr) (fun _ _ i _=>l.length - (intOf i).toNat)
 case atStart=>exact ⟨0,Nat.zero_le _,rfl,rfl,O0,bR⟩
 obtain ⟨k,hk,rfl,rfl,HO,hbel⟩:=hrel
 obtain ⟨oa,on,oc,ho,HON⟩:=HO.out.parts;obtain rfl:=ho
 have hle:=putK_len (a:=(f,n,x)) (l:=l) k
 have hzr:=hbel.size
 by_cases hlt:k < l.length
 · obtain ⟨ba,offa,rfl,c0,c1,c2,hr,C0,C1,C2⟩:=Rep.zT HL.out.1 hlt rfl
   obtain ⟨he,r_0,r_1,r_2⟩:=yA hr
   simp only [List.cons.injEq,and_true] at he
   obtain ⟨rfl,rfl,rfl⟩:=he
   have HX:=yD (fun W=>Rep.flat.own (w:=W) (S:=fun _=>False) (Rep.jY (Rep.kr r_0) (Rep.jY (Rep.kr r_1) (Rep.kr r_2))))
   have HT:=yD (putK_next (a:=(f,n,x)) hlt)
   clear hr r_0 r_1 r_2
   generalize l[k]=y at *
   obtain ⟨y0,y1,y2⟩:=y
   simp only at C0 C1 C2
   generalize kHd (f,n,x) l k=s at *
   obtain ⟨s1,s2⟩:=s
   replace HO:Hid (Rep.kQ 81 kF wr (.slice oa on oc) s1 (Btw (w.heap.size + 1) wr.heap.size)):=HO
   replace HON:Hid (on=s1.length):=HON
   replace hle:s1.length≤l.length + 1:=hle
   have hkI:(0:Int)≤k:=rJ
   have hkI2:(k:Int) < l.length:=rJ
   cases s2
   · by_cases hg:f < y0
     · have hne:¬ (y0=f):=rJ
       have HT2:Hid (kHd (f,n,x) l (k + 1)=(s1++[(f,n,x)]++[(y0,y1,y2)],true)):=yD gJ
       have A0:=(hbel.cell (p:=⟨w.heap.size,0,none⟩) mY).trans KA0
       have A1:=(hbel.cell (p:=⟨w.heap.size,1,none⟩) mY).trans KA1
       have A2:=(hbel.cell (p:=⟨w.heap.size,2,none⟩) mY).trans KA2
       have EW:=EB.trans (hbel.mono rJ)
       have B0:=cL EW C0
       have B1:=cL EW C1
       have B2:=cL EW C2
       go_upto_region 6 with fail
       refine kV (fun W=>Below wr.heap.size wr W) [true,true,true,true,true,true,true,true,true,true,true,true] rA rA gI (bR.drew) ?_
       intro wS1 HS1
       iterate 2
        all_goals first|(refine kL rfl HS1 ?_)|(refine jC (v:=?_) rfl (fun W hW=>?_) ?_;rotate_left;(· go_simp;try with_reducible rfl))
        all_goals refine wkP ?_
       all_goals first|(refine kL rfl HS1 ?_;have hg2:=True.intro)|(refine kEd (v:=?_) (b:=?_) rfl (fun W hW=>?_) ?_ (fun b hg2=>?_);rotate_left;rotate_left;(· go_simp;try with_reducible rfl);(· with_reducible rfl);cases b;all_goals first|(exact Bool.noConfusion hg2)|(simp only [zU,zV] at hg2) | skip)
       iterate 4
        all_goals refine wkP ?_
        all_goals first|(refine kL rfl HS1 ?_)|(refine jC (v:=?_) rfl (fun W hW=>?_) ?_;rotate_left;(· go_simp;try with_reducible rfl))
       iterate 2
        all_goals refine wkP ?_
        all_goals first|(refine kL rfl HS1 ?_)|(refine jC (v:=?_) rfl (fun W hW=>?_) ?_;rotate_left;(· have A_A0:=cL hW A0;have A_B0:=cL hW B0;clear hW;go_simp;try with_reducible rfl))
        all_goals refine wkP ?_
        all_goals first|(refine kL rfl HS1 ?_)|(refine jC (v:=?_) rfl (fun W hW=>?_) ?_;rotate_left;(· go_simp;try with_reducible rfl))
       all_goals refine wkP ?_
       all_goals first|(refine kL rfl HS1 ?_)|(refine jC (v:=?_) rfl (fun W hW=>?_) ?_;rotate_left;(· go_simp;try with_reducible rfl))
       all_goals refine wkP ?_
       all_goals refine ko ?_
       have HO_1:Hid _:=yD ((HO.out.below HS1).wide (T:=Btw (w.heap.size + 1) wS1.heap.size) (fun j hj=>⟨hj.1,by have:=hj.2;have:=HS1.size;omega⟩))
       have hbel_1:=hbel.trans (HS1.mono pE)
       clear HS1
       have hz_1:=hbel_1.size
       clear A0 A1 A2 B0 B1 B2 EW
       have A0:=(hbel_1.cell (p:=⟨w.heap.size,0,none⟩) mY).trans KA0
       have A1:=(hbel_1.cell (p:=⟨w.heap.size,1,none⟩) mY).trans KA1
       have A2:=(hbel_1.cell (p:=⟨w.heap.size,2,none⟩) mY).trans KA2
       have EW:=EB.trans (hbel_1.mono rJ)
       have B0:=cL EW C0
       have B1:=cL EW C1
       have B2:=cL EW C2
       go_wp2_with (at_builtin;refine Rep.jU rfl _ _ 75 rfl (r:=kF) (e:=81) Tryz.underlying75 yO rfl rG rG (B:=w.heap.size + 1) HO_1.out rO rO rfl (HA.out _) rfl (fun _ _ h=>h) gP (fun _ h=>h.elim) rJ rJ ?_)
       intro v2 w2 ho2 hb2 hz2
       have HO2:=yD ho2
       obtain ⟨pa2,pn2,pc2,hp2,HPN2⟩:=ho2.parts;obtain rfl:=hp2
       clear ho2
       have hbel2:=hbel_1.trans hb2
       clear hb2
       clear A0 A1 A2 B0 B1 B2 EW
       have hle1:(s1++[(f,n,x)]).length≤l.length + 2:=rC
       have A0:=(hbel2.cell (p:=⟨w.heap.size,0,none⟩) mY).trans KA0
       have A1:=(hbel2.cell (p:=⟨w.heap.size,1,none⟩) mY).trans KA1
       have A2:=(hbel2.cell (p:=⟨w.heap.size,2,none⟩) mY).trans KA2
       have EW:=EB.trans (hbel2.mono rJ)
       have B0:=cL EW C0
       have B1:=cL EW C1
       have B2:=cL EW C2
       go_upto_region 9 with fail
       refine kV (fun W=>Below w2.heap.size w2 W) [true,true,true,true,true,true,true,true] rA rA gI (bR.drew) ?_
       intro wS3 HS3
       iterate 4
        all_goals first|(refine kL rfl HS3 ?_)|(refine jC (v:=?_) rfl (fun W hW=>?_) ?_;rotate_left;(· go_simp;try with_reducible rfl))
        all_goals refine wkP ?_
       iterate 2
        all_goals first|(refine kL rfl HS3 ?_)|(refine jC (v:=?_) rfl (fun W hW=>?_) ?_;rotate_left;(· have A_A0:=cL hW A0;have A_B0:=cL hW B0;clear hW;go_simp;try with_reducible rfl))
        all_goals refine wkP ?_
        all_goals first|(refine kL rfl HS3 ?_)|(refine jC (v:=?_) rfl (fun W hW=>?_) ?_;rotate_left;(· go_simp;try with_reducible rfl))
        all_goals refine wkP ?_
       all_goals refine ko ?_
       have HO_3:Hid _:=yD ((HO2.out.below HS3).wide (T:=Btw (w.heap.size + 1) wS3.heap.size) (fun j hj=>⟨hj.1,by have:=hj.2;have:=HS3.size;omega⟩))
       have hbel_3:=hbel2.trans (HS3.mono (by have:=hbel2.size;omega))
       clear HS3
       have hz_3:=hbel_3.size
       clear A0 A1 A2 B0 B1 B2 EW
       have A0:=(hbel_3.cell (p:=⟨w.heap.size,0,none⟩) mY).trans KA0
       have A1:=(hbel_3.cell (p:=⟨w.heap.size,1,none⟩) mY).trans KA1
       have A2:=(hbel_3.cell (p:=⟨w.heap.size,2,none⟩) mY).trans KA2
       have EW:=EB.trans (hbel_3.mono rJ)
       have B0:=cL EW C0
       have B1:=cL EW C1
       have B2:=cL EW C2
       go_wp2_with (at_builtin;refine Rep.jU rfl _ _ 75 rfl (r:=kF) (e:=81) Tryz.underlying75 yO rfl rG rG (B:=w.heap.size + 1) HO_3.out rO rO rfl (HX.out _) rfl (fun _ _ h=>h) gP (fun _ h=>h.elim) rJ rJ ?_)
       intro v4 w4 ho4 hb4 hz4
       have HO4:=yD ho4
       obtain ⟨pa4,pn4,pc4,hp4,HPN4⟩:=ho4.parts;obtain rfl:=hp4
       clear ho4
       have hbel4:=hbel_3.trans hb4
       clear hb4
       clear A0 A1 A2 B0 B1 B2 EW
       go_wp2
       go_roundw
       case rel=>exact ⟨k + 1,by omega,by go_num,by rw [HT2.out],yD (by rw [HT2.out];exact HO4.out.cast rM),hbel4⟩
       simp [intOf];omega
     by_cases hne:y0=f
     · have HT2:Hid (kHd (f,n,x) l (k + 1)=(s1,false)):=yD gJ
       have A0:=(hbel.cell (p:=⟨w.heap.size,0,none⟩) mY).trans KA0
       have A1:=(hbel.cell (p:=⟨w.heap.size,1,none⟩) mY).trans KA1
       have A2:=(hbel.cell (p:=⟨w.heap.size,2,none⟩) mY).trans KA2
       have EW:=EB.trans (hbel.mono rJ)
       have B0:=cL EW C0
       have B1:=cL EW C1
       have B2:=cL EW C2
       go_upto_region 6 with fail
       refine kV (fun W=>Below wr.heap.size wr W) [true,true,true,true,true,true,true,true,true,true,true,true] rA rA gI (bR.drew) ?_
       intro wS5 HS5
       iterate 2
        all_goals first|(refine kL rfl HS5 ?_)|(refine jC (v:=?_) rfl (fun W hW=>?_) ?_;rotate_left;(· go_simp;try with_reducible rfl))
        all_goals refine wkP ?_
       all_goals first|(refine kL rfl HS5 ?_;have hg2:=True.intro)|(refine kEd (v:=?_) (b:=?_) rfl (fun W hW=>?_) ?_ (fun b hg2=>?_);rotate_left;rotate_left;(· go_simp;try with_reducible rfl);(· with_reducible rfl);cases b;all_goals first|(exact Bool.noConfusion hg2)|(simp only [zU,zV] at hg2) | skip)
       iterate 4
        all_goals refine wkP ?_
        all_goals first|(refine kL rfl HS5 ?_)|(refine jC (v:=?_) rfl (fun W hW=>?_) ?_;rotate_left;(· go_simp;try with_reducible rfl))
       iterate 2
        all_goals refine wkP ?_
        all_goals first|(refine kL rfl HS5 ?_)|(refine jC (v:=?_) rfl (fun W hW=>?_) ?_;rotate_left;(· have A_A0:=cL hW A0;have A_B0:=cL hW B0;clear hW;go_simp;try with_reducible rfl))
        all_goals refine wkP ?_
        all_goals first|(refine kL rfl HS5 ?_)|(refine jC (v:=?_) rfl (fun W hW=>?_) ?_;rotate_left;(· go_simp;try with_reducible rfl))
       all_goals refine wkP ?_
       all_goals first|(refine kL rfl HS5 ?_)|(refine jC (v:=?_) rfl (fun W hW=>?_) ?_;rotate_left;(· go_simp;try with_reducible rfl))
       all_goals refine wkP ?_
       all_goals refine ko ?_
       have HO_5:Hid _:=yD ((HO.out.below HS5).wide (T:=Btw (w.heap.size + 1) wS5.heap.size) (fun j hj=>⟨hj.1,by have:=hj.2;have:=HS5.size;omega⟩))
       have hbel_5:=hbel.trans (HS5.mono pE)
       clear HS5
       have hz_5:=hbel_5.size
       clear A0 A1 A2 B0 B1 B2 EW
       have A0:=(hbel_5.cell (p:=⟨w.heap.size,0,none⟩) mY).trans KA0
       have A1:=(hbel_5.cell (p:=⟨w.heap.size,1,none⟩) mY).trans KA1
       have A2:=(hbel_5.cell (p:=⟨w.heap.size,2,none⟩) mY).trans KA2
       have EW:=EB.trans (hbel_5.mono rJ)
       have B0:=cL EW C0
       have B1:=cL EW C1
       have B2:=cL EW C2
       go_upto_region 9 with fail
       refine kV (fun W=>Below wS5.heap.size wS5 W) [true,true,true,true,true,true,true,true] rA rA gI (bR.drew) ?_
       intro wS6 HS6
       iterate 4
        all_goals first|(refine kL rfl HS6 ?_)|(refine jC (v:=?_) rfl (fun W hW=>?_) ?_;rotate_left;(· go_simp;try with_reducible rfl))
        all_goals refine wkP ?_
       iterate 2
        all_goals first|(refine kL rfl HS6 ?_)|(refine jC (v:=?_) rfl (fun W hW=>?_) ?_;rotate_left;(· have A_A0:=cL hW A0;have A_B0:=cL hW B0;clear hW;go_simp;try with_reducible rfl))
        all_goals refine wkP ?_
        all_goals first|(refine kL rfl HS6 ?_)|(refine jC (v:=?_) rfl (fun W hW=>?_) ?_;rotate_left;(· go_simp;try with_reducible rfl))
        all_goals refine wkP ?_
       all_goals refine ko ?_
       have HO_6:Hid _:=yD ((HO_5.out.below HS6).wide (T:=Btw (w.heap.size + 1) wS6.heap.size) (fun j hj=>⟨hj.1,by have:=hj.2;have:=HS6.size;omega⟩))
       have hbel_6:=hbel_5.trans (HS6.mono (by have:=hbel_5.size;omega))
       clear HS6
       have hz_6:=hbel_6.size
       clear A0 A1 A2 B0 B1 B2 EW
       go_wp2
       go_roundw
       case rel=>exact ⟨k + 1,by omega,by go_num,by rw [HT2.out],yD (by rw [HT2.out];exact HO_6.out.cast rM),hbel_6⟩
       simp [intOf];omega
     have HT2:Hid (kHd (f,n,x) l (k + 1)=(s1++[(y0,y1,y2)],false)):=yD gJ
     have A0:=(hbel.cell (p:=⟨w.heap.size,0,none⟩) mY).trans KA0
     have A1:=(hbel.cell (p:=⟨w.heap.size,1,none⟩) mY).trans KA1
     have A2:=(hbel.cell (p:=⟨w.heap.size,2,none⟩) mY).trans KA2
     have EW:=EB.trans (hbel.mono rJ)
     have B0:=cL EW C0
     have B1:=cL EW C1
     have B2:=cL EW C2
     go_upto_region 6 with fail
     refine kV (fun W=>Below wr.heap.size wr W) [true,true,true,true,true,true,true,true,true,true,true,true] rA rA gI (bR.drew) ?_
     intro wS5 HS5
     iterate 2
      all_goals first|(refine kL rfl HS5 ?_)|(refine jC (v:=?_) rfl (fun W hW=>?_) ?_;rotate_left;(· go_simp;try with_reducible rfl))
      all_goals refine wkP ?_
     all_goals first|(refine kL rfl HS5 ?_;have hg2:=True.intro)|(refine kEd (v:=?_) (b:=?_) rfl (fun W hW=>?_) ?_ (fun b hg2=>?_);rotate_left;rotate_left;(· go_simp;try with_reducible rfl);(· with_reducible rfl);cases b;all_goals first|(exact Bool.noConfusion hg2)|(simp only [zU,zV] at hg2) | skip)
     iterate 4
      all_goals refine wkP ?_
      all_goals first|(refine kL rfl HS5 ?_)|(refine jC (v:=?_) rfl (fun W hW=>?_) ?_;rotate_left;(· go_simp;try with_reducible rfl))
     iterate 2
      all_goals refine wkP ?_
      all_goals first|(refine kL rfl HS5 ?_)|(refine jC (v:=?_) rfl (fun W hW=>?_) ?_;rotate_left;(· have A_A0:=cL hW A0;have A_B0:=cL hW B0;clear hW;go_simp;try with_reducible rfl))
      all_goals refine wkP ?_
      all_goals first|(refine kL rfl HS5 ?_)|(refine jC (v:=?_) rfl (fun W hW=>?_) ?_;rotate_left;(· go_simp;try with_reducible rfl))
     all_goals refine wkP ?_
     all_goals first|(refine kL rfl HS5 ?_)|(refine jC (v:=?_) rfl (fun W hW=>?_) ?_;rotate_left;(· go_simp;try with_reducible rfl))
     all_goals refine wkP ?_
     all_goals refine ko ?_
     have HO_5:Hid _:=yD ((HO.out.below HS5).wide (T:=Btw (w.heap.size + 1) wS5.heap.size) (fun j hj=>⟨hj.1,by have:=hj.2;have:=HS5.size;omega⟩))
     have hbel_5:=hbel.trans (HS5.mono pE)
     clear HS5
     have hz_5:=hbel_5.size
     clear A0 A1 A2 B0 B1 B2 EW
     have A0:=(hbel_5.cell (p:=⟨w.heap.size,0,none⟩) mY).trans KA0
     have A1:=(hbel_5.cell (p:=⟨w.heap.size,1,none⟩) mY).trans KA1
     have A2:=(hbel_5.cell (p:=⟨w.heap.size,2,none⟩) mY).trans KA2
     have EW:=EB.trans (hbel_5.mono rJ)
     have B0:=cL EW C0
     have B1:=cL EW C1
     have B2:=cL EW C2
     go_upto_region 9 with fail
     refine kV (fun W=>Below wS5.heap.size wS5 W) [true,true,true,true,true,true,true,true] rA rA gI (bR.drew) ?_
     intro wS7 HS7
     iterate 4
      all_goals first|(refine kL rfl HS7 ?_)|(refine jC (v:=?_) rfl (fun W hW=>?_) ?_;rotate_left;(· go_simp;try with_reducible rfl))
      all_goals refine wkP ?_
     iterate 2
      all_goals first|(refine kL rfl HS7 ?_)|(refine jC (v:=?_) rfl (fun W hW=>?_) ?_;rotate_left;(· have A_A0:=cL hW A0;have A_B0:=cL hW B0;clear hW;go_simp;try with_reducible rfl))
      all_goals refine wkP ?_
      all_goals first|(refine kL rfl HS7 ?_)|(refine jC (v:=?_) rfl (fun W hW=>?_) ?_;rotate_left;(· go_simp;try with_reducible rfl))
      all_goals refine wkP ?_
     all_goals refine ko ?_
     have HO_7:Hid _:=yD ((HO_5.out.below HS7).wide (T:=Btw (w.heap.size + 1) wS7.heap.size) (fun j hj=>⟨hj.1,by have:=hj.2;have:=HS7.size;omega⟩))
     have hbel_7:=hbel_5.trans (HS7.mono (by have:=hbel_5.size;omega))
     clear HS7
     have hz_7:=hbel_7.size
     clear A0 A1 A2 B0 B1 B2 EW
     have A0:=(hbel_7.cell (p:=⟨w.heap.size,0,none⟩) mY).trans KA0
     have A1:=(hbel_7.cell (p:=⟨w.heap.size,1,none⟩) mY).trans KA1
     have A2:=(hbel_7.cell (p:=⟨w.heap.size,2,none⟩) mY).trans KA2
     have EW:=EB.trans (hbel_7.mono rJ)
     have B0:=cL EW C0
     have B1:=cL EW C1
     have B2:=cL EW C2
     go_wp2_with (at_builtin;refine Rep.jU rfl _ _ 75 rfl (r:=kF) (e:=81) Tryz.underlying75 yO rfl rG rG (B:=w.heap.size + 1) HO_7.out rO rO rfl (HX.out _) rfl (fun _ _ h=>h) gP (fun _ h=>h.elim) rJ rJ ?_)
     intro v8 w8 ho8 hb8 hz8
     have HO8:=yD ho8
     obtain ⟨pa8,pn8,pc8,hp8,HPN8⟩:=ho8.parts;obtain rfl:=hp8
     clear ho8
     have hbel8:=hbel_7.trans hb8
     clear hb8
     clear A0 A1 A2 B0 B1 B2 EW
     go_wp2
     go_roundw
     case rel=>exact ⟨k + 1,by omega,by go_num,by rw [HT2.out],yD (by rw [HT2.out];exact HO8.out.cast rM),hbel8⟩
     simp [intOf];omega
   by_cases hne:y0=f
   · have HT2:Hid (kHd (f,n,x) l (k + 1)=(s1,true)):=yD (by rw [HT.out];unfold kCq;simp [hne])
     have A0:=(hbel.cell (p:=⟨w.heap.size,0,none⟩) mY).trans KA0
     have A1:=(hbel.cell (p:=⟨w.heap.size,1,none⟩) mY).trans KA1
     have A2:=(hbel.cell (p:=⟨w.heap.size,2,none⟩) mY).trans KA2
     have EW:=EB.trans (hbel.mono rJ)
     have B0:=cL EW C0
     have B1:=cL EW C1
     have B2:=cL EW C2
     go_upto_region 6 with fail
     refine kV (fun W=>Below wr.heap.size wr W) [true,true,true,true,true,true,true,true,true,true,true,true] rA rA gI (bR.drew) ?_
     intro wS9 HS9
     iterate 2
      all_goals first|(refine kL rfl HS9 ?_)|(refine jC (v:=?_) rfl (fun W hW=>?_) ?_;rotate_left;(· go_simp;try with_reducible rfl))
      all_goals refine wkP ?_
     all_goals first|(refine kL rfl HS9 ?_;have hg2:=True.intro)|(refine kEd (v:=?_) (b:=?_) rfl (fun W hW=>?_) ?_ (fun b hg2=>?_);rotate_left;rotate_left;(· go_simp;try with_reducible rfl);(· with_reducible rfl);cases b;all_goals first|(exact Bool.noConfusion hg2)|(simp only [zU,zV] at hg2) | skip)
     iterate 4
      all_goals refine wkP ?_
      all_goals first|(refine kL rfl HS9 ?_)|(refine jC (v:=?_) rfl (fun W hW=>?_) ?_;rotate_left;(· go_simp;try with_reducible rfl))
     iterate 2
      all_goals refine wkP ?_
      all_goals first|(refine kL rfl HS9 ?_)|(refine jC (v:=?_) rfl (fun W hW=>?_) ?_;rotate_left;(· have A_A0:=cL hW A0;have A_B0:=cL hW B0;clear hW;go_simp;try with_reducible rfl))
      all_goals refine wkP ?_
      all_goals first|(refine kL rfl HS9 ?_)|(refine jC (v:=?_) rfl (fun W hW=>?_) ?_;rotate_left;(· go_simp;try with_reducible rfl))
     all_goals refine wkP ?_
     all_goals first|(refine kL rfl HS9 ?_)|(refine jC (v:=?_) rfl (fun W hW=>?_) ?_;rotate_left;(· go_simp;try with_reducible rfl))
     all_goals refine wkP ?_
     all_goals refine ko ?_
     have HO_9:Hid _:=yD ((HO.out.below HS9).wide (T:=Btw (w.heap.size + 1) wS9.heap.size) (fun j hj=>⟨hj.1,by have:=hj.2;have:=HS9.size;omega⟩))
     have hbel_9:=hbel.trans (HS9.mono pE)
     clear HS9
     have hz_9:=hbel_9.size
     clear A0 A1 A2 B0 B1 B2 EW
     have A0:=(hbel_9.cell (p:=⟨w.heap.size,0,none⟩) mY).trans KA0
     have A1:=(hbel_9.cell (p:=⟨w.heap.size,1,none⟩) mY).trans KA1
     have A2:=(hbel_9.cell (p:=⟨w.heap.size,2,none⟩) mY).trans KA2
     have EW:=EB.trans (hbel_9.mono rJ)
     have B0:=cL EW C0
     have B1:=cL EW C1
     have B2:=cL EW C2
     go_upto_region 9 with fail
     refine kV (fun W=>Below wS9.heap.size wS9 W) [true,true,true,true,true,true,true,true] rA rA gI (bR.drew) ?_
     intro wS10 HS10
     iterate 4
      all_goals first|(refine kL rfl HS10 ?_)|(refine jC (v:=?_) rfl (fun W hW=>?_) ?_;rotate_left;(· go_simp;try with_reducible rfl))
      all_goals refine wkP ?_
     iterate 2
      all_goals first|(refine kL rfl HS10 ?_)|(refine jC (v:=?_) rfl (fun W hW=>?_) ?_;rotate_left;(· have A_A0:=cL hW A0;have A_B0:=cL hW B0;clear hW;go_simp;try with_reducible rfl))
      all_goals refine wkP ?_
      all_goals first|(refine kL rfl HS10 ?_)|(refine jC (v:=?_) rfl (fun W hW=>?_) ?_;rotate_left;(· go_simp;try with_reducible rfl))
      all_goals refine wkP ?_
     all_goals refine ko ?_
     have HO_10:Hid _:=yD ((HO_9.out.below HS10).wide (T:=Btw (w.heap.size + 1) wS10.heap.size) (fun j hj=>⟨hj.1,by have:=hj.2;have:=HS10.size;omega⟩))
     have hbel_10:=hbel_9.trans (HS10.mono (by have:=hbel_9.size;omega))
     clear HS10
     have hz_10:=hbel_10.size
     clear A0 A1 A2 B0 B1 B2 EW
     go_wp2
     go_roundw
     case rel=>exact ⟨k + 1,by omega,by go_num,by rw [HT2.out],yD (by rw [HT2.out];exact HO_10.out.cast rM),hbel_10⟩
     simp [intOf];omega
   have HT2:Hid (kHd (f,n,x) l (k + 1)=(s1++[(y0,y1,y2)],true)):=yD (by rw [HT.out];unfold kCq;simp [hne])
   have A0:=(hbel.cell (p:=⟨w.heap.size,0,none⟩) mY).trans KA0
   have A1:=(hbel.cell (p:=⟨w.heap.size,1,none⟩) mY).trans KA1
   have A2:=(hbel.cell (p:=⟨w.heap.size,2,none⟩) mY).trans KA2
   have EW:=EB.trans (hbel.mono rJ)
   have B0:=cL EW C0
   have B1:=cL EW C1
   have B2:=cL EW C2
   go_upto_region 6 with fail
   refine kV (fun W=>Below wr.heap.size wr W) [true,true,true,true,true,true,true,true,true,true,true,true] rA rA gI (bR.drew) ?_
   intro wS9 HS9
   iterate 2
    all_goals first|(refine kL rfl HS9 ?_)|(refine jC (v:=?_) rfl (fun W hW=>?_) ?_;rotate_left;(· go_simp;try with_reducible rfl))
    all_goals refine wkP ?_
   all_goals first|(refine kL rfl HS9 ?_;have hg2:=True.intro)|(refine kEd (v:=?_) (b:=?_) rfl (fun W hW=>?_) ?_ (fun b hg2=>?_);rotate_left;rotate_left;(· go_simp;try with_reducible rfl);(· with_reducible rfl);cases b;all_goals first|(exact Bool.noConfusion hg2)|(simp only [zU,zV] at hg2) | skip)
   iterate 4
    all_goals refine wkP ?_
    all_goals first|(refine kL rfl HS9 ?_)|(refine jC (v:=?_) rfl (fun W hW=>?_) ?_;rotate_left;(· go_simp;try with_reducible rfl))
   iterate 2
    all_goals refine wkP ?_
    all_goals first|(refine kL rfl HS9 ?_)|(refine jC (v:=?_) rfl (fun W hW=>?_) ?_;rotate_left;(· have A_A0:=cL hW A0;have A_B0:=cL hW B0;clear hW;go_simp;try with_reducible rfl))
    all_goals refine wkP ?_
    all_goals first|(refine kL rfl HS9 ?_)|(refine jC (v:=?_) rfl (fun W hW=>?_) ?_;rotate_left;(· go_simp;try with_reducible rfl))
   all_goals refine wkP ?_
   all_goals first|(refine kL rfl HS9 ?_)|(refine jC (v:=?_) rfl (fun W hW=>?_) ?_;rotate_left;(· go_simp;try with_reducible rfl))
   all_goals refine wkP ?_
   all_goals refine ko ?_
   have HO_9:Hid _:=yD ((HO.out.below HS9).wide (T:=Btw (w.heap.size + 1) wS9.heap.size) (fun j hj=>⟨hj.1,by have:=hj.2;have:=HS9.size;omega⟩))
   have hbel_9:=hbel.trans (HS9.mono pE)
   clear HS9
   have hz_9:=hbel_9.size
   clear A0 A1 A2 B0 B1 B2 EW
   have A0:=(hbel_9.cell (p:=⟨w.heap.size,0,none⟩) mY).trans KA0
   have A1:=(hbel_9.cell (p:=⟨w.heap.size,1,none⟩) mY).trans KA1
   have A2:=(hbel_9.cell (p:=⟨w.heap.size,2,none⟩) mY).trans KA2
   have EW:=EB.trans (hbel_9.mono rJ)
   have B0:=cL EW C0
   have B1:=cL EW C1
   have B2:=cL EW C2
   go_upto_region 9 with fail
   refine kV (fun W=>Below wS9.heap.size wS9 W) [true,true,true,true,true,true,true,true] rA rA gI (bR.drew) ?_
   intro wS11 HS11
   iterate 4
    all_goals first|(refine kL rfl HS11 ?_)|(refine jC (v:=?_) rfl (fun W hW=>?_) ?_;rotate_left;(· go_simp;try with_reducible rfl))
    all_goals refine wkP ?_
   iterate 2
    all_goals first|(refine kL rfl HS11 ?_)|(refine jC (v:=?_) rfl (fun W hW=>?_) ?_;rotate_left;(· have A_A0:=cL hW A0;have A_B0:=cL hW B0;clear hW;go_simp;try with_reducible rfl))
    all_goals refine wkP ?_
    all_goals first|(refine kL rfl HS11 ?_)|(refine jC (v:=?_) rfl (fun W hW=>?_) ?_;rotate_left;(· go_simp;try with_reducible rfl))
    all_goals refine wkP ?_
   all_goals refine ko ?_
   have HO_11:Hid _:=yD ((HO_9.out.below HS11).wide (T:=Btw (w.heap.size + 1) wS11.heap.size) (fun j hj=>⟨hj.1,by have:=hj.2;have:=HS11.size;omega⟩))
   have hbel_11:=hbel_9.trans (HS11.mono (by have:=hbel_9.size;omega))
   clear HS11
   have hz_11:=hbel_11.size
   clear A0 A1 A2 B0 B1 B2 EW
   have A0:=(hbel_11.cell (p:=⟨w.heap.size,0,none⟩) mY).trans KA0
   have A1:=(hbel_11.cell (p:=⟨w.heap.size,1,none⟩) mY).trans KA1
   have A2:=(hbel_11.cell (p:=⟨w.heap.size,2,none⟩) mY).trans KA2
   have EW:=EB.trans (hbel_11.mono rJ)
   have B0:=cL EW C0
   have B1:=cL EW C1
   have B2:=cL EW C2
   go_wp2_with (at_builtin;refine Rep.jU rfl _ _ 75 rfl (r:=kF) (e:=81) Tryz.underlying75 yO rfl rG rG (B:=w.heap.size + 1) HO_11.out rO rO rfl (HX.out _) rfl (fun _ _ h=>h) gP (fun _ h=>h.elim) rJ rJ ?_)
   intro v12 w12 ho12 hb12 hz12
   have HO12:=yD ho12
   obtain ⟨pa12,pn12,pc12,hp12,HPN12⟩:=ho12.parts;obtain rfl:=hp12
   clear ho12
   have hbel12:=hbel_11.trans hb12
   clear hb12
   clear A0 A1 A2 B0 B1 B2 EW
   go_wp2
   go_roundw
   case rel=>exact ⟨k + 1,by omega,by go_num,by rw [HT2.out],yD (by rw [HT2.out];exact HO12.out.cast rM),hbel12⟩
   simp [intOf];omega
 have HF:=yD (putK_all (a:=(f,n,x)) hlt)
 generalize kHd (f,n,x) l k=s at *
 obtain ⟨s1,s2⟩:=s
 replace HO:Hid (Rep.kQ 81 kF wr (.slice oa on oc) s1 (Btw (w.heap.size + 1) wr.heap.size)):=HO
 replace hle:s1.length≤l.length + 1:=hle
 cases s2
 · have A0:=(hbel.cell (p:=⟨w.heap.size,0,none⟩) mY).trans KA0
   have A1:=(hbel.cell (p:=⟨w.heap.size,1,none⟩) mY).trans KA1
   have A2:=(hbel.cell (p:=⟨w.heap.size,2,none⟩) mY).trans KA2
   have EW:=EB.trans (hbel.mono rJ)
   go_wp2_with (at_builtin;refine Rep.jU rfl _ _ 75 rfl (r:=kF) (e:=81) Tryz.underlying75 yO rfl rG rG (B:=w.heap.size + 1) HO.out rO rO rfl (HA.out _) rfl (fun _ _ h=>h) gP (fun _ h=>h.elim) rJ rJ ?_)
   intro v13 w13 ho13 hb13 hz13
   have HO13:=yD ho13
   obtain ⟨pa13,pn13,pc13,hp13,HPN13⟩:=ho13.parts;obtain rfl:=hp13
   clear ho13
   have hbel13:=hbel.trans hb13
   clear hb13
   go_wp2
   go_ret
   exact ⟨_,rfl,(HO13.out.cast (by have:=HF.out;simpa using this)).wide gQ,EB.trans (hbel13.mono rJ)⟩
 go_wp2
 go_ret
 exact ⟨_,rfl,(HO.out.cast (by have:=HF.out;simpa using this)).wide gQ,EB.trans (hbel.mono rJ)⟩
def kDo (x:jF):Bool:=(((kLk x.1 && decide (0 < x.1.length)) && inR x.2.1 0 1000000) && inR x.2.2.1 0 16) && inR x.2.2.2 1 20
theorem kBs {w:World} {cx:List Value} {x:jF} (hx:kw.raw w cx x) :
    Calls Tryz.prog 68 #[.agg cx.toArray] w fun e w'=>e=.returned (.bool (kDo x))∧Below w.heap.size w w':=by
 have Hx:=yD hx
 obtain ⟨fxv0,rfl,fx_0,fx_1,fx_2,fx_3,fx_4⟩:=jA hx
 obtain ⟨fxa0,fxp0,rfl,fxl0⟩:=Rep.sl fx_1
 go_enter Tryz.func68,Tryz.ntmps68
 go_upto_region 1 with fail
 generalize hwB:World.alloc w _=wB
 have EB:Below w.heap.size w wB:=by rw [← hwB];exact bD
 have K1_0:wB.cell? ⟨w.heap.size,0,none⟩=some (.slice fxa0 (x.1).length fxp0):=nJ
 have K1_1:wB.cell? ⟨w.heap.size,1,none⟩=some (.int .i64 x.2.1):=nJ
 have K1_2:wB.cell? ⟨w.heap.size,2,none⟩=some (.int .i64 x.2.2.1):=nJ
 have K1_3:wB.cell? ⟨w.heap.size,3,none⟩=some (.int .i64 x.2.2.2):=nJ
 clear hwB
 have FX:=yD (fun (W:World) (hW:Below wB.heap.size wB W)=>kDa hW K1_0 K1_1 K1_2 K1_3)
 refine ku (fun W=>Below wB.heap.size wB W) [true,true,false,true,true,true,true,true,true,true,true,true,true,false,true,true,true,true,false,true,true,true,true,false,true,true] bR ?_
 intro wS HS
 all_goals refine wkR ?_
 all_goals refine wkR ?_
 all_goals first | refine wkB (kPh (Rep.raw.below fx_0 (tQ EB HS))) (fun wS1 HS=>?_) | refine wkR ?_
 all_goals (have hg3:=True.intro;first|(refine wkG (fun b hg3=>?_);cases b;all_goals first | exact Bool.noConfusion hg3 | simp only [zU,zV] at hg3 | skip) | refine wkR ?_)
 all_goals refine wkP ?_
 iterate 6
  all_goals refine wkR ?_
 all_goals (have hg10:=True.intro;first|(refine wkG (fun b hg10=>?_);cases b;all_goals first | exact Bool.noConfusion hg10 | simp only [zU,zV] at hg10 | skip) | refine wkR ?_)
 all_goals refine wkP ?_
 all_goals refine wkR ?_
 all_goals refine wkR ?_
 all_goals first | refine wkC (kAp) ?_ | refine wkR ?_
 all_goals refine wkR ?_
 all_goals (have hg15:=True.intro;first|(refine wkG (fun b hg15=>?_);cases b;all_goals first | exact Bool.noConfusion hg15 | simp only [zU,zV] at hg15 | skip) | refine wkR ?_)
 all_goals refine wkP ?_
 all_goals refine wkR ?_
 all_goals refine wkR ?_
 all_goals first | refine wkC (kAp) ?_ | refine wkR ?_
 all_goals refine wkR ?_
 all_goals (have hg20:=True.intro;first|(refine wkG (fun b hg20=>?_);cases b;all_goals first | exact Bool.noConfusion hg20 | simp only [zU,zV] at hg20 | skip) | refine wkR ?_)
 all_goals refine wkP ?_
 all_goals refine wkR ?_
 all_goals refine wkR ?_
 all_goals first | refine wkC (kAp) ?_ | refine wkR ?_
 all_goals refine wkR ?_
 all_goals (have hg25:=True.intro;first|(refine wkG (fun b hg25=>?_);cases b;all_goals first | exact Bool.noConfusion hg25 | simp only [zU,zV] at hg25 | skip) | refine wkR ?_)
 all_goals refine wkP ?_
 all_goals refine ko ?_
 all_goals have EG:=(tQ EB HS)
 all_goals first
   | (have HT:=yD (show (kDo x)=false by simp only [kDo,Bool.not_true,Bool.not_false,Bool.and_true,Bool.true_and,Bool.and_false,Bool.false_and,Bool.or_true,Bool.true_or,Bool.or_false,Bool.false_or,Bool.not_not,hg3,hg10,hg15,hg20,hg25]);go_wp2;go_ret;exact ⟨kP HT.out.symm,EG⟩)
   | (have HT:=yD (show (kDo x)=true by simp only [kDo,Bool.not_true,Bool.not_false,Bool.and_true,Bool.true_and,Bool.and_false,Bool.false_and,Bool.or_true,Bool.true_or,Bool.or_false,Bool.false_or,Bool.not_not,hg3,hg10,hg15,hg20,hg25]);go_wp2;go_ret;exact ⟨kP HT.out.symm,EG⟩)
theorem kBt {w:World} {cx:List Value} {x:jF} (hx:kw.raw w cx x) :
    Calls Tryz.prog 81 #[.agg cx.toArray] w fun e w'=>e=.returned (.bool (kDo x))∧Below w.heap.size w w':=by
 have Hx:=yD hx
 obtain ⟨fxv0,rfl,fx_0,fx_1,fx_2,fx_3,fx_4⟩:=jA hx
 obtain ⟨fxa0,fxp0,rfl,fxl0⟩:=Rep.sl fx_1
 go_enter Tryz.func81,Tryz.ntmps81
 go_upto_region 1 with fail
 generalize hwB:World.alloc w _=wB
 have EB:Below w.heap.size w wB:=by rw [← hwB];exact bD
 have K1_0:wB.cell? ⟨w.heap.size,0,none⟩=some (.slice fxa0 (x.1).length fxp0):=nJ
 have K1_1:wB.cell? ⟨w.heap.size,1,none⟩=some (.int .i64 x.2.1):=nJ
 have K1_2:wB.cell? ⟨w.heap.size,2,none⟩=some (.int .i64 x.2.2.1):=nJ
 have K1_3:wB.cell? ⟨w.heap.size,3,none⟩=some (.int .i64 x.2.2.2):=nJ
 clear hwB
 have FX:=yD (fun (W:World) (hW:Below wB.heap.size wB W)=>kDa hW K1_0 K1_1 K1_2 K1_3)
 refine ku (fun W=>Below wB.heap.size wB W) [true,true,false,true,true,true,true,true,true,true,true,true,true,false,true,true,true,true,false,true,true,true,true,false,true,true] bR ?_
 intro wS HS
 all_goals refine wkR ?_
 all_goals refine wkR ?_
 all_goals first | refine wkB (kPq (Rep.raw.below fx_0 (tQ EB HS))) (fun wS1 HS=>?_) | refine wkR ?_
 all_goals (have hg3:=True.intro;first|(refine wkG (fun b hg3=>?_);cases b;all_goals first | exact Bool.noConfusion hg3 | simp only [zU,zV] at hg3 | skip) | refine wkR ?_)
 all_goals refine wkP ?_
 iterate 6
  all_goals refine wkR ?_
 all_goals (have hg10:=True.intro;first|(refine wkG (fun b hg10=>?_);cases b;all_goals first | exact Bool.noConfusion hg10 | simp only [zU,zV] at hg10 | skip) | refine wkR ?_)
 all_goals refine wkP ?_
 all_goals refine wkR ?_
 all_goals refine wkR ?_
 all_goals first | refine wkC (kAh) ?_ | refine wkR ?_
 all_goals refine wkR ?_
 all_goals (have hg15:=True.intro;first|(refine wkG (fun b hg15=>?_);cases b;all_goals first | exact Bool.noConfusion hg15 | simp only [zU,zV] at hg15 | skip) | refine wkR ?_)
 all_goals refine wkP ?_
 all_goals refine wkR ?_
 all_goals refine wkR ?_
 all_goals first | refine wkC (kAh) ?_ | refine wkR ?_
 all_goals refine wkR ?_
 all_goals (have hg20:=True.intro;first|(refine wkG (fun b hg20=>?_);cases b;all_goals first | exact Bool.noConfusion hg20 | simp only [zU,zV] at hg20 | skip) | refine wkR ?_)
 all_goals refine wkP ?_
 all_goals refine wkR ?_
 all_goals refine wkR ?_
 all_goals first | refine wkC (kAh) ?_ | refine wkR ?_
 all_goals refine wkR ?_
 all_goals (have hg25:=True.intro;first|(refine wkG (fun b hg25=>?_);cases b;all_goals first | exact Bool.noConfusion hg25 | simp only [zU,zV] at hg25 | skip) | refine wkR ?_)
 all_goals refine wkP ?_
 all_goals refine ko ?_
 all_goals have EG:=(tQ EB HS)
 all_goals first
   | (have HT:=yD (show (kDo x)=false by simp only [kDo,Bool.not_true,Bool.not_false,Bool.and_true,Bool.true_and,Bool.and_false,Bool.false_and,Bool.or_true,Bool.true_or,Bool.or_false,Bool.false_or,Bool.not_not,hg3,hg10,hg15,hg20,hg25]);go_wp2;go_ret;exact ⟨kP HT.out.symm,EG⟩)
   | (have HT:=yD (show (kDo x)=true by simp only [kDo,Bool.not_true,Bool.not_false,Bool.and_true,Bool.true_and,Bool.and_false,Bool.false_and,Bool.or_true,Bool.true_or,Bool.or_false,Bool.false_or,Bool.not_not,hg3,hg10,hg15,hg20,hg25]);go_wp2;go_ret;exact ⟨kP HT.out.symm,EG⟩)
namespace Rep
section
variable {α:Type} {r:Rep α} {e:TypeId} {w:World} {b cap len i j p:Nat} {xs:List α} {y:α} {u:Value} {S T:Nat→Prop}
theorem kWd (h:kQ e r w (.slice (some ⟨b,0,none⟩) len cap) xs S) (hi:i < xs.length) (hj:j < r.n)
    (hy:∀ {cs:List Value} {B:Nat→Prop},r.is true w cs xs[i] B→(∀ k,B k→S k)→r.is true w (cs.set j u) y (fun k=>B k∨T k)) (hby:r.bdd Big y) (hST:∀ k,S k→T k→False) (hp:p=i * r.n + j) :
    kQ e r (w.setCell ⟨b,p,none⟩ u) (.slice (some ⟨b,0,none⟩) len cap) (xs.set i y) (fun k=>S k∨T k)∧Touch (fun k=>k=b) w (w.setCell ⟨b,p,none⟩ u):=by
 subst hp
 refine ⟨?_,jg [u] w b _⟩
 obtain ⟨hb,h⟩:=h
 rcases h with ⟨⟨a,h0⟩,rfl⟩|⟨b',cap',cur,cs,tl,h0,h1,h2,h3,h4,h5,h6,h7⟩
 · simp at hi
 simp only [Value.slice.injEq,Option.some.injEq,Addr.mk.injEq,and_true] at h0
 obtain ⟨rfl,rfl,rfl⟩:=h0
 obtain ⟨c1,c,c2,A,B,C,rfl,hl,r1,r2,r3,hA,hB,hC,hd⟩:=kKm h7 hi
 have hc:=r.len r2
 have hbT:∀ k,T k→k≠b:=fun k hk q=>hST k (q ▸ h6) hk
 have n2:=hy r2 (fun k hk=>(hB k hk).1)
 have hcur:cur=((c1++(c++c2))++tl).toArray:=by rw [← h4]
 subst hcur
 have hset:=heap_setCell_same w b (i * r.n + j) _ e u h3
 refine ⟨?_,.inr ⟨b,cap,_,c1++(c.set j u++c2),tl,by rw [List.length_set],by rw [List.length_set];exact h1,h2,hset,?_,?_,.inl h6,?_⟩⟩
 · intro z hz
   rcases List.mem_or_eq_of_mem_set hz with q | q
   · exact hb z q
   rw [q];exact hby
 · simp only [Array.toList_setIfInBounds,List.toList_toArray]
   rw [List.append_assoc,List.append_assoc,List.set_append_right _ _ rJ,hl,show i * r.n + j - i * r.n=j by omega,List.set_append_left _ _ rJ]
   simp
 · simpa using h5
 have oth:∀ k,k≠b→(w.setCell ⟨b,i * r.n + j,none⟩ u).heap[k]?=w.heap[k]?:=fun k hk=>heap_setCell_other w ⟨b,i * r.n + j,none⟩ k u hk
 have mono:∀ {cs:List Value} {ys:List α} {D:Nat→Prop},row r true w cs ys D→(∀ k,D k→k≠b)→row r true (w.setCell ⟨b,i * r.n + j,none⟩ u) cs ys D:=fun hr hk=>yB hr (fun k hd=>oth k (hk k hd))
 refine kLt (A:=A) (B:=fun k=>B k∨T k) (C:=C) hi (mono r1 (fun k hk=>(hA k hk).2)) (r.mono n2 (fun k hk=>oth k (hk.elim (fun q=>(hB k q).2) (hbT k)))) (mono r3 (fun k hk=>(hC k hk).2)) ?_ ?_ ?_ ?_
 · exact fun k hk=>⟨.inl (hA k hk).1,(hA k hk).2⟩
 · exact fun k hk=>hk.elim (fun q=>⟨.inl (hB k q).1,(hB k q).2⟩) (fun q=>⟨.inr q,hbT k q⟩)
 · exact fun k hk=>⟨.inl (hC k hk).1,(hC k hk).2⟩
 exact fun _ k=>⟨fun a q=>q.elim ((hd rfl k).1 a) (fun t=>hST k (hA k a).1 t),(hd rfl k).2.1,fun q c=>q.elim (fun b=>(hd rfl k).2.2 b c) (fun t=>hST k (hC k c).1 t)⟩
end
end Rep
end Go.Proofs.YtomdenfcfbkfbaaGreat

/-
  A requester put in its place.
-/
import Derived.Test.YtpgnbablhdknnaaIns
import Derived.Test.YtpgnbablhdknnaaPend
set_option linter.unusedVariables false
set_option linter.unusedSimpArgs false
set_option linter.unnecessarySimpa false
set_option maxRecDepth 100000
set_option maxHeartbeats 4000000
namespace Go.Proofs.Ytpgnbablhdknnaa
open Go.RowKit
def jI (f:Int) (l:List kH):List kH:=l.filter (fun r=>!(r.1==f))
def kCb (a:kH) (l:List kH):List kH :=
  match (jI a.1 l).findIdx? (fun r=>decide (a.1≤r.1)) with
  | none=>jI a.1 l++[a]
  | some i=>(jI a.1 l).take i++a :: (jI a.1 l).drop i
def yf (a:kH) (s:List kH × Bool) (r:kH):List kH × Bool :=
  let s1:=if !s.2 && decide (a.1 < r.1) then (s.1++[a],true) else s
  if r.1=a.1 then s1 else (s1.1++[r],s1.2)
def kCc (a:kH) (l:List kH) (k:Nat):List kH × Bool:=(l.take k).foldl (yf a) ([],false)
theorem putK_next {a:kH} {l:List kH} {k:Nat} (h:k < l.length):kCc a l (k + 1)=yf a (kCc a l k) l[k]:=by
 unfold kCc;rw [List.take_succ_eq_append_getElem h,List.foldl_append];rfl
def putM (a:kH) (l:List kH):List kH × Bool :=
  match (jI a.1 l).findIdx? (fun r=>decide (a.1≤r.1)) with
  | none=>(jI a.1 l,false)
  | some i=>((jI a.1 l).take i++a :: (jI a.1 l).drop i,true)
theorem putM_snoc (a:kH) (l:List kH) (r:kH):putM a (l++[r])=yf a (putM a l) r:=by
 have hf:jI a.1 (l++[r])=if r.1=a.1 then jI a.1 l else jI a.1 l++[r]:=by
  unfold jI;rw [List.filter_append]
  by_cases h:r.1=a.1 <;> simp [h]
 unfold putM yf
 rw [hf]
 generalize jI a.1 l=O
 by_cases h:r.1=a.1
 · rw [if_pos h,if_pos h]
   have hlt:¬ a.1 < r.1:=gV
   cases hq:O.findIdx? (fun r=>decide (a.1≤r.1)) <;> simp [hlt]
 rw [if_neg h,if_neg h]
 rw [List.findIdx?_append]
 cases hq:O.findIdx? (fun r=>decide (a.1≤r.1)) with
 | none =>
   by_cases hlt:a.1 < r.1
   · have hle:a.1≤r.1:=gV
     simp [hlt,hle,List.findIdx?_cons]
   · have hle:¬ a.1≤r.1:=gV
     simp [hlt,hle,List.findIdx?_cons]
 | some i =>
   obtain ⟨hi,_⟩:=List.findIdx?_eq_some_iff_getElem.1 hq
   simp [List.take_append_of_le_length (Nat.le_of_lt hi),List.drop_append_of_le_length (Nat.le_of_lt hi)]
theorem kHm (a:kH) (l:List kH):l.foldl (yf a) ([],false)=putM a l:=by
 have h:∀ n,∀ l:List kH,l.length=n→l.foldl (yf a) ([],false)=putM a l:=by
  intro n
  induction n with
  | zero=>intro l hl;rw [List.length_eq_zero_iff.1 hl];rfl
  | succ n ih =>
    intro l hl
    obtain ⟨l',r,rfl⟩:∃ l' r,l=l'++[r]:=⟨l.dropLast,l.getLast (by intro q;rw [q] at hl;simp at hl),(List.dropLast_concat_getLast _).symm⟩
    rw [List.foldl_append,ih l' gB,putM_snoc];rfl
 exact h _ l rfl
theorem putK_all {a:kH} {l:List kH} {k:Nat} (h:¬ k < l.length):(if (kCc a l k).2 then (kCc a l k).1 else (kCc a l k).1++[a])=kCb a l:=by
 unfold kCc
 rw [List.take_of_length_le gV,kHm]
 unfold putM kCb
 cases (jI a.1 l).findIdx? (fun r=>decide (a.1≤r.1)) <;> simp
theorem putK_len {a:kH} {l:List kH} (k:Nat):(kCc a l k).1.length≤l.length + 1:=by
 unfold kCc
 rw [kHm]
 have h:(jI a.1 (l.take k)).length≤l.length:=Nat.le_trans (List.length_filter_le _ _) dR
 unfold putM
 cases hq:(jI a.1 (l.take k)).findIdx? (fun r=>decide (a.1≤r.1)) with
 | none=>simp;omega
 | some i=>simp;omega
theorem kEi (a:kH) (l:List kH):(kCb a l).length≤l.length + 1:=by
 have h:(jI a.1 l).length≤l.length:=List.length_filter_le _ _
 unfold kCb
 cases hq:(jI a.1 l).findIdx? (fun r=>decide (a.1≤r.1)) with
 | none=>simp;omega
 | some i=>simp;omega
theorem kEj (a:kH) (l:List kH):∃ i,i≤(jI a.1 l).length∧kCb a l=(jI a.1 l).take i++a :: (jI a.1 l).drop i∧((idxOf (fun r=>decide (a.1≤r.1)) (jI a.1 l)=-1∧i=(jI a.1 l).length)∨idxOf (fun r=>decide (a.1≤r.1)) (jI a.1 l)=(i:Int)):=by
 unfold kCb idxOf
 cases hq:(jI a.1 l).findIdx? (fun r=>decide (a.1≤r.1)) with
 | none=>exact ⟨_,Nat.le_refl _,by simp,.inl ⟨rfl,rfl⟩⟩
 | some i =>
   obtain ⟨hi,_⟩:=List.findIdx?_eq_some_iff_getElem.1 hq
   exact ⟨i,Nat.le_of_lt hi,rfl,.inr rfl⟩
theorem kJd {w:World} {vl:Value} {l:List kH} (hl:(Rep.slice 56 kF).rd w [vl] l) {f n x:Int} (hf:-9223372036854775808≤f∧f≤9223372036854775807) (hn:-9223372036854775808≤n∧n≤9223372036854775807) (hx:-9223372036854775808≤x∧x≤9223372036854775807) :
    Calls Try.prog 49 #[vl,.agg #[.int .i64 f,.int .i64 n,.int .i64 x]] w (kFz 56 kF (kCb (f,n,x) l) w):=by
 have HL:=yD hl
 obtain ⟨la,lp,rfl,ll⟩:=Rep.sl hl.1
 have hlb:l.length≤16777216:=hl.2.1
 have HA:Hid (∀ W,kF.own W [.int .i64 f,.int .i64 n,.int .i64 x] (f,n,x) (fun _=>False)):=yD (fun W=>Rep.flat.own (Rep.jA (Rep.kW hf) (Rep.jA (Rep.kW hn) (Rep.kW hx))))
 clear hl hf hn hx
 go_enter Try.func49,Try.ntmps49
 go_upto_region 3 with fail
 generalize hwB:World.alloc (World.alloc w _) _=wB
 have EB:Below w.heap.size w wB:=by rw [← hwB];exact bB
 have KA0:wB.cell? ⟨w.heap.size,0,none⟩=some (.int .i64 f):=dX
 have KA1:wB.cell? ⟨w.heap.size,1,none⟩=some (.int .i64 n):=dX
 have KA2:wB.cell? ⟨w.heap.size,2,none⟩=some (.int .i64 x):=dX
 have hzB:wB.heap.size=w.heap.size + 2:=fV
 have O0:Hid (Rep.kT 56 kF wB (.slice (some ⟨w.heap.size + 1,0,none⟩) 0 0) [] (Btw (w.heap.size + 1) wB.heap.size)):=yD Rep.kT.void
 clear hwB
 go_wp2
 go_loopw [5,6,7] (fun v d i wr=>∃ k:Nat,k≤l.length∧i=.int .i64 k∧d=.bool (kCc (f,n,x) l k).2∧Hid (Rep.kT 56 kF wr v (kCc (f,n,x) l k).1 (Btw (w.heap.size + 1) wr.heap.size))∧Below (w.heap.size + 1) wB wr) (fun _ _ i _=>l.length - (intOf i).toNat)
 case atStart=>exact ⟨0,Nat.zero_le _,rfl,rfl,O0,bR⟩
 obtain ⟨k,hk,rfl,rfl,HO,hbel⟩:=hrel
 obtain ⟨oa,on,oc,ho,HON⟩:=HO.out.parts;obtain rfl:=ho
 have hle:=putK_len (a:=(f,n,x)) (l:=l) k
 have hzr:=hbel.size
 by_cases hlt:k < l.length
 · obtain ⟨ba,offa,rfl,c0,c1,c2,hr,C0,C1,C2⟩:=Rep.yP HL.out.1 hlt rfl
   obtain ⟨he,r_0,r_1,r_2⟩:=ko hr
   simp only [List.cons.injEq,and_true] at he
   obtain ⟨rfl,rfl,rfl⟩:=he
   have HX:=yD (fun W=>Rep.flat.own (w:=W) (S:=fun _=>False) (Rep.jA (Rep.kW r_0) (Rep.jA (Rep.kW r_1) (Rep.kW r_2))))
   have HT:=yD (putK_next (a:=(f,n,x)) hlt)
   clear hr r_0 r_1 r_2
   generalize l[k]=y at *
   obtain ⟨y0,y1,y2⟩:=y
   simp only at C0 C1 C2
   generalize kCc (f,n,x) l k=s at *
   obtain ⟨s1,s2⟩:=s
   replace HO:Hid (Rep.kT 56 kF wr (.slice oa on oc) s1 (Btw (w.heap.size + 1) wr.heap.size)):=HO
   replace HON:Hid (on=s1.length):=HON
   replace hle:s1.length≤l.length + 1:=hle
   have hkI:(0:Int)≤k:=gV
   have hkI2:(k:Int) < l.length:=gV
   cases s2
   · by_cases hg:f < y0
     · have hne:¬ (y0=f):=gV
       have HT2:Hid (kCc (f,n,x) l (k + 1)=(s1++[(f,n,x)]++[(y0,y1,y2)],true)):=yD cZ
       have A0:=(hbel.cell (p:=⟨w.heap.size,0,none⟩) dU).trans KA0
       have A1:=(hbel.cell (p:=⟨w.heap.size,1,none⟩) dU).trans KA1
       have A2:=(hbel.cell (p:=⟨w.heap.size,2,none⟩) dU).trans KA2
       have EW:=EB.trans (hbel.mono gV)
       have B0:=cL EW C0
       have B1:=cL EW C1
       have B2:=cL EW C2
       go_upto_region 6 with fail
       refine kK (fun W=>Below wr.heap.size wr W) [true,true,true,true,true,true,true,true,true,true,true,true] gP gP bX (bR.drew) ?_
       intro wS1 HS1
       iterate 2
        all_goals first|(refine kG rfl HS1 ?_)|(refine kJ (v:=?_) rfl (fun W hW=>?_) ?_;rotate_left;(· go_simp;try with_reducible rfl))
        all_goals refine wkP ?_
       all_goals first|(refine kG rfl HS1 ?_;have hg2:=True.intro)|(refine yu (v:=?_) (b:=?_) rfl (fun W hW=>?_) ?_ (fun b hg2=>?_);rotate_left;rotate_left;(· go_simp;try with_reducible rfl);(· with_reducible rfl);cases b;all_goals first|(exact Bool.noConfusion hg2)|(simp only [zU,zV] at hg2) | skip)
       iterate 4
        all_goals refine wkP ?_
        all_goals first|(refine kG rfl HS1 ?_)|(refine kJ (v:=?_) rfl (fun W hW=>?_) ?_;rotate_left;(· go_simp;try with_reducible rfl))
       iterate 2
        all_goals refine wkP ?_
        all_goals first|(refine kG rfl HS1 ?_)|(refine kJ (v:=?_) rfl (fun W hW=>?_) ?_;rotate_left;(· have A_A0:=cL hW A0;have A_B0:=cL hW B0;clear hW;go_simp;try with_reducible rfl))
        all_goals refine wkP ?_
        all_goals first|(refine kG rfl HS1 ?_)|(refine kJ (v:=?_) rfl (fun W hW=>?_) ?_;rotate_left;(· go_simp;try with_reducible rfl))
       all_goals refine wkP ?_
       all_goals first|(refine kG rfl HS1 ?_)|(refine kJ (v:=?_) rfl (fun W hW=>?_) ?_;rotate_left;(· go_simp;try with_reducible rfl))
       all_goals refine wkP ?_
       all_goals refine kN ?_
       have HO_1:Hid _:=yD ((HO.out.below HS1).wide (T:=Btw (w.heap.size + 1) wS1.heap.size) (fun j hj=>⟨hj.1,by have:=hj.2;have:=HS1.size;omega⟩))
       have hbel_1:=hbel.trans (HS1.mono fJ)
       clear HS1
       have hz_1:=hbel_1.size
       clear A0 A1 A2 B0 B1 B2 EW
       have A0:=(hbel_1.cell (p:=⟨w.heap.size,0,none⟩) dU).trans KA0
       have A1:=(hbel_1.cell (p:=⟨w.heap.size,1,none⟩) dU).trans KA1
       have A2:=(hbel_1.cell (p:=⟨w.heap.size,2,none⟩) dU).trans KA2
       have EW:=EB.trans (hbel_1.mono gV)
       have B0:=cL EW C0
       have B1:=cL EW C1
       have B2:=cL EW C2
       go_wp2_with (at_builtin;refine Rep.jH rfl _ _ 36 rfl (r:=kF) (e:=56) Try.underlying36 jC rfl gU gU (B:=w.heap.size + 1) HO_1.out gX gX rfl (HA.out _) rfl (fun _ _ h=>h) dC (fun _ h=>h.elim) gV gV ?_)
       intro v2 w2 ho2 hb2 hz2
       have HO2:=yD ho2
       obtain ⟨pa2,pn2,pc2,hp2,HPN2⟩:=ho2.parts;obtain rfl:=hp2
       clear ho2
       have hbel2:=hbel_1.trans hb2
       clear hb2
       clear A0 A1 A2 B0 B1 B2 EW
       have hle1:(s1++[(f,n,x)]).length≤l.length + 2:=gQ
       have A0:=(hbel2.cell (p:=⟨w.heap.size,0,none⟩) dU).trans KA0
       have A1:=(hbel2.cell (p:=⟨w.heap.size,1,none⟩) dU).trans KA1
       have A2:=(hbel2.cell (p:=⟨w.heap.size,2,none⟩) dU).trans KA2
       have EW:=EB.trans (hbel2.mono gV)
       have B0:=cL EW C0
       have B1:=cL EW C1
       have B2:=cL EW C2
       go_upto_region 9 with fail
       refine kK (fun W=>Below w2.heap.size w2 W) [true,true,true,true,true,true,true,true] gP gP bX (bR.drew) ?_
       intro wS3 HS3
       iterate 4
        all_goals first|(refine kG rfl HS3 ?_)|(refine kJ (v:=?_) rfl (fun W hW=>?_) ?_;rotate_left;(· go_simp;try with_reducible rfl))
        all_goals refine wkP ?_
       iterate 2
        all_goals first|(refine kG rfl HS3 ?_)|(refine kJ (v:=?_) rfl (fun W hW=>?_) ?_;rotate_left;(· have A_A0:=cL hW A0;have A_B0:=cL hW B0;clear hW;go_simp;try with_reducible rfl))
        all_goals refine wkP ?_
        all_goals first|(refine kG rfl HS3 ?_)|(refine kJ (v:=?_) rfl (fun W hW=>?_) ?_;rotate_left;(· go_simp;try with_reducible rfl))
        all_goals refine wkP ?_
       all_goals refine kN ?_
       have HO_3:Hid _:=yD ((HO2.out.below HS3).wide (T:=Btw (w.heap.size + 1) wS3.heap.size) (fun j hj=>⟨hj.1,by have:=hj.2;have:=HS3.size;omega⟩))
       have hbel_3:=hbel2.trans (HS3.mono (by have:=hbel2.size;omega))
       clear HS3
       have hz_3:=hbel_3.size
       clear A0 A1 A2 B0 B1 B2 EW
       have A0:=(hbel_3.cell (p:=⟨w.heap.size,0,none⟩) dU).trans KA0
       have A1:=(hbel_3.cell (p:=⟨w.heap.size,1,none⟩) dU).trans KA1
       have A2:=(hbel_3.cell (p:=⟨w.heap.size,2,none⟩) dU).trans KA2
       have EW:=EB.trans (hbel_3.mono gV)
       have B0:=cL EW C0
       have B1:=cL EW C1
       have B2:=cL EW C2
       go_wp2_with (at_builtin;refine Rep.jH rfl _ _ 36 rfl (r:=kF) (e:=56) Try.underlying36 jC rfl gU gU (B:=w.heap.size + 1) HO_3.out gX gX rfl (HX.out _) rfl (fun _ _ h=>h) dC (fun _ h=>h.elim) gV gV ?_)
       intro v4 w4 ho4 hb4 hz4
       have HO4:=yD ho4
       obtain ⟨pa4,pn4,pc4,hp4,HPN4⟩:=ho4.parts;obtain rfl:=hp4
       clear ho4
       have hbel4:=hbel_3.trans hb4
       clear hb4
       clear A0 A1 A2 B0 B1 B2 EW
       go_wp2
       go_roundw
       case rel=>exact ⟨k + 1,by omega,by go_num,by rw [HT2.out],yD (by rw [HT2.out];exact HO4.out.cast gW),hbel4⟩
       simp [intOf];omega
     by_cases hne:y0=f
     · have HT2:Hid (kCc (f,n,x) l (k + 1)=(s1,false)):=yD cZ
       have A0:=(hbel.cell (p:=⟨w.heap.size,0,none⟩) dU).trans KA0
       have A1:=(hbel.cell (p:=⟨w.heap.size,1,none⟩) dU).trans KA1
       have A2:=(hbel.cell (p:=⟨w.heap.size,2,none⟩) dU).trans KA2
       have EW:=EB.trans (hbel.mono gV)
       have B0:=cL EW C0
       have B1:=cL EW C1
       have B2:=cL EW C2
       go_upto_region 6 with fail
       refine kK (fun W=>Below wr.heap.size wr W) [true,true,true,true,true,true,true,true,true,true,true,true] gP gP bX (bR.drew) ?_
       intro wS5 HS5
       iterate 2
        all_goals first|(refine kG rfl HS5 ?_)|(refine kJ (v:=?_) rfl (fun W hW=>?_) ?_;rotate_left;(· go_simp;try with_reducible rfl))
        all_goals refine wkP ?_
       all_goals first|(refine kG rfl HS5 ?_;have hg2:=True.intro)|(refine yu (v:=?_) (b:=?_) rfl (fun W hW=>?_) ?_ (fun b hg2=>?_);rotate_left;rotate_left;(· go_simp;try with_reducible rfl);(· with_reducible rfl);cases b;all_goals first|(exact Bool.noConfusion hg2)|(simp only [zU,zV] at hg2) | skip)
       iterate 4
        all_goals refine wkP ?_
        all_goals first|(refine kG rfl HS5 ?_)|(refine kJ (v:=?_) rfl (fun W hW=>?_) ?_;rotate_left;(· go_simp;try with_reducible rfl))
       iterate 2
        all_goals refine wkP ?_
        all_goals first|(refine kG rfl HS5 ?_)|(refine kJ (v:=?_) rfl (fun W hW=>?_) ?_;rotate_left;(· have A_A0:=cL hW A0;have A_B0:=cL hW B0;clear hW;go_simp;try with_reducible rfl))
        all_goals refine wkP ?_
        all_goals first|(refine kG rfl HS5 ?_)|(refine kJ (v:=?_) rfl (fun W hW=>?_) ?_;rotate_left;(· go_simp;try with_reducible rfl))
       all_goals refine wkP ?_
       all_goals first|(refine kG rfl HS5 ?_)|(refine kJ (v:=?_) rfl (fun W hW=>?_) ?_;rotate_left;(· go_simp;try with_reducible rfl))
       all_goals refine wkP ?_
       all_goals refine kN ?_
       have HO_5:Hid _:=yD ((HO.out.below HS5).wide (T:=Btw (w.heap.size + 1) wS5.heap.size) (fun j hj=>⟨hj.1,by have:=hj.2;have:=HS5.size;omega⟩))
       have hbel_5:=hbel.trans (HS5.mono fJ)
       clear HS5
       have hz_5:=hbel_5.size
       clear A0 A1 A2 B0 B1 B2 EW
       have A0:=(hbel_5.cell (p:=⟨w.heap.size,0,none⟩) dU).trans KA0
       have A1:=(hbel_5.cell (p:=⟨w.heap.size,1,none⟩) dU).trans KA1
       have A2:=(hbel_5.cell (p:=⟨w.heap.size,2,none⟩) dU).trans KA2
       have EW:=EB.trans (hbel_5.mono gV)
       have B0:=cL EW C0
       have B1:=cL EW C1
       have B2:=cL EW C2
       go_upto_region 9 with fail
       refine kK (fun W=>Below wS5.heap.size wS5 W) [true,true,true,true,true,true,true,true] gP gP bX (bR.drew) ?_
       intro wS6 HS6
       iterate 4
        all_goals first|(refine kG rfl HS6 ?_)|(refine kJ (v:=?_) rfl (fun W hW=>?_) ?_;rotate_left;(· go_simp;try with_reducible rfl))
        all_goals refine wkP ?_
       iterate 2
        all_goals first|(refine kG rfl HS6 ?_)|(refine kJ (v:=?_) rfl (fun W hW=>?_) ?_;rotate_left;(· have A_A0:=cL hW A0;have A_B0:=cL hW B0;clear hW;go_simp;try with_reducible rfl))
        all_goals refine wkP ?_
        all_goals first|(refine kG rfl HS6 ?_)|(refine kJ (v:=?_) rfl (fun W hW=>?_) ?_;rotate_left;(· go_simp;try with_reducible rfl))
        all_goals refine wkP ?_
       all_goals refine kN ?_
       have HO_6:Hid _:=yD ((HO_5.out.below HS6).wide (T:=Btw (w.heap.size + 1) wS6.heap.size) (fun j hj=>⟨hj.1,by have:=hj.2;have:=HS6.size;omega⟩))
       have hbel_6:=hbel_5.trans (HS6.mono (by have:=hbel_5.size;omega))
       clear HS6
       have hz_6:=hbel_6.size
       clear A0 A1 A2 B0 B1 B2 EW
       go_wp2
       go_roundw
       case rel=>exact ⟨k + 1,by omega,by go_num,by rw [HT2.out],yD (by rw [HT2.out];exact HO_6.out.cast gW),hbel_6⟩
       simp [intOf];omega
     have HT2:Hid (kCc (f,n,x) l (k + 1)=(s1++[(y0,y1,y2)],false)):=yD cZ
     have A0:=(hbel.cell (p:=⟨w.heap.size,0,none⟩) dU).trans KA0
     have A1:=(hbel.cell (p:=⟨w.heap.size,1,none⟩) dU).trans KA1
     have A2:=(hbel.cell (p:=⟨w.heap.size,2,none⟩) dU).trans KA2
     have EW:=EB.trans (hbel.mono gV)
     have B0:=cL EW C0
     have B1:=cL EW C1
     have B2:=cL EW C2
     go_upto_region 6 with fail
     refine kK (fun W=>Below wr.heap.size wr W) [true,true,true,true,true,true,true,true,true,true,true,true] gP gP bX (bR.drew) ?_
     intro wS5 HS5
     iterate 2
      all_goals first|(refine kG rfl HS5 ?_)|(refine kJ (v:=?_) rfl (fun W hW=>?_) ?_;rotate_left;(· go_simp;try with_reducible rfl))
      all_goals refine wkP ?_
     all_goals first|(refine kG rfl HS5 ?_;have hg2:=True.intro)|(refine yu (v:=?_) (b:=?_) rfl (fun W hW=>?_) ?_ (fun b hg2=>?_);rotate_left;rotate_left;(· go_simp;try with_reducible rfl);(· with_reducible rfl);cases b;all_goals first|(exact Bool.noConfusion hg2)|(simp only [zU,zV] at hg2) | skip)
     iterate 4
      all_goals refine wkP ?_
      all_goals first|(refine kG rfl HS5 ?_)|(refine kJ (v:=?_) rfl (fun W hW=>?_) ?_;rotate_left;(· go_simp;try with_reducible rfl))
     iterate 2
      all_goals refine wkP ?_
      all_goals first|(refine kG rfl HS5 ?_)|(refine kJ (v:=?_) rfl (fun W hW=>?_) ?_;rotate_left;(· have A_A0:=cL hW A0;have A_B0:=cL hW B0;clear hW;go_simp;try with_reducible rfl))
      all_goals refine wkP ?_
      all_goals first|(refine kG rfl HS5 ?_)|(refine kJ (v:=?_) rfl (fun W hW=>?_) ?_;rotate_left;(· go_simp;try with_reducible rfl))
     all_goals refine wkP ?_
     all_goals first|(refine kG rfl HS5 ?_)|(refine kJ (v:=?_) rfl (fun W hW=>?_) ?_;rotate_left;(· go_simp;try with_reducible rfl))
     all_goals refine wkP ?_
     all_goals refine kN ?_
     have HO_5:Hid _:=yD ((HO.out.below HS5).wide (T:=Btw (w.heap.size + 1) wS5.heap.size) (fun j hj=>⟨hj.1,by have:=hj.2;have:=HS5.size;omega⟩))
     have hbel_5:=hbel.trans (HS5.mono fJ)
     clear HS5
     have hz_5:=hbel_5.size
     clear A0 A1 A2 B0 B1 B2 EW
     have A0:=(hbel_5.cell (p:=⟨w.heap.size,0,none⟩) dU).trans KA0
     have A1:=(hbel_5.cell (p:=⟨w.heap.size,1,none⟩) dU).trans KA1
     have A2:=(hbel_5.cell (p:=⟨w.heap.size,2,none⟩) dU).trans KA2
     have EW:=EB.trans (hbel_5.mono gV)
     have B0:=cL EW C0
     have B1:=cL EW C1
     have B2:=cL EW C2
     go_upto_region 9 with fail
     refine kK (fun W=>Below wS5.heap.size wS5 W) [true,true,true,true,true,true,true,true] gP gP bX (bR.drew) ?_
     intro wS7 HS7
     iterate 4
      all_goals first|(refine kG rfl HS7 ?_)|(refine kJ (v:=?_) rfl (fun W hW=>?_) ?_;rotate_left;(· go_simp;try with_reducible rfl))
      all_goals refine wkP ?_
     iterate 2
      all_goals first|(refine kG rfl HS7 ?_)|(refine kJ (v:=?_) rfl (fun W hW=>?_) ?_;rotate_left;(· have A_A0:=cL hW A0;have A_B0:=cL hW B0;clear hW;go_simp;try with_reducible rfl))
      all_goals refine wkP ?_
      all_goals first|(refine kG rfl HS7 ?_)|(refine kJ (v:=?_) rfl (fun W hW=>?_) ?_;rotate_left;(· go_simp;try with_reducible rfl))
      all_goals refine wkP ?_
     all_goals refine kN ?_
     have HO_7:Hid _:=yD ((HO_5.out.below HS7).wide (T:=Btw (w.heap.size + 1) wS7.heap.size) (fun j hj=>⟨hj.1,by have:=hj.2;have:=HS7.size;omega⟩))
     have hbel_7:=hbel_5.trans (HS7.mono (by have:=hbel_5.size;omega))
     clear HS7
     have hz_7:=hbel_7.size
     clear A0 A1 A2 B0 B1 B2 EW
     have A0:=(hbel_7.cell (p:=⟨w.heap.size,0,none⟩) dU).trans KA0
     have A1:=(hbel_7.cell (p:=⟨w.heap.size,1,none⟩) dU).trans KA1
     have A2:=(hbel_7.cell (p:=⟨w.heap.size,2,none⟩) dU).trans KA2
     have EW:=EB.trans (hbel_7.mono gV)
     have B0:=cL EW C0
     have B1:=cL EW C1
     have B2:=cL EW C2
     go_wp2_with (at_builtin;refine Rep.jH rfl _ _ 36 rfl (r:=kF) (e:=56) Try.underlying36 jC rfl gU gU (B:=w.heap.size + 1) HO_7.out gX gX rfl (HX.out _) rfl (fun _ _ h=>h) dC (fun _ h=>h.elim) gV gV ?_)
     intro v8 w8 ho8 hb8 hz8
     have HO8:=yD ho8
     obtain ⟨pa8,pn8,pc8,hp8,HPN8⟩:=ho8.parts;obtain rfl:=hp8
     clear ho8
     have hbel8:=hbel_7.trans hb8
     clear hb8
     clear A0 A1 A2 B0 B1 B2 EW
     go_wp2
     go_roundw
     case rel=>exact ⟨k + 1,by omega,by go_num,by rw [HT2.out],yD (by rw [HT2.out];exact HO8.out.cast gW),hbel8⟩
     simp [intOf];omega
   by_cases hne:y0=f
   · have HT2:Hid (kCc (f,n,x) l (k + 1)=(s1,true)):=yD (by rw [HT.out];unfold yf;simp [hne])
     have A0:=(hbel.cell (p:=⟨w.heap.size,0,none⟩) dU).trans KA0
     have A1:=(hbel.cell (p:=⟨w.heap.size,1,none⟩) dU).trans KA1
     have A2:=(hbel.cell (p:=⟨w.heap.size,2,none⟩) dU).trans KA2
     have EW:=EB.trans (hbel.mono gV)
     have B0:=cL EW C0
     have B1:=cL EW C1
     have B2:=cL EW C2
     go_upto_region 6 with fail
     refine kK (fun W=>Below wr.heap.size wr W) [true,true,true,true,true,true,true,true,true,true,true,true] gP gP bX (bR.drew) ?_
     intro wS9 HS9
     iterate 2
      all_goals first|(refine kG rfl HS9 ?_)|(refine kJ (v:=?_) rfl (fun W hW=>?_) ?_;rotate_left;(· go_simp;try with_reducible rfl))
      all_goals refine wkP ?_
     all_goals first|(refine kG rfl HS9 ?_;have hg2:=True.intro)|(refine yu (v:=?_) (b:=?_) rfl (fun W hW=>?_) ?_ (fun b hg2=>?_);rotate_left;rotate_left;(· go_simp;try with_reducible rfl);(· with_reducible rfl);cases b;all_goals first|(exact Bool.noConfusion hg2)|(simp only [zU,zV] at hg2) | skip)
     iterate 4
      all_goals refine wkP ?_
      all_goals first|(refine kG rfl HS9 ?_)|(refine kJ (v:=?_) rfl (fun W hW=>?_) ?_;rotate_left;(· go_simp;try with_reducible rfl))
     iterate 2
      all_goals refine wkP ?_
      all_goals first|(refine kG rfl HS9 ?_)|(refine kJ (v:=?_) rfl (fun W hW=>?_) ?_;rotate_left;(· have A_A0:=cL hW A0;have A_B0:=cL hW B0;clear hW;go_simp;try with_reducible rfl))
      all_goals refine wkP ?_
      all_goals first|(refine kG rfl HS9 ?_)|(refine kJ (v:=?_) rfl (fun W hW=>?_) ?_;rotate_left;(· go_simp;try with_reducible rfl))
     all_goals refine wkP ?_
     all_goals first|(refine kG rfl HS9 ?_)|(refine kJ (v:=?_) rfl (fun W hW=>?_) ?_;rotate_left;(· go_simp;try with_reducible rfl))
     all_goals refine wkP ?_
     all_goals refine kN ?_
     have HO_9:Hid _:=yD ((HO.out.below HS9).wide (T:=Btw (w.heap.size + 1) wS9.heap.size) (fun j hj=>⟨hj.1,by have:=hj.2;have:=HS9.size;omega⟩))
     have hbel_9:=hbel.trans (HS9.mono fJ)
     clear HS9
     have hz_9:=hbel_9.size
     clear A0 A1 A2 B0 B1 B2 EW
     have A0:=(hbel_9.cell (p:=⟨w.heap.size,0,none⟩) dU).trans KA0
     have A1:=(hbel_9.cell (p:=⟨w.heap.size,1,none⟩) dU).trans KA1
     have A2:=(hbel_9.cell (p:=⟨w.heap.size,2,none⟩) dU).trans KA2
     have EW:=EB.trans (hbel_9.mono gV)
     have B0:=cL EW C0
     have B1:=cL EW C1
     have B2:=cL EW C2
     go_upto_region 9 with fail
     refine kK (fun W=>Below wS9.heap.size wS9 W) [true,true,true,true,true,true,true,true] gP gP bX (bR.drew) ?_
     intro wS10 HS10
     iterate 4
      all_goals first|(refine kG rfl HS10 ?_)|(refine kJ (v:=?_) rfl (fun W hW=>?_) ?_;rotate_left;(· go_simp;try with_reducible rfl))
      all_goals refine wkP ?_
     iterate 2
      all_goals first|(refine kG rfl HS10 ?_)|(refine kJ (v:=?_) rfl (fun W hW=>?_) ?_;rotate_left;(· have A_A0:=cL hW A0;have A_B0:=cL hW B0;clear hW;go_simp;try with_reducible rfl))
      all_goals refine wkP ?_
      all_goals first|(refine kG rfl HS10 ?_)|(refine kJ (v:=?_) rfl (fun W hW=>?_) ?_;rotate_left;(· go_simp;try with_reducible rfl))
      all_goals refine wkP ?_
     all_goals refine kN ?_
     have HO_10:Hid _:=yD ((HO_9.out.below HS10).wide (T:=Btw (w.heap.size + 1) wS10.heap.size) (fun j hj=>⟨hj.1,by have:=hj.2;have:=HS10.size;omega⟩))
     have hbel_10:=hbel_9.trans (HS10.mono (by have:=hbel_9.size;omega))
     clear HS10
     have hz_10:=hbel_10.size
     clear A0 A1 A2 B0 B1 B2 EW
     go_wp2
     go_roundw
     case rel=>exact ⟨k + 1,by omega,by go_num,by rw [HT2.out],yD (by rw [HT2.out];exact HO_10.out.cast gW),hbel_10⟩
     simp [intOf];omega
   have HT2:Hid (kCc (f,n,x) l (k + 1)=(s1++[(y0,y1,y2)],true)):=yD (by rw [HT.out];unfold yf;simp [hne])
   have A0:=(hbel.cell (p:=⟨w.heap.size,0,none⟩) dU).trans KA0
   have A1:=(hbel.cell (p:=⟨w.heap.size,1,none⟩) dU).trans KA1
   have A2:=(hbel.cell (p:=⟨w.heap.size,2,none⟩) dU).trans KA2
   have EW:=EB.trans (hbel.mono gV)
   have B0:=cL EW C0
   have B1:=cL EW C1
   have B2:=cL EW C2
   go_upto_region 6 with fail
   refine kK (fun W=>Below wr.heap.size wr W) [true,true,true,true,true,true,true,true,true,true,true,true] gP gP bX (bR.drew) ?_
   intro wS9 HS9
   iterate 2
    all_goals first|(refine kG rfl HS9 ?_)|(refine kJ (v:=?_) rfl (fun W hW=>?_) ?_;rotate_left;(· go_simp;try with_reducible rfl))
    all_goals refine wkP ?_
   all_goals first|(refine kG rfl HS9 ?_;have hg2:=True.intro)|(refine yu (v:=?_) (b:=?_) rfl (fun W hW=>?_) ?_ (fun b hg2=>?_);rotate_left;rotate_left;(· go_simp;try with_reducible rfl);(· with_reducible rfl);cases b;all_goals first|(exact Bool.noConfusion hg2)|(simp only [zU,zV] at hg2) | skip)
   iterate 4
    all_goals refine wkP ?_
    all_goals first|(refine kG rfl HS9 ?_)|(refine kJ (v:=?_) rfl (fun W hW=>?_) ?_;rotate_left;(· go_simp;try with_reducible rfl))
   iterate 2
    all_goals refine wkP ?_
    all_goals first|(refine kG rfl HS9 ?_)|(refine kJ (v:=?_) rfl (fun W hW=>?_) ?_;rotate_left;(· have A_A0:=cL hW A0;have A_B0:=cL hW B0;clear hW;go_simp;try with_reducible rfl))
    all_goals refine wkP ?_
    all_goals first|(refine kG rfl HS9 ?_)|(refine kJ (v:=?_) rfl (fun W hW=>?_) ?_;rotate_left;(· go_simp;try with_reducible rfl))
   all_goals refine wkP ?_
   all_goals first|(refine kG rfl HS9 ?_)|(refine kJ (v:=?_) rfl (fun W hW=>?_) ?_;rotate_left;(· go_simp;try with_reducible rfl))
   all_goals refine wkP ?_
   all_goals refine kN ?_
   have HO_9:Hid _:=yD ((HO.out.below HS9).wide (T:=Btw (w.heap.size + 1) wS9.heap.size) (fun j hj=>⟨hj.1,by have:=hj.2;have:=HS9.size;omega⟩))
   have hbel_9:=hbel.trans (HS9.mono fJ)
   clear HS9
   have hz_9:=hbel_9.size
   clear A0 A1 A2 B0 B1 B2 EW
   have A0:=(hbel_9.cell (p:=⟨w.heap.size,0,none⟩) dU).trans KA0
   have A1:=(hbel_9.cell (p:=⟨w.heap.size,1,none⟩) dU).trans KA1
   have A2:=(hbel_9.cell (p:=⟨w.heap.size,2,none⟩) dU).trans KA2
   have EW:=EB.trans (hbel_9.mono gV)
   have B0:=cL EW C0
   have B1:=cL EW C1
   have B2:=cL EW C2
   go_upto_region 9 with fail
   refine kK (fun W=>Below wS9.heap.size wS9 W) [true,true,true,true,true,true,true,true] gP gP bX (bR.drew) ?_
   intro wS11 HS11
   iterate 4
    all_goals first|(refine kG rfl HS11 ?_)|(refine kJ (v:=?_) rfl (fun W hW=>?_) ?_;rotate_left;(· go_simp;try with_reducible rfl))
    all_goals refine wkP ?_
   iterate 2
    all_goals first|(refine kG rfl HS11 ?_)|(refine kJ (v:=?_) rfl (fun W hW=>?_) ?_;rotate_left;(· have A_A0:=cL hW A0;have A_B0:=cL hW B0;clear hW;go_simp;try with_reducible rfl))
    all_goals refine wkP ?_
    all_goals first|(refine kG rfl HS11 ?_)|(refine kJ (v:=?_) rfl (fun W hW=>?_) ?_;rotate_left;(· go_simp;try with_reducible rfl))
    all_goals refine wkP ?_
   all_goals refine kN ?_
   have HO_11:Hid _:=yD ((HO_9.out.below HS11).wide (T:=Btw (w.heap.size + 1) wS11.heap.size) (fun j hj=>⟨hj.1,by have:=hj.2;have:=HS11.size;omega⟩))
   have hbel_11:=hbel_9.trans (HS11.mono (by have:=hbel_9.size;omega))
   clear HS11
   have hz_11:=hbel_11.size
   clear A0 A1 A2 B0 B1 B2 EW
   have A0:=(hbel_11.cell (p:=⟨w.heap.size,0,none⟩) dU).trans KA0
   have A1:=(hbel_11.cell (p:=⟨w.heap.size,1,none⟩) dU).trans KA1
   have A2:=(hbel_11.cell (p:=⟨w.heap.size,2,none⟩) dU).trans KA2
   have EW:=EB.trans (hbel_11.mono gV)
   have B0:=cL EW C0
   have B1:=cL EW C1
   have B2:=cL EW C2
   go_wp2_with (at_builtin;refine Rep.jH rfl _ _ 36 rfl (r:=kF) (e:=56) Try.underlying36 jC rfl gU gU (B:=w.heap.size + 1) HO_11.out gX gX rfl (HX.out _) rfl (fun _ _ h=>h) dC (fun _ h=>h.elim) gV gV ?_)
   intro v12 w12 ho12 hb12 hz12
   have HO12:=yD ho12
   obtain ⟨pa12,pn12,pc12,hp12,HPN12⟩:=ho12.parts;obtain rfl:=hp12
   clear ho12
   have hbel12:=hbel_11.trans hb12
   clear hb12
   clear A0 A1 A2 B0 B1 B2 EW
   go_wp2
   go_roundw
   case rel=>exact ⟨k + 1,by omega,by go_num,by rw [HT2.out],yD (by rw [HT2.out];exact HO12.out.cast gW),hbel12⟩
   simp [intOf];omega
 have HF:=yD (putK_all (a:=(f,n,x)) hlt)
 generalize kCc (f,n,x) l k=s at *
 obtain ⟨s1,s2⟩:=s
 replace HO:Hid (Rep.kT 56 kF wr (.slice oa on oc) s1 (Btw (w.heap.size + 1) wr.heap.size)):=HO
 replace hle:s1.length≤l.length + 1:=hle
 cases s2
 · have A0:=(hbel.cell (p:=⟨w.heap.size,0,none⟩) dU).trans KA0
   have A1:=(hbel.cell (p:=⟨w.heap.size,1,none⟩) dU).trans KA1
   have A2:=(hbel.cell (p:=⟨w.heap.size,2,none⟩) dU).trans KA2
   have EW:=EB.trans (hbel.mono gV)
   go_wp2_with (at_builtin;refine Rep.jH rfl _ _ 36 rfl (r:=kF) (e:=56) Try.underlying36 jC rfl gU gU (B:=w.heap.size + 1) HO.out gX gX rfl (HA.out _) rfl (fun _ _ h=>h) dC (fun _ h=>h.elim) gV gV ?_)
   intro v13 w13 ho13 hb13 hz13
   have HO13:=yD ho13
   obtain ⟨pa13,pn13,pc13,hp13,HPN13⟩:=ho13.parts;obtain rfl:=hp13
   clear ho13
   have hbel13:=hbel.trans hb13
   clear hb13
   go_wp2
   go_ret
   exact ⟨_,rfl,(HO13.out.cast (by have:=HF.out;simpa using this)).wide dD,EB.trans (hbel13.mono gV)⟩
 go_wp2
 go_ret
 exact ⟨_,rfl,(HO.out.cast (by have:=HF.out;simpa using this)).wide dD,EB.trans (hbel.mono gV)⟩
end Go.Proofs.Ytpgnbablhdknnaa

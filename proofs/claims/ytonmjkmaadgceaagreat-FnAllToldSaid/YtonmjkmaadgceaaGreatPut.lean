/-
  A requester put in its place.
-/
import Derived.Test.YtonmjkmaadgceaaGreatPend
set_option linter.unusedVariables false
set_option linter.unusedSimpArgs false
set_option linter.unnecessarySimpa false
set_option maxRecDepth 100000
set_option maxHeartbeats 4000000
namespace Go.Proofs.YtonmjkmaadgceaaGreat
open Go.RowKit _root_.Go.Proofs.Tryz
def yx (f:Int) (l:List kP):List kP:=l.filter (fun r=>!(r.1==f))
def kNl (a:kP) (l:List kP):List kP :=
  match (yx a.1 l).findIdx? (fun r=>decide (a.1≤r.1)) with
  | none=>yx a.1 l++[a]
  | some i=>(yx a.1 l).take i++a :: (yx a.1 l).drop i
def kEe (a:kP) (s:List kP × Bool) (r:kP):List kP × Bool :=
  let s1:=if !s.2 && decide (a.1 < r.1) then (s.1++[a],true) else s
  if r.1=a.1 then s1 else (s1.1++[r],s1.2)
def kJn (a:kP) (l:List kP) (k:Nat):List kP × Bool:=(l.take k).foldl (kEe a) ([],false)
theorem putK_next {a:kP} {l:List kP} {k:Nat} (h:k < l.length):kJn a l (k + 1)=kEe a (kJn a l k) l[k]:=by
 unfold kJn;rw [List.take_succ_eq_append_getElem h,List.foldl_append];rfl
def putM (a:kP) (l:List kP):List kP × Bool :=
  match (yx a.1 l).findIdx? (fun r=>decide (a.1≤r.1)) with
  | none=>(yx a.1 l,false)
  | some i=>((yx a.1 l).take i++a :: (yx a.1 l).drop i,true)
theorem putM_snoc (a:kP) (l:List kP) (r:kP):putM a (l++[r])=kEe a (putM a l) r:=by
 have hf:yx a.1 (l++[r])=if r.1=a.1 then yx a.1 l else yx a.1 l++[r]:=by
  unfold yx;rw [List.filter_append]
  by_cases h:r.1=a.1 <;> simp [h]
 unfold putM kEe
 rw [hf]
 generalize yx a.1 l=O
 by_cases h:r.1=a.1
 · rw [if_pos h,if_pos h]
   have hlt:¬ a.1 < r.1:=bB9
   cases hq:O.findIdx? (fun r=>decide (a.1≤r.1)) <;> simp [hlt]
 rw [if_neg h,if_neg h]
 rw [List.findIdx?_append]
 cases hq:O.findIdx? (fun r=>decide (a.1≤r.1)) with
 | none =>
   by_cases hlt:a.1 < r.1
   · have am:a.1≤r.1:=bB9
     simp [hlt,am,List.findIdx?_cons]
   · have am:¬ a.1≤r.1:=bB9
     simp [hlt,am,List.findIdx?_cons]
 | some i =>
   obtain ⟨hi,_⟩:=List.findIdx?_eq_some_iff_getElem.1 hq
   simp [List.take_append_of_le_length (Nat.le_of_lt hi),List.drop_append_of_le_length (Nat.le_of_lt hi)]
theorem kTm (a:kP) (l:List kP):l.foldl (kEe a) ([],false)=putM a l:=by
 have h:∀ n,∀ l:List kP,l.length=n→l.foldl (kEe a) ([],false)=putM a l:=by
  intro n
  induction n with
  | zero=>intro l hl;rw [List.length_eq_zero_iff.1 hl];rfl
  | succ n ih =>
    intro l hl
    obtain ⟨E,r,rfl⟩:∃ E r,l=E++[r]:=⟨l.dropLast,l.getLast (by intro q;rw [q] at hl;simp at hl),(List.dropLast_concat_getLast _).symm⟩
    rw [List.foldl_append,ih E wI,putM_snoc];rfl
 exact h _ l rfl
theorem putK_all {a:kP} {l:List kP} {k:Nat} (h:¬ k < l.length):(if (kJn a l k).2 then (kJn a l k).1 else (kJn a l k).1++[a])=kNl a l:=by
 unfold kJn
 rw [List.take_of_length_le bB9,kTm]
 unfold putM kNl
 cases (yx a.1 l).findIdx? (fun r=>decide (a.1≤r.1)) <;> simp
theorem putK_len {a:kP} {l:List kP} (k:Nat):(kJn a l k).1.length≤l.length + 1:=by
 unfold kJn
 rw [kTm]
 have h:(yx a.1 (l.take k)).length≤l.length:=Nat.le_trans (List.length_filter_le _ _) sI
 unfold putM
 cases hq:(yx a.1 (l.take k)).findIdx? (fun r=>decide (a.1≤r.1)) with
 | none=>simp;omega
 | some i=>simp;omega
theorem putR_len (a:kP) (l:List kP):(kNl a l).length≤l.length + 1:=by
 have h:(yx a.1 l).length≤l.length:=List.length_filter_le _ _
 unfold kNl
 cases hq:(yx a.1 l).findIdx? (fun r=>decide (a.1≤r.1)) with
 | none=>simp;omega
 | some i=>simp;omega
theorem putR_idx (a:kP) (l:List kP):∃ i,i≤(yx a.1 l).length∧kNl a l=(yx a.1 l).take i++a :: (yx a.1 l).drop i∧((idxOf (fun r=>decide (a.1≤r.1)) (yx a.1 l)=-1∧i=(yx a.1 l).length)∨idxOf (fun r=>decide (a.1≤r.1)) (yx a.1 l)=(i:Int)):=by
 unfold kNl idxOf
 cases hq:(yx a.1 l).findIdx? (fun r=>decide (a.1≤r.1)) with
 | none=>exact ⟨_,Nat.le_refl _,by simp,.inl ⟨rfl,rfl⟩⟩
 | some i =>
   obtain ⟨hi,_⟩:=List.findIdx?_eq_some_iff_getElem.1 hq
   exact ⟨i,Nat.le_of_lt hi,rfl,.inr rfl⟩
theorem kWk {w:World} {vl:Value} {l:List kP} (hl:(kE.slice 73 jH).rd w [vl] l) {f n x:Int} (hf:-9223372036854775808≤f∧f≤9223372036854775807) (hn:-9223372036854775808≤n∧n≤9223372036854775807) (hx:-9223372036854775808≤x∧x≤9223372036854775807) :
    Calls prog 154 #[vl,.agg #[.int .i64 f,.int .i64 n,.int .i64 x]] w (zz 73 jH (kNl (f,n,x) l) w):=by
 have HL:=yD hl
 obtain ⟨la,lp,rfl,ll⟩:=kE.sl hl.1
 have bj:l.length≤16777216:=hl.2.1
 have HA:Hid (∀ W,jH.own W [.int .i64 f,.int .i64 n,.int .i64 x] (f,n,x) (fun _=>False)):=yD (fun W=>kE.flat.own (kE.jr (kE.ky hf) (kE.jr (kE.ky hn) (kE.ky hx))))
 clear hl hf hn hx
 go_enter func154,ntmps154
 go_upto_region 3 with fail
 generalize H:World.alloc (World.alloc w _) _=N
 have Z:Below w.heap.size w N:=by rw [← H];exact bI
 have ar:N.cell? ⟨w.heap.size,0,none⟩=some (.int .i64 f):=tN
 have ao:N.cell? ⟨w.heap.size,1,none⟩=some (.int .i64 n):=tN
 have aq:N.cell? ⟨w.heap.size,2,none⟩=some (.int .i64 x):=tN
 have b8:N.heap.size=w.heap.size + 2:=bA4
 have O0:Hid (kE.ku 73 jH N (.slice (some ⟨w.heap.size + 1,0,none⟩) 0 0) [] (jR (w.heap.size + 1) N.heap.size)):=yD kE.ku.void
 clear H
 go_wp2
 go_loopw [5,6,7] (fun v d i wr=>∃ k:Nat,k≤l.length∧i=.int .i64 k∧d=.bool (kJn (f,n,x) l k).2∧Hid (kE.ku 73 jH wr v (kJn (f,n,x) l k).1 (jR (w.heap.size + 1) wr.heap.size))∧Below (w.heap.size + 1) N wr) (fun _ _ i _=>l.length - (intOf i).toNat)
 case atStart=>exact ⟨0,Nat.zero_le _,rfl,rfl,O0,bR⟩
 obtain ⟨k,hk,rfl,rfl,L,D⟩:=hrel
 obtain ⟨oa,on,oc,ho,bl⟩:=L.out.parts;obtain rfl:=ho
 have am:=putK_len (a:=(f,n,x)) (l:=l) k
 have dh:=D.size
 by_cases hlt:k < l.length
 · obtain ⟨ba,ah,rfl,c0,c1,c2,hr,C0,C1,C2⟩:=kE.kDv HL.out.1 hlt rfl
   obtain ⟨he,al,ai,a1⟩:=zP hr
   simp only [List.cons.injEq,and_true] at he
   obtain ⟨rfl,rfl,rfl⟩:=he
   have HX:=yD (fun W=>kE.flat.own (w:=W) (S:=fun _=>False) (kE.jr (kE.ky al) (kE.jr (kE.ky ai) (kE.ky a1))))
   have U:=yD (putK_next (a:=(f,n,x)) hlt)
   clear hr al ai a1
   generalize l[k]=y at *
   obtain ⟨y0,y1,y2⟩:=y
   simp only at C0 C1 C2
   generalize kJn (f,n,x) l k=s at *
   obtain ⟨s1,s2⟩:=s
   replace L:Hid (kE.ku 73 jH wr (.slice oa on oc) s1 (jR (w.heap.size + 1) wr.heap.size)):=L
   replace bl:Hid (on=s1.length):=bl
   replace am:s1.length≤l.length + 1:=am
   have a8:(0:Int)≤k:=bB9
   have be:(k:Int) < l.length:=bB9
   cases s2
   · by_cases hg:f < y0
     · have hne:¬ (y0=f):=bB9
       have af:Hid (kJn (f,n,x) l (k + 1)=(s1++[(f,n,x)]++[(y0,y1,y2)],true)):=yD qM
       obtain ⟨A0,A1,A2,EW,B0,B1,B2⟩:=oV
       go_upto_region 6 with fail
       refine kW (fun W=>Below wr.heap.size wr W) [true,true,true,true,true,true,true,true,true,true,true,true] bB4 bB4 qD (bR.drew) ?_
       intro wS1 ae
       iterate 2
        all_goals first|(refine kK rfl ae ?_)|(refine jE (v:=?_) rfl (fun W hW=>?_) ?_;rotate_left;(· go_simp;try with_reducible rfl))
        all_goals refine kX ?_
       all_goals first|(refine kK rfl ae ?_;have R:=True.intro)|(refine kFl (v:=?_) (b:=?_) rfl (fun W hW=>?_) ?_ (fun b R=>?_);rotate_left;rotate_left;(· go_simp;try with_reducible rfl);(· with_reducible rfl);cases b;all_goals first|(exact Bool.noConfusion R)|(simp only [zU,zV] at R) | skip)
       iterate 4
        all_goals refine kX ?_
        all_goals first|(refine kK rfl ae ?_)|(refine jE (v:=?_) rfl (fun W hW=>?_) ?_;rotate_left;(· go_simp;try with_reducible rfl))
       iterate 2
        all_goals refine kX ?_
        all_goals first|(refine kK rfl ae ?_)|(refine jE (v:=?_) rfl (fun W hW=>?_) ?_;rotate_left;(· have av:=cL hW A0;have aw:=cL hW B0;clear hW;go_simp;try with_reducible rfl))
        all_goals refine kX ?_
        all_goals first|(refine kK rfl ae ?_)|(refine jE (v:=?_) rfl (fun W hW=>?_) ?_;rotate_left;(· go_simp;try with_reducible rfl))
       all_goals refine kX ?_
       all_goals first|(refine kK rfl ae ?_)|(refine jE (v:=?_) rfl (fun W hW=>?_) ?_;rotate_left;(· go_simp;try with_reducible rfl))
       all_goals refine kX ?_
       all_goals refine kZ ?_
       have b5:Hid _:=yD ((L.out.below ae).wide (T:=jR (w.heap.size + 1) wS1.heap.size) (fun j I=>⟨I.1,by have:=I.2;have:=ae.size;omega⟩))
       have aj:=D.trans (ae.mono vL)
       clear ae
       have c5:=aj.size
       clear A0 A1 A2 B0 B1 B2 EW
       have A0:=(aj.cell (p:=⟨w.heap.size,0,none⟩) sJ).trans ar
       have A1:=(aj.cell (p:=⟨w.heap.size,1,none⟩) sJ).trans ao
       have A2:=(aj.cell (p:=⟨w.heap.size,2,none⟩) sJ).trans aq
       have EW:=Z.trans (aj.mono bB9)
       obtain ⟨B0,B1,B2⟩:=xX
       go_wp2_with (at_builtin;refine kE.jK rfl _ _ 69 rfl (r:=jH) (e:=73) underlying69 kBk rfl bB8 bB8 (B:=w.heap.size + 1) b5.out bC1 bC1 rfl (HA.out _) rfl (fun _ _ h=>h) rE (fun _ h=>h.elim) bB9 bB9 ?_)
       intro v2 V G ab an
       have ag:=yD G
       obtain ⟨ej,de,ei,bm,cv⟩:=G.parts;obtain rfl:=bm
       clear G
       have Y:=aj.trans ab
       clear ab
       clear A0 A1 A2 B0 B1 B2 EW
       have dc:(s1++[(f,n,x)]).length≤l.length + 2:=bB5
       have A0:=(Y.cell (p:=⟨w.heap.size,0,none⟩) sJ).trans ar
       have A1:=(Y.cell (p:=⟨w.heap.size,1,none⟩) sJ).trans ao
       have A2:=(Y.cell (p:=⟨w.heap.size,2,none⟩) sJ).trans aq
       have EW:=Z.trans (Y.mono bB9)
       obtain ⟨B0,B1,B2⟩:=xX
       go_upto_region 9 with fail
       refine kW (fun W=>Below V.heap.size V W) [true,true,true,true,true,true,true,true] bB4 bB4 qD (bR.drew) ?_
       intro a5 ap
       iterate 4
        all_goals first|(refine kK rfl ap ?_)|(refine jE (v:=?_) rfl (fun W hW=>?_) ?_;rotate_left;(· go_simp;try with_reducible rfl))
        all_goals refine kX ?_
       iterate 2
        all_goals first|(refine kK rfl ap ?_)|(refine jE (v:=?_) rfl (fun W hW=>?_) ?_;rotate_left;(· have av:=cL hW A0;have aw:=cL hW B0;clear hW;go_simp;try with_reducible rfl))
        all_goals refine kX ?_
        all_goals first|(refine kK rfl ap ?_)|(refine jE (v:=?_) rfl (fun W hW=>?_) ?_;rotate_left;(· go_simp;try with_reducible rfl))
        all_goals refine kX ?_
       all_goals refine kZ ?_
       have b6:Hid _:=yD ((ag.out.below ap).wide (T:=jR (w.heap.size + 1) a5.heap.size) (fun j I=>⟨I.1,by have:=I.2;have:=ap.size;omega⟩))
       have ak:=Y.trans (ap.mono vT)
       clear ap
       have c4:=ak.size
       clear A0 A1 A2 B0 B1 B2 EW
       have A0:=(ak.cell (p:=⟨w.heap.size,0,none⟩) sJ).trans ar
       have A1:=(ak.cell (p:=⟨w.heap.size,1,none⟩) sJ).trans ao
       have A2:=(ak.cell (p:=⟨w.heap.size,2,none⟩) sJ).trans aq
       have EW:=Z.trans (ak.mono bB9)
       obtain ⟨B0,B1,B2⟩:=xX
       go_wp2_with (at_builtin;refine kE.jK rfl _ _ 69 rfl (r:=jH) (e:=73) underlying69 kBk rfl bB8 bB8 (B:=w.heap.size + 1) b6.out bC1 bC1 rfl (HX.out _) rfl (fun _ _ h=>h) rE (fun _ h=>h.elim) bB9 bB9 ?_)
       intro v4 w4 ax X bt
       have au:=yD ax
       obtain ⟨dl,df,ez,cd,db⟩:=ax.parts;obtain rfl:=cd
       clear ax
       have bq:=ak.trans X
       clear X
       clear A0 A1 A2 B0 B1 B2 EW
       go_wp2
       go_roundw
       case rel=>exact ⟨k + 1,by omega,by go_num,by rw [af.out],yD (by rw [af.out];exact au.out.cast bC0),bq⟩
       simp [intOf];omega
     by_cases hne:y0=f
     · have af:Hid (kJn (f,n,x) l (k + 1)=(s1,false)):=yD qM
       obtain ⟨A0,A1,A2,EW,B0,B1,B2⟩:=oV
       go_upto_region 6 with fail
       refine kW (fun W=>Below wr.heap.size wr W) [true,true,true,true,true,true,true,true,true,true,true,true] bB4 bB4 qD (bR.drew) ?_
       intro a9 aa
       iterate 2
        all_goals first|(refine kK rfl aa ?_)|(refine jE (v:=?_) rfl (fun W hW=>?_) ?_;rotate_left;(· go_simp;try with_reducible rfl))
        all_goals refine kX ?_
       all_goals first|(refine kK rfl aa ?_;have R:=True.intro)|(refine kFl (v:=?_) (b:=?_) rfl (fun W hW=>?_) ?_ (fun b R=>?_);rotate_left;rotate_left;(· go_simp;try with_reducible rfl);(· with_reducible rfl);cases b;all_goals first|(exact Bool.noConfusion R)|(simp only [zU,zV] at R) | skip)
       iterate 4
        all_goals refine kX ?_
        all_goals first|(refine kK rfl aa ?_)|(refine jE (v:=?_) rfl (fun W hW=>?_) ?_;rotate_left;(· go_simp;try with_reducible rfl))
       iterate 2
        all_goals refine kX ?_
        all_goals first|(refine kK rfl aa ?_)|(refine jE (v:=?_) rfl (fun W hW=>?_) ?_;rotate_left;(· have av:=cL hW A0;have aw:=cL hW B0;clear hW;go_simp;try with_reducible rfl))
        all_goals refine kX ?_
        all_goals first|(refine kK rfl aa ?_)|(refine jE (v:=?_) rfl (fun W hW=>?_) ?_;rotate_left;(· go_simp;try with_reducible rfl))
       all_goals refine kX ?_
       all_goals first|(refine kK rfl aa ?_)|(refine jE (v:=?_) rfl (fun W hW=>?_) ?_;rotate_left;(· go_simp;try with_reducible rfl))
       all_goals refine kX ?_
       all_goals refine kZ ?_
       have bk:Hid _:=yD ((L.out.below aa).wide (T:=jR (w.heap.size + 1) a9.heap.size) mY)
       have F:=D.trans (aa.mono vL)
       clear aa
       have b9:=F.size
       clear A0 A1 A2 B0 B1 B2 EW
       obtain ⟨A0,A1,A2,EW⟩:=CS
       obtain ⟨B0,B1,B2⟩:=xX
       go_upto_region 9 with fail
       refine kW (fun W=>Below a9.heap.size a9 W) [true,true,true,true,true,true,true,true] bB4 bB4 qD (bR.drew) ?_
       intro ci a6
       iterate 4
        all_goals first|(refine kK rfl a6 ?_)|(refine jE (v:=?_) rfl (fun W hW=>?_) ?_;rotate_left;(· go_simp;try with_reducible rfl))
        all_goals refine kX ?_
       iterate 2
        all_goals first|(refine kK rfl a6 ?_)|(refine jE (v:=?_) rfl (fun W hW=>?_) ?_;rotate_left;(· have av:=cL hW A0;have aw:=cL hW B0;clear hW;go_simp;try with_reducible rfl))
        all_goals refine kX ?_
        all_goals first|(refine kK rfl a6 ?_)|(refine jE (v:=?_) rfl (fun W hW=>?_) ?_;rotate_left;(· go_simp;try with_reducible rfl))
        all_goals refine kX ?_
       all_goals refine kZ ?_
       have b7:Hid _:=yD ((bk.out.below a6).wide (T:=jR (w.heap.size + 1) ci.heap.size) (fun j I=>⟨I.1,by have:=I.2;have:=a6.size;omega⟩))
       have bb:=F.trans (a6.mono (by have:=F.size;omega))
       clear a6
       have c3:=bb.size
       clear A0 A1 A2 B0 B1 B2 EW
       go_wp2
       go_roundw
       case rel=>exact ⟨k + 1,by omega,by go_num,by rw [af.out],yD (by rw [af.out];exact b7.out.cast bC0),bb⟩
       simp [intOf];omega
     have af:Hid (kJn (f,n,x) l (k + 1)=(s1++[(y0,y1,y2)],false)):=yD qM
     obtain ⟨A0,A1,A2,EW,B0,B1,B2⟩:=oV
     go_upto_region 6 with fail
     refine kW (fun W=>Below wr.heap.size wr W) [true,true,true,true,true,true,true,true,true,true,true,true] bB4 bB4 qD (bR.drew) ?_
     intro a9 aa
     iterate 2
      all_goals first|(refine kK rfl aa ?_)|(refine jE (v:=?_) rfl (fun W hW=>?_) ?_;rotate_left;(· go_simp;try with_reducible rfl))
      all_goals refine kX ?_
     all_goals first|(refine kK rfl aa ?_;have R:=True.intro)|(refine kFl (v:=?_) (b:=?_) rfl (fun W hW=>?_) ?_ (fun b R=>?_);rotate_left;rotate_left;(· go_simp;try with_reducible rfl);(· with_reducible rfl);cases b;all_goals first|(exact Bool.noConfusion R)|(simp only [zU,zV] at R) | skip)
     iterate 4
      all_goals refine kX ?_
      all_goals first|(refine kK rfl aa ?_)|(refine jE (v:=?_) rfl (fun W hW=>?_) ?_;rotate_left;(· go_simp;try with_reducible rfl))
     iterate 2
      all_goals refine kX ?_
      all_goals first|(refine kK rfl aa ?_)|(refine jE (v:=?_) rfl (fun W hW=>?_) ?_;rotate_left;(· have av:=cL hW A0;have aw:=cL hW B0;clear hW;go_simp;try with_reducible rfl))
      all_goals refine kX ?_
      all_goals first|(refine kK rfl aa ?_)|(refine jE (v:=?_) rfl (fun W hW=>?_) ?_;rotate_left;(· go_simp;try with_reducible rfl))
     all_goals refine kX ?_
     all_goals first|(refine kK rfl aa ?_)|(refine jE (v:=?_) rfl (fun W hW=>?_) ?_;rotate_left;(· go_simp;try with_reducible rfl))
     all_goals refine kX ?_
     all_goals refine kZ ?_
     have bk:Hid _:=yD ((L.out.below aa).wide (T:=jR (w.heap.size + 1) a9.heap.size) mY)
     have F:=D.trans (aa.mono vL)
     clear aa
     have b9:=F.size
     clear A0 A1 A2 B0 B1 B2 EW
     obtain ⟨A0,A1,A2,EW⟩:=CS
     obtain ⟨B0,B1,B2⟩:=xX
     go_upto_region 9 with fail
     refine kW (fun W=>Below a9.heap.size a9 W) [true,true,true,true,true,true,true,true] bB4 bB4 qD (bR.drew) ?_
     intro cl az
     iterate 4
      all_goals first|(refine kK rfl az ?_)|(refine jE (v:=?_) rfl (fun W hW=>?_) ?_;rotate_left;(· go_simp;try with_reducible rfl))
      all_goals refine kX ?_
     iterate 2
      all_goals first|(refine kK rfl az ?_)|(refine jE (v:=?_) rfl (fun W hW=>?_) ?_;rotate_left;(· have av:=cL hW A0;have aw:=cL hW B0;clear hW;go_simp;try with_reducible rfl))
      all_goals refine kX ?_
      all_goals first|(refine kK rfl az ?_)|(refine jE (v:=?_) rfl (fun W hW=>?_) ?_;rotate_left;(· go_simp;try with_reducible rfl))
      all_goals refine kX ?_
     all_goals refine kZ ?_
     have bz:Hid _:=yD ((bk.out.below az).wide (T:=jR (w.heap.size + 1) cl.heap.size) (fun j I=>⟨I.1,by have:=I.2;have:=az.size;omega⟩))
     have ac:=F.trans (az.mono (by have:=F.size;omega))
     clear az
     have cu:=ac.size
     clear A0 A1 A2 B0 B1 B2 EW
     have A0:=(ac.cell (p:=⟨w.heap.size,0,none⟩) sJ).trans ar
     have A1:=(ac.cell (p:=⟨w.heap.size,1,none⟩) sJ).trans ao
     have A2:=(ac.cell (p:=⟨w.heap.size,2,none⟩) sJ).trans aq
     have EW:=Z.trans (ac.mono bB9)
     obtain ⟨B0,B1,B2⟩:=xX
     go_wp2_with (at_builtin;refine kE.jK rfl _ _ 69 rfl (r:=jH) (e:=73) underlying69 kBk rfl bB8 bB8 (B:=w.heap.size + 1) bz.out bC1 bC1 rfl (HX.out _) rfl (fun _ _ h=>h) rE (fun _ h=>h.elim) bB9 bB9 ?_)
     intro v8 w8 a7 bc bx
     have bf:=yD a7
     obtain ⟨dg,di,dk,cc,cw⟩:=a7.parts;obtain rfl:=cc
     clear a7
     have bg:=ac.trans bc
     clear bc
     clear A0 A1 A2 B0 B1 B2 EW
     go_wp2
     go_roundw
     case rel=>exact ⟨k + 1,by omega,by go_num,by rw [af.out],yD (by rw [af.out];exact bf.out.cast bC0),bg⟩
     simp [intOf];omega
   by_cases hne:y0=f
   · have af:Hid (kJn (f,n,x) l (k + 1)=(s1,true)):=yD (by rw [U.out];unfold kEe;simp [hne])
     obtain ⟨A0,A1,A2,EW,B0,B1,B2⟩:=oV
     go_upto_region 6 with fail
     refine kW (fun W=>Below wr.heap.size wr W) [true,true,true,true,true,true,true,true,true,true,true,true] bB4 bB4 qD (bR.drew) ?_
     intro O ce
     iterate 2
      all_goals first|(refine kK rfl ce ?_)|(refine jE (v:=?_) rfl (fun W hW=>?_) ?_;rotate_left;(· go_simp;try with_reducible rfl))
      all_goals refine kX ?_
     all_goals first|(refine kK rfl ce ?_;have R:=True.intro)|(refine kFl (v:=?_) (b:=?_) rfl (fun W hW=>?_) ?_ (fun b R=>?_);rotate_left;rotate_left;(· go_simp;try with_reducible rfl);(· with_reducible rfl);cases b;all_goals first|(exact Bool.noConfusion R)|(simp only [zU,zV] at R) | skip)
     iterate 4
      all_goals refine kX ?_
      all_goals first|(refine kK rfl ce ?_)|(refine jE (v:=?_) rfl (fun W hW=>?_) ?_;rotate_left;(· go_simp;try with_reducible rfl))
     iterate 2
      all_goals refine kX ?_
      all_goals first|(refine kK rfl ce ?_)|(refine jE (v:=?_) rfl (fun W hW=>?_) ?_;rotate_left;(· have av:=cL hW A0;have aw:=cL hW B0;clear hW;go_simp;try with_reducible rfl))
      all_goals refine kX ?_
      all_goals first|(refine kK rfl ce ?_)|(refine jE (v:=?_) rfl (fun W hW=>?_) ?_;rotate_left;(· go_simp;try with_reducible rfl))
     all_goals refine kX ?_
     all_goals first|(refine kK rfl ce ?_)|(refine jE (v:=?_) rfl (fun W hW=>?_) ?_;rotate_left;(· go_simp;try with_reducible rfl))
     all_goals refine kX ?_
     all_goals refine kZ ?_
     have bd:Hid _:=yD ((L.out.below ce).wide (T:=jR (w.heap.size + 1) O.heap.size) mZ)
     have E:=D.trans (ce.mono vL)
     clear ce
     have b1:=E.size
     clear A0 A1 A2 B0 B1 B2 EW
     obtain ⟨A0,A1,A2,EW⟩:=CU
     obtain ⟨B0,B1,B2⟩:=xX
     go_upto_region 9 with fail
     refine kW (fun W=>Below O.heap.size O W) [true,true,true,true,true,true,true,true] bB4 bB4 qD (bR.drew) ?_
     intro bw a3
     iterate 4
      all_goals first|(refine kK rfl a3 ?_)|(refine jE (v:=?_) rfl (fun W hW=>?_) ?_;rotate_left;(· go_simp;try with_reducible rfl))
      all_goals refine kX ?_
     iterate 2
      all_goals first|(refine kK rfl a3 ?_)|(refine jE (v:=?_) rfl (fun W hW=>?_) ?_;rotate_left;(· have av:=cL hW A0;have aw:=cL hW B0;clear hW;go_simp;try with_reducible rfl))
      all_goals refine kX ?_
      all_goals first|(refine kK rfl a3 ?_)|(refine jE (v:=?_) rfl (fun W hW=>?_) ?_;rotate_left;(· go_simp;try with_reducible rfl))
      all_goals refine kX ?_
     all_goals refine kZ ?_
     have bu:Hid _:=yD ((bd.out.below a3).wide (T:=jR (w.heap.size + 1) bw.heap.size) (fun j I=>⟨I.1,by have:=I.2;have:=a3.size;omega⟩))
     have a4:=E.trans (a3.mono (by have:=E.size;omega))
     clear a3
     have cj:=a4.size
     clear A0 A1 A2 B0 B1 B2 EW
     go_wp2
     go_roundw
     case rel=>exact ⟨k + 1,by omega,by go_num,by rw [af.out],yD (by rw [af.out];exact bu.out.cast bC0),a4⟩
     simp [intOf];omega
   have af:Hid (kJn (f,n,x) l (k + 1)=(s1++[(y0,y1,y2)],true)):=yD (by rw [U.out];unfold kEe;simp [hne])
   obtain ⟨A0,A1,A2,EW,B0,B1,B2⟩:=oV
   go_upto_region 6 with fail
   refine kW (fun W=>Below wr.heap.size wr W) [true,true,true,true,true,true,true,true,true,true,true,true] bB4 bB4 qD (bR.drew) ?_
   intro O ce
   iterate 2
    all_goals first|(refine kK rfl ce ?_)|(refine jE (v:=?_) rfl (fun W hW=>?_) ?_;rotate_left;(· go_simp;try with_reducible rfl))
    all_goals refine kX ?_
   all_goals first|(refine kK rfl ce ?_;have R:=True.intro)|(refine kFl (v:=?_) (b:=?_) rfl (fun W hW=>?_) ?_ (fun b R=>?_);rotate_left;rotate_left;(· go_simp;try with_reducible rfl);(· with_reducible rfl);cases b;all_goals first|(exact Bool.noConfusion R)|(simp only [zU,zV] at R) | skip)
   iterate 4
    all_goals refine kX ?_
    all_goals first|(refine kK rfl ce ?_)|(refine jE (v:=?_) rfl (fun W hW=>?_) ?_;rotate_left;(· go_simp;try with_reducible rfl))
   iterate 2
    all_goals refine kX ?_
    all_goals first|(refine kK rfl ce ?_)|(refine jE (v:=?_) rfl (fun W hW=>?_) ?_;rotate_left;(· have av:=cL hW A0;have aw:=cL hW B0;clear hW;go_simp;try with_reducible rfl))
    all_goals refine kX ?_
    all_goals first|(refine kK rfl ce ?_)|(refine jE (v:=?_) rfl (fun W hW=>?_) ?_;rotate_left;(· go_simp;try with_reducible rfl))
   all_goals refine kX ?_
   all_goals first|(refine kK rfl ce ?_)|(refine jE (v:=?_) rfl (fun W hW=>?_) ?_;rotate_left;(· go_simp;try with_reducible rfl))
   all_goals refine kX ?_
   all_goals refine kZ ?_
   have bd:Hid _:=yD ((L.out.below ce).wide (T:=jR (w.heap.size + 1) O.heap.size) mZ)
   have E:=D.trans (ce.mono vL)
   clear ce
   have b1:=E.size
   clear A0 A1 A2 B0 B1 B2 EW
   obtain ⟨A0,A1,A2,EW⟩:=CU
   obtain ⟨B0,B1,B2⟩:=xX
   go_upto_region 9 with fail
   refine kW (fun W=>Below O.heap.size O W) [true,true,true,true,true,true,true,true] bB4 bB4 qD (bR.drew) ?_
   intro b4 a2
   iterate 4
    all_goals first|(refine kK rfl a2 ?_)|(refine jE (v:=?_) rfl (fun W hW=>?_) ?_;rotate_left;(· go_simp;try with_reducible rfl))
    all_goals refine kX ?_
   iterate 2
    all_goals first|(refine kK rfl a2 ?_)|(refine jE (v:=?_) rfl (fun W hW=>?_) ?_;rotate_left;(· have av:=cL hW A0;have aw:=cL hW B0;clear hW;go_simp;try with_reducible rfl))
    all_goals refine kX ?_
    all_goals first|(refine kK rfl a2 ?_)|(refine jE (v:=?_) rfl (fun W hW=>?_) ?_;rotate_left;(· go_simp;try with_reducible rfl))
    all_goals refine kX ?_
   all_goals refine kZ ?_
   have br:Hid _:=yD ((bd.out.below a2).wide (T:=jR (w.heap.size + 1) b4.heap.size) (fun j I=>⟨I.1,by have:=I.2;have:=a2.size;omega⟩))
   have J:=E.trans (a2.mono (by have:=E.size;omega))
   clear a2
   have cf:=J.size
   clear A0 A1 A2 B0 B1 B2 EW
   have A0:=(J.cell (p:=⟨w.heap.size,0,none⟩) sJ).trans ar
   have A1:=(J.cell (p:=⟨w.heap.size,1,none⟩) sJ).trans ao
   have A2:=(J.cell (p:=⟨w.heap.size,2,none⟩) sJ).trans aq
   have EW:=Z.trans (J.mono bB9)
   obtain ⟨B0,B1,B2⟩:=xX
   go_wp2_with (at_builtin;refine kE.jK rfl _ _ 69 rfl (r:=jH) (e:=73) underlying69 kBk rfl bB8 bB8 (B:=w.heap.size + 1) br.out bC1 bC1 rfl (HX.out _) rfl (fun _ _ h=>h) rE (fun _ h=>h.elim) bB9 bB9 ?_)
   intro dd cg bi bp c8
   have b2:=yD bi
   obtain ⟨c7,co,c6,b3,ck⟩:=bi.parts;obtain rfl:=b3
   clear bi
   have bn:=J.trans bp
   clear bp
   clear A0 A1 A2 B0 B1 B2 EW
   go_wp2
   go_roundw
   case rel=>exact ⟨k + 1,by omega,by go_num,by rw [af.out],yD (by rw [af.out];exact b2.out.cast bC0),bn⟩
   simp [intOf];omega
 have HF:=yD (putK_all (a:=(f,n,x)) hlt)
 generalize kJn (f,n,x) l k=s at *
 obtain ⟨s1,s2⟩:=s
 replace L:Hid (kE.ku 73 jH wr (.slice oa on oc) s1 (jR (w.heap.size + 1) wr.heap.size)):=L
 replace am:s1.length≤l.length + 1:=am
 cases s2
 · have A0:=(D.cell (p:=⟨w.heap.size,0,none⟩) sJ).trans ar
   have A1:=(D.cell (p:=⟨w.heap.size,1,none⟩) sJ).trans ao
   have A2:=(D.cell (p:=⟨w.heap.size,2,none⟩) sJ).trans aq
   have EW:=Z.trans (D.mono bB9)
   go_wp2_with (at_builtin;refine kE.jK rfl _ _ 69 rfl (r:=jH) (e:=73) underlying69 kBk rfl bB8 bB8 (B:=w.heap.size + 1) L.out bC1 bC1 rfl (HA.out _) rfl (fun _ _ h=>h) rE (fun _ h=>h.elim) bB9 bB9 ?_)
   intro dj dx bh ay cz
   have bv:=yD bh
   obtain ⟨c9,da,cq,b0,ch⟩:=bh.parts;obtain rfl:=b0
   clear bh
   have bo:=D.trans ay
   clear ay
   go_wp2
   go_ret
   exact ⟨_,rfl,(bv.out.cast (by have:=HF.out;simpa using this)).wide rF,Z.trans (bo.mono bB9)⟩
 go_wp2
 go_ret
 exact ⟨_,rfl,(L.out.cast (by have:=HF.out;simpa using this)).wide rF,Z.trans (D.mono bB9)⟩
end Go.Proofs.YtonmjkmaadgceaaGreat

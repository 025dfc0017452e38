/-
  A requester put in its place.
-/
import Derived.Test.YtonmjkmaadgceabGreatPend
set_option linter.unusedVariables false
set_option linter.unusedSimpArgs false
set_option linter.unnecessarySimpa false
set_option maxRecDepth 100000
set_option maxHeartbeats 4000000
open Bool renaming true->Tt,false->Ff
open Bool renaming noConfusion->Aa
open List renaming findIdx?_eq_some_iff_getElem->Ab,length_filter_le->Ae,findIdx?_cons->Ag,foldl_append->Ah
open True renaming intro->Ac
open _root_ renaming List->Ad
namespace Go.Proofs.YtonmjkmaadgceabGreat
open Go.RowKit _root_.Go.Proofs.Tryz
def yz (f:Int) (l:Ad kW):Ad kW:=l.filter (λr=>!(r.1==f))
def kOp (a:kW) (l:Ad kW):Ad kW :=
  match (yz a.1 l).findIdx? (λr=>decide (a.1<=r.1)) with
  | none=>yz a.1 l++[a]
  | some i=>(yz a.1 l).take i++a :: (yz a.1 l).drop i
def kEd (a:kW) (s:Ad kW × Bool) (r:kW):Ad kW × Bool :=
  let s1:=if !s.2 && decide (a.1 < r.1) then (s.1++[a],true) else s
  if r.1=a.1 then s1 else (s1.1++[r],s1.2)
def kJx (a:kW) (l:Ad kW) (k:Nat):Ad kW × Bool:=(l.take k).foldl (kEd a) ([],false)
theorem putK_next {a:kW} {l:Ad kW} {k:Nat} (h:k < l.length):kJx a l (k + 1)=kEd a (kJx a l k) l[k]:=by
 unfold kJx;rw [List.take_succ_eq_append_getElem h,Ah];rfl
def putM (a:kW) (l:Ad kW):Ad kW × Bool :=
  match (yz a.1 l).findIdx? (λr=>decide (a.1<=r.1)) with
  | none=>(yz a.1 l,false)
  | some i=>((yz a.1 l).take i++a :: (yz a.1 l).drop i,true)
theorem putM_snoc (a:kW) (l:Ad kW) (r:kW):putM a (l++[r])=kEd a (putM a l) r:=by
 have hf:yz a.1 (l++[r])=if r.1=a.1 then yz a.1 l else yz a.1 l++[r]:=by
  unfold yz;rw [List.filter_append];by_cases h:r.1=a.1 <;> simp [h]
 unfold putM kEd;rw [hf];generalize yz a.1 l=O;by_cases h:r.1=a.1
 · rw [if_pos h,if_pos h];have hlt:¬ a.1 < r.1:=bC9;cases hq:O.findIdx? (λr=>decide (a.1<=r.1)) <;> simp [hlt]
 rw [if_neg h,if_neg h];rw [List.findIdx?_append];cases hq:O.findIdx? (λr=>decide (a.1<=r.1)) with
 | none =>
   by_cases hlt:a.1 < r.1
   · have ax:a.1<=r.1:=bC9;simp [hlt,ax,Ag]
   · have ax:¬ a.1<=r.1:=bC9;simp [hlt,ax,Ag]
 | some i =>
   obtain ⟨hi,_⟩:=Ab.1 hq;simp [List.take_append_of_le_length (Nat.le_of_lt hi),List.drop_append_of_le_length (Nat.le_of_lt hi)]
theorem kVr (a:kW) (l:Ad kW):l.foldl (kEd a) ([],false)=putM a l:=by
 have h:∀ n,∀ l:Ad kW,l.length=n->l.foldl (kEd a) ([],false)=putM a l:=by
  intro n;induction n with
  | zero=>intro l hl;rw [List.length_eq_zero_iff.1 hl];rfl
  | succ n ih =>
    intro l hl;obtain ⟨o,r,rfl⟩:∃ o r,l=o++[r]:=⟨l.dropLast,l.getLast (by intro q;rw [q] at hl;simp at hl),(List.dropLast_concat_getLast _).symm⟩;rw [Ah,ih o wR,putM_snoc];rfl
 exact h _ l rfl
theorem putK_all {a:kW} {l:Ad kW} {k:Nat} (h:¬ k < l.length):(if (kJx a l k).2 then (kJx a l k).1 else (kJx a l k).1++[a])=kOp a l:=by
 unfold kJx;rw [List.take_of_length_le bC9,kVr];unfold putM kOp;cases (yz a.1 l).findIdx? (λr=>decide (a.1<=r.1)) <;> simp
theorem putK_len {a:kW} {l:Ad kW} (k:Nat):(kJx a l k).1.length<=l.length + 1:=by
 unfold kJx;rw [kVr];have h:(yz a.1 (l.take k)).length<=l.length:=Nat.le_trans (Ae _ _) rV;unfold putM;cases hq:(yz a.1 (l.take k)).findIdx? (λr=>decide (a.1<=r.1)) with
 | none=>simp;omega
 | some i=>simp;omega
theorem putR_len (a:kW) (l:Ad kW):(kOp a l).length<=l.length + 1:=by
 have h:(yz a.1 l).length<=l.length:=Ae _ _;unfold kOp;cases hq:(yz a.1 l).findIdx? (λr=>decide (a.1<=r.1)) with
 | none=>simp;omega
 | some i=>simp;omega
theorem putR_idx (a:kW) (l:Ad kW):∃ i,i<=(yz a.1 l).length/\kOp a l=(yz a.1 l).take i++a :: (yz a.1 l).drop i/\((idxOf (λr=>decide (a.1<=r.1)) (yz a.1 l)=-1/\i=(yz a.1 l).length)\/idxOf (λr=>decide (a.1<=r.1)) (yz a.1 l)=(i:Int)):=by
 unfold kOp idxOf;cases hq:(yz a.1 l).findIdx? (λr=>decide (a.1<=r.1)) with
 | none=>exact ⟨_,Nat.le_refl _,by simp,.inl ⟨rfl,rfl⟩⟩
 | some i =>
   obtain ⟨hi,_⟩:=Ab.1 hq;exact ⟨i,Nat.le_of_lt hi,rfl,.inr rfl⟩
theorem kZm {w:World} {vl:Value} {l:Ad kW} (hl:(kD.slice 45 jA).rd w [vl] l) {f n x:Int} (hf:Qi f) (hn:Qi n) (hx:Qi x) :
    Calls prog 172 #[vl,.agg #[Qn f,Qn n,Qn x]] w (kBs 45 jA (kOp (f,n,x) l) w):=by
 have HL:=yD hl
 obtain ⟨la,lp,rfl,ll⟩:=kD.sl hl.1
 have a5:l.length<=16777216:=hl.2.1
 have HA:Hid (∀ W,jA.own W [Qn f,Qn n,Qn x] (f,n,x) (λ_=>False)):=yD (λW=>kD.flat.own (kD.yC (kD.jB hf) (kD.yC (kD.jB hn) (kD.jB hx))))
 clear hl hf hn hx
 go_enter func172,ntmps172
 go_upto_region 3 with fail
 generalize D:World.alloc (World.alloc w _) _=N
 have EB:Qb w N:=by rw [<- D];exact bF
 have ao:Qd N w 0 (.int .i64 f):=tK
 have ah:Qd N w 1 (.int .i64 n):=tK
 have aj:Qd N w 2 (.int .i64 x):=tK
 have bu:N.heap.size=w.heap.size + 2:=bB2
 have O0:Hid (kD.kR 45 jA N (.slice (some ⟨w.heap.size + 1,0,none⟩) 0 0) [] (jX (w.heap.size + 1) N.heap.size)):=yD kD.kR.void
 clear D
 go_wp2
 go_loopw [5,6,7] (λv d i wr=>∃ k:Nat,k<=l.length/\i=.int .i64 k/\d=.bool (kJx (f,n,x) l k).2/\Hid (kD.kR 45 jA wr v (kJx (f,n,x) l k).1 (jX (w.heap.size + 1) wr.heap.size))/\Below (w.heap.size + 1) N wr) (λ_ _ i _=>l.length - (intOf i).toNat)
 case atStart=>exact ⟨0,Nat.zero_le _,rfl,rfl,O0,bR⟩
 obtain ⟨k,hk,rfl,rfl,J,o⟩:=hrel
 obtain ⟨oa,on,oc,ho,bb⟩:=J.out.parts;obtain rfl:=ho
 have ax:=putK_len (a:=(f,n,x)) (l:=l) k
 have dt:=o.size
 by_cases hlt:k < l.length
 · obtain ⟨ba,H,rfl,c0,c1,c2,hr,C0,C1,C2⟩:=kD.zg HL.out.1 hlt rfl;obtain ⟨he,bj,ai,bd⟩:=yG hr;simp only [List.cons.injEq,and_true] at he;obtain ⟨rfl,rfl,rfl⟩:=he;have HX:=yD (λW=>kD.flat.own (w:=W) (S:=λ_=>False) (kD.yC (kD.jB bj) (kD.yC (kD.jB ai) (kD.jB bd))));have L:=yD (putK_next (a:=(f,n,x)) hlt);clear hr bj ai bd;generalize l[k]=y at *;obtain ⟨y0,y1,y2⟩:=y;simp only at C0 C1 C2;generalize kJx (f,n,x) l k=s at *;obtain ⟨s1,s2⟩:=s;replace J:Hid (kD.kR 45 jA wr (.slice oa on oc) s1 (jX (w.heap.size + 1) wr.heap.size)):=J;replace bb:Hid (on=s1.length):=bb;replace ax:s1.length<=l.length + 1:=ax;have bt:(0:Int)<=k:=bC9;have bx:(k:Int) < l.length:=bC9;cases s2
   · by_cases hg:f < y0
     · have hne:¬ (y0=f):=bC9;have am:Hid (kJx (f,n,x) l (k + 1)=(s1++[(f,n,x)]++[(y0,y1,y2)],true)):=yD pU;obtain ⟨A0,A1,A2,Y,B0,B1,U⟩:=xJ;go_upto_region 6 with fail;refine kM (λW=>Qb wr W) [Tt,Tt,Tt,Tt,Tt,Tt,Tt,Tt,Tt,Tt,Tt,Tt] bC3 bC3 pK (bR.drew) ?_;intro wS1 ae;iterate 2
        all_goals first|(refine kI rfl ae ?_)|(refine jC (v:=?_) rfl (λW hW=>?_) ?_;rotate_left;(· go_simp;try with_reducible rfl))
        all_goals refine jF ?_
       all_goals first|(refine kI rfl ae ?_;have al:=Ac)|(refine kFx (v:=?_) (b:=?_) rfl (λW hW=>?_) ?_ (λb al=>?_);rotate_left;rotate_left;(· go_simp;try with_reducible rfl);(· with_reducible rfl);cases b;all_goals first|(exact Aa al)|(simp only [zU,zV] at al) | skip)
       iterate 4
        all_goals refine jF ?_
        all_goals first|(refine kI rfl ae ?_)|(refine jC (v:=?_) rfl (λW hW=>?_) ?_;rotate_left;(· go_simp;try with_reducible rfl))
       iterate 2
        all_goals refine jF ?_
        all_goals first|(refine kI rfl ae ?_)|(refine jC (v:=?_) rfl (λW hW=>?_) ?_;rotate_left;(· have ap:=cL hW A0;have aq:=cL hW B0;clear hW;go_simp;try with_reducible rfl))
        all_goals refine jF ?_
        all_goals first|(refine kI rfl ae ?_)|(refine jC (v:=?_) rfl (λW hW=>?_) ?_;rotate_left;(· go_simp;try with_reducible rfl))
       all_goals refine jF ?_
       all_goals first|(refine kI rfl ae ?_)|(refine jC (v:=?_) rfl (λW hW=>?_) ?_;rotate_left;(· go_simp;try with_reducible rfl))
       all_goals refine jF ?_
       all_goals refine kS ?_
       have b7:Hid _:=yD ((J.out.below ae).wide (T:=jX (w.heap.size + 1) wS1.heap.size) (λj I=>⟨I.1,by have:=I.2;have:=ae.size;omega⟩));have ac:=o.trans (ae.mono vT);clear ae;have c8:=ac.size;clear A0 A1 A2 B0 B1 U Y;have A0:=(ac.cell (p:=⟨w.heap.size,0,none⟩) rY).trans ao;have A1:=(ac.cell (p:=⟨w.heap.size,1,none⟩) rY).trans ah;have A2:=(ac.cell (p:=⟨w.heap.size,2,none⟩) rY).trans aj;have Y:=EB.trans (ac.mono bC9);obtain ⟨B0,B1,U⟩:=D5;go_wp2_with (at_builtin;refine kD.jL rfl _ _ 41 rfl (r:=jA) (e:=45) underlying41 zo rfl bC8 bC8 (B:=w.heap.size + 1) b7.out bD1 bD1 rfl (HA.out _) rfl (λ_ _ h=>h) qU (λ_ h=>h.elim) bC9 bC9 ?_);intro v2 V Z ak a6;have R:=yD Z;obtain ⟨d4,dg,cl,b9,a3⟩:=Z.parts;obtain rfl:=b9;clear Z;have F:=ac.trans ak;clear ak;clear A0 A1 A2 B0 B1 U Y;have df:(s1++[(f,n,x)]).length<=l.length + 2:=bC4;have A0:=(F.cell (p:=⟨w.heap.size,0,none⟩) rY).trans ao;have A1:=(F.cell (p:=⟨w.heap.size,1,none⟩) rY).trans ah;have A2:=(F.cell (p:=⟨w.heap.size,2,none⟩) rY).trans aj;have Y:=EB.trans (F.mono bC9);obtain ⟨B0,B1,U⟩:=D5;go_upto_region 9 with fail;refine kM (λW=>Qb V W) [Tt,Tt,Tt,Tt,Tt,Tt,Tt,Tt] bC3 bC3 pK (bR.drew) ?_;intro az ad;iterate 4
        all_goals first|(refine kI rfl ad ?_)|(refine jC (v:=?_) rfl (λW hW=>?_) ?_;rotate_left;(· go_simp;try with_reducible rfl))
        all_goals refine jF ?_
       iterate 2
        all_goals first|(refine kI rfl ad ?_)|(refine jC (v:=?_) rfl (λW hW=>?_) ?_;rotate_left;(· have ap:=cL hW A0;have aq:=cL hW B0;clear hW;go_simp;try with_reducible rfl))
        all_goals refine jF ?_
        all_goals first|(refine kI rfl ad ?_)|(refine jC (v:=?_) rfl (λW hW=>?_) ?_;rotate_left;(· go_simp;try with_reducible rfl))
        all_goals refine jF ?_
       all_goals refine kS ?_
       have b8:Hid _:=yD ((R.out.below ad).wide (T:=jX (w.heap.size + 1) az.heap.size) (λj I=>⟨I.1,by have:=I.2;have:=ad.size;omega⟩));have af:=F.trans (ad.mono (by have:=F.size;omega));clear ad;have c7:=af.size;clear A0 A1 A2 B0 B1 U Y;have A0:=(af.cell (p:=⟨w.heap.size,0,none⟩) rY).trans ao;have A1:=(af.cell (p:=⟨w.heap.size,1,none⟩) rY).trans ah;have A2:=(af.cell (p:=⟨w.heap.size,2,none⟩) rY).trans aj;have Y:=EB.trans (af.mono bC9);obtain ⟨B0,B1,U⟩:=D5;go_wp2_with (at_builtin;refine kD.jL rfl _ _ 41 rfl (r:=jA) (e:=45) underlying41 zo rfl bC8 bC8 (B:=w.heap.size + 1) b8.out bD1 bD1 rfl (HX.out _) rfl (λ_ _ h=>h) qU (λ_ h=>h.elim) bC9 bC9 ?_);intro v4 w4 au an bw;have be:=yD au;obtain ⟨dl,dh,d6,cf,de⟩:=au.parts;obtain rfl:=cf;clear au;have bo:=af.trans an;clear an;clear A0 A1 A2 B0 B1 U Y;go_wp2;go_roundw;case rel=>exact ⟨k + 1,by omega,by go_num,by rw [am.out],yD (by rw [am.out];exact be.out.cast bD0),bo⟩
       simp [intOf];omega
     by_cases hne:y0=f
     · have am:Hid (kJx (f,n,x) l (k + 1)=(s1,false)):=yD pU;obtain ⟨A0,A1,A2,Y,B0,B1,U⟩:=xJ;go_upto_region 6 with fail;refine kM (λW=>Qb wr W) [Tt,Tt,Tt,Tt,Tt,Tt,Tt,Tt,Tt,Tt,Tt,Tt] bC3 bC3 pK (bR.drew) ?_;intro a4 aa;iterate 2
        all_goals first|(refine kI rfl aa ?_)|(refine jC (v:=?_) rfl (λW hW=>?_) ?_;rotate_left;(· go_simp;try with_reducible rfl))
        all_goals refine jF ?_
       all_goals first|(refine kI rfl aa ?_;have al:=Ac)|(refine kFx (v:=?_) (b:=?_) rfl (λW hW=>?_) ?_ (λb al=>?_);rotate_left;rotate_left;(· go_simp;try with_reducible rfl);(· with_reducible rfl);cases b;all_goals first|(exact Aa al)|(simp only [zU,zV] at al) | skip)
       iterate 4
        all_goals refine jF ?_
        all_goals first|(refine kI rfl aa ?_)|(refine jC (v:=?_) rfl (λW hW=>?_) ?_;rotate_left;(· go_simp;try with_reducible rfl))
       iterate 2
        all_goals refine jF ?_
        all_goals first|(refine kI rfl aa ?_)|(refine jC (v:=?_) rfl (λW hW=>?_) ?_;rotate_left;(· have ap:=cL hW A0;have aq:=cL hW B0;clear hW;go_simp;try with_reducible rfl))
        all_goals refine jF ?_
        all_goals first|(refine kI rfl aa ?_)|(refine jC (v:=?_) rfl (λW hW=>?_) ?_;rotate_left;(· go_simp;try with_reducible rfl))
       all_goals refine jF ?_
       all_goals first|(refine kI rfl aa ?_)|(refine jC (v:=?_) rfl (λW hW=>?_) ?_;rotate_left;(· go_simp;try with_reducible rfl))
       all_goals refine jF ?_
       all_goals refine kS ?_
       have bh:Hid _:=yD ((J.out.below aa).wide (T:=jX (w.heap.size + 1) a4.heap.size) mQ);have G:=o.trans (aa.mono vT);clear aa;have cd:=G.size;clear A0 A1 A2 B0 B1 U Y;obtain ⟨A0,A1,A2,Y⟩:=FC;obtain ⟨B0,B1,U⟩:=D5;go_upto_region 9 with fail;refine kM (λW=>Qb a4 W) [Tt,Tt,Tt,Tt,Tt,Tt,Tt,Tt] bC3 bC3 pK (bR.drew) ?_;intro ck a2;iterate 4
        all_goals first|(refine kI rfl a2 ?_)|(refine jC (v:=?_) rfl (λW hW=>?_) ?_;rotate_left;(· go_simp;try with_reducible rfl))
        all_goals refine jF ?_
       iterate 2
        all_goals first|(refine kI rfl a2 ?_)|(refine jC (v:=?_) rfl (λW hW=>?_) ?_;rotate_left;(· have ap:=cL hW A0;have aq:=cL hW B0;clear hW;go_simp;try with_reducible rfl))
        all_goals refine jF ?_
        all_goals first|(refine kI rfl a2 ?_)|(refine jC (v:=?_) rfl (λW hW=>?_) ?_;rotate_left;(· go_simp;try with_reducible rfl))
        all_goals refine jF ?_
       all_goals refine kS ?_
       have ca:Hid _:=yD ((bh.out.below a2).wide (T:=jX (w.heap.size + 1) ck.heap.size) (λj I=>⟨I.1,by have:=I.2;have:=a2.size;omega⟩));have a7:=G.trans (a2.mono (by have:=G.size;omega));clear a2;have c6:=a7.size;clear A0 A1 A2 B0 B1 U Y;go_wp2;go_roundw;case rel=>exact ⟨k + 1,by omega,by go_num,by rw [am.out],yD (by rw [am.out];exact ca.out.cast bD0),a7⟩
       simp [intOf];omega
     have am:Hid (kJx (f,n,x) l (k + 1)=(s1++[(y0,y1,y2)],false)):=yD pU;obtain ⟨A0,A1,A2,Y,B0,B1,U⟩:=xJ;go_upto_region 6 with fail;refine kM (λW=>Qb wr W) [Tt,Tt,Tt,Tt,Tt,Tt,Tt,Tt,Tt,Tt,Tt,Tt] bC3 bC3 pK (bR.drew) ?_;intro a4 aa;iterate 2
      all_goals first|(refine kI rfl aa ?_)|(refine jC (v:=?_) rfl (λW hW=>?_) ?_;rotate_left;(· go_simp;try with_reducible rfl))
      all_goals refine jF ?_
     all_goals first|(refine kI rfl aa ?_;have al:=Ac)|(refine kFx (v:=?_) (b:=?_) rfl (λW hW=>?_) ?_ (λb al=>?_);rotate_left;rotate_left;(· go_simp;try with_reducible rfl);(· with_reducible rfl);cases b;all_goals first|(exact Aa al)|(simp only [zU,zV] at al) | skip)
     iterate 4
      all_goals refine jF ?_
      all_goals first|(refine kI rfl aa ?_)|(refine jC (v:=?_) rfl (λW hW=>?_) ?_;rotate_left;(· go_simp;try with_reducible rfl))
     iterate 2
      all_goals refine jF ?_
      all_goals first|(refine kI rfl aa ?_)|(refine jC (v:=?_) rfl (λW hW=>?_) ?_;rotate_left;(· have ap:=cL hW A0;have aq:=cL hW B0;clear hW;go_simp;try with_reducible rfl))
      all_goals refine jF ?_
      all_goals first|(refine kI rfl aa ?_)|(refine jC (v:=?_) rfl (λW hW=>?_) ?_;rotate_left;(· go_simp;try with_reducible rfl))
     all_goals refine jF ?_
     all_goals first|(refine kI rfl aa ?_)|(refine jC (v:=?_) rfl (λW hW=>?_) ?_;rotate_left;(· go_simp;try with_reducible rfl))
     all_goals refine jF ?_
     all_goals refine kS ?_
     have bh:Hid _:=yD ((J.out.below aa).wide (T:=jX (w.heap.size + 1) a4.heap.size) mQ);have G:=o.trans (aa.mono vT);clear aa;have cd:=G.size;clear A0 A1 A2 B0 B1 U Y;obtain ⟨A0,A1,A2,Y⟩:=FC;obtain ⟨B0,B1,U⟩:=D5;go_upto_region 9 with fail;refine kM (λW=>Qb a4 W) [Tt,Tt,Tt,Tt,Tt,Tt,Tt,Tt] bC3 bC3 pK (bR.drew) ?_;intro cq ar;iterate 4
      all_goals first|(refine kI rfl ar ?_)|(refine jC (v:=?_) rfl (λW hW=>?_) ?_;rotate_left;(· go_simp;try with_reducible rfl))
      all_goals refine jF ?_
     iterate 2
      all_goals first|(refine kI rfl ar ?_)|(refine jC (v:=?_) rfl (λW hW=>?_) ?_;rotate_left;(· have ap:=cL hW A0;have aq:=cL hW B0;clear hW;go_simp;try with_reducible rfl))
      all_goals refine jF ?_
      all_goals first|(refine kI rfl ar ?_)|(refine jC (v:=?_) rfl (λW hW=>?_) ?_;rotate_left;(· go_simp;try with_reducible rfl))
      all_goals refine jF ?_
     all_goals refine kS ?_
     have b0:Hid _:=yD ((bh.out.below ar).wide (T:=jX (w.heap.size + 1) cq.heap.size) mR);have ab:=G.trans (ar.mono (by have:=G.size;omega));clear ar;have c3:=ab.size;clear A0 A1 A2 B0 B1 U Y;have A0:=(ab.cell (p:=⟨w.heap.size,0,none⟩) rY).trans ao;have A1:=(ab.cell (p:=⟨w.heap.size,1,none⟩) rY).trans ah;have A2:=(ab.cell (p:=⟨w.heap.size,2,none⟩) rY).trans aj;have Y:=EB.trans (ab.mono bC9);obtain ⟨B0,B1,U⟩:=D5;go_wp2_with (at_builtin;refine kD.jL rfl _ _ 41 rfl (r:=jA) (e:=45) underlying41 zo rfl bC8 bC8 (B:=w.heap.size + 1) b0.out bD1 bD1 rfl (HX.out _) rfl (λ_ _ h=>h) qU (λ_ h=>h.elim) bC9 bC9 ?_);intro v8 w8 bm ay cc;have bp:=yD bm;obtain ⟨di,dj,dk,ce,c4⟩:=bm.parts;obtain rfl:=ce;clear bm;have bn:=ab.trans ay;clear ay;clear A0 A1 A2 B0 B1 U Y;go_wp2;go_roundw;case rel=>exact ⟨k + 1,by omega,by go_num,by rw [am.out],yD (by rw [am.out];exact bp.out.cast bD0),bn⟩
     simp [intOf];omega
   by_cases hne:y0=f
   · have am:Hid (kJx (f,n,x) l (k + 1)=(s1,true)):=yD (by rw [L.out];unfold kEd;simp [hne]);obtain ⟨A0,A1,A2,Y,B0,B1,U⟩:=xJ;go_upto_region 6 with fail;refine kM (λW=>Qb wr W) [Tt,Tt,Tt,Tt,Tt,Tt,Tt,Tt,Tt,Tt,Tt,Tt] bC3 bC3 pK (bR.drew) ?_;intro O b2;iterate 2
      all_goals first|(refine kI rfl b2 ?_)|(refine jC (v:=?_) rfl (λW hW=>?_) ?_;rotate_left;(· go_simp;try with_reducible rfl))
      all_goals refine jF ?_
     all_goals first|(refine kI rfl b2 ?_;have al:=Ac)|(refine kFx (v:=?_) (b:=?_) rfl (λW hW=>?_) ?_ (λb al=>?_);rotate_left;rotate_left;(· go_simp;try with_reducible rfl);(· with_reducible rfl);cases b;all_goals first|(exact Aa al)|(simp only [zU,zV] at al) | skip)
     iterate 4
      all_goals refine jF ?_
      all_goals first|(refine kI rfl b2 ?_)|(refine jC (v:=?_) rfl (λW hW=>?_) ?_;rotate_left;(· go_simp;try with_reducible rfl))
     iterate 2
      all_goals refine jF ?_
      all_goals first|(refine kI rfl b2 ?_)|(refine jC (v:=?_) rfl (λW hW=>?_) ?_;rotate_left;(· have ap:=cL hW A0;have aq:=cL hW B0;clear hW;go_simp;try with_reducible rfl))
      all_goals refine jF ?_
      all_goals first|(refine kI rfl b2 ?_)|(refine jC (v:=?_) rfl (λW hW=>?_) ?_;rotate_left;(· go_simp;try with_reducible rfl))
     all_goals refine jF ?_
     all_goals first|(refine kI rfl b2 ?_)|(refine jC (v:=?_) rfl (λW hW=>?_) ?_;rotate_left;(· go_simp;try with_reducible rfl))
     all_goals refine jF ?_
     all_goals refine kS ?_
     have bc:Hid _:=yD ((J.out.below b2).wide (T:=jX (w.heap.size + 1) O.heap.size) mU);have E:=o.trans (b2.mono vT);clear b2;have b3:=E.size;clear A0 A1 A2 B0 B1 U Y;obtain ⟨A0,A1,A2,Y⟩:=FD;obtain ⟨B0,B1,U⟩:=D5;go_upto_region 9 with fail;refine kM (λW=>Qb O W) [Tt,Tt,Tt,Tt,Tt,Tt,Tt,Tt] bC3 bC3 pK (bR.drew) ?_;intro bz aw;iterate 4
      all_goals first|(refine kI rfl aw ?_)|(refine jC (v:=?_) rfl (λW hW=>?_) ?_;rotate_left;(· go_simp;try with_reducible rfl))
      all_goals refine jF ?_
     iterate 2
      all_goals first|(refine kI rfl aw ?_)|(refine jC (v:=?_) rfl (λW hW=>?_) ?_;rotate_left;(· have ap:=cL hW A0;have aq:=cL hW B0;clear hW;go_simp;try with_reducible rfl))
      all_goals refine jF ?_
      all_goals first|(refine kI rfl aw ?_)|(refine jC (v:=?_) rfl (λW hW=>?_) ?_;rotate_left;(· go_simp;try with_reducible rfl))
      all_goals refine jF ?_
     all_goals refine kS ?_
     have br:Hid _:=yD ((bc.out.below aw).wide (T:=jX (w.heap.size + 1) bz.heap.size) (λj I=>⟨I.1,by have:=I.2;have:=aw.size;omega⟩));have a1:=E.trans (aw.mono (by have:=E.size;omega));clear aw;have cm:=a1.size;clear A0 A1 A2 B0 B1 U Y;go_wp2;go_roundw;case rel=>exact ⟨k + 1,by omega,by go_num,by rw [am.out],yD (by rw [am.out];exact br.out.cast bD0),a1⟩
     simp [intOf];omega
   have am:Hid (kJx (f,n,x) l (k + 1)=(s1++[(y0,y1,y2)],true)):=yD (by rw [L.out];unfold kEd;simp [hne]);obtain ⟨A0,A1,A2,Y,B0,B1,U⟩:=xJ;go_upto_region 6 with fail;refine kM (λW=>Qb wr W) [Tt,Tt,Tt,Tt,Tt,Tt,Tt,Tt,Tt,Tt,Tt,Tt] bC3 bC3 pK (bR.drew) ?_;intro O b2;iterate 2
    all_goals first|(refine kI rfl b2 ?_)|(refine jC (v:=?_) rfl (λW hW=>?_) ?_;rotate_left;(· go_simp;try with_reducible rfl))
    all_goals refine jF ?_
   all_goals first|(refine kI rfl b2 ?_;have al:=Ac)|(refine kFx (v:=?_) (b:=?_) rfl (λW hW=>?_) ?_ (λb al=>?_);rotate_left;rotate_left;(· go_simp;try with_reducible rfl);(· with_reducible rfl);cases b;all_goals first|(exact Aa al)|(simp only [zU,zV] at al) | skip)
   iterate 4
    all_goals refine jF ?_
    all_goals first|(refine kI rfl b2 ?_)|(refine jC (v:=?_) rfl (λW hW=>?_) ?_;rotate_left;(· go_simp;try with_reducible rfl))
   iterate 2
    all_goals refine jF ?_
    all_goals first|(refine kI rfl b2 ?_)|(refine jC (v:=?_) rfl (λW hW=>?_) ?_;rotate_left;(· have ap:=cL hW A0;have aq:=cL hW B0;clear hW;go_simp;try with_reducible rfl))
    all_goals refine jF ?_
    all_goals first|(refine kI rfl b2 ?_)|(refine jC (v:=?_) rfl (λW hW=>?_) ?_;rotate_left;(· go_simp;try with_reducible rfl))
   all_goals refine jF ?_
   all_goals first|(refine kI rfl b2 ?_)|(refine jC (v:=?_) rfl (λW hW=>?_) ?_;rotate_left;(· go_simp;try with_reducible rfl))
   all_goals refine jF ?_
   all_goals refine kS ?_
   have bc:Hid _:=yD ((J.out.below b2).wide (T:=jX (w.heap.size + 1) O.heap.size) mU);have E:=o.trans (b2.mono vT);clear b2;have b3:=E.size;clear A0 A1 A2 B0 B1 U Y;obtain ⟨A0,A1,A2,Y⟩:=FD;obtain ⟨B0,B1,U⟩:=D5;go_upto_region 9 with fail;refine kM (λW=>Qb O W) [Tt,Tt,Tt,Tt,Tt,Tt,Tt,Tt] bC3 bC3 pK (bR.drew) ?_;intro b6 av;iterate 4
    all_goals first|(refine kI rfl av ?_)|(refine jC (v:=?_) rfl (λW hW=>?_) ?_;rotate_left;(· go_simp;try with_reducible rfl))
    all_goals refine jF ?_
   iterate 2
    all_goals first|(refine kI rfl av ?_)|(refine jC (v:=?_) rfl (λW hW=>?_) ?_;rotate_left;(· have ap:=cL hW A0;have aq:=cL hW B0;clear hW;go_simp;try with_reducible rfl))
    all_goals refine jF ?_
    all_goals first|(refine kI rfl av ?_)|(refine jC (v:=?_) rfl (λW hW=>?_) ?_;rotate_left;(· go_simp;try with_reducible rfl))
    all_goals refine jF ?_
   all_goals refine kS ?_
   have bq:Hid _:=yD ((bc.out.below av).wide (T:=jX (w.heap.size + 1) b6.heap.size) (λj I=>⟨I.1,by have:=I.2;have:=av.size;omega⟩));have X:=E.trans (av.mono (by have:=E.size;omega));clear av;have cg:=X.size;clear A0 A1 A2 B0 B1 U Y;have A0:=(X.cell (p:=⟨w.heap.size,0,none⟩) rY).trans ao;have A1:=(X.cell (p:=⟨w.heap.size,1,none⟩) rY).trans ah;have A2:=(X.cell (p:=⟨w.heap.size,2,none⟩) rY).trans aj;have Y:=EB.trans (X.mono bC9);obtain ⟨B0,B1,U⟩:=D5;go_wp2_with (at_builtin;refine kD.jL rfl _ _ 41 rfl (r:=jA) (e:=45) underlying41 zo rfl bC8 bC8 (B:=w.heap.size + 1) bq.out bD1 bD1 rfl (HX.out _) rfl (λ_ _ h=>h) qU (λ_ h=>h.elim) bC9 bC9 ?_);intro a8 cv bg bl db;have b4:=yD bg;obtain ⟨da,cw,c9,b5,co⟩:=bg.parts;obtain rfl:=b5;clear bg;have bi:=X.trans bl;clear bl;clear A0 A1 A2 B0 B1 U Y;go_wp2;go_roundw;case rel=>exact ⟨k + 1,by omega,by go_num,by rw [am.out],yD (by rw [am.out];exact b4.out.cast bD0),bi⟩
   simp [intOf];omega
 have HF:=yD (putK_all (a:=(f,n,x)) hlt)
 generalize kJx (f,n,x) l k=s at *
 obtain ⟨s1,s2⟩:=s
 replace J:Hid (kD.kR 45 jA wr (.slice oa on oc) s1 (jX (w.heap.size + 1) wr.heap.size)):=J
 replace ax:s1.length<=l.length + 1:=ax
 cases s2
 · have A0:=(o.cell (p:=⟨w.heap.size,0,none⟩) rY).trans ao;have A1:=(o.cell (p:=⟨w.heap.size,1,none⟩) rY).trans ah;have A2:=(o.cell (p:=⟨w.heap.size,2,none⟩) rY).trans aj;have Y:=EB.trans (o.mono bC9);go_wp2_with (at_builtin;refine kD.jL rfl _ _ 41 rfl (r:=jA) (e:=45) underlying41 zo rfl bC8 bC8 (B:=w.heap.size + 1) J.out bD1 bD1 rfl (HA.out _) rfl (λ_ _ h=>h) qU (λ_ h=>h.elim) bC9 bC9 ?_);intro a9 dn bf ag c5;have bv:=yD bf;obtain ⟨dc,dd,cz,b1,ch⟩:=bf.parts;obtain rfl:=b1;clear bf;have bk:=o.trans ag;clear ag;go_wp2;go_ret;exact ⟨_,rfl,(bv.out.cast (by have:=HF.out;simpa using this)).wide qV,EB.trans (bk.mono bC9)⟩
 go_wp2
 go_ret
 exact ⟨_,rfl,(J.out.cast (by have:=HF.out;simpa using this)).wide qV,EB.trans (o.mono bC9)⟩
end Go.Proofs.YtonmjkmaadgceabGreat

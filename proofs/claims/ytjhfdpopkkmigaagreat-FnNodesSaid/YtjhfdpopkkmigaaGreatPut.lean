/-
  A requester put in its place.
-/
import Derived.Test.YtjhfdpopkkmigaaGreatPend
set_option linter.unusedVariables false
set_option linter.unusedSimpArgs false
set_option linter.unnecessarySimpa false
set_option maxRecDepth 100000
set_option maxHeartbeats 4000000
open Bool renaming true->Tt,false->Ff
open Bool renaming noConfusion->Aa
open List renaming findIdx?_eq_some_iff_getElem->Ab,length_filter_le->Ae,findIdx?_cons->Ag,foldl_append->Ah
open True renaming intro->Ac
open _root_ renaming List->Ad
namespace Go.Proofs.YtjhfdpopkkmigaaGreat
open Go.RowKit _root_.Go.Proofs.Tryz
def zI (f:Int) (l:Ad jA):Ad jA:=l.filter (λr=>!(r.1==f))
def kOv (a:jA) (l:Ad jA):Ad jA :=
  match (zI a.1 l).findIdx? (λr=>decide (a.1<=r.1)) with
  | none=>zI a.1 l++[a]
  | some i=>(zI a.1 l).take i++a :: (zI a.1 l).drop i
def kEc (a:jA) (s:Ad jA × Bool) (r:jA):Ad jA × Bool :=
  let s1:=if !s.2 && decide (a.1 < r.1) then (s.1++[a],true) else s
  if r.1=a.1 then s1 else (s1.1++[r],s1.2)
def kJz (a:jA) (l:Ad jA) (k:Nat):Ad jA × Bool:=(l.take k).foldl (kEc a) ([],false)
theorem putK_next {a:jA} {l:Ad jA} {k:Nat} (h:k < l.length):kJz a l (k + 1)=kEc a (kJz a l k) l[k]:=by
 unfold kJz;rw [List.take_succ_eq_append_getElem h,Ah];rfl
def putM (a:jA) (l:Ad jA):Ad jA × Bool :=
  match (zI a.1 l).findIdx? (λr=>decide (a.1<=r.1)) with
  | none=>(zI a.1 l,false)
  | some i=>((zI a.1 l).take i++a :: (zI a.1 l).drop i,true)
theorem putM_snoc (a:jA) (l:Ad jA) (r:jA):putM a (l++[r])=kEc a (putM a l) r:=by
 have hf:zI a.1 (l++[r])=if r.1=a.1 then zI a.1 l else zI a.1 l++[r]:=by
  unfold zI;rw [List.filter_append];by_cases h:r.1=a.1 <;> simp [h]
 unfold putM kEc;rw [hf];generalize zI a.1 l=O;by_cases h:r.1=a.1
 · rw [if_pos h,if_pos h];have hlt:¬ a.1 < r.1:=bD1;cases hq:O.findIdx? (λr=>decide (a.1<=r.1)) <;> simp [hlt]
 rw [if_neg h,if_neg h];rw [List.findIdx?_append];cases hq:O.findIdx? (λr=>decide (a.1<=r.1)) with
 | none =>
   by_cases hlt:a.1 < r.1
   · have a4:a.1<=r.1:=bD1;simp [hlt,a4,Ag]
   · have a4:¬ a.1<=r.1:=bD1;simp [hlt,a4,Ag]
 | some i =>
   obtain ⟨hi,_⟩:=Ab.1 hq;simp [List.take_append_of_le_length (Nat.le_of_lt hi),List.drop_append_of_le_length (Nat.le_of_lt hi)]
theorem kWi (a:jA) (l:Ad jA):l.foldl (kEc a) ([],false)=putM a l:=by
 have h:∀ n,∀ l:Ad jA,l.length=n->l.foldl (kEc a) ([],false)=putM a l:=by
  intro n;induction n with
  | zero=>intro l hl;rw [List.length_eq_zero_iff.1 hl];rfl
  | succ n ih =>
    intro l hl;obtain ⟨o,r,rfl⟩:∃ o r,l=o++[r]:=⟨l.dropLast,l.getLast (by intro q;rw [q] at hl;simp at hl),(List.dropLast_concat_getLast _).symm⟩;rw [Ah,ih o wY,putM_snoc];rfl
 exact h _ l rfl
theorem putK_all {a:jA} {l:Ad jA} {k:Nat} (h:¬ k < l.length):(if (kJz a l k).2 then (kJz a l k).1 else (kJz a l k).1++[a])=kOv a l:=by
 unfold kJz;rw [List.take_of_length_le bD1,kWi];unfold putM kOv;cases (zI a.1 l).findIdx? (λr=>decide (a.1<=r.1)) <;> simp
theorem putK_len {a:jA} {l:Ad jA} (k:Nat):(kJz a l k).1.length<=l.length + 1:=by
 unfold kJz;rw [kWi];have h:(zI a.1 (l.take k)).length<=l.length:=Nat.le_trans (Ae _ _) sI;unfold putM;cases hq:(zI a.1 (l.take k)).findIdx? (λr=>decide (a.1<=r.1)) with
 | none=>simp;omega
 | some i=>simp;omega
theorem putR_len (a:jA) (l:Ad jA):(kOv a l).length<=l.length + 1:=by
 have h:(zI a.1 l).length<=l.length:=Ae _ _;unfold kOv;cases hq:(zI a.1 l).findIdx? (λr=>decide (a.1<=r.1)) with
 | none=>simp;omega
 | some i=>simp;omega
theorem putR_idx (a:jA) (l:Ad jA):∃ i,i<=(zI a.1 l).length/\kOv a l=(zI a.1 l).take i++a :: (zI a.1 l).drop i/\((idxOf (λr=>decide (a.1<=r.1)) (zI a.1 l)=-1/\i=(zI a.1 l).length)\/idxOf (λr=>decide (a.1<=r.1)) (zI a.1 l)=(i:Int)):=by
 unfold kOv idxOf;cases hq:(zI a.1 l).findIdx? (λr=>decide (a.1<=r.1)) with
 | none=>exact ⟨_,Nat.le_refl _,by simp,.inl ⟨rfl,rfl⟩⟩
 | some i =>
   obtain ⟨hi,_⟩:=Ab.1 hq;exact ⟨i,Nat.le_of_lt hi,rfl,.inr rfl⟩
theorem kZx {w:World} {vl:Value} {l:Ad jA} (hl:(kD.slice 147 jN).rd w [vl] l) {f n x:Int} (hf:Qi f) (hn:Qi n) (hx:Qi x) :
    Calls prog 205 #[vl,.agg #[Qn f,Qn n,Qn x]] w (kCl 147 jN (kOv (f,n,x) l) w):=by
 have HL:=yD hl
 obtain ⟨la,lp,rfl,ll⟩:=kD.sl hl.1
 have bc:l.length<=16777216:=hl.2.1
 have HA:Hid (∀ W,jN.own W [Qn f,Qn n,Qn x] (f,n,x) (λ_=>False)):=yD (λW=>kD.flat.own (kD.yJ (kD.jG hf) (kD.yJ (kD.jG hn) (kD.jG hx))))
 clear hl hf hn hx
 go_enter func205,ntmps205
 go_upto_region 3 with fail
 generalize J:World.alloc (World.alloc w _) _=N
 have R:Qb w N:=by rw [<- J];exact bG
 have am:Qd N w 0 (.int .i64 f):=tT
 have ak:Qd N w 1 (.int .i64 n):=tT
 have al:Qd N w 2 (.int .i64 x):=tT
 have bq:N.heap.size=w.heap.size + 2:=bB4
 have O0:Hid (kD.kU 147 jN N (.slice (some ⟨w.heap.size + 1,0,none⟩) 0 0) [] (jU (w.heap.size + 1) N.heap.size)):=yD kD.kU.void
 clear J
 go_wp2
 go_loopw [5,6,7] (λv d i wr=>∃ k:Nat,k<=l.length/\i=.int .i64 k/\d=.bool (kJz (f,n,x) l k).2/\Hid (kD.kU 147 jN wr v (kJz (f,n,x) l k).1 (jU (w.heap.size + 1) wr.heap.size))/\Below (w.heap.size + 1) N wr) (λ_ _ i _=>l.length - (intOf i).toNat)
 case atStart=>exact ⟨0,Nat.zero_le _,rfl,rfl,O0,bR⟩
 obtain ⟨k,hk,rfl,rfl,L,o⟩:=hrel
 obtain ⟨oa,on,oc,ho,bh⟩:=L.out.parts;obtain rfl:=ho
 have a4:=putK_len (a:=(f,n,x)) (l:=l) k
 have dp:=o.size
 by_cases hlt:k < l.length
 · obtain ⟨ba,H,rfl,c0,c1,c2,hr,C0,C1,C2⟩:=kD.zt HL.out.1 hlt rfl;obtain ⟨he,bl,ai,bf⟩:=yz hr;simp only [List.cons.injEq,and_true] at he;obtain ⟨rfl,rfl,rfl⟩:=he;have HX:=yD (λW=>kD.flat.own (w:=W) (S:=λ_=>False) (kD.yJ (kD.jG bl) (kD.yJ (kD.jG ai) (kD.jG bf))));have U:=yD (putK_next (a:=(f,n,x)) hlt);clear hr bl ai bf;generalize l[k]=y at *;obtain ⟨y0,y1,y2⟩:=y;simp only at C0 C1 C2;generalize kJz (f,n,x) l k=s at *;obtain ⟨s1,s2⟩:=s;replace L:Hid (kD.kU 147 jN wr (.slice oa on oc) s1 (jU (w.heap.size + 1) wr.heap.size)):=L;replace bh:Hid (on=s1.length):=bh;replace a4:s1.length<=l.length + 1:=a4;have bv:(0:Int)<=k:=bD1;have a3:(k:Int) < l.length:=bD1;cases s2
   · by_cases hg:f < y0
     · have hne:¬ (y0=f):=bD1;have F:Hid (kJz (f,n,x) l (k + 1)=(s1++[(f,n,x)]++[(y0,y1,y2)],true)):=yD qF;obtain ⟨A0,A1,A2,EW,Y,B1,B2⟩:=xJ;go_upto_region 6 with fail;refine kM (λW=>Qb wr W) [Tt,Tt,Tt,Tt,Tt,Tt,Tt,Tt,Tt,Tt,Tt,Tt] bC5 bC5 pY (bR.drew) ?_;intro wS1 aa;iterate 2
        all_goals first|(refine kG rfl aa ?_)|(refine kw (v:=?_) rfl (λW hW=>?_) ?_;rotate_left;(· go_simp;try with_reducible rfl))
        all_goals refine jD ?_
       all_goals first|(refine kG rfl aa ?_;have au:=Ac)|(refine kEm (v:=?_) (b:=?_) rfl (λW hW=>?_) ?_ (λb au=>?_);rotate_left;rotate_left;(· go_simp;try with_reducible rfl);(· with_reducible rfl);cases b;all_goals first|(exact Aa au)|(simp only [zU,zV] at au) | skip)
       iterate 4
        all_goals refine jD ?_
        all_goals first|(refine kG rfl aa ?_)|(refine kw (v:=?_) rfl (λW hW=>?_) ?_;rotate_left;(· go_simp;try with_reducible rfl))
       iterate 2
        all_goals refine jD ?_
        all_goals first|(refine kG rfl aa ?_)|(refine kw (v:=?_) rfl (λW hW=>?_) ?_;rotate_left;(· have an:=cL hW A0;have ao:=cL hW Y;clear hW;go_simp;try with_reducible rfl))
        all_goals refine jD ?_
        all_goals first|(refine kG rfl aa ?_)|(refine kw (v:=?_) rfl (λW hW=>?_) ?_;rotate_left;(· go_simp;try with_reducible rfl))
       all_goals refine jD ?_
       all_goals first|(refine kG rfl aa ?_)|(refine kw (v:=?_) rfl (λW hW=>?_) ?_;rotate_left;(· go_simp;try with_reducible rfl))
       all_goals refine jD ?_
       all_goals refine kR ?_
       have b7:Hid _:=yD ((L.out.below aa).wide (T:=jU (w.heap.size + 1) wS1.heap.size) (λj I=>⟨I.1,by have:=I.2;have:=aa.size;omega⟩));have ag:=o.trans (aa.mono vU);clear aa;have c7:=ag.size;clear A0 A1 A2 Y B1 B2 EW;have A0:=(ag.cell (p:=⟨w.heap.size,0,none⟩) sJ).trans am;have A1:=(ag.cell (p:=⟨w.heap.size,1,none⟩) sJ).trans ak;have A2:=(ag.cell (p:=⟨w.heap.size,2,none⟩) sJ).trans al;have EW:=R.trans (ag.mono bD1);obtain ⟨Y,B1,B2⟩:=DU;go_wp2_with (at_builtin;refine kD.jO rfl _ _ 143 rfl (r:=jN) (e:=147) underlying143 kBt rfl bD0 bD0 (B:=w.heap.size + 1) b7.out bD3 bD3 rfl (HA.out _) rfl (λ_ _ h=>h) rC (λ_ h=>h.elim) bD1 bD1 ?_);intro v2 V ad ab a7;have Z:=yD ad;obtain ⟨db,dh,ch,cf,a5⟩:=ad.parts;obtain rfl:=cf;clear ad;have G:=ag.trans ab;clear ab;clear A0 A1 A2 Y B1 B2 EW;have dg:(s1++[(f,n,x)]).length<=l.length + 2:=bC6;have A0:=(G.cell (p:=⟨w.heap.size,0,none⟩) sJ).trans am;have A1:=(G.cell (p:=⟨w.heap.size,1,none⟩) sJ).trans ak;have A2:=(G.cell (p:=⟨w.heap.size,2,none⟩) sJ).trans al;have EW:=R.trans (G.mono bD1);obtain ⟨Y,B1,B2⟩:=DU;go_upto_region 9 with fail;refine kM (λW=>Qb V W) [Tt,Tt,Tt,Tt,Tt,Tt,Tt,Tt] bC5 bC5 pY (bR.drew) ?_;intro aw ac;iterate 4
        all_goals first|(refine kG rfl ac ?_)|(refine kw (v:=?_) rfl (λW hW=>?_) ?_;rotate_left;(· go_simp;try with_reducible rfl))
        all_goals refine jD ?_
       iterate 2
        all_goals first|(refine kG rfl ac ?_)|(refine kw (v:=?_) rfl (λW hW=>?_) ?_;rotate_left;(· have an:=cL hW A0;have ao:=cL hW Y;clear hW;go_simp;try with_reducible rfl))
        all_goals refine jD ?_
        all_goals first|(refine kG rfl ac ?_)|(refine kw (v:=?_) rfl (λW hW=>?_) ?_;rotate_left;(· go_simp;try with_reducible rfl))
        all_goals refine jD ?_
       all_goals refine kR ?_
       have b8:Hid _:=yD ((Z.out.below ac).wide (T:=jU (w.heap.size + 1) aw.heap.size) (λj I=>⟨I.1,by have:=I.2;have:=ac.size;omega⟩));have ah:=G.trans (ac.mono (by have:=G.size;omega));clear ac;have c6:=ah.size;clear A0 A1 A2 Y B1 B2 EW;have A0:=(ah.cell (p:=⟨w.heap.size,0,none⟩) sJ).trans am;have A1:=(ah.cell (p:=⟨w.heap.size,1,none⟩) sJ).trans ak;have A2:=(ah.cell (p:=⟨w.heap.size,2,none⟩) sJ).trans al;have EW:=R.trans (ah.mono bD1);obtain ⟨Y,B1,B2⟩:=DU;go_wp2_with (at_builtin;refine kD.jO rfl _ _ 143 rfl (r:=jN) (e:=147) underlying143 kBt rfl bD0 bD0 (B:=w.heap.size + 1) b8.out bD3 bD3 rfl (HX.out _) rfl (λ_ _ h=>h) rC (λ_ h=>h.elim) bD1 bD1 ?_);intro v4 w4 aq aj b3;have bm:=yD aq;obtain ⟨dm,di,df,cd,de⟩:=aq.parts;obtain rfl:=cd;clear aq;have bp:=ah.trans aj;clear aj;clear A0 A1 A2 Y B1 B2 EW;go_wp2;go_roundw;case rel=>exact ⟨k + 1,by omega,by go_num,by rw [F.out],yD (by rw [F.out];exact bm.out.cast bD2),bp⟩
       simp [intOf];omega
     by_cases hne:y0=f
     · have F:Hid (kJz (f,n,x) l (k + 1)=(s1,false)):=yD qF;obtain ⟨A0,A1,A2,EW,Y,B1,B2⟩:=xJ;go_upto_region 6 with fail;refine kM (λW=>Qb wr W) [Tt,Tt,Tt,Tt,Tt,Tt,Tt,Tt,Tt,Tt,Tt,Tt] bC5 bC5 pY (bR.drew) ?_;intro a2 af;iterate 2
        all_goals first|(refine kG rfl af ?_)|(refine kw (v:=?_) rfl (λW hW=>?_) ?_;rotate_left;(· go_simp;try with_reducible rfl))
        all_goals refine jD ?_
       all_goals first|(refine kG rfl af ?_;have au:=Ac)|(refine kEm (v:=?_) (b:=?_) rfl (λW hW=>?_) ?_ (λb au=>?_);rotate_left;rotate_left;(· go_simp;try with_reducible rfl);(· with_reducible rfl);cases b;all_goals first|(exact Aa au)|(simp only [zU,zV] at au) | skip)
       iterate 4
        all_goals refine jD ?_
        all_goals first|(refine kG rfl af ?_)|(refine kw (v:=?_) rfl (λW hW=>?_) ?_;rotate_left;(· go_simp;try with_reducible rfl))
       iterate 2
        all_goals refine jD ?_
        all_goals first|(refine kG rfl af ?_)|(refine kw (v:=?_) rfl (λW hW=>?_) ?_;rotate_left;(· have an:=cL hW A0;have ao:=cL hW Y;clear hW;go_simp;try with_reducible rfl))
        all_goals refine jD ?_
        all_goals first|(refine kG rfl af ?_)|(refine kw (v:=?_) rfl (λW hW=>?_) ?_;rotate_left;(· go_simp;try with_reducible rfl))
       all_goals refine jD ?_
       all_goals first|(refine kG rfl af ?_)|(refine kw (v:=?_) rfl (λW hW=>?_) ?_;rotate_left;(· go_simp;try with_reducible rfl))
       all_goals refine jD ?_
       all_goals refine kR ?_
       have bg:Hid _:=yD ((L.out.below af).wide (T:=jU (w.heap.size + 1) a2.heap.size) nE);have E:=o.trans (af.mono vU);clear af;have ca:=E.size;clear A0 A1 A2 Y B1 B2 EW;obtain ⟨A0,A1,A2,EW⟩:=GA;obtain ⟨Y,B1,B2⟩:=DU;go_upto_region 9 with fail;refine kM (λW=>Qb a2 W) [Tt,Tt,Tt,Tt,Tt,Tt,Tt,Tt] bC5 bC5 pY (bR.drew) ?_;intro ck a1;iterate 4
        all_goals first|(refine kG rfl a1 ?_)|(refine kw (v:=?_) rfl (λW hW=>?_) ?_;rotate_left;(· go_simp;try with_reducible rfl))
        all_goals refine jD ?_
       iterate 2
        all_goals first|(refine kG rfl a1 ?_)|(refine kw (v:=?_) rfl (λW hW=>?_) ?_;rotate_left;(· have an:=cL hW A0;have ao:=cL hW Y;clear hW;go_simp;try with_reducible rfl))
        all_goals refine jD ?_
        all_goals first|(refine kG rfl a1 ?_)|(refine kw (v:=?_) rfl (λW hW=>?_) ?_;rotate_left;(· go_simp;try with_reducible rfl))
        all_goals refine jD ?_
       all_goals refine kR ?_
       have b9:Hid _:=yD ((bg.out.below a1).wide (T:=jU (w.heap.size + 1) ck.heap.size) (λj I=>⟨I.1,by have:=I.2;have:=a1.size;omega⟩));have a6:=E.trans (a1.mono (by have:=E.size;omega));clear a1;have c5:=a6.size;clear A0 A1 A2 Y B1 B2 EW;go_wp2;go_roundw;case rel=>exact ⟨k + 1,by omega,by go_num,by rw [F.out],yD (by rw [F.out];exact b9.out.cast bD2),a6⟩
       simp [intOf];omega
     have F:Hid (kJz (f,n,x) l (k + 1)=(s1++[(y0,y1,y2)],false)):=yD qF;obtain ⟨A0,A1,A2,EW,Y,B1,B2⟩:=xJ;go_upto_region 6 with fail;refine kM (λW=>Qb wr W) [Tt,Tt,Tt,Tt,Tt,Tt,Tt,Tt,Tt,Tt,Tt,Tt] bC5 bC5 pY (bR.drew) ?_;intro a2 af;iterate 2
      all_goals first|(refine kG rfl af ?_)|(refine kw (v:=?_) rfl (λW hW=>?_) ?_;rotate_left;(· go_simp;try with_reducible rfl))
      all_goals refine jD ?_
     all_goals first|(refine kG rfl af ?_;have au:=Ac)|(refine kEm (v:=?_) (b:=?_) rfl (λW hW=>?_) ?_ (λb au=>?_);rotate_left;rotate_left;(· go_simp;try with_reducible rfl);(· with_reducible rfl);cases b;all_goals first|(exact Aa au)|(simp only [zU,zV] at au) | skip)
     iterate 4
      all_goals refine jD ?_
      all_goals first|(refine kG rfl af ?_)|(refine kw (v:=?_) rfl (λW hW=>?_) ?_;rotate_left;(· go_simp;try with_reducible rfl))
     iterate 2
      all_goals refine jD ?_
      all_goals first|(refine kG rfl af ?_)|(refine kw (v:=?_) rfl (λW hW=>?_) ?_;rotate_left;(· have an:=cL hW A0;have ao:=cL hW Y;clear hW;go_simp;try with_reducible rfl))
      all_goals refine jD ?_
      all_goals first|(refine kG rfl af ?_)|(refine kw (v:=?_) rfl (λW hW=>?_) ?_;rotate_left;(· go_simp;try with_reducible rfl))
     all_goals refine jD ?_
     all_goals first|(refine kG rfl af ?_)|(refine kw (v:=?_) rfl (λW hW=>?_) ?_;rotate_left;(· go_simp;try with_reducible rfl))
     all_goals refine jD ?_
     all_goals refine kR ?_
     have bg:Hid _:=yD ((L.out.below af).wide (T:=jU (w.heap.size + 1) a2.heap.size) nE);have E:=o.trans (af.mono vU);clear af;have ca:=E.size;clear A0 A1 A2 Y B1 B2 EW;obtain ⟨A0,A1,A2,EW⟩:=GA;obtain ⟨Y,B1,B2⟩:=DU;go_upto_region 9 with fail;refine kM (λW=>Qb a2 W) [Tt,Tt,Tt,Tt,Tt,Tt,Tt,Tt] bC5 bC5 pY (bR.drew) ?_;intro co ay;iterate 4
      all_goals first|(refine kG rfl ay ?_)|(refine kw (v:=?_) rfl (λW hW=>?_) ?_;rotate_left;(· go_simp;try with_reducible rfl))
      all_goals refine jD ?_
     iterate 2
      all_goals first|(refine kG rfl ay ?_)|(refine kw (v:=?_) rfl (λW hW=>?_) ?_;rotate_left;(· have an:=cL hW A0;have ao:=cL hW Y;clear hW;go_simp;try with_reducible rfl))
      all_goals refine jD ?_
      all_goals first|(refine kG rfl ay ?_)|(refine kw (v:=?_) rfl (λW hW=>?_) ?_;rotate_left;(· go_simp;try with_reducible rfl))
      all_goals refine jD ?_
     all_goals refine kR ?_
     have bx:Hid _:=yD ((bg.out.below ay).wide (T:=jU (w.heap.size + 1) co.heap.size) (λj I=>⟨I.1,by have:=I.2;have:=ay.size;omega⟩));have ae:=E.trans (ay.mono (by have:=E.size;omega));clear ay;have cw:=ae.size;clear A0 A1 A2 Y B1 B2 EW;have A0:=(ae.cell (p:=⟨w.heap.size,0,none⟩) sJ).trans am;have A1:=(ae.cell (p:=⟨w.heap.size,1,none⟩) sJ).trans ak;have A2:=(ae.cell (p:=⟨w.heap.size,2,none⟩) sJ).trans al;have EW:=R.trans (ae.mono bD1);obtain ⟨Y,B1,B2⟩:=DU;go_wp2_with (at_builtin;refine kD.jO rfl _ _ 143 rfl (r:=jN) (e:=147) underlying143 kBt rfl bD0 bD0 (B:=w.heap.size + 1) bx.out bD3 bD3 rfl (HX.out _) rfl (λ_ _ h=>h) rC (λ_ h=>h.elim) bD1 bD1 ?_);intro v8 w8 bn ax dy;have b1:=yD bn;obtain ⟨dj,dk,dl,cc,cz⟩:=bn.parts;obtain rfl:=cc;clear bn;have bo:=ae.trans ax;clear ax;clear A0 A1 A2 Y B1 B2 EW;go_wp2;go_roundw;case rel=>exact ⟨k + 1,by omega,by go_num,by rw [F.out],yD (by rw [F.out];exact b1.out.cast bD2),bo⟩
     simp [intOf];omega
   by_cases hne:y0=f
   · have F:Hid (kJz (f,n,x) l (k + 1)=(s1,true)):=yD (by rw [U.out];unfold kEc;simp [hne]);obtain ⟨A0,A1,A2,EW,Y,B1,B2⟩:=xJ;go_upto_region 6 with fail;refine kM (λW=>Qb wr W) [Tt,Tt,Tt,Tt,Tt,Tt,Tt,Tt,Tt,Tt,Tt,Tt] bC5 bC5 pY (bR.drew) ?_;intro O b2;iterate 2
      all_goals first|(refine kG rfl b2 ?_)|(refine kw (v:=?_) rfl (λW hW=>?_) ?_;rotate_left;(· go_simp;try with_reducible rfl))
      all_goals refine jD ?_
     all_goals first|(refine kG rfl b2 ?_;have au:=Ac)|(refine kEm (v:=?_) (b:=?_) rfl (λW hW=>?_) ?_ (λb au=>?_);rotate_left;rotate_left;(· go_simp;try with_reducible rfl);(· with_reducible rfl);cases b;all_goals first|(exact Aa au)|(simp only [zU,zV] at au) | skip)
     iterate 4
      all_goals refine jD ?_
      all_goals first|(refine kG rfl b2 ?_)|(refine kw (v:=?_) rfl (λW hW=>?_) ?_;rotate_left;(· go_simp;try with_reducible rfl))
     iterate 2
      all_goals refine jD ?_
      all_goals first|(refine kG rfl b2 ?_)|(refine kw (v:=?_) rfl (λW hW=>?_) ?_;rotate_left;(· have an:=cL hW A0;have ao:=cL hW Y;clear hW;go_simp;try with_reducible rfl))
      all_goals refine jD ?_
      all_goals first|(refine kG rfl b2 ?_)|(refine kw (v:=?_) rfl (λW hW=>?_) ?_;rotate_left;(· go_simp;try with_reducible rfl))
     all_goals refine jD ?_
     all_goals first|(refine kG rfl b2 ?_)|(refine kw (v:=?_) rfl (λW hW=>?_) ?_;rotate_left;(· go_simp;try with_reducible rfl))
     all_goals refine jD ?_
     all_goals refine kR ?_
     have bb:Hid _:=yD ((L.out.below b2).wide (T:=jU (w.heap.size + 1) O.heap.size) nG);have D:=o.trans (b2.mono vU);clear b2;have b0:=D.size;clear A0 A1 A2 Y B1 B2 EW;obtain ⟨A0,A1,A2,EW⟩:=GD;obtain ⟨Y,B1,B2⟩:=DU;go_upto_region 9 with fail;refine kM (λW=>Qb O W) [Tt,Tt,Tt,Tt,Tt,Tt,Tt,Tt] bC5 bC5 pY (bR.drew) ?_;intro bw av;iterate 4
      all_goals first|(refine kG rfl av ?_)|(refine kw (v:=?_) rfl (λW hW=>?_) ?_;rotate_left;(· go_simp;try with_reducible rfl))
      all_goals refine jD ?_
     iterate 2
      all_goals first|(refine kG rfl av ?_)|(refine kw (v:=?_) rfl (λW hW=>?_) ?_;rotate_left;(· have an:=cL hW A0;have ao:=cL hW Y;clear hW;go_simp;try with_reducible rfl))
      all_goals refine jD ?_
      all_goals first|(refine kG rfl av ?_)|(refine kw (v:=?_) rfl (λW hW=>?_) ?_;rotate_left;(· go_simp;try with_reducible rfl))
      all_goals refine jD ?_
     all_goals refine kR ?_
     have bt:Hid _:=yD ((bb.out.below av).wide (T:=jU (w.heap.size + 1) bw.heap.size) (λj I=>⟨I.1,by have:=I.2;have:=av.size;omega⟩));have az:=D.trans (av.mono (by have:=D.size;omega));clear av;have cl:=az.size;clear A0 A1 A2 Y B1 B2 EW;go_wp2;go_roundw;case rel=>exact ⟨k + 1,by omega,by go_num,by rw [F.out],yD (by rw [F.out];exact bt.out.cast bD2),az⟩
     simp [intOf];omega
   have F:Hid (kJz (f,n,x) l (k + 1)=(s1++[(y0,y1,y2)],true)):=yD (by rw [U.out];unfold kEc;simp [hne]);obtain ⟨A0,A1,A2,EW,Y,B1,B2⟩:=xJ;go_upto_region 6 with fail;refine kM (λW=>Qb wr W) [Tt,Tt,Tt,Tt,Tt,Tt,Tt,Tt,Tt,Tt,Tt,Tt] bC5 bC5 pY (bR.drew) ?_;intro O b2;iterate 2
    all_goals first|(refine kG rfl b2 ?_)|(refine kw (v:=?_) rfl (λW hW=>?_) ?_;rotate_left;(· go_simp;try with_reducible rfl))
    all_goals refine jD ?_
   all_goals first|(refine kG rfl b2 ?_;have au:=Ac)|(refine kEm (v:=?_) (b:=?_) rfl (λW hW=>?_) ?_ (λb au=>?_);rotate_left;rotate_left;(· go_simp;try with_reducible rfl);(· with_reducible rfl);cases b;all_goals first|(exact Aa au)|(simp only [zU,zV] at au) | skip)
   iterate 4
    all_goals refine jD ?_
    all_goals first|(refine kG rfl b2 ?_)|(refine kw (v:=?_) rfl (λW hW=>?_) ?_;rotate_left;(· go_simp;try with_reducible rfl))
   iterate 2
    all_goals refine jD ?_
    all_goals first|(refine kG rfl b2 ?_)|(refine kw (v:=?_) rfl (λW hW=>?_) ?_;rotate_left;(· have an:=cL hW A0;have ao:=cL hW Y;clear hW;go_simp;try with_reducible rfl))
    all_goals refine jD ?_
    all_goals first|(refine kG rfl b2 ?_)|(refine kw (v:=?_) rfl (λW hW=>?_) ?_;rotate_left;(· go_simp;try with_reducible rfl))
   all_goals refine jD ?_
   all_goals first|(refine kG rfl b2 ?_)|(refine kw (v:=?_) rfl (λW hW=>?_) ?_;rotate_left;(· go_simp;try with_reducible rfl))
   all_goals refine jD ?_
   all_goals refine kR ?_
   have bb:Hid _:=yD ((L.out.below b2).wide (T:=jU (w.heap.size + 1) O.heap.size) nG);have D:=o.trans (b2.mono vU);clear b2;have b0:=D.size;clear A0 A1 A2 Y B1 B2 EW;obtain ⟨A0,A1,A2,EW⟩:=GD;obtain ⟨Y,B1,B2⟩:=DU;go_upto_region 9 with fail;refine kM (λW=>Qb O W) [Tt,Tt,Tt,Tt,Tt,Tt,Tt,Tt] bC5 bC5 pY (bR.drew) ?_;intro b6 ar;iterate 4
    all_goals first|(refine kG rfl ar ?_)|(refine kw (v:=?_) rfl (λW hW=>?_) ?_;rotate_left;(· go_simp;try with_reducible rfl))
    all_goals refine jD ?_
   iterate 2
    all_goals first|(refine kG rfl ar ?_)|(refine kw (v:=?_) rfl (λW hW=>?_) ?_;rotate_left;(· have an:=cL hW A0;have ao:=cL hW Y;clear hW;go_simp;try with_reducible rfl))
    all_goals refine jD ?_
    all_goals first|(refine kG rfl ar ?_)|(refine kw (v:=?_) rfl (λW hW=>?_) ?_;rotate_left;(· go_simp;try with_reducible rfl))
    all_goals refine jD ?_
   all_goals refine kR ?_
   have br:Hid _:=yD ((bb.out.below ar).wide (T:=jU (w.heap.size + 1) b6.heap.size) (λj I=>⟨I.1,by have:=I.2;have:=ar.size;omega⟩));have X:=D.trans (ar.mono (by have:=D.size;omega));clear ar;have ce:=X.size;clear A0 A1 A2 Y B1 B2 EW;have A0:=(X.cell (p:=⟨w.heap.size,0,none⟩) sJ).trans am;have A1:=(X.cell (p:=⟨w.heap.size,1,none⟩) sJ).trans ak;have A2:=(X.cell (p:=⟨w.heap.size,2,none⟩) sJ).trans al;have EW:=R.trans (X.mono bD1);obtain ⟨Y,B1,B2⟩:=DU;go_wp2_with (at_builtin;refine kD.jO rfl _ _ 143 rfl (r:=jN) (e:=147) underlying143 kBt rfl bD0 bD0 (B:=w.heap.size + 1) br.out bD3 bD3 rfl (HX.out _) rfl (λ_ _ h=>h) rC (λ_ h=>h.elim) bD1 bD1 ?_);intro a8 c3 be bk da;have b4:=yD be;obtain ⟨c9,cq,c8,b5,cm⟩:=be.parts;obtain rfl:=b5;clear be;have bi:=X.trans bk;clear bk;clear A0 A1 A2 Y B1 B2 EW;go_wp2;go_roundw;case rel=>exact ⟨k + 1,by omega,by go_num,by rw [F.out],yD (by rw [F.out];exact b4.out.cast bD2),bi⟩
   simp [intOf];omega
 have HF:=yD (putK_all (a:=(f,n,x)) hlt)
 generalize kJz (f,n,x) l k=s at *
 obtain ⟨s1,s2⟩:=s
 replace L:Hid (kD.kU 147 jN wr (.slice oa on oc) s1 (jU (w.heap.size + 1) wr.heap.size)):=L
 replace a4:s1.length<=l.length + 1:=a4
 cases s2
 · have A0:=(o.cell (p:=⟨w.heap.size,0,none⟩) sJ).trans am;have A1:=(o.cell (p:=⟨w.heap.size,1,none⟩) sJ).trans ak;have A2:=(o.cell (p:=⟨w.heap.size,2,none⟩) sJ).trans al;have EW:=R.trans (o.mono bD1);go_wp2_with (at_builtin;refine kD.jO rfl _ _ 143 rfl (r:=jN) (e:=147) underlying143 kBt rfl bD0 bD0 (B:=w.heap.size + 1) L.out bD3 bD3 rfl (HA.out _) rfl (λ_ _ h=>h) rC (λ_ h=>h.elim) bD1 bD1 ?_);intro a9 d2 bd ap c4;have bu:=yD bd;obtain ⟨dc,dd,cv,bz,cg⟩:=bd.parts;obtain rfl:=bz;clear bd;have bj:=o.trans ap;clear ap;go_wp2;go_ret;exact ⟨_,rfl,(bu.out.cast (by have:=HF.out;simpa using this)).wide rD,R.trans (bj.mono bD1)⟩
 go_wp2
 go_ret
 exact ⟨_,rfl,(L.out.cast (by have:=HF.out;simpa using this)).wide rD,R.trans (o.mono bD1)⟩
end Go.Proofs.YtjhfdpopkkmigaaGreat

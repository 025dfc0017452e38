/-
  A region that draws its order, where two operations may come up at one time: both ways are walked. No program in sight.
-/
import Derived.Test.YtonmjkmaadgceaaGreatPend
set_option linter.unusedVariables false
set_option linter.unusedSimpArgs false
set_option linter.unnecessarySimpa false
set_option maxRecDepth 100000
set_option maxHeartbeats 4000000
namespace Go.Proofs.YtonmjkmaadgceaaGreat
open Go.RowKit _root_.Go.Proofs.Tryz
theorem kGt {w:World} {vl:Value} {l:List kI} (hl:(kE.slice 71 kJ).rd w [vl] l) :
    Calls prog 64 #[vl] w (zz 71 kJ l w):=by
 have HL:=yD hl
 obtain ⟨la,lp,rfl,ll⟩:=kE.sl hl.1
 have bj:l.length≤16777216:=hl.2.1
 clear hl
 go_enter func64,ntmps64
 go_wp2
 have O0:kE.ku 71 kJ (w.alloc (.cells #[] 71)) (.slice (some ⟨w.heap.size,0,none⟩) 0 0) [] (jR w.heap.size (w.alloc (.cells #[] 71)).heap.size) :=
   kE.yV (e:=71) (r:=kJ) (w:=w) (cs:=[]) (xs:=[]) (T:=fun _=>False) bC0 bC0 rfl (fun _ h=>h.elim) ⟨Nat.le_refl _,by simp⟩
 go_loopw [3,9] (fun v i wr=>∃ k:Nat,k≤l.length∧i=.int .i64 k∧Hid (kE.ku 71 kJ wr v (l.take k) (jR w.heap.size wr.heap.size))∧Below w.heap.size w wr) (fun _ i _=>l.length - (intOf i).toNat)
 case atStart=>exact ⟨0,Nat.zero_le _,rfl,yD O0,bR.alloc nL _⟩
 clear O0
 obtain ⟨k,hk,rfl,L,D⟩:=hrel
 obtain ⟨oa,on,oc,ho,bl⟩:=L.out.parts;obtain rfl:=ho
 have a7:(l.take k).length≤k:=bB5
 by_cases hlt:k < l.length
 · obtain ⟨qb,qo,rfl,ah,ai,aj,qr,a1,a4,bb⟩:=kE.kDv (HL.out.1.below D) hlt rfl
   obtain ⟨a9,b1⟩:=uJ
   generalize l[k]=x at *
   have bu:=yD b1;clear b1
   obtain ⟨x0,x1,x2⟩:=x
   obtain ⟨bq,cc,aq,ar,ax,ap,bc⟩:=jo qr
   simp only [List.cons.injEq,and_true] at aq
   obtain ⟨rfl,rfl,rfl⟩:=aq
   obtain ⟨ae,be,rfl,az⟩:=kE.sl ax
   obtain ⟨ao,br,rfl,bn⟩:=kE.sl ap
   have U:kM.rd wr _ x0:=⟨ar,a9.1⟩
   have am:(kE.slice 73 jH).rd wr _ x1:=⟨ap,a9.2.1⟩
   go_upto_region 5 with fail
   generalize F:World.alloc wr _=R
   obtain ⟨EC,bo⟩:=CB
   obtain ⟨M0,M1⟩:=DI
   have M2:R.cell? ⟨wr.heap.size,2,none⟩=some (.int .i64 x2):=tO
   clear F
   have FX:=yD (fun (W:World) (hW:Below R.heap.size R W)=>kMs hW M0 M1 M2)
   refine jO (fun W=>Below R.heap.size R W) [(0,true),(1,true),(2,true),(4,true),(5,true),(7,true),(8,true),(3,false),(6,false),(9,true),(10,false)] bB4 bB4 qD (bR.drew) ?_
   intro wS E
   simp only [jD,List.length_cons,List.length_nil,List.getElem?_cons_succ,List.getElem?_cons_zero,List.map_cons,List.map_nil,List.cons_append,List.nil_append,List.drop_succ_cons,List.drop_zero]
   iterate 7
    all_goals refine kS ?_
   all_goals first|(refine kK rfl E ?_)|(refine ko rfl (fun K J=>?_);go_simp;refine (zG (U.below (tQ EC E))).mono ?_;rintro e al ⟨aw,rfl,O,au⟩;obtain ⟨X,rfl,N⟩:=kU O.raw;obtain ⟨ab,ak,rfl,Z⟩:=kE.sl N;skip;clear N;replace O:=yD O;have dt:=au.size;have cf:=E.size;replace E:=(tQ E au);refine J _ _ E ?_;clear J K au)
   all_goals refine kX ?_
   all_goals first|(refine kK rfl E ?_)|(refine ko rfl (fun K J=>?_);go_simp;refine (kOn (am.below (tQ EC E))).mono ?_;rintro e av ⟨a6,rfl,ay,au⟩;obtain ⟨a3,a2,rfl,_⟩:=kE.sl ay.raw;skip;replace ay:=yD ay;have b3:=au.size;have d4:=E.size;replace O:=yD (O.out.below au);replace E:=(tQ E au);refine J _ _ E ?_;clear J K au)
   all_goals refine kX ?_
   all_goals refine kS ?_
   all_goals first|(refine kK rfl E ?_)|(refine ko rfl (fun K J=>?_);go_simp;refine J _ _ (E.alloc E.size _) ?_;clear J K)
   all_goals refine kX ?_
   all_goals refine jq ?_
   obtain ⟨fg,ac,a5,af,L,aa⟩:=xD
   go_wp2_with (at_builtin;refine kE.jK rfl _ _ 28 rfl (r:=kJ) (e:=71) underlying28 jy rfl bB8 bB8 (B:=w.heap.size) L.out bC1 bC1 rfl (kE.own.wide (T:=jR wr.heap.size av.heap.size) (kE.ja (S:=jR (wS.heap.size) (av.heap.size)) (O.out) (kE.jw (ay.out) (kE.ky bc)) mR mR mW) mR) rfl mW rE mR bB9 sN ?_)
   exact aP
 exact aS
theorem kHb {w:World} {vl:Value} {l:List kI} (hl:(kE.slice 71 kJ).rd w [vl] l) :
    Calls prog 151 #[vl] w (zz 71 kJ l w):=by
 have HL:=yD hl
 obtain ⟨la,lp,rfl,ll⟩:=kE.sl hl.1
 have bj:l.length≤16777216:=hl.2.1
 clear hl
 go_enter func151,ntmps151
 go_wp2
 have O0:kE.ku 71 kJ (w.alloc (.cells #[] 71)) (.slice (some ⟨w.heap.size,0,none⟩) 0 0) [] (jR w.heap.size (w.alloc (.cells #[] 71)).heap.size) :=
   kE.yV (e:=71) (r:=kJ) (w:=w) (cs:=[]) (xs:=[]) (T:=fun _=>False) bC0 bC0 rfl (fun _ h=>h.elim) ⟨Nat.le_refl _,by simp⟩
 go_loopw [3,4] (fun v i wr=>∃ k:Nat,k≤l.length∧i=.int .i64 k∧Hid (kE.ku 71 kJ wr v (l.take k) (jR w.heap.size wr.heap.size))∧Below w.heap.size w wr) (fun _ i _=>l.length - (intOf i).toNat)
 case atStart=>exact ⟨0,Nat.zero_le _,rfl,yD O0,bR.alloc nL _⟩
 clear O0
 obtain ⟨k,hk,rfl,L,D⟩:=hrel
 obtain ⟨oa,on,oc,ho,bl⟩:=L.out.parts;obtain rfl:=ho
 have a7:(l.take k).length≤k:=bB5
 by_cases hlt:k < l.length
 · obtain ⟨qb,qo,rfl,ah,ai,aj,qr,a1,a4,bb⟩:=kE.kDv (HL.out.1.below D) hlt rfl
   obtain ⟨a9,b1⟩:=uJ
   generalize l[k]=x at *
   have bu:=yD b1;clear b1
   obtain ⟨x0,x1,x2⟩:=x
   obtain ⟨bq,cc,aq,ar,ax,ap,bc⟩:=jo qr
   simp only [List.cons.injEq,and_true] at aq
   obtain ⟨rfl,rfl,rfl⟩:=aq
   obtain ⟨ae,be,rfl,az⟩:=kE.sl ax
   obtain ⟨ao,br,rfl,bn⟩:=kE.sl ap
   have U:kM.rd wr _ x0:=⟨ar,a9.1⟩
   go_wp2_with fail
   refine (zi U).mono ?_
   rintro e wT ⟨tc,rfl,OT,au⟩
   obtain ⟨dh,rfl,a2⟩:=kU OT.raw
   obtain ⟨av,bh,rfl,_⟩:=kE.sl a2
   clear a2
   go_upto_region 6 with fail
   generalize F:World.alloc wT _=R
   obtain ⟨EC,K0⟩:=xL
   clear F
   have ER:=(tQ au EC)
   replace a1:=cL ER a1
   replace a4:=cL ER a4
   replace bb:=cL ER bb
   have am:(kE.slice 73 jH).rd R _ x1:=⟨kE.raw.below ap ER,a9.2.1⟩
   have FX:=yD (fun (W:World) (hW:Below R.heap.size R W)=>kLd hW K0 a1 a4 bb)
   refine jO (fun W=>Below R.heap.size R W) [(0,true),(1,true),(3,true),(4,true),(5,true),(6,true),(7,true),(9,true),(10,true),(11,true),(12,true),(13,true),(2,false),(8,false),(14,true),(15,false)] bB4 bB4 qD (bR.drew) ?_
   intro wS E
   simp only [jD,List.length_cons,List.length_nil,List.getElem?_cons_succ,List.getElem?_cons_zero,List.map_cons,List.map_nil,List.cons_append,List.nil_append,List.drop_succ_cons,List.drop_zero]
   iterate 12
    all_goals refine kS ?_
   all_goals first|(refine kK rfl E ?_)|(refine ko rfl (fun K J=>?_);go_simp;generalize aw:World.alloc wS _=wU;have ay:wU.heap.size=wS.heap.size + 1:=(by rw [← aw];simp);have bw:=E.size;replace E:Below R.heap.size R wU:=(by rw [← aw];exact E.alloc E.size _);clear aw;refine J _ _ E ?_;clear J K)
   all_goals refine kX ?_
   all_goals first|(refine kK rfl E ?_)|(refine ko rfl (fun K J=>?_);obtain ⟨ab,wV,X,N,ba,a8⟩:=kE.kUz (P:=prog) (t:=69) (ty:=69) (r:=jH) (e:=73) (w:=wU) (v:=.slice (some ⟨wS.heap.size,0,none⟩) 0 0) (xs:=[]) (S:=fun _=>False) (B:=wU.heap.size) underlying69 kBk rfl bB8 bB8 kLz kE.ku.void (am.below E) (fun _ h=>h.elim) nL (by have:=am.2.1;simp;unfold Big at this;omega);refine kE.jP _ _ _ rfl bC1 bC1 X ?_;obtain ⟨ak,al,O⟩:=N.zL;obtain rfl:=O;replace E:=(tQ E ba);have Z:=yD (N.own am.2.1);refine J _ _ E ?_;clear J K X N)
   all_goals refine kX ?_
   all_goals refine kS ?_
   all_goals first|(refine kK rfl E ?_)|(refine ko rfl (fun K J=>?_);go_simp;refine J _ _ (E.alloc E.size _) ?_;clear J K)
   all_goals refine kX ?_
   all_goals refine jq ?_
   have fg:=E.size
   have ac:=EC.size
   have a5:=D.size
   have em:=au.size
   have af:Below wr.heap.size wr wV:=(tQ ER E)
   replace L:=yD (L.out.below af)
   have aa:=(tQ D af)
   go_wp2_with (at_builtin;refine kE.jK rfl _ _ 28 rfl (r:=kJ) (e:=71) underlying28 jy rfl bB8 bB8 (B:=w.heap.size) L.out bC1 bC1 rfl (kE.own.wide (T:=jR wr.heap.size wV.heap.size) (kE.ja (S:=jR (wr.heap.size) (wV.heap.size)) (OT.below (tQ EC E)) (kE.jw (Z.out) (kE.ky bc)) mR mR mW) mR) rfl mW rE mR bB9 sN ?_)
   exact aP
 exact aS
theorem kKk {w:World} {vl:Value} {l:List jI} (hl:(kE.slice 123 jF).rd w [vl] l) :
    Calls prog 65 #[vl] w (zz 123 jF l w):=by
 have HL:=yD hl
 obtain ⟨la,lp,rfl,ll⟩:=kE.sl hl.1
 have bj:l.length≤16777216:=hl.2.1
 clear hl
 go_enter func65,ntmps65
 go_wp2
 have O0:kE.ku 123 jF (w.alloc (.cells #[] 123)) (.slice (some ⟨w.heap.size,0,none⟩) 0 0) [] (jR w.heap.size (w.alloc (.cells #[] 123)).heap.size) :=
   kE.yV (e:=123) (r:=jF) (w:=w) (cs:=[]) (xs:=[]) (T:=fun _=>False) bC0 bC0 rfl (fun _ h=>h.elim) ⟨Nat.le_refl _,by simp⟩
 go_loopw [3,9] (fun v i wr=>∃ k:Nat,k≤l.length∧i=.int .i64 k∧Hid (kE.ku 123 jF wr v (l.take k) (jR w.heap.size wr.heap.size))∧Below w.heap.size w wr) (fun _ i _=>l.length - (intOf i).toNat)
 case atStart=>exact ⟨0,Nat.zero_le _,rfl,yD O0,bR.alloc nL _⟩
 clear O0
 obtain ⟨k,hk,rfl,L,D⟩:=hrel
 obtain ⟨oa,on,oc,ho,bl⟩:=L.out.parts;obtain rfl:=ho
 have a7:(l.take k).length≤k:=bB5
 by_cases hlt:k < l.length
 · obtain ⟨qb,qo,rfl,ah,ai,qr,a1,a4⟩:=kE.get2 (HL.out.1.below D) hlt rfl
   obtain ⟨a9,b1⟩:=uJ
   generalize l[k]=x at *
   have bu:=yD b1;clear b1
   obtain ⟨x0,x1⟩:=x
   obtain ⟨bq,aq,ar,ax,ap⟩:=kKn qr
   simp only [List.cons.injEq,and_true] at aq
   obtain ⟨rfl,rfl⟩:=aq
   obtain ⟨ae,be,rfl,az⟩:=kE.sl ax
   have U:kM.rd wr _ x0:=⟨ar,a9.1⟩
   go_upto_region 5 with fail
   generalize F:World.alloc wr _=R
   obtain ⟨EC,bo⟩:=CB
   have M0:R.cell? ⟨wr.heap.size,0,none⟩=some (.slice ae (x0).length be):=tO
   have M1:R.cell? ⟨wr.heap.size,1,none⟩=some (.int .i64 x1):=tO
   clear F
   have FX:=yD (fun (W:World) (hW:Below R.heap.size R W)=>cLs2 hW M0 M1)
   refine jO (fun W=>Below R.heap.size R W) [(0,true),(1,true),(2,true),(4,true),(5,true),(3,false),(6,true),(7,false)] bB4 bB4 qD (bR.drew) ?_
   intro wS E
   simp only [jD,List.length_cons,List.length_nil,List.getElem?_cons_succ,List.getElem?_cons_zero,List.map_cons,List.map_nil,List.cons_append,List.nil_append,List.drop_succ_cons,List.drop_zero]
   iterate 5
    all_goals refine kS ?_
   all_goals first|(refine kK rfl E ?_)|(refine ko rfl (fun K J=>?_);go_simp;refine (zG (U.below (tQ EC E))).mono ?_;rintro e al ⟨aw,rfl,O,au⟩;obtain ⟨X,rfl,N⟩:=kU O.raw;obtain ⟨ab,ak,rfl,Z⟩:=kE.sl N;skip;clear N;replace O:=yD O;have dt:=au.size;have cf:=E.size;replace E:=(tQ E au);refine J _ _ E ?_;clear J K au)
   all_goals refine kX ?_
   all_goals refine kS ?_
   all_goals first|(refine kK rfl E ?_)|(refine ko rfl (fun K J=>?_);go_simp;refine J _ _ (E.alloc E.size _) ?_;clear J K)
   all_goals refine kX ?_
   all_goals refine jq ?_
   obtain ⟨fg,ac,a5,af,L,aa⟩:=xD
   go_wp2_with (at_builtin;refine kE.jK rfl _ _ 29 rfl (r:=jF) (e:=123) underlying29 kEh rfl bB8 bB8 (B:=w.heap.size) L.out bC1 bC1 rfl (kE.own.wide (T:=jR wr.heap.size al.heap.size) (kE.jw (O.out) (kE.ky ap)) mR) rfl mW rE mR bB9 sN ?_)
   exact aP
 exact aS
theorem kLq {w:World} {vl:Value} {l:List jI} (hl:(kE.slice 123 jF).rd w [vl] l) :
    Calls prog 178 #[vl] w (zz 123 jF l w):=by
 have HL:=yD hl
 obtain ⟨la,lp,rfl,ll⟩:=kE.sl hl.1
 have bj:l.length≤16777216:=hl.2.1
 clear hl
 go_enter func178,ntmps178
 go_wp2
 have O0:kE.ku 123 jF (w.alloc (.cells #[] 123)) (.slice (some ⟨w.heap.size,0,none⟩) 0 0) [] (jR w.heap.size (w.alloc (.cells #[] 123)).heap.size) :=
   kE.yV (e:=123) (r:=jF) (w:=w) (cs:=[]) (xs:=[]) (T:=fun _=>False) bC0 bC0 rfl (fun _ h=>h.elim) ⟨Nat.le_refl _,by simp⟩
 go_loopw [3,4] (fun v i wr=>∃ k:Nat,k≤l.length∧i=.int .i64 k∧Hid (kE.ku 123 jF wr v (l.take k) (jR w.heap.size wr.heap.size))∧Below w.heap.size w wr) (fun _ i _=>l.length - (intOf i).toNat)
 case atStart=>exact ⟨0,Nat.zero_le _,rfl,yD O0,bR.alloc nL _⟩
 clear O0
 obtain ⟨k,hk,rfl,L,D⟩:=hrel
 obtain ⟨oa,on,oc,ho,bl⟩:=L.out.parts;obtain rfl:=ho
 have a7:(l.take k).length≤k:=bB5
 by_cases hlt:k < l.length
 · obtain ⟨qb,qo,rfl,ah,ai,qr,a1,a4⟩:=kE.get2 (HL.out.1.below D) hlt rfl
   obtain ⟨a9,b1⟩:=uJ
   generalize l[k]=x at *
   have bu:=yD b1;clear b1
   obtain ⟨x0,x1⟩:=x
   obtain ⟨bq,aq,ar,ax,ap⟩:=kKn qr
   simp only [List.cons.injEq,and_true] at aq
   obtain ⟨rfl,rfl⟩:=aq
   obtain ⟨ae,be,rfl,az⟩:=kE.sl ax
   have U:kM.rd wr _ x0:=⟨ar,a9.1⟩
   go_wp2_with fail
   refine (zi U).mono ?_
   rintro e wT ⟨tc,rfl,OT,au⟩
   obtain ⟨dh,rfl,a2⟩:=kU OT.raw
   obtain ⟨av,bh,rfl,_⟩:=kE.sl a2
   clear a2
   go_upto_region 6 with fail
   generalize F:World.alloc wT _=R
   obtain ⟨EC,K0⟩:=xL
   clear F
   have ER:=(tQ au EC)
   replace a1:=cL ER a1
   replace a4:=cL ER a4
   have FX:=yD (fun (W:World) (hW:Below R.heap.size R W)=>kMs hW K0 a1 a4)
   refine jd (fun W=>Below R.heap.size R W) [true,true,true,true,true,true,true,true,false] bB4 bB4 qD (bR.drew) ?_
   intro wS E
   iterate 8
    all_goals refine kS ?_
   all_goals first|(refine kK rfl E ?_)|(refine ko rfl (fun K J=>?_);go_simp;refine J _ _ (E.alloc E.size _) ?_;clear J K)
   all_goals refine kX ?_
   all_goals refine jq ?_
   obtain ⟨fg,ac,a5,em,af,L,aa⟩:=AQ
   go_wp2_with (at_builtin;refine kE.jK rfl _ _ 29 rfl (r:=jF) (e:=123) underlying29 kEh rfl bB8 bB8 (B:=w.heap.size) L.out bC1 bC1 rfl (kE.own.wide (T:=jR wr.heap.size wT.heap.size) (kE.jw (OT.below (tQ EC E)) (kE.ky ap)) mR) rfl mW rE mR bB9 sN ?_)
   exact aP
 exact aS
namespace kE
section
variable {α β:Type} {r q:kE α} {e:TypeId} {w w':World} {v:Value} {xs:List α} {S T:Nat→Prop}
def headed (e:TypeId) (n:Nat) (w:World) (cs:List Value):Prop :=
  ∀ a len cap,cs=[.slice a len cap]→(len=0∧cap=0)∨∃ b cur,a=some ⟨b,0,none⟩∧w.heap[b]?=some (.cells cur e (0,0))∧cur.size=cap * n
theorem headed_keep {cs:List Value} (h:(slice e r).is true w cs xs S) (hh:headed e r.n w cs) (k:∀ k,S k→w'.heap[k]?=w.heap[k]?):headed e r.n w' cs:=by
 intro a len cap hc
 rcases hh a len cap hc with h1|⟨b,cur,rfl,h2,h3⟩
 · exact .inl h1
 obtain ⟨a',H,cap',h0,h4,h5,h6,h7⟩:=h
 rw [hc] at h0
 simp only [List.cons.injEq,Value.slice.injEq,and_true] at h0
 obtain ⟨rfl,rfl,rfl⟩:=h0
 rcases h7 with ⟨h8,h9⟩|⟨b',off,hb,cur',e',fr,hd,cs',tl,g1,g2,g3,g4,g5,g6,g7⟩
 · have:=h9 rfl;exact .inl ⟨by omega,this⟩
 simp only [Option.some.injEq,Addr.mk.injEq,and_true] at hb
 obtain ⟨rfl,rfl⟩:=hb
 exact .inr ⟨b,cur,rfl,(k b g6).trans h2,h3⟩
def slice0 {α:Type} (e:TypeId) (r:kE α):kE (List α) :=
  { slice e r with
    is:=fun o w cs xs S=>(slice e r).is o w cs xs S∧(o=true→headed e r.n w cs)
    len:=fun h=>(slice e r).len h.1
    one:=fun h=>(slice e r).one h.1
    mono:=by
      intro o w w' cs xs S h k
      refine ⟨(slice e r).mono h.1 k,fun ho=>?_⟩
      subst ho
      exact headed_keep h.1 (h.2 rfl) k
    wide:=fun h k=>⟨(slice e r).wide h.1 k,h.2⟩
    weak:=fun h=>⟨(slice e r).weak h.1,fun q=>by cases q⟩
    live:=fun h=>⟨(slice e r).live h.1,h.2⟩
    is_zero:=⟨(slice e r).is_zero,fun _ a len cap h=>by
      have G:([.slice none 0 0]:List Value)=[.slice a len cap]:=h
      simp only [List.cons.injEq,Value.slice.injEq,and_true] at G
      exact .inl ⟨G.2.1.symm,G.2.2.symm⟩⟩ }
theorem ku.own0h (h:ku e r w v xs S) (hl:xs.length≤Big):(slice0 e r).own w [v] xs S:=by
 have h1:=h.own hl
 refine ⟨⟨h1.1,fun _ a len cap hc=>?_⟩,h1.2⟩
 obtain ⟨hb,h⟩:=h
 simp only [List.cons.injEq,and_true] at hc
 rcases h with ⟨⟨a',rfl⟩,rfl⟩|⟨b,cap',cur,cs,tl,rfl,g1,g2,g3,g4,g5,g6,g7⟩
 · simp only [Value.slice.injEq] at hc;exact .inl ⟨hc.2.1.symm,hc.2.2.symm⟩
 simp only [Value.slice.injEq] at hc
 obtain ⟨rfl,rfl,rfl⟩:=hc
 exact .inr ⟨b,cur,rfl,g3,g5⟩
theorem row_to (hn:∀ {cs:List Value} {x:α} {S:Nat→Prop},r.is true w cs x S→q.is true w cs x S):∀ {cells:List Value} {ys:List α} {S:Nat→Prop},row r true w cells ys S→row q true w cells ys S
  | _,[],_,h=>h
  | _,y :: ys,_,⟨c,d,A,B,h,h1,h2,hA,hB,hd⟩=>⟨c,d,A,B,h,hn h1,row_to hn h2,hA,hB,hd⟩
theorem ku.to (hn:∀ {cs:List Value} {x:α} {S:Nat→Prop},r.is true w cs x S→q.is true w cs x S) (hb:∀ x,r.bdd Big x→q.bdd Big x) (hq:q.n=r.n) (h:ku e r w v xs S):ku e q w v xs S:=by
 obtain ⟨h0,h⟩:=h
 refine ⟨fun x hx=>hb x (h0 x hx),?_⟩
 rcases h with h|⟨b,cap,cur,cs,tl,g0,g1,g2,g3,g4,g5,g6,g7⟩
 · exact .inl h
 exact .inr ⟨b,cap,cur,cs,tl,g0,g1,g2,g3,g4,by rw [hq];exact g5,g6,row_to hn g7⟩
end
end kE
def kOy (x:yt):Bool:=(((yZ x.1 && decide (0 < x.1.length)) && inR x.2.1 0 1000000) && inR x.2.2.1 0 16) && inR x.2.2.2 1 20
theorem kFg {w:World} {cx:List Value} {x:yt} (hx:zg.raw w cx x) :
    Calls prog 152 #[.agg cx.toArray] w (bQ w (.bool (kOy x))):=by
 have Hx:=yD hx
 obtain ⟨aq,rfl,ah,ab,ai,aj,ak⟩:=kCz hx
 obtain ⟨ae,L,rfl,ao⟩:=kE.sl ab
 go_enter func152,ntmps152
 go_upto_region 1 with fail
 generalize H:World.alloc w _=N
 have Z:Below w.heap.size w N:=by rw [← H];exact bI
 have af:N.cell? ⟨w.heap.size,0,none⟩=some (.slice ae (x.1).length L):=tN
 have ac:N.cell? ⟨w.heap.size,1,none⟩=some (.int .i64 x.2.1):=tN
 have O:N.cell? ⟨w.heap.size,2,none⟩=some (.int .i64 x.2.2.1):=tN
 have D:N.cell? ⟨w.heap.size,3,none⟩=some (.int .i64 x.2.2.2):=tN
 clear H
 have FX:=yD (fun (W:World) (hW:Below N.heap.size N W)=>kLd hW af ac O D)
 refine kz (fun W=>Below N.heap.size N W) [true,true,false,true,true,true,true,true,true,true,true,true,true,false,true,true,true,true,false,true,true,true,true,false,true,true] bR ?_
 intro wS E
 all_goals refine kS ?_
 all_goals refine kS ?_
 all_goals first | refine wkB (yS (kE.raw.below ah (tQ Z E))) (fun wS1 E=>?_) | refine kS ?_
 all_goals (have ag:=True.intro;first|(refine yT (fun b ag=>?_);cases b;all_goals first | exact Bool.noConfusion ag | simp only [zU,zV] at ag | skip) | refine kS ?_)
 all_goals refine kX ?_
 iterate 6
  all_goals refine kS ?_
 all_goals (have J:=True.intro;first|(refine yT (fun b J=>?_);cases b;all_goals first | exact Bool.noConfusion J | simp only [zU,zV] at J | skip) | refine kS ?_)
 all_goals refine kX ?_
 all_goals refine kS ?_
 all_goals refine kS ?_
 all_goals first | refine wkC (ji) ?_ | refine kS ?_
 all_goals refine kS ?_
 all_goals (have F:=True.intro;first|(refine yT (fun b F=>?_);cases b;all_goals first | exact Bool.noConfusion F | simp only [zU,zV] at F | skip) | refine kS ?_)
 all_goals refine kX ?_
 all_goals refine kS ?_
 all_goals refine kS ?_
 all_goals first | refine wkC (ji) ?_ | refine kS ?_
 all_goals refine kS ?_
 all_goals (have R:=True.intro;first|(refine yT (fun b R=>?_);cases b;all_goals first | exact Bool.noConfusion R | simp only [zU,zV] at R | skip) | refine kS ?_)
 all_goals refine kX ?_
 all_goals refine kS ?_
 all_goals refine kS ?_
 all_goals first | refine wkC (ji) ?_ | refine kS ?_
 all_goals refine kS ?_
 all_goals (have X:=True.intro;first|(refine yT (fun b X=>?_);cases b;all_goals first | exact Bool.noConfusion X | simp only [zU,zV] at X | skip) | refine kS ?_)
 all_goals refine kX ?_
 all_goals refine kZ ?_
 all_goals have G:=(tQ Z E)
 all_goals first
   | (have U:=yD (show (kOy x)=false by simp only [kOy,Bool.not_true,Bool.not_false,Bool.and_true,Bool.true_and,Bool.and_false,Bool.false_and,Bool.or_true,Bool.true_or,Bool.or_false,Bool.false_or,Bool.not_not,ag,J,F,R,X]);go_wp2;go_ret;exact ⟨kR U.out.symm,G⟩)
   | (have U:=yD (show (kOy x)=true by simp only [kOy,Bool.not_true,Bool.not_false,Bool.and_true,Bool.true_and,Bool.and_false,Bool.false_and,Bool.or_true,Bool.true_or,Bool.or_false,Bool.false_or,Bool.not_not,ag,J,F,R,X]);go_wp2;go_ret;exact ⟨kR U.out.symm,G⟩)
namespace kE
section
variable {α:Type} {r:kE α} {e:TypeId} {w:World} {b cap len i j p:Nat} {xs:List α} {y:α} {u:Value} {S T:Nat→Prop}
theorem kWr (h:ku e r w (.slice (some ⟨b,0,none⟩) len cap) xs S) (hi:i < xs.length) (I:j < r.n)
    (hy:∀ {cs:List Value} {B:Nat→Prop},r.is true w cs xs[i] B→(∀ k,B k→S k)→r.is true w (cs.set j u) y (fun k=>B k∨T k)) (hby:r.bdd Big y) (hST:∀ k,S k→T k→False) (hp:p=i * r.n + j) :
    ku e r (w.setCell ⟨b,p,none⟩ u) (.slice (some ⟨b,0,none⟩) len cap) (xs.set i y) (fun k=>S k∨T k)∧Touch (fun k=>k=b) w (w.setCell ⟨b,p,none⟩ u):=by
 subst hp
 refine ⟨?_,zn [u] w b _⟩
 obtain ⟨hb,h⟩:=h
 rcases h with ⟨⟨a,h0⟩,rfl⟩|⟨b',cap',cur,cs,tl,h0,h1,h2,h3,h4,h5,h6,h7⟩
 · simp at hi
 simp only [Value.slice.injEq,Option.some.injEq,Addr.mk.injEq,and_true] at h0
 obtain ⟨rfl,rfl,rfl⟩:=h0
 obtain ⟨c1,c,c2,A,B,C,rfl,hl,r1,r2,G,hA,hB,hC,hd⟩:=kOu h7 hi
 have hc:=r.len r2
 have au:∀ k,T k→k≠b:=fun k hk q=>hST k (q ▸ h6) hk
 have n2:=hy r2 (fun k hk=>(hB k hk).1)
 have L:cur=((c1++(c++c2))++tl).toArray:=by rw [← h4]
 subst L
 have F:=heap_setCell_same w b (i * r.n + j) _ e u h3
 refine ⟨?_,.inr ⟨b,cap,_,c1++(c.set j u++c2),tl,by rw [List.length_set],by rw [List.length_set];exact h1,h2,F,?_,?_,.inl h6,?_⟩⟩
 · intro z hz
   rcases List.mem_or_eq_of_mem_set hz with q | q
   · exact hb z q
   rw [q];exact hby
 · simp only [Array.toList_setIfInBounds,List.toList_toArray]
   rw [List.append_assoc,List.append_assoc,List.set_append_right _ _ bB9,hl,show i * r.n + j - i * r.n=j by omega,List.set_append_left _ _ bB9]
   simp
 · simpa using h5
 have E:∀ k,k≠b→(w.setCell ⟨b,i * r.n + j,none⟩ u).heap[k]?=w.heap[k]?:=fun k hk=>heap_setCell_other w ⟨b,i * r.n + j,none⟩ k u hk
 have mono:∀ {cs:List Value} {ys:List α} {D:Nat→Prop},row r true w cs ys D→(∀ k,D k→k≠b)→row r true (w.setCell ⟨b,i * r.n + j,none⟩ u) cs ys D:=fun hr hk=>yC hr (fun k hd=>E k (hk k hd))
 refine kWp (A:=A) (B:=fun k=>B k∨T k) (C:=C) hi (mono r1 (fun k hk=>(hA k hk).2)) (r.mono n2 (fun k hk=>E k (hk.elim (fun q=>(hB k q).2) (au k)))) (mono G (fun k hk=>(hC k hk).2)) ?_ ?_ ?_ ?_
 · exact fun k hk=>⟨.inl (hA k hk).1,(hA k hk).2⟩
 · exact fun k hk=>hk.elim (fun q=>⟨.inl (hB k q).1,(hB k q).2⟩) (fun q=>⟨.inr q,au k q⟩)
 · exact fun k hk=>⟨.inl (hC k hk).1,(hC k hk).2⟩
 exact fun _ k=>⟨fun a q=>q.elim ((hd rfl k).1 a) (fun t=>hST k (hA k a).1 t),(hd rfl k).2.1,fun q c=>q.elim (fun b=>(hd rfl k).2.2 b c) (fun t=>hST k (hC k c).1 t)⟩
end
end kE
end Go.Proofs.YtonmjkmaadgceaaGreat
namespace Go.Proofs.YtonmjkmaadgceaaGreat
open Go _root_.Go.Proofs.Tryz
section
variable {P:Program} {l:List Oper} {S:World→Prop} {Q:Exit→Act→World→Prop} {fuel:Nat} {listed:List Bool} {a:Act} {w:World}
@[irreducible] def tree (P:Program) (l:List Oper) (S:World→Prop) (Q:Exit→Act→World→Prop) (fuel:Nat) (listed:List Bool) (a:Act) (w:World):Prop:=wpAnyH P .any l.toArray Q S fuel listed.toArray a w
theorem kTb (k:Nat):listed.toArray.setIfInBounds k true=(listed.set k true).toArray:=by simp
theorem kAf {id:Nat} (S:World→Prop) (hm:P.follows .mixedOrders=true) (hS:S { w with drawn:=w.drawn + 1 })
    (h:∀ w',S w'→tree P l S Q l.length (List.replicate l.length false) a w'):(Code.region id l.toArray true).wp P Q a w:=by
 have h:=h _ hS
 exact o6
theorem kAp {id:Nat} (S:World→Prop) (hm:P.follows .mixedOrders=true) (hS:S { w with drawn:=w.drawn + 1 })
    (h:∀ w',w'=w.drew→S w'→tree P l S Q l.length (List.replicate l.length false) a w'):(Code.region id l.toArray true).wp P Q a w:=by
 have h:=h _ rfl hS
 exact o6
theorem yB {k:Nat} {o:Oper} {v:Value} (h0:l[k]?=some o) (hc:(Region.noSelect l.toArray && (Region.free .any l.toArray listed.toArray k && (Region.ready .any l.toArray listed.toArray).contains k))=true)
    (hQ:∀ c a d v w,Q (.panic c) (Act.put a d v) w→Q (.panic c) a w) (hg:Region.wanted o (yielded l.toArray a.tmps)=true) (hS:S w)
    (hv:∀ w,S w→(execOp a.eval o).run P w=.ok (.value v) w) (h:tree P l S Q fuel (listed.set k true) (a.put o.dst v) w):tree P l S Q (fuel + 1) listed a w:=by
 unfold tree at h ⊢
 simp only [Bool.and_eq_true] at hc
 rw [← kTb] at h
 exact wpAnyH_take wH hc.1 hc.2.1 hc.2.2 (fun c a w=>hQ c a _ _ w) (.inl ⟨hg,hv⟩) hS h
theorem jB (k : Nat) {o : Oper} {v : Value} (h : tree P l S Q fuel (listed.set k true) (a.put o.dst v) w) (h0 : l[k]? = some o := by rfl) (hc : (Region.noSelect l.toArray && (Region.free .any l.toArray listed.toArray k && (Region.ready .any l.toArray listed.toArray).contains k)) = true := by kernel_rfl)
    (hQ:∀ c a d v w,Q (.panic c) (Act.put a d v) w→Q (.panic c) a w:=by exact fun c a d v w h=>by cases d <;> exact h) (hg:Region.wanted o (yielded l.toArray a.tmps)=true:=by rfl) (hS:S w:=by exact E)
    (hv:∀ w,S w→(execOp a.eval o).run P w=.ok (.value v) w:=by intro W hW;(try have A:=FX.out W hW);clear hW;go_simp;try with_reducible rfl):tree P l S Q (fuel + 1) listed a w:=yB h0 hc hQ hg hS hv h
theorem kKr {k:Nat} {o:Oper} (h0:l[k]?=some o) (hg:Region.wanted o (yielded l.toArray a.tmps)=true)
    (h:∀ K:Act→World→Prop,(∀ a' w',S w'→tree P l S Q fuel (listed.set k true) a' w'→K a' w')→o.wp P a w K Q) :
    wpOp P l.toArray Q k (fun a' w'=>S w'∧wpAnyH P .any l.toArray Q S fuel (listed.toArray.setIfInBounds k true) a' w') a w:=by
 unfold wpOp
 rw [show l.toArray[k]?=some o by simpa using h0]
 simp only [hg,if_true]
 refine .inl (h _ (fun a' w' h1 h2=>⟨h1,?_⟩))
 unfold tree at h2
 rw [kTb]
 exact h2
theorem kY {k:Nat} {o:Oper} (h0:l[k]?=some o) (hr:(Region.ready .any l.toArray listed.toArray==[k])=true) (hg:Region.wanted o (yielded l.toArray a.tmps)=true)
    (h:∀ K:Act→World→Prop,(∀ a' w',S w'→tree P l S Q fuel (listed.set k true) a' w'→K a' w')→o.wp P a w K Q):tree P l S Q (fuel + 1) listed a w:=by
 unfold tree
 refine wpAnyH_all wY bC0 ?_
 intro j I
 obtain rfl:j=k:=bA6
 exact kKr h0 hg h
theorem yG {i j:Nat} {V N:Oper} (hi:l[i]?=some V) (I:l[j]?=some N) (hr:(Region.ready .any l.toArray listed.toArray==[i,j])=true) (F:Region.wanted V (yielded l.toArray a.tmps)=true) (E:Region.wanted N (yielded l.toArray a.tmps)=true)
    (h1:∀ K:Act→World→Prop,(∀ a' w',S w'→tree P l S Q fuel (listed.set i true) a' w'→K a' w')→V.wp P a w K Q)
    (h2:∀ K:Act→World→Prop,(∀ a' w',S w'→tree P l S Q fuel (listed.set j true) a' w'→K a' w')→N.wp P a w K Q):tree P l S Q (fuel + 1) listed a w:=by
 unfold tree
 refine wpAnyH_all wY bC0 ?_
 intro k hk
 rcases List.mem_cons.1 hk with rfl | hk
 · exact kKr hi F h1
 obtain rfl:k=j:=wR
 exact kKr I E h2
theorem yR (hr:(Region.ready .any l.toArray listed.toArray==[])=true) (h:Q .normal a w):tree P l S Q fuel listed a w:=by
 unfold tree
 exact wpAnyH_done wY h fuel
end
end Go.Proofs.YtonmjkmaadgceaaGreat

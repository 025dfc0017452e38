/-
  Pending interests: found.
-/
import Derived.Test.YtonmjkmaadgceaaGreatDrawM
set_option linter.unusedVariables false
set_option linter.unusedSimpArgs false
set_option linter.unnecessarySimpa false
set_option maxRecDepth 100000
set_option maxHeartbeats 4000000
namespace Go.Proofs.YtonmjkmaadgceaaGreat
open Go.RowKit _root_.Go.Proofs.Tryz
theorem int_own {w:World} {v:Value} {ps:kQ} {n h t:Int} {S:Nat→Prop} (k:(kE.slice 9 kE.str).own w [v] ps S) (hn:-1≤n∧n≤1000001) (hh:-1≤h∧h≤17) (ht:0≤t∧t≤21):zg.own w [v,.int .i64 n,.int .i64 h,.int .i64 t] (ps,n,h,t) S :=
  kE.jw (r:=kM) (cs:=[v]) (ds:=[.int .i64 n,.int .i64 h,.int .i64 t]) k (kE.jr (cs:=[.int .i64 n]) (kE.ky bB9) (kE.jr (cs:=[.int .i64 h]) (kE.ky bB9) (kE.ky bB9)))
theorem kNc {w0 w:World} {p:Nat} (hc:yK w0 w p) :
    Calls prog 155 #[.pointer (some ⟨p,0,none⟩)] w fun e w'=>∃ a c ps n h t,e=.returned (.agg #[.slice a ps.length c,.int .i64 n,.int .i64 h,.int .i64 t])∧kM.own w' [.slice a ps.length c] ps (jR w.heap.size w'.heap.size)∧(ps.length≤8∧yM ps)∧(-1≤n∧n≤8)∧(-1≤h∧h≤17)∧(0≤t∧t≤21)∧yK w0 w' p∧Touch (fun k=>k=p) w w':=by
 go_enter func155,ntmps155
 obtain ⟨b7,cj⟩:=hc.lt
 go_upto_region 1 with fail
 generalize F:World.alloc w _=w1
 obtain ⟨ak,R,bn⟩:=CW
 clear F
 obtain ⟨hc,H⟩:=q8
 clear ak
 go_wp2_with fail
 refine (kIq hc).mono ?_
 rintro e V ⟨a,n,c,ps,rfl,hO,aj,N,G,D⟩
 obtain ⟨bo,R,H⟩:=xE
 clear hc D
 have hc:=G
 clear G
 have bu:=yD N
 clear N
 have L:=yD (hO.wide (T:=fun j=>w1.heap.size≤j∧j < V.heap.size) (fun _ h=>h))
 clear hO
 go_upto_region 2 with fail
 generalize F:World.alloc V _=w3
 obtain ⟨ap,B,bp⟩:=xW
 clear F
 obtain ⟨R,L,hc,H⟩:=x8
 clear ap
 have av:w3.cell? ⟨V.heap.size,0,none⟩=some (.slice a n c):=kF B rfl
 obtain ⟨_,_,_,a1,a7⟩:=L.out.parts
 simp only [Value.slice.injEq] at a1
 have bx:=yD (a1.2.1.trans a7.out)
 clear a1 a7
 by_cases hz:n=0
 · subst hz
   obtain rfl:ps=[]:=List.eq_nil_of_length_eq_zero bx.out.symm
   clear av
   obtain ⟨av,ab,GB,HB⟩:=uS
   go_upto_region 4 with fail
   clear GB HB
   have a2:=yD (kE.kGr (e:=9) w3 (kE.kCy (s:={ data:=#[97] }) bB8))
   generalize F:World.alloc w3 _=w4 at a2 ⊢
   have a3:Below w3.heap.size w3 w4:=rX
   have b9:w3.heap.size + 1≤w4.heap.size:=bA3
   clear F L
   replace R:=kD R a3
   replace B:=kD B a3
   replace hc:=hc.below a3
   replace H:=H.trans (Touch.of_below a3)
   clear av ab
   clear a3
   have L:=yD (kE.ku.wide (T:=fun j=>w1.heap.size≤j∧j < w4.heap.size∧j≠V.heap.size) a2.out qQ)
   clear a2
   generalize F:World.setCell w4 _ _=w5
   obtain ⟨cz,B,cd⟩:=DC
   clear F
   replace R:=cz.kD R bB9
   replace L:=yD (L.out.touch cz qB)
   replace hc:=hc.touch cz bB9 wB
   replace H:=H.jJ cz bB9
   clear cz
   go_upto_region 4 with fail
   have FX:=yD (fun (W:World) (hW:Touch (fun k=>k=p) w5 W∧yK w0 W p)=>kF (hW.1.kD B bB9) (j:=0) (v:=.slice (some ⟨w3.heap.size,0,none⟩) 1 1) rfl)
   refine jO (fun W=>Touch (fun k=>k=p) w5 W∧yK w0 W p) [(0,true),(1,true),(3,true),(5,true),(2,false),(4,false),(6,false),(7,true),(8,true)] bB4 bB4 qD (⟨Touch.of_below bR.drew,hc.below bR.drew⟩) ?_
   intro wS E
   simp only [jD,List.length_cons,List.length_nil,List.getElem?_cons_succ,List.getElem?_cons_zero,List.map_cons,List.map_nil,List.cons_append,List.nil_append,List.drop_succ_cons,List.drop_zero]
   iterate 4
    refine kS ?_
   refine ko rfl (fun K J=>?_);go_simp;refine (kV (n:=9) E.2 bB8).mono ?_;rintro e wS1 ⟨x,ax,Z,b4,rfl,be,a9⟩;replace Z:=Z bB8;clear b4;replace E:=And.intro (E.1.trans a9) be;clear be a9;refine J _ _ E ?_;clear J K
   refine kX ?_
   refine ko rfl (fun K J=>?_);go_simp;refine (kV (n:=5) E.2 bB8).mono ?_;rintro e wS1 ⟨y,b6,a4,a6,rfl,be,a9⟩;replace a4:=a4 bB8;clear a6;replace E:=And.intro (E.1.trans a9) be;clear be a9;refine J _ _ E ?_;clear J K
   refine kX ?_
   refine ko rfl (fun K J=>?_);go_simp;refine (kV (n:=6) E.2 bB8).mono ?_;rintro e wS1 ⟨z,bb,az,an,rfl,be,a9⟩;replace az:=az bB8;clear an;replace E:=And.intro (E.1.trans a9) be;clear be a9;have hw:IntKind.i64.wrap (1 + z)=1 + z:=IntWalk.i64_in _ bB9;refine J _ _ E ?_;clear J K
   refine kX ?_
   refine kS ?_
   refine kS ?_
   refine jq ?_
   have hzs:=E.1.size
   obtain ⟨R5,Y,bc,aw,aq,ar,bh,bl,ac,au,bi,bm⟩:=oQ
   go_wp2
   refine bodyPost_ret (v:=.agg #[.slice (some ⟨w3.heap.size,0,none⟩) 1 1,.int .i64 x,.int .i64 y,.int .i64 (1 + z)]) gF rfl ⟨_,_,[({ data:=#[97] }:ByteArray)],x,y,1 + z,rfl,?_,⟨by decide,fun p hp=>by rw [List.mem_singleton.1 hp];decide⟩,by omega,by omega,by omega,bc.touch ((((kC _ _ _ _).trans (kC _ _ _ _)).trans (kC _ _ _ _)).trans (kC _ _ _ _)) bB9 wB,Y.jJ ((((kC _ _ _ _).trans (kC _ _ _ _)).trans (kC _ _ _ _)).trans (kC _ _ _ _)) bB9⟩
   exact (((aw.out.touch ((((kC _ _ _ _).trans (kC _ _ _ _)).trans (kC _ _ _ _)).trans (kC _ _ _ _)) tC).own bB8).wide fF)
 have co:¬ (n:Int)=0:=bB9
 skip
 go_upto_region 4 with fail
 clear av
 have FX:=yD (fun (W:World) (hW:Touch (fun k=>k=p) w3 W∧yK w0 W p)=>kF (hW.1.kD B bB9) (j:=0) (v:=.slice a n c) rfl)
 refine jO (fun W=>Touch (fun k=>k=p) w3 W∧yK w0 W p) [(0,true),(1,true),(3,true),(5,true),(2,false),(4,false),(6,false),(7,true),(8,true)] bB4 bB4 qD (⟨Touch.of_below bR.drew,hc.below bR.drew⟩) ?_
 intro wS E
 simp only [jD,List.length_cons,List.length_nil,List.getElem?_cons_succ,List.getElem?_cons_zero,List.map_cons,List.map_nil,List.cons_append,List.nil_append,List.drop_succ_cons,List.drop_zero]
 iterate 4
  refine kS ?_
 refine ko rfl (fun K J=>?_);go_simp;refine (kV (n:=9) E.2 bB8).mono ?_;rintro e wS1 ⟨x,ax,Z,b4,rfl,be,a9⟩;replace Z:=Z bB8;clear b4;replace E:=And.intro (E.1.trans a9) be;clear be a9;refine J _ _ E ?_;clear J K
 refine kX ?_
 refine ko rfl (fun K J=>?_);go_simp;refine (kV (n:=5) E.2 bB8).mono ?_;rintro e wS1 ⟨y,b6,a4,a6,rfl,be,a9⟩;replace a4:=a4 bB8;clear a6;replace E:=And.intro (E.1.trans a9) be;clear be a9;refine J _ _ E ?_;clear J K
 refine kX ?_
 refine ko rfl (fun K J=>?_);go_simp;refine (kV (n:=6) E.2 bB8).mono ?_;rintro e wS1 ⟨z,bb,az,an,rfl,be,a9⟩;replace az:=az bB8;clear an;replace E:=And.intro (E.1.trans a9) be;clear be a9;have hw:IntKind.i64.wrap (1 + z)=1 + z:=IntWalk.i64_in _ bB9;refine J _ _ E ?_;clear J K
 refine kX ?_
 refine kS ?_
 refine kS ?_
 refine jq ?_
 have hzs:=E.1.size
 obtain ⟨R5,Y,bc,aw,aq,ar,bh,bl,ac,au,bi,bm⟩:=oQ
 go_wp2
 refine bodyPost_ret (v:=.agg #[.slice a n c,.int .i64 x,.int .i64 y,.int .i64 (1 + z)]) gF rfl ⟨_,_,ps,x,y,1 + z,by rw [bx.out],?_,⟨by omega,bu.out⟩,by omega,by omega,by omega,bc.touch ((((kC _ _ _ _).trans (kC _ _ _ _)).trans (kC _ _ _ _)).trans (kC _ _ _ _)) bB9 wB,Y.jJ ((((kC _ _ _ _).trans (kC _ _ _ _)).trans (kC _ _ _ _)).trans (kC _ _ _ _)) bB9⟩
 rw [← bx.out]
 exact (((aw.out.touch ((((kC _ _ _ _).trans (kC _ _ _ _)).trans (kC _ _ _ _)).trans (kC _ _ _ _)) tC).own vV).wide fK)
theorem flatbyte:kE.byte.kDq:=kE.kCh
theorem kXk {w:World} {va:Value} {x:List UInt8} (ha:(kE.slice 5 kE.byte).rd w [va] x):Calls prog 70 #[va] w (kCk (kE.slice 5 kE.byte) x w):=by
 obtain ⟨aa,J,rfl,la⟩:=kE.sl ha.1
 obtain ⟨HA,E⟩:=DZ
 cases aa with
 | none =>
   have hx:x=[]:=by
     cases x with
     | nil=>rfl
     | cons y ys =>
       exact aJ
   subst hx
   clear ha
   go_enter func70,ntmps70
   go_wp2
   go_ret
   exact ⟨_,rfl,kE.jf,bR⟩
 | some a =>
   have hb:x.length≤16777216:=ha.2.1
   clear ha
   go_enter func70,ntmps70
   have O0:kE.ku 5 kE.byte (w.alloc (.cells #[] 5)) (.slice (some ⟨w.heap.size,0,none⟩) 0 0) [] (fun k=>k=w.heap.size):=kE.yV (cs:=[]) (xs:=[]) (T:=fun _=>False) bC0 bC0 rfl (fun _ h=>h.elim) rfl
   go_wp2_with (at_builtin;refine kE.yF rfl _ _ 22 rfl (r:=kE.byte) (e:=5) underlying22 kBl rfl bB8 bB8 flatbyte (B:=w.heap.size) O0 bC1 bC1 (HA.out.alloc _) qZ bC0 bB5 ?_)
   exact aK
theorem kLz:jH.kDq:=kE.kKi (kE.jl) (kE.kKi (kE.jl) (kE.jl))
theorem kOn {w:World} {va:Value} {x:List kP} (ha:(kE.slice 73 jH).rd w [va] x):Calls prog 102 #[va] w (kCk (kE.slice 73 jH) x w):=by
 obtain ⟨aa,J,rfl,la⟩:=kE.sl ha.1
 have HA:=yD ha
 have E:=fun (W:World) (a:Option Addr) (n c:Nat)=>Lib.run_eql_slice_nil (P:=prog) W 69 73 a n c 0 0 underlying69
 cases aa with
 | none =>
   have hx:x=[]:=by
     cases x with
     | nil=>rfl
     | cons y ys =>
       exact aJ
   subst hx
   clear ha
   go_enter func102,ntmps102
   go_wp2
   go_ret
   exact ⟨_,rfl,kE.jf,bR⟩
 | some a =>
   have hb:x.length≤16777216:=ha.2.1
   clear ha
   go_enter func102,ntmps102
   have O0:kE.ku 73 jH (w.alloc (.cells #[] 73)) (.slice (some ⟨w.heap.size,0,none⟩) 0 0) [] (fun k=>k=w.heap.size):=kE.yV (cs:=[]) (xs:=[]) (T:=fun _=>False) bC0 bC0 rfl (fun _ h=>h.elim) rfl
   go_wp2_with (at_builtin;refine kE.yF rfl _ _ 69 rfl (r:=jH) (e:=73) underlying69 kBk rfl bB8 bB8 kLz (B:=w.heap.size) O0 bC1 bC1 (HA.out.alloc _) qZ bC0 bB5 ?_)
   exact aK
theorem kHn (z:Value) (h:(z.cells.toList.all fun u=>u.oneCell')=true):∀ u∈z.cells,u.oneCell'=true:=by
 intro u hu
 exact List.all_eq_true.1 h u (by simpa using hu)
theorem kKp {w:World} {v:Value} {l:List kT} {S:Nat→Prop} (hl:kE.ku 105 kL w v l S) (hlen:l.length≤16777216) {i:Nat} (H:i < l.length) :
    Calls prog 75 #[v,.int .i64 i,.int .i64 ((i:Int) + 1)] w fun e w'=>∃ v',e=.returned v'∧kE.ku 105 kL w' v' (l.take i++l.drop (i + 1)) S∧Touch S w w':=by
 obtain ⟨b,cap,rfl,D⟩:=kE.kFm hl H
 rw [List.drop_eq_getElem_cons H] at D
 have G:Hid (kE.gap 105 kL w b cap l.length (l.take i) 1 (l.drop (i + 1)) S):=yD D.skip
 have Z:=yD D.mem
 have ak:=D.len
 simp only [List.length_take,List.length_cons,List.length_drop] at ak
 have ao:l.length≤cap:=ak.2.1
 have a4:cap≤9223372036854775807:=nX
 clear D hl ak
 obtain ⟨L,HN⟩:∃ L,Hid (l.length=L + 1):=⟨l.length - 1,yD bB9⟩
 rw [HN.out] at H hlen ao
 rw [HN.out]
 obtain ⟨HK,HR,hne,af,aa,ah,av,ac,ae,ag,R⟩:=u7
 go_enter func75,ntmps75
 go_upto_region 5 with fail
 by_cases cc:cap=i + 1
 · have N:Hid ((l.drop (i + 1)).length=0):=yD (by rw [HR.out];omega)
   obtain rfl:i=L:=bB9
   subst cc
   refine jd (fun W=>Below w.heap.size w W) [true,true,true,true,true,true] bB4 bB4 qD (bR.drew) ?_
   intro wS E
   iterate 6
    all_goals refine kS ?_
   all_goals refine jq ?_
   have G2:=yD (G.out.below E)
   obtain ⟨w6,F,O,X⟩:=kE.kEr (P:=prog) (t:=31) (ty:=31) underlying31 yg G2.out bB8 (q:=0) (c:=0) (k:=i) (m:=0) (fun hne=>absurd (List.eq_nil_of_length_eq_zero N.out) hne) HK.out.symm N.out.symm
   rw [Nat.add_zero] at F
   have J:Hid ((l.take i++l.drop (i + 1)).length=i):=yD nQ
   obtain ⟨w7,V,I,U⟩:=O.kDr (P:=prog) (t:=31) (ty:=0) (c:=1) (p:=i * 3) bB8 underlying31 yg rfl bB8 (kHn _ bB8) wO
   exact aU
 refine jd (fun W=>Below w.heap.size w W) [true,true,true,true,true,true] bB4 bB4 qD (bR.drew) ?_
 intro wS E
 iterate 6
  all_goals first|(refine kK rfl E ?_)|(refine jE (v:=?_) rfl (fun W hW=>?_) ?_;rotate_left;(· go_simp;try with_reducible rfl))
  all_goals try simp only [Act.put,zA,zB,zC]
 all_goals refine jq ?_
 have G2:=yD (G.out.below E)
 obtain ⟨w6,F,O,X⟩:=kE.kEr (P:=prog) (t:=31) (ty:=31) underlying31 yg G2.out bB8 (q:=(i + 1) * 3) (c:=cap - (i + 1)) (k:=i) (m:=L - i) tV HK.out.symm HR.out.symm
 rw [show i + (L - i)=L by omega] at F
 have J:Hid ((l.take i++l.drop (i + 1)).length=L):=yD nG
 obtain ⟨w7,V,I,U⟩:=O.kDr (P:=prog) (t:=31) (ty:=0) (c:=cap - L) (p:=L * 3) bB8 underlying31 yg rfl bB8 (kHn _ bB8) wO
 exact aV
theorem kLf {w:World} {v:Value} {l:List kr} {S:Nat→Prop} (hl:kE.ku 98 kw w v l S) (hlen:l.length≤16777216) {i:Nat} (H:i < l.length) :
    Calls prog 73 #[v,.int .i64 i,.int .i64 ((i:Int) + 1)] w fun e w'=>∃ v',e=.returned v'∧kE.ku 98 kw w' v' (l.take i++l.drop (i + 1)) S∧Touch S w w':=by
 obtain ⟨b,cap,rfl,D⟩:=kE.kFm hl H
 rw [List.drop_eq_getElem_cons H] at D
 have G:Hid (kE.gap 98 kw w b cap l.length (l.take i) 1 (l.drop (i + 1)) S):=yD D.skip
 have Z:=yD D.mem
 have ak:=D.len
 simp only [List.length_take,List.length_cons,List.length_drop] at ak
 have ao:l.length≤cap:=ak.2.1
 have a4:cap≤9223372036854775807:=nX
 clear D hl ak
 obtain ⟨L,HN⟩:∃ L,Hid (l.length=L + 1):=⟨l.length - 1,yD bB9⟩
 rw [HN.out] at H hlen ao
 rw [HN.out]
 obtain ⟨HK,HR,hne,af,aa,ah,av,ac,ae,ag,R⟩:=u7
 go_enter func73,ntmps73
 go_upto_region 5 with fail
 by_cases cc:cap=i + 1
 · have N:Hid ((l.drop (i + 1)).length=0):=yD (by rw [HR.out];omega)
   obtain rfl:i=L:=bB9
   subst cc
   refine jd (fun W=>Below w.heap.size w W) [true,true,true,true,true,true] bB4 bB4 qD (bR.drew) ?_
   intro wS E
   iterate 6
    all_goals refine kS ?_
   all_goals refine jq ?_
   have G2:=yD (G.out.below E)
   obtain ⟨w6,F,O,X⟩:=kE.kEr (P:=prog) (t:=25) (ty:=25) underlying25 yL G2.out bB8 (q:=0) (c:=0) (k:=i) (m:=0) (fun hne=>absurd (List.eq_nil_of_length_eq_zero N.out) hne) HK.out.symm N.out.symm
   rw [Nat.add_zero] at F
   have J:Hid ((l.take i++l.drop (i + 1)).length=i):=yD nQ
   obtain ⟨w7,V,I,U⟩:=O.kDr (P:=prog) (t:=25) (ty:=0) (c:=1) (p:=i * 6) bB8 underlying25 yL rfl bB8 (kHn _ bB8) wO
   exact aU
 refine jd (fun W=>Below w.heap.size w W) [true,true,true,true,true,true] bB4 bB4 qD (bR.drew) ?_
 intro wS E
 iterate 6
  all_goals first|(refine kK rfl E ?_)|(refine jE (v:=?_) rfl (fun W hW=>?_) ?_;rotate_left;(· go_simp;try with_reducible rfl))
  all_goals try simp only [Act.put,zA,zB,zC]
 all_goals refine jq ?_
 have G2:=yD (G.out.below E)
 obtain ⟨w6,F,O,X⟩:=kE.kEr (P:=prog) (t:=25) (ty:=25) underlying25 yL G2.out bB8 (q:=(i + 1) * 6) (c:=cap - (i + 1)) (k:=i) (m:=L - i) tV HK.out.symm HR.out.symm
 rw [show i + (L - i)=L by omega] at F
 have J:Hid ((l.take i++l.drop (i + 1)).length=L):=yD nG
 obtain ⟨w7,V,I,U⟩:=O.kDr (P:=prog) (t:=25) (ty:=0) (c:=cap - L) (p:=L * 6) bB8 underlying25 yL rfl bB8 (kHn _ bB8) wO
 exact aV
def jV (n:kQ) (p:kI):Bool:=eqN p.1 n
theorem kEj {α:Type} {p:α→Bool} {x:List α} (h:¬ idxOf p x < 0):∃ k:Nat,k < x.length∧idxOf p x=k:=by
 unfold idxOf at *
 cases e:x.findIdx? p with
 | none=>rw [e] at h;simp at h
 | some i=>exact ⟨i,(List.findIdx?_eq_some_iff_getElem.1 e).1,rfl⟩
theorem kHa {w:World} {vl:Value} {l:(List kI)} (hl:(kE.slice 71 kJ).raw w [vl] l) {cn:List Value} {n:kQ} (hn:kM.raw w cn n) :
    Calls prog 56 #[vl,.agg cn.toArray] w (bQ w (.int .i64 (idxOf (jV n) l))):=by
 obtain ⟨al,pl,rfl,ll⟩:=kE.sl hl
 have Hn:=yD hn
 obtain ⟨Y,rfl,R⟩:=kU hn
 obtain ⟨V,L,rfl,aa⟩:=kE.sl R
 go_enter func56,ntmps56
 go_wp2
 generalize H:World.alloc w _=N
 obtain ⟨Z,F⟩:=u6
 clear H
 replace hl:=hl.below Z
 go_loopw [5] (fun i wr=>∃ k:Nat,k≤l.length∧i=.int .i64 k∧Hid (∀ j,(h:j < k)→(h2:j < l.length)→(jV n) l[j]=false)∧Below N.heap.size N wr) (fun i _=>l.length - (intOf i).toNat)
 case atStart=>exact ⟨0,Nat.zero_le _,rfl,yD (fun _ h=>by omega),bR⟩
 obtain ⟨k,hk,rfl,HN,D⟩:=hrel
 replace F:=cL D F
 by_cases hlt:k < l.length
 · obtain ⟨qb,qo,rfl,ah,ai,aj,qr,a1,a4,bb⟩:=kE.kDv (hl.below D) (i:=k) bB9 rfl
   obtain ⟨J,I⟩:=xR
   generalize l[k]=x at *
   have HD:=yD J;have HX:=yD I;clear J I
   obtain ⟨x0,x1,x2⟩:=x
   obtain ⟨bq,cc,aq,ar,ax,ap,bc⟩:=jo qr
   simp only [List.cons.injEq,and_true] at aq
   obtain ⟨rfl,rfl,rfl⟩:=aq
   obtain ⟨ae,be,rfl,az⟩:=kE.sl ax
   obtain ⟨ao,br,rfl,bn⟩:=kE.sl ap
   go_upto_region 4 with fail
   have FX:=yD (fun (W:World) (hW:Below wr.heap.size wr W)=>kLd hW F a1 a4 bb)
   refine kW (fun W=>Below wr.heap.size wr W) [true,true,true,true,true,true,false] bB4 bB4 qD (bR.drew) ?_
   intro wS E
   iterate 6
    all_goals refine kS ?_
   all_goals first | refine wkB (kAe (kE.raw.below ar E) (kE.raw.below Hn.out ((tQ Z (tQ D E))))) (fun wS1 E=>?_) | refine kS ?_
   all_goals refine kZ ?_
   all_goals cases O:eqN x0 n
   all_goals have G:=(tQ D E)
   all_goals first
     | (have U:=yD (HD.out (show _=true by simp only [jV,Bool.not_true,Bool.not_false,Bool.and_true,Bool.true_and,Bool.and_false,Bool.false_and,Bool.or_true,Bool.true_or,Bool.or_false,Bool.false_or,Bool.not_not,O]));clear HD HX;go_wp2;go_ret;exact ⟨jW U.out.symm,(tQ Z G)⟩)
     | (have U:=yD (HX.out (show _=false by simp only [jV,Bool.not_true,Bool.not_false,Bool.and_true,Bool.true_and,Bool.and_false,Bool.false_and,Bool.or_true,Bool.true_or,Bool.or_false,Bool.false_or,Bool.not_not,O]));clear HD HX;go_wp2;go_roundw;(case rel=>exact ⟨k + 1,by omega,by go_num,U,G⟩);(case measure=>simp [intOf];omega))
 exact iT
theorem kPb {w:World} {cp:List Value} {p:kI} (hp:kJ.raw w cp p) {n:kQ} {cq:Value} {Bn:Nat} (nr:kM.raw w [cq] n) (D:w.cell? ⟨Bn,0,none⟩=some cq) :
    Calls prog 61 (#[.agg cp.toArray]++#[.pointer (some ⟨Bn,0,none⟩)]) w (bQ w (.bool (jV n p))):=by
 have Hp:=yD hp
 obtain ⟨ae,ah,rfl,X,L,aa,aj⟩:=jo hp
 obtain ⟨ac,F,rfl,ag⟩:=kE.sl L
 obtain ⟨Y,ab,rfl,ai⟩:=kE.sl aa
 obtain ⟨af,I,am⟩:=kU nr
 simp only [List.cons.injEq,and_true] at I
 obtain rfl:=I
 obtain ⟨d0,ar,rfl,aw⟩:=kE.sl am
 show Calls prog 61 #[_,_] w _
 go_enter func61,ntmps61
 go_upto_region 1 with fail
 generalize H:World.alloc w _=N
 have Z:Below w.heap.size w N:=by rw [← H];exact bI
 have R:N.cell? ⟨w.heap.size,0,none⟩=some (.slice ac (p.1).length F):=tN
 have V:N.cell? ⟨w.heap.size,1,none⟩=some (.slice Y (p.2.1).length ab):=tN
 have J:N.cell? ⟨w.heap.size,2,none⟩=some (.int .i64 p.2.2):=tN
 clear H
 replace D:=cL Z D
 have FX:=yD (fun (W:World) (hW:Below N.heap.size N W)=>kLd hW R V J D)
 refine kz (fun W=>Below N.heap.size N W) [true,true,true,false,true] bR ?_
 intro wS E
 iterate 3
  all_goals refine kS ?_
 all_goals first | refine wkB (ym (kE.raw.below X (tQ Z E)) (kE.raw.below nr (tQ Z E))) (fun wS1 E=>?_) | refine kS ?_
 all_goals (have O:=True.intro;first|(refine yT (fun b O=>?_);cases b;all_goals first | exact Bool.noConfusion O | simp only [zU,zV] at O | skip) | refine kS ?_)
 all_goals refine kX ?_
 all_goals refine kZ ?_
 all_goals have G:=(tQ Z E)
 all_goals first
   | (have U:=yD (show (jV n p)=false by simp only [jV,Bool.not_true,Bool.not_false,Bool.and_true,Bool.true_and,Bool.and_false,Bool.false_and,Bool.or_true,Bool.true_or,Bool.or_false,Bool.false_or,Bool.not_not,O]);go_wp2;go_ret;exact ⟨kR U.out.symm,G⟩)
   | (have U:=yD (show (jV n p)=true by simp only [jV,Bool.not_true,Bool.not_false,Bool.and_true,Bool.true_and,Bool.and_false,Bool.false_and,Bool.or_true,Bool.true_or,Bool.or_false,Bool.false_or,Bool.not_not,O]);go_wp2;go_ret;exact ⟨kR U.out.symm,G⟩)
theorem kGf:jb prog 61:=zY func61 bB4 bB4
theorem kDd {w:World} {vl:Value} {l:(List kI)} (hl:(kE.slice 71 kJ).raw w [vl] l) {cn:List Value} {n:kQ} (hn:kM.raw w cn n) :
    Calls prog 29 #[vl,.agg cn.toArray] w (bQ w (.int .i64 (idxOf (jV n) l))):=by
 obtain ⟨al,pl,rfl,ll⟩:=kE.sl hl
 have Hn:=yD hn
 obtain ⟨Y,rfl,R⟩:=kU hn
 obtain ⟨V,L,rfl,aa⟩:=kE.sl R
 go_enter func29,ntmps29
 go_upto_region 1 with fail
 generalize H:World.alloc w _=N
 obtain ⟨Z,F⟩:=u6
 clear H
 go_wp2_with fail
 refine (kFk (jV n) kGf (kE.raw.below hl Z) ?_).mono ?_
 · intro wr hb i h cs hr
   exact kPb hr (kE.raw.below Hn.out (tQ Z hb)) (cL hb F)
 exact iU
end Go.Proofs.YtonmjkmaadgceaaGreat

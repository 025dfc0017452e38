/-
  Lists of pending interests that are valid.
-/
import Derived.Test.YtonmjkmaadgceaaGreatPut
import Derived.Test.YtonmjkmaadgceaaGreatSoftT
set_option linter.unusedVariables false
set_option linter.unusedSimpArgs false
set_option linter.unnecessarySimpa false
set_option maxRecDepth 100000
set_option maxHeartbeats 4000000
namespace Go.Proofs.YtonmjkmaadgceaaGreat
open Go.RowKit _root_.Go.Proofs.Tryz
def kQh (x:yt) (f t:Int):kP:=(f,x.2.1,wrap64 (t + x.2.2.2))
def kBg (x:yt) (f:Int) (l:List kI):Bool:=!((!kOy x || !inR f 0 6) || (decide (idxOf (jV x.1) l < 0) && decide ((12:Int)≤(l.length:Int))))
def addQ1 (x:yt) (f t:Int) (l:List kI):List kI :=
  if idxOf (jV x.1) l < 0 then l++[(x.1,[kQh x f t],0)]
  else l.set (idxOf (jV x.1) l).toNat ((l.getD (idxOf (jV x.1) l).toNat ([],[],0)).1,kNl (kQh x f t) (l.getD (idxOf (jV x.1) l).toNat ([],[],0)).2.1,(l.getD (idxOf (jV x.1) l).toNat ([],[],0)).2.2)
def addQ (x:yt) (f t:Int) (l:List kI):List kI:=if kBg x f l then addQ1 x f t l else l
theorem kXe {x:yt} {f t:Int} {l:List kI} (h:kBg x f l=false):addQ x f t l=l∧kBg x f l=false:=by unfold addQ;rw [h];exact ⟨rfl,rfl⟩
theorem addQ_new {x:yt} {f t:Int} {l:List kI} (h:kBg x f l=true) (hk:idxOf (jV x.1) l < 0):addQ x f t l=l++[(x.1,[kQh x f t],0)]∧kBg x f l=true:=by unfold addQ addQ1;rw [h,if_pos hk];exact ⟨rfl,rfl⟩
theorem addQ_set {x:yt} {f t:Int} {l:List kI} {k:Nat} (h:kBg x f l=true) (hk:idxOf (jV x.1) l=k) (aa:k < l.length):addQ x f t l=l.set k (l[k].1,kNl (kQh x f t) l[k].2.1,l[k].2.2)∧kBg x f l=true:=by
 unfold addQ addQ1
 rw [h,if_pos rfl,hk,if_neg (show ¬ ((k:Int) < 0) by omega)]
 refine ⟨?_,rfl⟩
 simp only [Int.toNat_natCast,jM aa]
theorem addQok_len {x:yt} {f:Int} {l:List kI} (h:kBg x f l=true) (hk:idxOf (jV x.1) l < 0):l.length < 12:=by
 unfold kBg at h
 simp [hk] at h
 omega
theorem pend_setReq {w:World} {b cap len k:Nat} {l:List kI} {S T:Nat→Prop} {v':Value} {E:List kP} (h:kE.ku 71 kJ w (.slice (some ⟨b,0,none⟩) len cap) l S) (hk:k < l.length)
    (hv:kE.ku 73 jH w v' E T) (bx:E.length≤Big) (hST:∀ j,S j→T j→False) :
    kE.ku 71 kJ (w.setCell ⟨b,k * 3 + 1,none⟩ v') (.slice (some ⟨b,0,none⟩) len cap) (l.set k (l[k].1,E,l[k].2.2)) (fun j=>S j∨T j):=by
 have ba:=h.1 l[k] (List.getElem_mem hk)
 refine (kE.kWr (i:=k) (j:=1) (p:=k * 3 + 1) (T:=T) (y:=(l[k].1,E,l[k].2.2)) h hk bB8 ?_ ⟨ba.1,(hv.own0h bx).2,trivial⟩ hST rfl).1
 rintro cs D ⟨c,d,A,B,rfl,h1,⟨c2,d2,A2,B2,rfl,h2,h3,k1,k2,k3⟩,k4,k5,k6⟩ F
 have ag:c.length=1:=kM.len h1
 obtain ⟨cn,rfl⟩:=List.length_eq_one_iff.1 ag
 have bt:c2.length=1:=(kE.slice 73 jH).len h2
 obtain ⟨G,rfl⟩:=List.length_eq_one_iff.1 bt
 refine ⟨[cn],v' :: d2,A,T,rfl,h1,?_,fun j I=>.inl (k4 j I),fun j=>.inr,fun _ j a t=>hST j (F j (k4 j a)) t⟩
 exact ⟨[v'],d2,T,fun _=>False,rfl,(hv.own bx).1,h3,fun j I=>I,fun j I=>I.elim,fun _ j _ I=>I⟩
theorem kRo (z:Int):-9223372036854775808≤wrap64 z∧wrap64 z≤9223372036854775807:=by unfold wrap64;omega
theorem kFs {w:World} {vl:Value} {l:List kI} (hl:(kE.slice 71 kJ).rd w [vl] l) (db:∀ y∈l,y.2.1.length≤1048576) {cx:List Value} {x:yt} (hx:zg.rd w cx x) {f:Int} (hf:-9223372036854775808≤f∧f≤9223372036854775807) {t:Int} (ht:-9223372036854775808≤t∧t≤9223372036854775807) :
    Calls prog 110 #[vl,.agg cx.toArray,.int .i64 f,.int .i64 t] w fun e w'=>∃ v,e=.returned (.tuple #[v,.bool (kBg x f l)])∧(kE.slice 71 kJ).own w' [v] (addQ x f t l) (jR w.heap.size w'.heap.size)∧Below w.heap.size w w':=by
 have HL:=yD hl
 have ah:=yD db
 have bj:l.length≤16777216:=hl.2.1
 have HW:=yD hx
 obtain ⟨nv,rfl,al,ai,a1,a9,an⟩:=kCz hx.1
 obtain ⟨n,x1,x2,x3⟩:=x
 have HN:Hid (kM.rd w [nv] n):=yD ⟨al,hx.2.1⟩
 obtain ⟨na,np,rfl,_⟩:=kE.sl ai
 obtain ⟨va,vp,rfl,bm⟩:=kE.sl hl.1
 have HF:=yD hf
 have bp:=yD a1
 clear al ai a1 a9 an hl hx hf ht db
 go_enter func110,ntmps110
 go_upto_region 1 with fail
 generalize H:World.alloc w _=N
 have Z:Below w.heap.size w N:=by rw [← H];exact bI
 have K0:N.cell? ⟨w.heap.size,0,none⟩=some (.slice na n.length np):=tN
 have K1:N.cell? ⟨w.heap.size,1,none⟩=some (.int .i64 x1):=tN
 have K2:N.cell? ⟨w.heap.size,2,none⟩=some (.int .i64 x2):=tN
 have K3:N.cell? ⟨w.heap.size,3,none⟩=some (.int .i64 x3):=tN
 have b8:N.heap.size=w.heap.size + 1:=bA4
 clear H
 go_wp2_with fail
 refine (kHb (HL.out.below Z)).mono ?_
 rintro e w1 ⟨v1,rfl,O1,O⟩
 replace K0:=cL O K0
 replace K1:=cL O K1
 replace K2:=cL O K2
 replace K3:=cL O K3
 have E1:=(tQ Z O)
 have az:=O.size
 have L:=yD O1
 obtain ⟨oa,on,oc,ho,bl⟩:=O1.parts;obtain rfl:=ho
 clear O1 O Z
 go_wp2_with fail
 refine (kHa (HL.out.1.below E1) (HN.out.1.below E1)).mono ?_
 rintro e w4 ⟨rfl,X⟩
 replace K0:=cL X K0
 replace K1:=cL X K1
 replace K2:=cL X K2
 replace K3:=cL X K3
 have E4:=(tQ E1 X)
 have bt:=X.size
 replace L:=yD ((L.out.below X).wide (T:=jR N.heap.size w4.heap.size) rE)
 clear X E1
 by_cases hk:idxOf (jV n) l < 0
 · have HK:Hid (decide (idxOf (jV n) l < 0)=true):=yD wR
   go_upto_region 3 with fail
   have FX:=yD (fun (W:World) (hW:Below w4.heap.size w4 W)=>kLd hW K0 K1 K2 K3)
   refine kz (fun W=>Below w4.heap.size w4 W) [true,false,true,true,true,false,true,true,true,true,true,true,true,true,true,true,true] (bR) ?_
   intro wS E
   all_goals refine kS ?_
   all_goals first|(refine kK rfl E ?_)|(refine ko rfl (fun K J=>?_);go_simp;refine (kFg (HW.out.1.below (tQ E4 E))).mono ?_;rintro e wV ⟨rfl,ba⟩;replace E:=(tQ E ba);refine J _ _ E ?_;clear J K ba)
   all_goals refine kX ?_
   all_goals refine kS ?_
   all_goals (have ag:=True.intro;first|(refine yT (fun b ag=>?_);cases b;all_goals first | exact Bool.noConfusion ag | simp only [zU,zV] at ag | skip) | refine kS ?_)
   all_goals refine kX ?_
   all_goals refine kS ?_
   all_goals first | refine wkC (ji) ?_ | refine kS ?_
   all_goals refine kS ?_
   all_goals refine kS ?_
   all_goals (have ac:=True.intro;first|(refine yT (fun b ac=>?_);cases b;all_goals first | exact Bool.noConfusion ac | simp only [zU,zV] at ac | skip) | refine kS ?_)
   all_goals refine kX ?_
   all_goals refine kS ?_
   all_goals refine kS ?_
   all_goals (have Y:=True.intro;first|(refine yT (fun b Y=>?_);cases b;all_goals first | exact Bool.noConfusion Y | simp only [zU,zV] at Y | skip) | refine kS ?_)
   all_goals refine kX ?_
   iterate 4
    all_goals refine kS ?_
   all_goals (have V:=True.intro;first|(refine yT (fun b V=>?_);cases b;all_goals first | exact Bool.noConfusion V | simp only [zU,zV] at V | skip) | refine kS ?_)
   all_goals refine kX ?_
   all_goals refine kZ ?_
   all_goals have E5:=(tQ E4 E)
   all_goals have aw:=yD (L.out.below E)
   all_goals have bi:=E.size
   all_goals have D:=cL E K0
   all_goals have bz:=cL E K1
   all_goals have b1:=cL E K2
   all_goals have b2:=cL E K3
   all_goals clear K0 K1 K2 K3 L
   all_goals first|(have U:=yD (kXe (t:=t) (show kBg (n,x1,x2,x3) f l=false by simp only [kBg,HK.out,Bool.not_true,Bool.not_false,Bool.and_true,Bool.true_and,Bool.and_false,Bool.false_and,Bool.or_true,Bool.true_or,Bool.or_false,Bool.false_or,Bool.not_not,ge_iff_le,ag,ac,Y,V,V]));go_wp2;go_ret2;exact ⟨_,by rw [U.out.2];rfl,((aw.out.cast U.out.1.symm).own (by rw [U.out.1];exact bj)).wide mR,E5⟩) | skip
   have U:=yD (addQ_new (t:=t) (show kBg (n,x1,x2,x3) f l=true by simp only [kBg,HK.out,Bool.not_true,Bool.not_false,Bool.and_true,Bool.true_and,Bool.and_false,Bool.false_and,Bool.or_true,Bool.true_or,Bool.or_false,Bool.false_or,Bool.not_not,ge_iff_le,ag,ac,Y,V,V]) hk)
   have cf:=addQok_len U.out.2 hk
   have en:¬ (0≤idxOf (jV n) l):=bB9
   generalize hq:idxOf (jV n) l=q at *
   clear hq HK
   go_upto_region 6 with fail
   generalize am:wrap64 (t + x3)=y3
   obtain ⟨HR,HY⟩:=CY
   clear am
   generalize F:World.alloc _ _=R
   obtain ⟨EC,bo,bv,bu,bn,E6,ae,D⟩:=xZ
   clear F bz b1 b2 aw E EC
   go_wp2_with fail
   refine (zi (HN.out.below E6)).mono ?_
   rintro e wT ⟨tc,rfl,OT,au⟩
   obtain ⟨dh,rfl,a2⟩:=kU OT.raw
   obtain ⟨av,bh,rfl,_⟩:=kE.sl a2
   clear a2
   go_upto_region 8 with fail
   generalize a3:World.alloc wT _=wD
   have ED:Below wT.heap.size wT wD:=rU
   have KD:wD.cell? ⟨wT.heap.size,0,none⟩=some (.slice av n.length bh):=tJ
   have cd:wT.heap.size≤wD.heap.size:=ED.size
   clear a3
   have ER:=(tQ au ED)
   have em:=au.size
   have b5:=yD (OT.below ED)
   replace bv:=cL ER bv
   replace bu:=cL ER bu
   replace bn:=cL ER bn
   have ab:=yD (ae.out.below ER)
   have HQ:Hid ((kE.slice 73 jH).own (wD.alloc (.cells #[.int .i64 f,.int .i64 x1,.int .i64 y3] 73)) [.slice (some ⟨wD.heap.size,0,none⟩) 1 1] [(f,x1,y3)] (jR wD.heap.size (wD.heap.size + 1))):=yD (kE.ku.own (kE.yV (e:=73) (r:=jH) (w:=wD) (cs:=[.int .i64 f,.int .i64 x1,.int .i64 y3]) (xs:=[(f,x1,y3)]) (T:=fun _=>False) (S:=jR wD.heap.size (wD.heap.size + 1)) (by intro y hy;simp only [List.mem_singleton] at hy;rw [hy];exact ⟨trivial,trivial,trivial⟩) (by simp [maxLen]) ⟨_,[],_,_,by simp,(kE.flat.own (S:=fun _=>False) (kE.jr (kE.ky HF.out) (kE.jr (kE.ky bp.out) (kE.ky HY.out)))).1,rfl,fun _ h=>h,fun _ h=>h,fun _ _ h _=>h⟩ (fun _ h=>h.elim) ⟨Nat.le_refl _,by omega⟩) bB6)
   have E8:=(tQ E6 ER)
   clear OT
   go_wp2_with (at_builtin;refine kE.jK rfl _ _ 28 rfl (r:=kJ) (e:=71) underlying28 jy rfl bB8 bB8 (B:=w.heap.size) (b:=wD.heap.size + 1) (ab.out.alloc _) bC1 bC1 bC0 (kE.own.wide (T:=jR w4.heap.size (wD.heap.size + 1)) (kE.ja (r:=kM) (q:=kE.pair (kE.slice 73 jH) kE.int) (cs:=[.slice av n.length bh]) (ds:=[.slice (some ⟨wD.heap.size,0,none⟩) 1 1,.int .i64 0]) (x:=n) (y:=([(f,x1,y3)],0)) (S:=jR w4.heap.size (wD.heap.size + 1)) (b5.out.alloc _) (kE.jw (r:=(kE.slice 73 jH)) (q:=kE.int) (cs:=[.slice (some ⟨wD.heap.size,0,none⟩) 1 1]) (ds:=[.int .i64 0]) (x:=[(f,x1,y3)]) (y:=0) HQ.out (kE.ky ⟨by decide,by decide⟩)) mR mR mW) (fun j I=>I)) rfl mW gT gT bB5 bB9 ?_)
   intro v5 w5 G ak b7
   have br:=yD (G.cast (by rw [U.out.1,HR.out]:_=addQ (n,x1,x2,x3) f t l))
   obtain ⟨pa,pn,pc,hp,a7⟩:=G.parts;obtain rfl:=hp
   have E9:=(E8.alloc E8.size _).trans ak
   clear G ak
   go_wp2
   go_ret2
   exact ⟨_,by rw [U.out.2];rfl,br.out.own (by rw [U.out.1];simp;unfold Big;omega),E9⟩
 have HK:Hid (decide (idxOf (jV n) l < 0)=false):=yD wR
 obtain ⟨k,aa,aj⟩:=kEj hk
 have bb:=yD aj
 rw [aj]
 have b0:¬ ((k:Int) < 0):=bB9
 clear hk aj
 go_upto_region 3 with fail
 have FX:=yD (fun (W:World) (hW:Below w4.heap.size w4 W)=>kLd hW K0 K1 K2 K3)
 refine kz (fun W=>Below w4.heap.size w4 W) [true,false,true,true,true,false,true,true,true,true,true,true,true,true,true,true,true] (bR) ?_
 intro wS E
 all_goals refine kS ?_
 all_goals first|(refine kK rfl E ?_)|(refine ko rfl (fun K J=>?_);go_simp;refine (kFg (HW.out.1.below (tQ E4 E))).mono ?_;rintro e wV ⟨rfl,ba⟩;replace E:=(tQ E ba);refine J _ _ E ?_;clear J K ba)
 all_goals refine kX ?_
 all_goals refine kS ?_
 all_goals (have ag:=True.intro;first|(refine yT (fun b ag=>?_);cases b;all_goals first | exact Bool.noConfusion ag | simp only [zU,zV] at ag | skip) | refine kS ?_)
 all_goals refine kX ?_
 all_goals refine kS ?_
 all_goals first | refine wkC (ji) ?_ | refine kS ?_
 all_goals refine kS ?_
 all_goals refine kS ?_
 all_goals (have ac:=True.intro;first|(refine yT (fun b ac=>?_);cases b;all_goals first | exact Bool.noConfusion ac | simp only [zU,zV] at ac | skip) | refine kS ?_)
 all_goals refine kX ?_
 all_goals refine kS ?_
 all_goals refine kS ?_
 all_goals (have Y:=True.intro;first|(refine yT (fun b Y=>?_);cases b;all_goals first | exact Bool.noConfusion Y | simp only [zU,zV] at Y | skip) | refine kS ?_)
 all_goals refine kX ?_
 iterate 4
  all_goals refine kS ?_
 all_goals (have V:=True.intro;first|(refine yT (fun b V=>?_);cases b;all_goals first | exact Bool.noConfusion V | simp only [zU,zV] at V | skip) | refine kS ?_)
 all_goals refine kX ?_
 all_goals refine kZ ?_
 all_goals have E5:=(tQ E4 E)
 all_goals have aw:=yD (L.out.below E)
 all_goals have bi:=E.size
 all_goals have D:=cL E K0
 all_goals have bz:=cL E K1
 all_goals have b1:=cL E K2
 all_goals have b2:=cL E K3
 all_goals clear K0 K1 K2 K3 L
 all_goals first|(have U:=yD (kXe (t:=t) (show kBg (n,x1,x2,x3) f l=false by simp only [kBg,HK.out,Bool.not_true,Bool.not_false,Bool.and_true,Bool.true_and,Bool.and_false,Bool.false_and,Bool.or_true,Bool.true_or,Bool.or_false,Bool.false_or,Bool.not_not,ge_iff_le,ag,ac,Y,V,V]));go_wp2;go_ret2;exact ⟨_,by rw [U.out.2];rfl,((aw.out.cast U.out.1.symm).own (by rw [U.out.1];exact bj)).wide mR,E5⟩) | skip
 have U:=yD (addQ_set (t:=t) (show kBg (n,x1,x2,x3) f l=true by simp only [kBg,HK.out,Bool.not_true,Bool.not_false,Bool.and_true,Bool.true_and,Bool.and_false,Bool.false_and,Bool.or_true,Bool.true_or,Bool.or_false,Bool.false_or,Bool.not_not,ge_iff_le,ag,ac,Y,V,V]) bb.out aa)
 go_upto_region 6 with fail
 generalize am:wrap64 (t + x3)=y3
 obtain ⟨HR,HY⟩:=CY
 clear am
 generalize F:World.alloc _ _=R
 obtain ⟨EC,bo,bv,bu,bn,E6,ae,D⟩:=xZ
 clear F bz b1 b2 aw E EC
 obtain ⟨b,cap,hv,af,bk,ao,a4⟩:=kE.kBu ae.out aa
 simp only [Value.slice.injEq] at hv
 obtain ⟨rfl,ay,rfl⟩:=hv
 have a5:k < on:=bB9
 obtain ⟨a8,be⟩:=AR
 clear ay
 have a6:=yD (ae.out.own bj)
 obtain ⟨c0,c1,c2,hr,A0,A1,A2⟩:=kE.at3 a6.out.raw aa rfl
 obtain ⟨bq,cc,aq,ar,ax,ap,bc⟩:=jo hr
 simp only [List.cons.injEq,and_true] at aq
 obtain ⟨rfl,rfl,rfl⟩:=aq
 have c9:Hid ((kE.slice 73 jH).rd R [c1] l[k].2.1):=yD ⟨ap,(kE.zM a6.out.rd aa).2.1⟩
 obtain ⟨ra,rp,rfl,_⟩:=kE.sl ap
 have b6:l[k].2.1.length≤1048576:=ah.out _ (List.getElem_mem aa)
 clear hr ar ax ap bc A0 A2 a6
 go_upto_region 9 with fail
 have FX:=yD (fun (W:World) (hW:Below R.heap.size R W)=>kLd hW A1 bv bu bn)
 refine kW (fun W=>Below R.heap.size R W) [true,true,true,true,true,true,false,true] bB4 bB4 qD (bR.drew) ?_
 intro wS E
 iterate 6
  all_goals refine kS ?_
 all_goals first|(refine kK rfl E ?_)|(refine ko rfl (fun K J=>?_);go_simp;refine (kWk (c9.out.below E) HF.out bp.out HY.out).mono ?_;rintro e w6 ⟨v6,rfl,O6,bd⟩;obtain ⟨pa,pn,pc,hp,a7⟩:=O6.parts;obtain rfl:=hp;replace O6:=yD O6;have bw:=E.size;have b3:=bd.size;replace E:=(tQ E bd);refine J _ _ E ?_;clear J K bd)
 all_goals refine kX ?_
 all_goals refine kS ?_
 all_goals refine kZ ?_
 have b9:=cL E A1
 have bf:=yD (ae.out.below E)
 have bg:=kE.kGo bf.out bB9 (k * 3 + 1)
 have bx:(kNl (f,x1,y3) l[k].2.1).length≤Big:=Nat.le_trans (putR_len _ _) vV
 have ce:=yD (pend_setReq bf.out aa O6.out bx mW)
 have b4:=yD (ce.out.cast (by rw [U.out.1,HR.out]:_=addQ (n,x1,x2,x3) f t l))
 have E9:=(tQ E6 E)
 clear ce
 go_wp2
 go_ret2
 exact ⟨_,by rw [U.out.2];rfl,(b4.out.own (by rw [U.out.1];simp;unfold Big;omega)).wide (fun j I=>by rcases I with I | I;exact ⟨by have:=I.1;omega,by have:=I.2;simp [World.setCell];omega⟩;exact ⟨by have:=I.1;omega,by have:=I.2;simp [World.setCell];omega⟩),E9.setCell (show w.heap.size≤b by have:=af.1;omega) _⟩
def kSo (n:kQ) (t:Int) (l:List kI):List kI :=
  if idxOf (jV n) l < 0 then l else l.set (idxOf (jV n) l).toNat (kAu (l.getD (idxOf (jV n) l).toNat ([],[],0)) t)
theorem sentP_no {n:kQ} {t:Int} {l:List kI} (h:idxOf (jV n) l < 0):kSo n t l=l:=by unfold kSo;rw [if_pos h]
theorem kUy {n:kQ} {t:Int} {l:List kI} {k:Nat} (h:idxOf (jV n) l=k) (hk:k < l.length):kSo n t l=l.set k (kAu l[k] t):=by
 unfold kSo
 exact aB
theorem kSi {w:World} {vl:Value} {l:List kI} (hl:(kE.slice 71 kJ).rd w [vl] l) {cn:List Value} {n:kQ} (hn:kM.rd w cn n) {t:Int} (ht:-9223372036854775808≤t∧t≤9223372036854775807) :
    Calls prog 157 #[vl,.agg cn.toArray,.int .i64 t] w (kCk (kE.slice 71 kJ) (kSo n t l) w):=by
 obtain ⟨HL,HN,bj⟩:=CP
 obtain ⟨nv,rfl,am⟩:=kU hn.1
 obtain ⟨na,np,rfl,_⟩:=kE.sl am
 obtain ⟨va,vp,rfl,bm⟩:=kE.sl hl.1
 clear am hl hn
 go_enter func157,ntmps157
 go_wp2_with fail
 generalize H:World.alloc w _=N
 obtain ⟨Z,K0,b8⟩:=uD
 clear H
 refine (kHb (HL.out.below Z)).mono ?_
 rintro e w1 ⟨v1,rfl,O1,O⟩
 replace K0:=cL O K0
 obtain ⟨E1,az,L⟩:=AX
 obtain ⟨oa,on,oc,ho,bl⟩:=O1.parts;obtain rfl:=ho
 clear O1 O Z
 have HF:=yD ht
 clear ht
 go_wp2_with fail
 refine (kHa (HL.out.1.below E1) (HN.out.1.below E1)).mono ?_
 rintro e w4 ⟨rfl,X⟩
 replace K0:=cL X K0
 have E4:=(tQ E1 X)
 obtain ⟨bt,L⟩:=AO
 clear X E1
 by_cases hk:idxOf (jV n) l < 0
 · have U:=yD (sentP_no (t:=t) hk)
   have en:¬ (0≤idxOf (jV n) l):=bB9
   generalize hq:idxOf (jV n) l=q at *
   clear hq
   go_wp2
   go_ret
   exact ⟨_,rfl,(L.out.cast U.out.symm).own vJ,E4⟩
 obtain ⟨k,aa,aj⟩:=kEj hk
 have bb:=yD aj
 rw [aj]
 clear hk aj
 obtain ⟨b,cap,hv,af,bk,ao,a4⟩:=kE.kBu L.out aa
 simp only [Value.slice.injEq] at hv
 obtain ⟨rfl,ay,rfl⟩:=hv
 have a5:k < on:=bB9
 obtain ⟨a8,be⟩:=AR
 have a6:=yD (L.out.own bj)
 obtain ⟨c0,c1,c2,hr,A0,A1,A2⟩:=kE.at3 a6.out.raw aa rfl
 clear hr
 have bg:=kE.kGo L.out bB9 (k * 3 + 2)
 have U:=yD (kUy (t:=t) bb.out aa)
 obtain ⟨s1,s2⟩:=kE.kEg (i:=k) (j:=2) (p:=k * 3 + 2) (u:=.int .i64 t) L.out bj aa bB8 (fun h=>kJs _ HF.out h) (show kJ.bdd Big (kAu l[k] t) from kE.zM a6.out.rd aa) rfl
 have ae:=yD (s1.cast U.out.symm);clear s1 s2 ay
 go_wp2
 go_ret
 exact ⟨_,rfl,(ae.out.own qY).wide mM,E4.setCell af.1 _⟩
def zF (l:List jI) (n:kQ) (x:Int):List jI:=if (24:Nat) < (l++[(n,x)]).length then (l++[(n,x)]).drop 1 else l++[(n,x)]
theorem kMg {w:World} {vl:Value} {l:List jI} (hl:(kE.slice 123 jF).rd w [vl] l) (hlen:l.length≤2000000) {cn:List Value} {n:kQ} (hn:kM.rd w cn n) {x:Int} (hx:-9223372036854775808≤x∧x≤9223372036854775807) :
    Calls prog 156 #[vl,.agg cn.toArray,.int .i64 x] w (kCk (kE.slice 123 jF) (zF l n x) w):=by
 have HL:=yD hl
 have HN:=yD hn
 have HX:=yD hx
 obtain ⟨la,lp,rfl,ll⟩:=kE.sl hl.1
 obtain ⟨av,rfl,ac⟩:=kU hn.1
 obtain ⟨na,np,rfl,_⟩:=kE.sl ac
 clear hl hn ac hx
 go_enter func156,ntmps156
 go_upto_region 1 with fail
 generalize H:World.alloc w _=N
 obtain ⟨Z,b8,K0⟩:=DF
 clear H
 have FX:=yD (fun (W:World) (hW:Below N.heap.size N W)=>cL hW K0)
 refine yQ (fun W=>Below N.heap.size N W) [(0,true),(2,true),(4,true),(1,false),(3,false),(5,true),(6,false),(7,false),(8,true)] bB4 bB4 qD (bR.drew) ?_
 intro wS E
 simp only [jD,List.getElem?_cons_succ,List.getElem?_cons_zero,List.map_cons,List.map_nil]
 iterate 3
  all_goals refine kS ?_
 all_goals first|(refine kK rfl E ?_)|(refine ko rfl (fun K J=>?_);go_simp;refine (kLq (HL.out.below (tQ Z E))).mono ?_;rintro e wA ⟨v1,rfl,O1,L⟩;have al:=E.size;have d1:=L.size;have ao:=E;obtain ⟨va,vn,vc,F,be⟩:=O1.parts;obtain rfl:=F;have X:=yD O1;clear O1;replace E:=(tQ E L);refine J _ _ E ?_;clear J K L)
 all_goals refine kX ?_
 all_goals first|(refine kK rfl E ?_)|(refine ko rfl (fun K J=>?_);go_simp;refine (zi (HN.out.below (tQ Z E))).mono ?_;rintro e R ⟨tc,rfl,O3,ak⟩;have bo:=ak.size;obtain ⟨tv,rfl,a2⟩:=kU O3.raw;obtain ⟨ta,tp,rfl,_⟩:=kE.sl a2;clear a2;have ae:=yD O3;clear O3;replace X:=yD (X.out.below ak);have bu:=be.out;subst bu;clear be;replace E:=(tQ E ak);refine J _ _ E ?_;clear J K ak)
 all_goals refine kX ?_
 all_goals refine kS ?_
 all_goals first|(refine kK rfl E ?_)|(refine ko rfl (fun K J=>?_);go_simp;refine J _ _ (E.alloc E.size _) ?_;clear J K)
 all_goals refine kX ?_
 all_goals first|(refine kK rfl E ?_)|(refine ko rfl (fun K J=>?_);obtain ⟨G,w7,V,I,U⟩:=kE.kFu (P:=prog) (t:=29) (ty:=29) (r:=jF) (e:=123) (w:=R) (xs:=l) (c:=1) underlying29 kEh rfl bB8 bB8 (X.out.own vV) bR (kE.jw (r:=kM) (q:=kE.int) (cs:=[.slice ta n.length tp]) (ds:=[.int .i64 x]) (x:=n) (y:=x) ae.out (kE.ky HX.out)) nZ bB9;refine kE.jP _ _ _ rfl bC1 bC1 V ?_;have am:=U.size;have az:Below N.heap.size N w7:=E.trans (U.below E.size (fun j q=>by have:=q.1.1;omega));clear V;generalize aa:l++[(n,x)]=q at *;have ar:Hid (q.length=l.length + 1):=yD (by rw [← aa];simp);obtain ⟨a7,D,rfl,_⟩:=kE.sl I.raw;have ab:=yD (I.wide (T:=jR w.heap.size w7.heap.size) bJ);clear I U;have e3:=yD aa;clear aa;refine J _ _ az ?_;clear J K E)
 all_goals refine kX ?_
 all_goals refine kS ?_
 all_goals refine kZ ?_
 exact lT
theorem kFz {w:World} {vl:Value} {l:List jI} (hl:(kE.slice 123 jF).rd w [vl] l) (hlen:l.length≤2000000) {cn:List Value} {n:kQ} (hn:kM.rd w cn n) {x:Int} (hx:-9223372036854775808≤x∧x≤9223372036854775807) :
    Calls prog 33 #[vl,.agg cn.toArray,.int .i64 x] w (kCk (kE.slice 123 jF) (zF l n x) w):=by
 have HL:=yD hl
 have HN:=yD hn
 have HX:=yD hx
 obtain ⟨la,lp,rfl,ll⟩:=kE.sl hl.1
 obtain ⟨av,rfl,ac⟩:=kU hn.1
 obtain ⟨na,np,rfl,_⟩:=kE.sl ac
 clear hl hn ac hx
 go_enter func33,ntmps33
 go_upto_region 1 with fail
 generalize H:World.alloc w _=N
 obtain ⟨Z,b8,K0⟩:=DF
 clear H
 have FX:=yD (fun (W:World) (hW:Below N.heap.size N W)=>cL hW K0)
 refine yQ (fun W=>Below N.heap.size N W) [(0,true),(2,true),(4,true),(1,false),(3,false),(5,true),(6,false),(7,false),(8,true)] bB4 bB4 qD (bR.drew) ?_
 intro wS E
 simp only [jD,List.getElem?_cons_succ,List.getElem?_cons_zero,List.map_cons,List.map_nil]
 iterate 3
  all_goals refine kS ?_
 all_goals first|(refine kK rfl E ?_)|(refine ko rfl (fun K J=>?_);go_simp;refine (kKk (HL.out.below (tQ Z E))).mono ?_;rintro e wA ⟨v1,rfl,O1,L⟩;have al:=E.size;have d1:=L.size;have ao:=E;obtain ⟨va,vn,vc,F,be⟩:=O1.parts;obtain rfl:=F;have X:=yD O1;clear O1;replace E:=(tQ E L);refine J _ _ E ?_;clear J K L)
 all_goals refine kX ?_
 all_goals first|(refine kK rfl E ?_)|(refine ko rfl (fun K J=>?_);go_simp;refine (zG (HN.out.below (tQ Z E))).mono ?_;rintro e R ⟨tc,rfl,O3,ak⟩;have bo:=ak.size;obtain ⟨tv,rfl,a2⟩:=kU O3.raw;obtain ⟨ta,tp,rfl,_⟩:=kE.sl a2;clear a2;have ae:=yD O3;clear O3;replace X:=yD (X.out.below ak);have bu:=be.out;subst bu;clear be;replace E:=(tQ E ak);refine J _ _ E ?_;clear J K ak)
 all_goals refine kX ?_
 all_goals refine kS ?_
 all_goals first|(refine kK rfl E ?_)|(refine ko rfl (fun K J=>?_);go_simp;refine J _ _ (E.alloc E.size _) ?_;clear J K)
 all_goals refine kX ?_
 all_goals first|(refine kK rfl E ?_)|(refine ko rfl (fun K J=>?_);obtain ⟨G,w7,V,I,U⟩:=kE.kFu (P:=prog) (t:=29) (ty:=29) (r:=jF) (e:=123) (w:=R) (xs:=l) (c:=1) underlying29 kEh rfl bB8 bB8 (X.out.own vV) bR (kE.jw (r:=kM) (q:=kE.int) (cs:=[.slice ta n.length tp]) (ds:=[.int .i64 x]) (x:=n) (y:=x) ae.out (kE.ky HX.out)) nZ bB9;refine kE.jP _ _ _ rfl bC1 bC1 V ?_;have am:=U.size;have az:Below N.heap.size N w7:=E.trans (U.below E.size (fun j q=>by have:=q.1.1;omega));clear V;generalize aa:l++[(n,x)]=q at *;have ar:Hid (q.length=l.length + 1):=yD (by rw [← aa];simp);obtain ⟨a7,D,rfl,_⟩:=kE.sl I.raw;have ab:=yD (I.wide (T:=jR w.heap.size w7.heap.size) bJ);clear I U;have e3:=yD aa;clear aa;refine J _ _ az ?_;clear J K E)
 all_goals refine kX ?_
 all_goals refine kS ?_
 all_goals refine kZ ?_
 exact lT
end Go.Proofs.YtonmjkmaadgceaaGreat
namespace Go.Proofs.YtonmjkmaadgceaaGreat
open _root_.Go.Proofs.Tryz
theorem kOh {f:Nat→Bool}:∀ {n:Nat},yX f n=true↔∀ j,j < n→f j=true
  | 0=>by simp [yX]
  | n + 1=>by
    rw [yX,Bool.and_eq_true,kOh]
    constructor
    · rintro ⟨h,k⟩ j I
      by_cases e:j=n
      · rw [e];exact k
      · exact h j bB9
    · intro h;exact ⟨fun j I=>h j bB9,h n bB9⟩
theorem kPn {α:Type} {p:α→Bool} {x:List α}:idxOf p x < 0↔∀ y∈x,p y=false:=by
 unfold idxOf
 cases h:x.findIdx? p with
 | none=>simp [List.findIdx?_eq_none_iff.1 h];exact List.findIdx?_eq_none_iff.1 h
 | some i =>
   obtain ⟨hi,hp,_⟩:=List.findIdx?_eq_some_iff_getElem.1 h
   constructor
   · intro q;simp at q;omega
   · intro q;rw [q _ (List.getElem_mem hi)] at hp;cases hp
theorem kQo {α:Type} {p:α→Bool} {x:List α} {k:Nat} (h:idxOf p x=k):∃ hk:k < x.length,p x[k]=true∧∀ j (I:j < k),p (x[j]'(Nat.lt_trans I hk))=false:=by
 unfold idxOf at h
 cases e:x.findIdx? p with
 | none=>rw [e] at h;simp at h
 | some i =>
   rw [e] at h
   obtain rfl:i=k:=by simp only at h;omega
   obtain ⟨hi,hp,hq⟩:=List.findIdx?_eq_some_iff_getElem.1 e
   exact ⟨hi,hp,fun j I=>by have:=hq j I;simpa using this⟩
theorem kLv {α:Type} {R:α→α→Prop} (tr:∀ a b c,R a b→R b c→R a c):∀ {l:List α},(∀ k (h:k + 1 < l.length),R (l[k]'(Nat.lt_of_succ_lt h)) l[k + 1])→l.Pairwise R
  | [],_=>.nil
  | [a],_=>by simp
  | a :: b :: l,h=>by
    have ih:=kLv tr (l:=b :: l) (fun k hk=>h (k + 1) (by simp only [List.length_cons] at hk ⊢;omega))
    have cw:=h 0 bC0
    refine List.pairwise_cons.2 ⟨?_,ih⟩
    intro x hx
    rcases List.mem_cons.1 hx with rfl | hx
    · exact cw
    · exact tr _ _ _ cw ((List.pairwise_cons.1 ih).1 x hx)
end Go.Proofs.YtonmjkmaadgceaaGreat
namespace Go.Proofs.YtonmjkmaadgceaaGreat
open Go.RowKit _root_.Go.Proofs.Tryz
def okA (y x:kP):Bool:=!((!inR x.1 0 6 || !inR x.2.1 0 1000000) || decide (x.1≤y.1))
def okA0 (x:kP):Bool:=!(!inR x.1 0 6 || !inR x.2.1 0 1000000)
def kJh (l:List kP) (k:Nat) (x:kP):Bool:=if 0 < k then okA (l.getD (k - 1) (0,0,0)) x else okA0 x
def kKx (l:List kP):Bool:=yX (fun j=>kJh l j (l.getD j (0,0,0))) l.length && decide (0 < l.length)
theorem vAsk_bad {l:List kP} {k:Nat} (h:k < l.length) (q:kJh l k l[k]=false):kKx l=false:=by
 unfold kKx;rw [kCj h qR];rfl
theorem kUt {l:List kP} {k:Nat} (h:k < l.length) (q:kJh l k l[k]=true) (a:yX (fun j=>kJh l j (l.getD j (0,0,0))) k=true):yX (fun j=>kJh l j (l.getD j (0,0,0))) (k + 1)=true :=
  kAq a qR
theorem kUu {l:List kP} {k:Nat} (q:yX (fun j=>kJh l j (l.getD j (0,0,0))) k=true) (h:¬ k < l.length) (hk:k≤l.length):kKx l=decide (0 < l.length):=by
 obtain rfl:k=l.length:=bB9
 unfold kKx;rw [q];rfl
theorem kIt {l:List kP} {k:Nat} {x:kP} (h:¬ 0 < k):kJh l k x=okA0 x:=by unfold kJh;rw [if_neg h]
theorem kKt {l:List kP} {k j:Nat} {x:kP} (h:0 < k) (e:k - 1=j) (I:j < l.length):kJh l k x=okA l[j] x:=by unfold kJh;rw [if_pos h,e,jM I]
theorem kQu {w:World} {vl:Value} {l:List kP} (hl:(kE.slice 73 jH).raw w [vl] l) :
    Calls prog 55 #[vl] w (bQ w (.bool (kKx l))):=by
 obtain ⟨al,pl,rfl,ll⟩:=kE.sl hl
 go_enter func55,ntmps55
 go_wp2
 go_loopw [3] (fun i wr=>∃ k:Nat,k≤l.length∧i=.int .i64 k∧Hid (yX (fun j=>kJh l j (l.getD j (0,0,0))) k=true)∧Below w.heap.size w wr) (fun i _=>l.length - (intOf i).toNat)
 case atStart=>exact ⟨0,Nat.zero_le _,rfl,yD rfl,bR⟩
 obtain ⟨k,hk,rfl,HN,D⟩:=hrel
 by_cases hlt:k < l.length
 · have a8:=Int.ofNat_lt.2 hlt
   have di:=Int.natCast_nonneg k
   obtain ⟨qb,qo,rfl,ah,ai,aj,qr,a1,a4,bb⟩:=kE.kDv (hl.below D) (i:=k) bB9 rfl
   have hb:=fun q=>vAsk_bad hlt q
   have an:=fun q=>kUt hlt q HN.out
   by_cases h0:0 < k
   · obtain ⟨j,I⟩:∃ j,k - 1=j:=⟨_,rfl⟩
     have av:j < l.length:=bB9
     have L:=yD (kKt (l:=l) (x:=l[k]) h0 I av)
     have bg:(k:Int) - 1=(j:Int):=bB9
     obtain ⟨yb,yo,yE,ay,bd,a9,yr,ac,aw,ag⟩:=kE.kDv (hl.below D) av rfl
     simp only [Option.some.injEq,Addr.mk.injEq,and_true] at yE
     obtain ⟨rfl,rfl⟩:=yE
     generalize l[j]=y at *
     obtain ⟨b2,bj,bu,b1⟩:=zP yr
     simp only [List.cons.injEq,and_true] at b2
     obtain ⟨rfl,rfl,rfl⟩:=b2
     clear yr
     have hw:IntKind.i64.wrap (j:Int)=j:=IntWalk.i64_in _ bB9
     have da:=Int.natCast_nonneg j
     have bq:=Int.ofNat_lt.2 av
     clear I
     have hp:decide ((k:Int) > 0)=true:=bB5
     have bm:decide (0 < k)=true:=wH
     have ba:(0:Int) < k:=bB9
     generalize l[k]=x at *
     have HB:=yD hb;have HX:=yD an;clear hb an
     obtain ⟨aq,ar,ax,ap⟩:=zP qr
     simp only [List.cons.injEq,and_true] at aq
     obtain ⟨rfl,rfl,rfl⟩:=aq
     go_upto_region 4 with fail
     have FX:=yD (fun (W:World) (hW:Below wr.heap.size wr W)=>kLd hW a1 a4 bb ac)
     refine kW (fun W=>Below wr.heap.size wr W) [true,true,true,true,true,false,true,true,true,true,true,true,true,false,true,true,true,true,true,true,true,true,true,true,true,true,true,true,true,true,true,true,true,true] bB4 bB4 qD (bR.drew) ?_
     intro wS E
     iterate 5
      all_goals refine kS ?_
     all_goals first | refine wkC (ji) ?_ | refine kS ?_
     all_goals refine kS ?_
     all_goals (have af:=True.intro;first|(refine yT (fun b af=>?_);cases b;all_goals first | exact Bool.noConfusion af | simp only [zU,zV] at af | skip) | refine kS ?_)
     all_goals refine kX ?_
     iterate 5
      all_goals refine kS ?_
     all_goals first | refine wkC (ji) ?_ | refine kS ?_
     all_goals refine kS ?_
     all_goals refine kS ?_
     all_goals (have V:=True.intro;first|(refine yT (fun b V=>?_);cases b;all_goals first | exact Bool.noConfusion V | simp only [zU,zV] at V | skip) | refine kS ?_)
     all_goals refine kX ?_
     all_goals refine kS ?_
     all_goals refine kS ?_
     all_goals (have J:=True.intro;first|(refine yT (fun b J=>?_);cases b;all_goals first | exact Bool.noConfusion J | simp only [zU,zV] at J | skip) | refine kS ?_)
     all_goals refine kX ?_
     iterate 13
      all_goals refine kS ?_
     all_goals (have F:=True.intro;first|(refine yT (fun b F=>?_);cases b;all_goals first | exact Bool.noConfusion F | simp only [zU,zV] at F | skip) | refine kS ?_)
     all_goals refine kX ?_
     all_goals refine kZ ?_
     all_goals have G:=(tQ D E)
     all_goals first
       | (have U:=yD (HB.out (show _=false by rw [L.out];simp only [okA,Bool.not_true,Bool.not_false,Bool.and_true,Bool.true_and,Bool.and_false,Bool.false_and,Bool.or_true,Bool.true_or,Bool.or_false,Bool.false_or,Bool.not_not,ge_iff_le,af,V,J,F]));clear HB HX HN L;go_wp2;go_ret;exact ⟨kR U.out.symm,G⟩)
       | (have U:=yD (HX.out (show _=true by rw [L.out];simp only [okA,Bool.not_true,Bool.not_false,Bool.and_true,Bool.true_and,Bool.and_false,Bool.false_and,Bool.or_true,Bool.true_or,Bool.or_false,Bool.false_or,Bool.not_not,ge_iff_le,af,V,J,F]));clear HB HX HN L;go_wp2;go_roundw;(case rel=>exact ⟨k + 1,by omega,by go_num,U,G⟩);(case measure=>simp [intOf];omega))
   have L:=yD (kIt (l:=l) (x:=l[k]) h0)
   have hp:decide ((k:Int) > 0)=false:=bB5
   have bm:decide (0 < k)=false:=wH
   have ba:¬ (0:Int) < k:=bB9
   generalize l[k]=x at *
   have HB:=yD hb;have HX:=yD an;clear hb an
   obtain ⟨aq,ar,ax,ap⟩:=zP qr
   simp only [List.cons.injEq,and_true] at aq
   obtain ⟨rfl,rfl,rfl⟩:=aq
   go_upto_region 4 with fail
   have FX:=yD (fun (W:World) (hW:Below wr.heap.size wr W)=>kMs hW a1 a4 bb)
   refine kW (fun W=>Below wr.heap.size wr W) [true,true,true,true,true,false,true,true,true,true,true,true,true,false,true,true,true,true,true,true,true,true,true,true,true,true,true,true,true,true,true,true,true,true] bB4 bB4 qD (bR.drew) ?_
   intro wS E
   iterate 5
    all_goals refine kS ?_
   all_goals first | refine wkC (ji) ?_ | refine kS ?_
   all_goals refine kS ?_
   all_goals (have af:=True.intro;first|(refine yT (fun b af=>?_);cases b;all_goals first | exact Bool.noConfusion af | simp only [zU,zV] at af | skip) | refine kS ?_)
   all_goals refine kX ?_
   iterate 5
    all_goals refine kS ?_
   all_goals first | refine wkC (ji) ?_ | refine kS ?_
   all_goals refine kS ?_
   all_goals refine kS ?_
   all_goals (have V:=True.intro;first|(refine yT (fun b V=>?_);cases b;all_goals first | exact Bool.noConfusion V | simp only [zU,zV] at V | skip) | refine kS ?_)
   all_goals refine kX ?_
   all_goals refine kS ?_
   all_goals refine kS ?_
   all_goals (have J:=True.intro;first|(refine yT (fun b J=>?_);cases b;all_goals first | exact Bool.noConfusion J | simp only [zU,zV] at J | skip) | refine kS ?_)
   all_goals refine kX ?_
   iterate 13
    all_goals refine kS ?_
   all_goals (have F:=True.intro;first|(refine yT (fun b F=>?_);cases b;all_goals first | exact Bool.noConfusion F | simp only [zU,zV] at F | skip) | refine kS ?_)
   all_goals refine kX ?_
   all_goals refine kZ ?_
   all_goals have G:=(tQ D E)
   all_goals first
     | (have U:=yD (HB.out (show _=false by rw [L.out];simp only [okA0,Bool.not_true,Bool.not_false,Bool.and_true,Bool.true_and,Bool.and_false,Bool.false_and,Bool.or_true,Bool.true_or,Bool.or_false,Bool.false_or,Bool.not_not,ge_iff_le,af,V,J,F]));clear HB HX HN L;go_wp2;go_ret;exact ⟨kR U.out.symm,G⟩)
     | (have U:=yD (HX.out (show _=true by rw [L.out];simp only [okA0,Bool.not_true,Bool.not_false,Bool.and_true,Bool.true_and,Bool.and_false,Bool.false_and,Bool.or_true,Bool.true_or,Bool.or_false,Bool.false_or,Bool.not_not,ge_iff_le,af,V,J,F]));clear HB HX HN L;go_wp2;go_roundw;(case rel=>exact ⟨k + 1,by omega,by go_num,U,G⟩);(case measure=>simp [intOf];omega))
 have U:=yD (kUu HN.out hlt hk)
 have a6:¬ (k:Int) < l.length:=bB9
 go_wp2
 go_ret
 exact ⟨kR (U.out.trans bC0).symm,D⟩
def kBv (l:List kI) (k:Nat) (x:kI):Bool:=!((((!yZ x.1 || ((x.1.length:Int)==0)) || !kKx x.2.1) || !inR x.2.2 0 100000) || decide (idxOf (jV x.1) (l.take k) ≥ 0))
def kDh (l:List kI):Bool:=yX (fun j=>kBv l j (l.getD j ([],[],0))) l.length && decide (l.length≤12)
theorem kRx {l:List kI} {k:Nat} (h:k < l.length) (q:kBv l k l[k]=false):kDh l=false:=by
 unfold kDh;rw [kCj h qR];rfl
theorem kPx {l:List kI} {k:Nat} (h:k < l.length) (q:kBv l k l[k]=true) (a:yX (fun j=>kBv l j (l.getD j ([],[],0))) k=true):yX (fun j=>kBv l j (l.getD j ([],[],0))) (k + 1)=true :=
  kAq a qR
theorem kPy {l:List kI} {k:Nat} (q:yX (fun j=>kBv l j (l.getD j ([],[],0))) k=true) (h:¬ k < l.length) (hk:k≤l.length):kDh l=decide (l.length≤12):=by
 obtain rfl:k=l.length:=bB9
 unfold kDh;rw [q];rfl
theorem kMe {w:World} {vl:Value} {l:List kI} (hl:(kE.slice 71 kJ).raw w [vl] l) :
    Calls prog 24 #[vl] w (bQ w (.bool (kDh l))):=by
 obtain ⟨al,pl,rfl,ll⟩:=kE.sl hl
 have ak:=kE.kCq hl
 go_enter func24,ntmps24
 go_wp2
 go_loopw [3] (fun i wr=>∃ k:Nat,k≤l.length∧i=.int .i64 k∧Hid (yX (fun j=>kBv l j (l.getD j ([],[],0))) k=true)∧Below w.heap.size w wr) (fun i _=>l.length - (intOf i).toNat)
 case atStart=>exact ⟨0,Nat.zero_le _,rfl,yD rfl,bR⟩
 obtain ⟨k,hk,rfl,HN,D⟩:=hrel
 by_cases hlt:k < l.length
 · obtain ⟨qb,qo,rfl,ah,ai,aj,qr,a1,a4,bb⟩:=kE.kDv (hl.below D) (i:=k) bB9 rfl
   have au:=yD (kE.kCc (hl.below D) hk)
   have hb:=fun q=>kRx hlt q
   have hx:=fun q=>kPx hlt q HN.out
   generalize l[k]=x at *
   have HB:=yD hb;have HX:=yD hx;clear hb hx
   obtain ⟨x0,x1,x2⟩:=x
   obtain ⟨bq,cc,aq,ar,ax,ap,bc⟩:=jo qr
   simp only [List.cons.injEq,and_true] at aq
   obtain ⟨rfl,rfl,rfl⟩:=aq
   obtain ⟨ae,be,rfl,az⟩:=kE.sl ax
   obtain ⟨ao,br,rfl,bn⟩:=kE.sl ap
   obtain ⟨a8,di,a7,a2⟩:=qJ
   go_upto_region 4 with fail
   have FX:=yD (fun (W:World) (hW:Below wr.heap.size wr W)=>kMs hW a1 a4 bb)
   refine kW (fun W=>Below wr.heap.size wr W) [true,true,true,true,true,false,true,true,true,true,true,true,true,true,true,true,true,true,true,true,true,true,true,false,true,true,true,true,true,true,true,true,false,true,true,true,true,true,true,true,true,true,true,true,false,true,true] bB4 bB4 qD (bR.drew) ?_
   intro wS E
   iterate 5
    all_goals refine kS ?_
   all_goals first | refine wkB (yS (kE.raw.below ar E)) (fun wS1 E=>?_) | refine kS ?_
   all_goals refine kS ?_
   all_goals (have af:=True.intro;first|(refine yT (fun b af=>?_);cases b;all_goals first | exact Bool.noConfusion af | simp only [zU,zV] at af | skip) | refine kS ?_)
   all_goals refine kX ?_
   iterate 9
    all_goals refine kS ?_
   all_goals (have N:=True.intro;first|(refine yT (fun b N=>?_);cases b;all_goals first | exact Bool.noConfusion N | simp only [zU,zV] at N | skip) | refine kS ?_)
   all_goals refine kX ?_
   iterate 5
    all_goals refine kS ?_
   all_goals first | refine wkB (kQu (kE.raw.below ap E)) (fun wS1 E=>?_) | refine kS ?_
   all_goals refine kS ?_
   all_goals refine kS ?_
   all_goals (have I:=True.intro;first|(refine yT (fun b I=>?_);cases b;all_goals first | exact Bool.noConfusion I | simp only [zU,zV] at I | skip) | refine kS ?_)
   all_goals refine kX ?_
   iterate 5
    all_goals refine kS ?_
   all_goals first | refine wkC (ji) ?_ | refine kS ?_
   all_goals refine kS ?_
   all_goals refine kS ?_
   all_goals (have V:=True.intro;first|(refine yT (fun b V=>?_);cases b;all_goals first | exact Bool.noConfusion V | simp only [zU,zV] at V | skip) | refine kS ?_)
   all_goals refine kX ?_
   iterate 8
    all_goals refine kS ?_
   all_goals first | refine wkB (kHa (kE.raw.below au.out E) (kE.raw.below ar E)) (fun wS1 E=>?_) | refine kS ?_
   all_goals refine kS ?_
   all_goals (have F:=True.intro;first|(refine yT (fun b F=>?_);cases b;all_goals first | exact Bool.noConfusion F | simp only [zU,zV] at F | skip) | refine kS ?_)
   all_goals refine kX ?_
   all_goals refine kZ ?_
   all_goals have G:=D.trans (Below.mono E D.size)
   all_goals first
     | (have U:=yD (HB.out (show _=false by simp only [kBv,Bool.not_true,Bool.not_false,Bool.and_true,Bool.true_and,Bool.and_false,Bool.false_and,Bool.or_true,Bool.true_or,Bool.or_false,Bool.false_or,Bool.not_not,ge_iff_le,af,N,I,V,F]));clear HB HX HN au;go_wp2;go_ret;exact ⟨kR U.out.symm,G⟩)
     | (have U:=yD (HX.out (show _=true by simp only [kBv,Bool.not_true,Bool.not_false,Bool.and_true,Bool.true_and,Bool.and_false,Bool.false_and,Bool.or_true,Bool.true_or,Bool.or_false,Bool.false_or,Bool.not_not,ge_iff_le,af,N,I,V,F]));clear HB HX HN au;go_wp2;go_roundw;(case rel=>exact ⟨k + 1,by omega,by go_num,U,G⟩);(case measure=>simp [intOf];omega))
 have U:=yD (kPy HN.out hlt hk)
 exact oD
end Go.Proofs.YtonmjkmaadgceaaGreat

/-
  Pending interests drawn.
-/
import Derived.Test.YtonmjkmaadgceaaGreatVPend
set_option linter.unusedVariables false
set_option linter.unusedSimpArgs false
set_option linter.unnecessarySimpa false
set_option maxRecDepth 100000
set_option maxHeartbeats 4000000
namespace Go.Proofs.YtonmjkmaadgceaaGreat
open Go.RowKit _root_.Go.Proofs.Tryz
namespace kE
section
variable {α:Type} {r:kE α} {e:TypeId} {w w':World} {v:Value} {b cap n:Nat} {kept rest xs:List α} {j:Nat} {x:α} {S T:Nat→Prop}
theorem gap.skip2 (h:gap e r w b cap n kept j (x :: rest) S):∃ cs C,r.own w cs x C∧(∀ k,C k→S k∧k≠b)∧(∀ q c,cs[q]?=some c→w.cell? ⟨b,(kept.length + j) * r.n + q,none⟩=some c)∧gap e r w b cap n kept (j + 1) rest (fun k=>S k∧¬ C k):=by
 have h0:=h
 obtain ⟨a1,a2,a3,a4,a5,U,c,D,d,tl,A,B,h1,h2,h3,h4,⟨c1,W,A1,B1,rfl,q1,q2,hA1,F,hd1⟩,h6,h7,h8⟩:=h
 have N:=zH h4
 have ag:=r.len q1
 refine ⟨c1,A1,⟨q1,a2 x bC0⟩,fun k hk=>h7 k (hA1 k hk),?_,?_⟩
 · exact iW
 exact ⟨a1,fun y hy=>a2 y bB7,by simp at a3;omega,a4,a5,⟨U,fun hk=>(h7 b (hA1 b hk)).2 rfl⟩,c,D++c1,W,tl,A,B1,by rw [h1];simp,by rw [← h2];simp,by simp [h3,r.len q1,Nat.add_mul],h4,q2,
   fun k hk=>⟨⟨(h6 k hk).1,fun hc=>h8 k hk (hA1 k hc)⟩,(h6 k hk).2⟩,fun k hk=>⟨⟨(h7 k (F k hk)).1,fun hc=>hd1 rfl k hc hk⟩,(h7 k (F k hk)).2⟩,fun k h G=>h8 k h (F k G)⟩
theorem pair_own2 {β:Type} {e2:TypeId} {q:kE β} {u:Value} {y:List β} (h:(pair (slice e r) (slice e2 q)).own w [v,u] (xs,y) S):∃ A B,(slice e r).own w [v] xs A∧(slice e2 q).own w [u] y B∧(∀ k,A k→S k)∧(∀ k,B k→S k)∧(∀ k,A k→B k→False):=by
 obtain ⟨c,d,A,B,he,h1,h2,hA,hB,hd⟩:=kCe h
 have l1:=(slice e r).len h1.1
 have l2:=(slice e2 q).len h2.1
 match c,d,l1,l2 with
 | [c0],[d0],_,_ =>
   simp only [List.cons_append,List.nil_append,List.cons.injEq,and_true] at he
   obtain ⟨rfl,rfl⟩:=he
   exact ⟨A,B,h1,h2,hA,hB,hd⟩
end
end kE
def satP (n:kQ) (l:List kI):List kI:=if idxOf (jV n) l < 0 then l else l.take (idxOf (jV n) l).toNat++l.drop ((idxOf (jV n) l).toNat + 1)
def kFt (n:kQ) (l:List kI):List kP:=if idxOf (jV n) l < 0 then [] else (l.getD (idxOf (jV n) l).toNat ([],[],0)).2.1
theorem sat_no {n:kQ} {l:List kI} (h:idxOf (jV n) l < 0):satP n l=l∧kFt n l=[]:=by unfold satP kFt;rw [if_pos h,if_pos h];exact ⟨rfl,rfl⟩
theorem sat_yes {n:kQ} {l:List kI} {k:Nat} (h:idxOf (jV n) l=k) (hk:k < l.length):satP n l=l.take k++l.drop (k + 1)∧kFt n l=l[k].2.1:=by
 unfold satP kFt
 simp only [h,Int.toNat_natCast,jM hk]
 rw [if_neg bB9,if_neg bB9]
 exact ⟨rfl,rfl⟩
theorem kHm {w:World} {b cap n i:Nat} {l:List kI} {S:Nat→Prop} (D:kE.gap 71 kJ w b cap l.length (l.take i) 1 (l.drop (i + 1)) S) (hn:n=l.length) (hlen:l.length≤16777216) (H:i < l.length) :
    Calls prog 68 #[.slice (some ⟨b,0,none⟩) n cap,.int .i64 i,.int .i64 ((i:Int) + 1)] w fun e w'=>∃ v',e=.returned v'∧kE.ku 71 kJ w' v' (l.take i++l.drop (i + 1)) S∧Touch S w w':=by
 subst hn
 have G:=yD D
 have Z:=yD D.mem
 have ak:=D.len
 simp only [List.length_take,List.length_drop] at ak
 have ao:l.length≤cap:=ak.2.1
 have a4:cap≤9223372036854775807:=nX
 clear D ak
 obtain ⟨L,HN⟩:∃ L,Hid (l.length=L + 1):=⟨l.length - 1,yD bB9⟩
 rw [HN.out] at H hlen ao
 rw [HN.out]
 obtain ⟨HK,HR,hne,af,aa,ah,av,ac,ae,ag,R⟩:=u7
 go_enter func68,ntmps68
 go_upto_region 5 with fail
 by_cases cc:cap=i + 1
 · have N:Hid ((l.drop (i + 1)).length=0):=yD (by rw [HR.out];omega)
   obtain rfl:i=L:=bB9
   subst cc
   refine jd (fun W=>Below w.heap.size w W) [true,true,true,true,true,true] bB4 bB4 qD (bR.drew) ?_
   intro wS E
   iterate 6
    all_goals refine kS ?_
   all_goals refine jq ?_
   have G2:=yD (G.out.below E)
   obtain ⟨w6,F,O,X⟩:=kE.kEr (P:=prog) (t:=28) (ty:=28) underlying28 jy G2.out bB8 (q:=0) (c:=0) (k:=i) (m:=0) (fun hne=>absurd (List.eq_nil_of_length_eq_zero N.out) hne) HK.out.symm N.out.symm
   rw [Nat.add_zero] at F
   have J:Hid ((l.take i++l.drop (i + 1)).length=i):=yD nQ
   obtain ⟨w7,V,I,U⟩:=O.kDr (P:=prog) (t:=28) (ty:=0) (c:=1) (p:=i * 3) bB8 underlying28 jy rfl bB8 (kHn _ bB8) wO
   exact aU
 refine jd (fun W=>Below w.heap.size w W) [true,true,true,true,true,true] bB4 bB4 qD (bR.drew) ?_
 intro wS E
 iterate 6
  all_goals first|(refine kK rfl E ?_)|(refine jE (v:=?_) rfl (fun W hW=>?_) ?_;rotate_left;(· go_simp;try with_reducible rfl))
  all_goals try simp only [Act.put,zA,zB,zC]
 all_goals refine jq ?_
 have G2:=yD (G.out.below E)
 obtain ⟨w6,F,O,X⟩:=kE.kEr (P:=prog) (t:=28) (ty:=28) underlying28 jy G2.out bB8 (q:=(i + 1) * 3) (c:=cap - (i + 1)) (k:=i) (m:=L - i) tV HK.out.symm HR.out.symm
 rw [show i + (L - i)=L by omega] at F
 have J:Hid ((l.take i++l.drop (i + 1)).length=L):=yD nG
 obtain ⟨w7,V,I,U⟩:=O.kDr (P:=prog) (t:=28) (ty:=0) (c:=cap - L) (p:=L * 3) bB8 underlying28 jy rfl bB8 (kHn _ bB8) wO
 exact aV
theorem kUk {w:World} {vl:Value} {l:List kI} (hl:(kE.slice 71 kJ).rd w [vl] l) {cn:List Value} {n:kQ} (hn:kM.rd w cn n) :
    Calls prog 31 #[vl,.agg cn.toArray] w (fun e w'=>∃ v u,e=.returned (.tuple #[v,u])∧(kE.pair (kE.slice 71 kJ) (kE.slice 73 jH)).own w' [v,u] (satP n l,kFt n l) (jR w.heap.size w'.heap.size)∧Below w.heap.size w w'):=by
 obtain ⟨HL,HN,bj⟩:=CP
 obtain ⟨nv,rfl,am⟩:=kU hn.1
 obtain ⟨na,np,rfl,_⟩:=kE.sl am
 obtain ⟨va,vp,rfl,bm⟩:=kE.sl hl.1
 clear am hl hn
 go_enter func31,ntmps31
 go_wp2_with fail
 generalize H:World.alloc w _=N
 obtain ⟨Z,K0,b8⟩:=uD
 clear H
 refine (kGt (HL.out.below Z)).mono ?_
 rintro e w1 ⟨v1,rfl,O1,O⟩
 replace K0:=cL O K0
 obtain ⟨E1,az,L⟩:=AX
 obtain ⟨oa,on,oc,ho,bl⟩:=O1.parts;obtain rfl:=ho
 clear O1 O Z
 go_wp2_with fail
 refine (kDd (HL.out.1.below E1) (HN.out.1.below E1)).mono ?_
 rintro e w4 ⟨rfl,X⟩
 replace K0:=cL X K0
 have E4:=(tQ E1 X)
 obtain ⟨bt,L⟩:=AO
 clear X E1
 by_cases hk:idxOf (jV n) l < 0
 · have U:=yD (sat_no hk)
   have en:¬ (0≤idxOf (jV n) l):=bB9
   generalize hq:idxOf (jV n) l=q at *
   clear hq
   go_wp2
   first | go_ret2|(refine bodyPost_ret (by simp [results,results31,go_sem];rfl) rfl ?_)
   refine ⟨_,_,rfl,?_,E4⟩
   rw [U.out.1,U.out.2]
   exact kE.ja (r:=(kE.slice 71 kJ)) (q:=(kE.slice 73 jH)) (cs:=[_]) (ds:=[_]) (A:=jR w.heap.size w4.heap.size) (B:=fun _=>False) (L.out.own bj) kE.jf (fun j I=>⟨I.1,I.2⟩) (fun _ h=>h.elim) (fun _ _ h=>h)
 obtain ⟨k,aa,aj⟩:=kEj hk
 have bb:=yD aj
 rw [aj]
 clear hk aj
 have U:=yD (sat_yes bb.out aa)
 obtain ⟨b,cap,hv,D⟩:=kE.kFm L.out aa
 simp only [Value.slice.injEq] at hv
 obtain ⟨rfl,ay,rfl⟩:=hv
 have F:=yD ay
 rw [List.drop_eq_getElem_cons aa] at D
 have ak:=D.len
 simp only [List.length_take,List.length_cons,List.length_drop] at ak
 have a5:k < on:=bB9
 have ao:on≤oc:=vU
 have a4:oc≤9223372036854775807:=nX
 obtain ⟨a8,be⟩:=AR
 have ac:on≤16777216:=bB9
 clear ak ay
 obtain ⟨cs,C,hown,hC,ae,E⟩:=D.skip2
 have G:=yD E
 obtain ⟨Y,ab,ag,al,ai,a1,a9⟩:=jo hown.raw
 subst ag
 have a7:(l.take k).length=k:=bB5
 have A1:w4.cell? ⟨b,k * 3 + 1,none⟩=some ab:=by have h:=ae 1 ab rfl;rw [a7,Nat.add_zero] at h;exact h
 obtain ⟨A,hA,J,_⟩:=kJb hown
 replace hA:(kE.slice 73 jH).own w4 [ab] l[k].2.1 A:=hA
 obtain ⟨ra,rp,rfl,_⟩:=kE.sl hA.raw
 have HW:=yD hA
 have V:=yD J
 have co:=yD hC
 clear hown hC ae E D al ai a1 a9 hA J a7
 generalize ev:l[k].2.1=R at *
 clear ev
 have hw:IntKind.i64.wrap ((k:Int) + 1)=(k:Int) + 1:=IntWalk.i64_in _ bB9
 go_wp2_with fail
 refine (kHm G.out F.out bj aa).mono ?_
 rintro e w5 ⟨v5,rfl,O5,T5⟩
 obtain ⟨va,vn,vc,c3,af⟩:=O5.parts;obtain rfl:=c3
 have aw:=yD O5
 have W:=yD (HW.out.touch T5 (fun j p q=>q.2 (V.out j p)))
 have bi:=T5.size
 have E5:=E4.trans (T5.below E4.size (fun j q=>q.1.1))
 clear O5 T5
 go_wp2
 go_ret2
 refine ⟨_,_,rfl,?_,E5⟩
 rw [U.out.1,U.out.2]
 exact kE.ja (r:=(kE.slice 71 kJ)) (q:=(kE.slice 73 jH)) (cs:=[_]) (ds:=[_]) (aw.out.own vD) W.out (fun j I=>⟨I.1.1,by have:=I.1.2;omega⟩) (fun j I=>by have q:=(co.out j (V.out j I)).1;exact ⟨q.1,by have:=q.2;omega⟩) (fun j h1 h2=>h1.2 (V.out j h2))
def okR (r:kP):Prop:=inR r.1 0 6=true∧inR r.2.1 0 1000000=true
def rising (l:List kP):Prop:=l.Pairwise (fun a b=>a.1 < b.1)
theorem vAsk_iff {l:List kP}:kKx l=true↔0 < l.length∧(∀ r∈l,okR r)∧rising l:=by
 unfold kKx
 rw [Bool.and_eq_true,decide_eq_true_iff,kOh]
 constructor
 · rintro ⟨h,h0⟩
   have hk:∀ k (hk:k < l.length),okR l[k]∧(0 < k→(l[k - 1]'bB9).1 < l[k].1):=by
    intro k hk
    have q:=h k hk
    rw [jM hk] at q
    by_cases k0:0 < k
    · rw [kKt k0 rfl bB9] at q
      unfold okA at q
      simp at q
      exact ⟨⟨q.1.1,q.1.2⟩,fun _=>by omega⟩
    rw [kIt k0] at q
    unfold okA0 at q
    simp at q
    exact ⟨⟨q.1,q.2⟩,fun h=>absurd h k0⟩
   refine ⟨h0,fun r hr=>?_,kLv (fun a b c h1 h2=>by omega) (fun k du=>?_)⟩
   · obtain ⟨k,aa,rfl⟩:=List.getElem_of_mem hr
     exact (hk k aa).1
   have:=(hk (k + 1) du).2 bB9
   simpa using this
 rintro ⟨h0,h1,h2⟩
 refine ⟨fun k hk=>?_,h0⟩
 rw [jM hk]
 have a:=h1 _ (List.getElem_mem hk)
 by_cases k0:0 < k
 · rw [kKt k0 rfl bB9]
   have b:=List.pairwise_iff_getElem.1 h2 (k - 1) k bB9 hk bB9
   unfold okA
   simp [a.1,a.2]
   omega
 rw [kIt k0]
 unfold okA0
 simp [a.1,a.2]
def okP (p:kI):Prop:=yZ p.1=true∧p.1≠[]∧kKx p.2.1=true∧inR p.2.2 0 100000=true
theorem isPend_no {n:kQ} {p:kI}:jV n p=false↔p.1≠n:=by unfold jV eqN;simp
theorem kSv {l:List kI} {k:Nat} {x:kI}:kBv l k x=true↔okP x∧∀ y∈l.take k,y.1≠x.1:=by
 have h:(decide (idxOf (jV x.1) (l.take k) ≥ 0)=false)↔∀ y∈l.take k,y.1≠x.1:=by
  rw [decide_eq_false_iff_not,show (¬ idxOf (jV x.1) (l.take k) ≥ 0)↔idxOf (jV x.1) (l.take k) < 0 by omega,kPn]
  simp only [isPend_no]
 have h0:(((x.1.length:Int)==0)=false)↔x.1≠[]:=by
  rw [beq_eq_false_iff_ne]
  cases x.1 <;> simp
  omega
 unfold kBv okP
 rw [Bool.not_eq_true',Bool.or_eq_false_iff,Bool.or_eq_false_iff,Bool.or_eq_false_iff,Bool.or_eq_false_iff,h,h0]
 simp only [Bool.not_eq_false']
 constructor
 · rintro ⟨⟨⟨⟨a,b⟩,c⟩,d⟩,e⟩;exact ⟨⟨a,b,c,d⟩,e⟩
 rintro ⟨⟨a,b,c,d⟩,e⟩;exact ⟨⟨⟨⟨a,b⟩,c⟩,d⟩,e⟩
theorem vPends_iff {l:List kI}:kDh l=true↔l.length≤12∧(∀ p∈l,okP p)∧l.Pairwise (fun a b=>a.1≠b.1):=by
 unfold kDh
 rw [Bool.and_eq_true,decide_eq_true_iff,kOh]
 constructor
 · rintro ⟨h,h0⟩
   have hk:∀ k (hk:k < l.length),okP l[k]∧∀ y∈l.take k,y.1≠l[k].1:=by
    intro k hk
    have q:=h k hk
    rw [jM hk] at q
    exact kSv.1 q
   refine ⟨h0,fun p hp=>?_,List.pairwise_iff_getElem.2 (fun i j hi I E=>?_)⟩
   · obtain ⟨k,aa,rfl⟩:=List.getElem_of_mem hp
     exact (hk k aa).1
   exact (hk j I).2 _ (List.mem_take_iff_getElem.2 ⟨i,by omega,rfl⟩)
 rintro ⟨h0,h1,h2⟩
 refine ⟨fun k hk=>?_,h0⟩
 rw [jM hk]
 refine kSv.2 ⟨h1 _ (List.getElem_mem hk),fun y hy=>?_⟩
 exact lJ
theorem kOw {f:Int} {l:List kP} {r:kP} (h:r∈yx f l):r∈l∧r.1≠f:=by
 unfold yx at h
 simpa using h
theorem putR_mem {a r:kP} {l:List kP} (h:r∈kNl a l):r=a∨r∈l:=by
 obtain ⟨i,hi,e,_⟩:=putR_idx a l
 rw [e] at h
 rcases List.mem_append.1 h with h | h
 · exact .inr (kOw (List.mem_of_mem_take h)).1
 rcases List.mem_cons.1 h with h | h
 · exact .inl h
 exact .inr (kOw (List.mem_of_mem_drop h)).1
theorem putR_rising {a:kP} {l:List kP} (h:rising l):rising (kNl a l):=by
 obtain ⟨i,hi,e,D⟩:=putR_idx a l
 have h1:rising (yx a.1 l):=h.sublist List.filter_sublist
 have F:∀ r∈(yx a.1 l).take i,r.1 < a.1:=by
  intro r hr
  obtain ⟨j,I,rfl⟩:=List.mem_take_iff_getElem.1 hr
  rcases D with ⟨q,rfl⟩ | q
  · have:=kPn.1 (show idxOf (fun r:kP=>decide (a.1≤r.1)) (yx a.1 l) < 0 by omega) _ (List.getElem_mem (show j < (yx a.1 l).length by omega))
    simp at this
    exact this
  obtain ⟨hk,_,hq⟩:=kQo q
  have:=hq j bB9
  simp at this
  exact this
 have E:∀ r∈(yx a.1 l).drop i,a.1 < r.1:=by
  intro r hr
  obtain ⟨j,I,rfl⟩:=List.mem_drop_iff_getElem.1 hr
  rcases D with ⟨q,rfl⟩ | q
  · omega
  obtain ⟨hk,hp,_⟩:=kQo q
  have hp:a.1≤((yx a.1 l)[i]).1:=wJ
  have hne:=(kOw (List.getElem_mem hk)).2
  by_cases G:j=0
  · subst G;simp only [Nat.add_zero] at *;omega
  have:=List.pairwise_iff_getElem.1 h1 i (i + j) hk bB9 bB9
  omega
 unfold rising
 rw [e]
 refine List.pairwise_append.2 ⟨h1.sublist (List.take_sublist _ _),List.pairwise_cons.2 ⟨E,h1.sublist (List.drop_sublist _ _)⟩,fun x hx y hy=>?_⟩
 have h2:=F x hx
 rcases List.mem_cons.1 hy with rfl | hy
 · exact h2
 have:=E y hy;omega
def kQp (D:List kP):Prop:=rising D∧∀ r∈D,r.2.1 < 100∨1000000 < r.2.1
theorem goodR_nil:kQp []:=⟨List.Pairwise.nil,fun r h=>by simp at h⟩
theorem kPo {r:kP} (h:r.2.1 < 100∨1000000 < r.2.1):kQp [r]:=⟨List.pairwise_singleton _ _,fun q hq=>by rw [List.mem_singleton.1 hq];exact h⟩
theorem goodR_put {r:kP} {D:List kP} (h:r.2.1 < 100) (hr:kQp D):kQp (kNl r D) :=
  ⟨putR_rising hr.1,fun q hq=>by rcases putR_mem hq with rfl | hq;exact .inl h;exact hr.2 q hq⟩
def kAa (l:List kI) (m:Nat):Prop:=l.length≤m∧∀ y∈l,y.2.1.length≤m∧kQp y.2.1∧yM y.1
theorem kAa.mono {l:List kI} {m k:Nat} (h:kAa l m) (hk:m≤k):kAa l k:=⟨Nat.le_trans h.1 hk,fun y hy=>⟨Nat.le_trans (h.2 y hy).1 hk,(h.2 y hy).2⟩⟩
theorem kTs {x:yt} {f t:Int} {l:List kI} {m:Nat} (hn:x.2.1 < 100) (hx:yM x.1) (h:kAa l m):kAa (addQ x f t l) (m + 1):=by
 cases hk:kBg x f l
 · rw [(kXe hk).1]
   have:=h.1
   exact ⟨by omega,fun y hy=>⟨Nat.le_succ_of_le (h.2 y hy).1,(h.2 y hy).2⟩⟩
 by_cases hi:idxOf (jV x.1) l < 0
 · rw [(addQ_new (t:=t) hk hi).1]
   refine ⟨by have:=h.1;simp;omega,fun y hy=>?_⟩
   rcases List.mem_append.1 hy with hy | hy
   · exact ⟨Nat.le_succ_of_le (h.2 y hy).1,(h.2 y hy).2⟩
   obtain rfl:=List.mem_singleton.1 hy
   exact ⟨by simp,kPo (.inl hn),hx⟩
 obtain ⟨k,aa,aj⟩:=kEj hi
 rw [(addQ_set (t:=t) hk aj aa).1]
 refine ⟨by have:=h.1;simp;omega,fun y hy=>?_⟩
 rcases List.mem_or_eq_of_mem_set hy with hy | rfl
 · exact ⟨Nat.le_succ_of_le (h.2 y hy).1,(h.2 y hy).2⟩
 have h1:=putR_len (kQh x f t) l[k].2.1
 have h2:=h.2 _ (List.getElem_mem aa)
 have h3:=h2.1
 refine ⟨?_,goodR_put hn h2.2.1,h2.2.2⟩
 show (kNl (kQh x f t) l[k].2.1).length≤m + 1
 omega
theorem kUm {l:List jI} {n:kQ} {x:Int}:(zF l n x).length≤max l.length 24:=by
 unfold zF
 split
 · simp;omega
 simp at *;omega
def kFc (s:List jI):Prop:=s.length≤24∧∀ y∈s,y.2 < 100
theorem smallS_nil:kFc []:=⟨by simp,fun y h=>by simp at h⟩
theorem smallS_snoc {s:List jI} {ps:kQ} {x:Int} (h:kFc s) (hl:s.length < 24) (hx:x < 100):kFc (s++[(ps,x)]):=by
 refine ⟨by simp;omega,fun y hy=>?_⟩
 rcases List.mem_append.1 hy with hy | hy
 · exact h.2 y hy
 rw [List.mem_singleton.1 hy];exact hx
theorem smallS_add {s:List jI} {ps:kQ} {x:Int} (h:kFc s) (hx:x < 100):kFc (zF s ps x):=by
 refine ⟨by have h1:=kUm (l:=s) (n:=ps) (x:=x);have:=h.1;omega,fun y hy=>?_⟩
 have:y∈s++[(ps,x)]:=by
  unfold zF at hy
  split at hy
  · exact List.mem_of_mem_drop hy
  exact hy
 rcases List.mem_append.1 this with hy | hy
 · exact h.2 y hy
 rw [List.mem_singleton.1 hy];exact hx
theorem sentP_small {n:kQ} {t:Int} {l:List kI} {m:Nat} (h:kAa l m):kAa (kSo n t l) m:=by
 by_cases hi:idxOf (jV n) l < 0
 · rw [sentP_no hi];exact h
 obtain ⟨k,aa,aj⟩:=kEj hi
 rw [kUy aj aa]
 refine ⟨by have:=h.1;simp;omega,fun y hy=>?_⟩
 rcases List.mem_or_eq_of_mem_set hy with hy | rfl
 · exact h.2 y hy
 exact show l[k].2.1.length≤m∧kQp l[k].2.1∧yM l[k].1 from h.2 _ (List.getElem_mem aa)
theorem kUf {w0 w:World} {p:Nat} (hc:yK w0 w p) :
    Calls prog 113 #[.pointer (some ⟨p,0,none⟩)] w fun e w'=>∃ a n c l,e=.returned (.slice a n c)∧n=l.length∧kAa l 8∧(kE.slice 71 kJ).own w' [.slice a n c] l (jR w.heap.size w'.heap.size)∧yK w0 w' p∧Touch (fun k=>k=p) w w':=by
 go_enter func113,ntmps113
 obtain ⟨b7,cj⟩:=hc.lt
 go_upto_region 2 with fail
 generalize F:World.alloc w _=w1
 have E_:Below w.heap.size w w1:=rX
 have bn:w.heap.size + 1≤w1.heap.size:=bA3
 clear F
 replace hc:=hc.below E_
 have H:Touch (fun k=>k=p) w w1:=Touch.of_below E_
 clear E_
 go_wp2_with fail
 refine (kV (n:=8) hc bB8).mono ?_
 rintro e V ⟨x,ax,Z,b4,rfl,G,D⟩
 have bo:=D.size
 replace H:=H.trans D
 clear hc D
 have hc:=G
 clear G
 replace Z:=Z bB8
 clear b4
 obtain ⟨m,rfl⟩:=Int.eq_ofNat_of_zero_le ax
 go_wp2
 go_loopw [3,4] (fun v i wr=>∃ (j k:Nat) (a:Option Addr) (n c:Nat) (l:List kI),v=.slice a n c∧i=.int .i64 j∧j + k≤8∧Hid (n=l.length)∧Hid (kAa l k)∧Hid ((kE.slice 71 kJ).own wr [.slice a n c] l (jR w.heap.size wr.heap.size))∧V.heap.size≤wr.heap.size∧yK w0 wr p∧Touch (fun k=>k=p) w wr) (fun _ i _=>(intOf i).toNat)
 case atStart=>exact ⟨m,0,_,0,0,[],rfl,rfl,by omega,yD rfl,yD ⟨Nat.le_refl _,by simp⟩,yD kE.jf,Nat.le_refl _,hc,H⟩
 clear hc H
 obtain ⟨j,k,a,n,c,l,rfl,rfl,I,HN,O,L,dh,hc,H⟩:=hrel
 cases j with
 | zero =>
   have em:¬ (0:Int) < (0:Nat):=bB9
   go_wp2
   refine bodyPost_ret (v:=.slice a n c) (by simp [results,results113,go_sem]) rfl ⟨a,n,c,rfl,l,HN.out,O.out.mono bB9,L.out,hc,H⟩
 | succ j =>
   have dn:(0:Int) < (j:Int) + 1:=bB9
   replace L:=yD (L.out.wide (T:=fun q=>w.heap.size≤q∧q < wr.heap.size) (fun _ h=>h))
   have aa:k≤7:=bB9
   go_wp2_with fail
   refine (kNc hc).mono ?_
   rintro e w6 ⟨ia,ic,ps,nn,X,nt,rfl,U,aj,hn,hh,ht,G,D⟩
   have c8:=D.size
   obtain ⟨L,H⟩:=oZ
   clear hc D
   have hc:=G
   clear G
   have fv:=yD aj
   have HI:=yD ((int_own (n:=nn) U bB9 hh ht).wide (T:=fun q=>wr.heap.size≤q∧q < w6.heap.size) (fun _ h=>h))
   have R:=yD (U.wide (T:=fun q=>wr.heap.size≤q∧q < w6.heap.size) (fun _ h=>h))
   clear U
   go_upto_region 6 with fail
   generalize F:World.alloc w6 _=w7
   obtain ⟨N,B,dg⟩:=C9
   clear F
   replace L:=yD (L.out.below N)
   replace HI:=yD (HI.out.below N)
   replace R:=yD (R.out.below N)
   replace hc:=hc.below N
   replace H:=H.trans (Touch.of_below N)
   clear N
   have FX:=yD (fun (W:World) (hW:Touch (fun k=>k=p) w7 W∧yK w0 W p)=>And.intro (kF (hW.1.kD B bB9) (j:=0) (v:=.slice ia ps.length ic) rfl) (And.intro (kF (hW.1.kD B bB9) (j:=1) (v:=.int .i64 nn) rfl) (And.intro (kF (hW.1.kD B bB9) (j:=2) (v:=.int .i64 X) rfl) (kF (hW.1.kD B bB9) (j:=3) (v:=.int .i64 nt) rfl))))
   refine yQ (fun W=>Touch (fun k=>k=p) w7 W∧yK w0 W p) [(0,true),(1,true),(2,true),(4,true),(3,false),(5,false),(6,true),(7,false),(8,true),(9,true),(10,true),(11,true)] bB4 bB4 qD (⟨Touch.of_below bR.drew,hc.below bR.drew⟩) ?_
   intro wS E
   simp only [jD,List.getElem?_cons_succ,List.getElem?_cons_zero,List.map_cons,List.map_nil]
   iterate 4
    refine kS ?_
   refine ko rfl (fun K J=>?_);go_simp;refine (kV (n:=4) E.2 bB8).mono ?_;rintro e wS1 ⟨x,ax,Z,b4,rfl,be,a9⟩;replace Z:=Z bB8;clear b4;replace E:=And.intro (E.1.trans a9) be;clear be a9;refine J _ _ E ?_;clear J K
   refine kX ?_
   refine ko rfl (fun K J=>?_);go_simp;refine (kV (n:=10) E.2 bB8).mono ?_;rintro e wS1 ⟨y,b6,a4,a6,rfl,be,a9⟩;replace a4:=a4 bB8;clear a6;replace E:=And.intro (E.1.trans a9) be;clear be a9;have hw:IntKind.i64.wrap (40 + y)=40 + y:=IntWalk.i64_in _ bB9;refine J _ _ E ?_;clear J K
   refine kX ?_
   refine kS ?_
   refine ko rfl (fun K J=>?_);go_simp;refine (kFs ((L.out.touch E.1 qB).rd) (fun y hy=>Nat.le_trans (O.out.2 y hy).1 bB9) (HI.out.touch E.1 qB).rd bB9 bB9).mono ?_;rintro e bj ⟨v2,rfl,O2,af⟩;have d1:=E.1.size;have b8:=af.size;replace E:=And.intro (E.1.trans (Touch.of_below af)) (E.2.below af);have ag:=yD O2;refine J _ _ E ?_;clear J K af O2
   refine kX ?_
   iterate 4
    refine kS ?_
   refine kZ ?_
   obtain ⟨l2,bc⟩:∃ l2,addQ (ps,nn,X,nt) x (40 + y) l=l2:=⟨_,rfl⟩
   rw [bc] at ag
   have c4:=yD (show kAa l2 (k + 1) from bc ▸ kTs (show nn < 100 by omega) fv.out.2 O.out)
   clear bc HI L
   obtain ⟨a2,c2,rfl,_⟩:=kE.sl ag.out.raw
   rename World=>w8
   have eg:=E.1.size
   have G:=E.2
   have D:=E.1
   clear E
   replace B:=D.kD B bB9
   replace R:=yD (R.out.touch D qB)
   replace H:=H.trans D
   clear hc D
   have hc:=G
   clear G
   replace ag:=yD (ag.out.wide (T:=fun q=>w.heap.size≤q∧q < w8.heap.size) rJ)
   go_wp2_with fail
   refine (zk (n:=2) hc bB8).mono ?_
   rintro e w9 ⟨b,rfl,G,D⟩
   have dm:=D.size
   replace B:=D.kD B bB9
   replace R:=yD (R.out.touch D qB)
   replace ag:=yD (ag.out.touch D qB)
   replace H:=H.trans D
   clear hc D
   have hc:=G
   clear G
   cases b
   · go_wp2
     go_roundw
     case rel=>exact ⟨j,k + 1,a2,l2.length,_,l2,rfl,by go_num,by omega,yD rfl,c4,yD (ag.out.wide rP),by omega,hc,H⟩
     case measure=>first|(simp [intOf];done)|(simp [intOf];omega)
   · go_upto_region 8 with fail
     have FX:=yD (fun (W:World) (hW:Touch (fun k=>k=p) w9 W∧yK w0 W p)=>And.intro (kF (hW.1.kD B bB9) (j:=0) (v:=.slice ia ps.length ic) rfl) (And.intro (kF (hW.1.kD B bB9) (j:=1) (v:=.int .i64 nn) rfl) (And.intro (kF (hW.1.kD B bB9) (j:=2) (v:=.int .i64 X) rfl) (kF (hW.1.kD B bB9) (j:=3) (v:=.int .i64 nt) rfl))))
     refine kW (fun W=>Touch (fun k=>k=p) w9 W∧yK w0 W p) [true,true,true,true,false,true,false,true] bB4 bB4 qD (⟨Touch.of_below bR.drew,hc.below bR.drew⟩) ?_
     intro wS E
     iterate 4
      refine kS ?_
     refine ko rfl (fun K J=>?_);go_simp;refine (kV (n:=12) E.2 bB8).mono ?_;rintro e wS1 ⟨z,bb,az,an,rfl,be,a9⟩;replace az:=az bB8;clear an;replace E:=And.intro (E.1.trans a9) be;clear be a9;have hw:IntKind.i64.wrap (40 + z)=40 + z:=IntWalk.i64_in _ bB9;refine J _ _ E ?_;clear J K
     refine kX ?_
     refine kS ?_
     refine ko rfl (fun K J=>?_);go_simp;refine (kSi ((ag.out.touch E.1 qB).rd) (cn:=[.slice ia ps.length ic]) ((R.out.touch E.1 qB).rd) bB9).mono ?_;rintro e bj ⟨v3,rfl,O3,af⟩;have d1:=E.1.size;have b8:=af.size;replace E:=And.intro (E.1.trans (Touch.of_below af)) (E.2.below af);have ae:=yD O3;refine J _ _ E ?_;clear J K af O3
     refine kX ?_
     refine kS ?_
     refine kZ ?_
     obtain ⟨l3,fe⟩:∃ l3,kSo ps (40 + z) l2=l3:=⟨_,rfl⟩
     rw [fe] at ae
     have ap:=yD (show kAa l3 (k + 1) from fe ▸ sentP_small c4.out)
     clear fe ag R
     obtain ⟨a3,c3,rfl,_⟩:=kE.sl ae.out.raw
     rename World=>b3
     have d0:=E.1.size
     have G:=E.2
     have D:=E.1
     clear E
     replace B:=D.kD B bB9
     replace H:=H.trans D
     clear hc D
     have hc:=G
     clear G
     have ag:=yD (ae.out.wide (T:=fun q=>w.heap.size≤q∧q < b3.heap.size) rJ)
     go_wp2
     go_roundw
     case rel=>exact ⟨j,k + 1,a3,l3.length,_,l3,rfl,by go_num,by omega,yD rfl,ap,yD (ag.out.wide rP),by omega,hc,H⟩
     case measure=>first|(simp [intOf];done)|(simp [intOf];omega)
theorem kUe {w0 w:World} {p:Nat} (hc:yK w0 w p) :
    Calls prog 112 #[.pointer (some ⟨p,0,none⟩)] w fun e w'=>∃ a n c s,e=.returned (.slice a n c)∧n=s.length∧kFc s∧(kE.slice 123 jF).own w' [.slice a n c] s (fun q=>w.heap.size≤q∧q < w'.heap.size)∧yK w0 w' p∧Touch (fun k=>k=p) w w':=by
 go_enter func112,ntmps112
 obtain ⟨b7,cj⟩:=hc.lt
 go_upto_region 2 with fail
 generalize F:World.alloc w _=w1
 have E_:Below w.heap.size w w1:=rX
 have bn:w.heap.size + 1≤w1.heap.size:=bA3
 clear F
 replace hc:=hc.below E_
 have H:Touch (fun k=>k=p) w w1:=Touch.of_below E_
 clear E_
 go_wp2_with fail
 refine (kV (n:=5) hc bB8).mono ?_
 rintro e V ⟨x,ax,Z,b4,rfl,G,D⟩
 have bo:=D.size
 replace H:=H.trans D
 clear hc D
 have hc:=G
 clear G
 replace Z:=Z bB8
 clear b4
 obtain ⟨m,rfl⟩:=Int.eq_ofNat_of_zero_le ax
 go_wp2
 go_loopw [3,4] (fun v i wr=>∃ (j:Nat) (a:Option Addr) (n c:Nat) (s:List jI),v=.slice a n c∧i=.int .i64 j∧j≤4∧Hid (n=s.length)∧Hid (kFc s)∧Hid ((kE.slice 123 jF).own wr [.slice a n c] s (fun q=>w.heap.size≤q∧q < wr.heap.size))∧V.heap.size≤wr.heap.size∧yK w0 wr p∧Touch (fun k=>k=p) w wr) (fun _ i _=>(intOf i).toNat)
 case atStart=>exact ⟨m,_,0,0,[],rfl,rfl,by omega,yD rfl,yD smallS_nil,yD kE.jf,Nat.le_refl _,hc,H⟩
 clear hc H
 obtain ⟨j,a,n,c,s,rfl,rfl,I,HN,HL,L,dh,hc,H⟩:=hrel
 cases j with
 | zero =>
   have em:¬ (0:Int) < (0:Nat):=bB9
   go_wp2_with fail
   refine (zk (n:=12) hc bB8).mono ?_
   rintro e w6 ⟨b,rfl,G,D⟩
   have c8:=D.size
   obtain ⟨L,H⟩:=oZ
   clear hc D
   have hc:=G
   clear G
   replace L:=yD (L.out.wide (T:=fun q=>w.heap.size≤q∧q < w6.heap.size) rP)
   cases b
   · exact eQ
   · go_wp2
     go_loopw [3] (fun v W=>∃ (a:Option Addr) (n c:Nat) (s:List jI),v=.slice a n c∧Hid (n=s.length)∧Hid (kFc s)∧Hid ((kE.slice 123 jF).own W [.slice a n c] s (fun q=>w.heap.size≤q∧q < W.heap.size))∧w6.heap.size≤W.heap.size∧yK w0 W p∧Touch (fun k=>k=p) w W) (fun v _=>match v with | .slice _ n _=>25 - n | _=>0)
     case atStart=>exact ⟨a,n,c,s,rfl,HN,HL,L,Nat.le_refl _,hc,H⟩
     case round =>
       clear hc H L HN HL
       obtain ⟨a,n,c,s,rfl,HN,HL,L,d1,hc,H⟩:=hrel
       go_wp2_with fail
       refine (kV (n:=2) hc bB8).mono ?_
       rintro e b3 ⟨y,b6,a4,a6,rfl,G,D⟩
       have d0:=D.size
       obtain ⟨L,H⟩:=oZ
       clear hc D
       have hc:=G
       clear G
       replace a4:=a4 bB8
       clear a6
       replace L:=yD (L.out.wide (T:=fun q=>w.heap.size≤q∧q < b3.heap.size) rP)
       have hw:IntKind.i64.wrap (23 + y)=23 + y:=IntWalk.i64_in _ bB9
       by_cases hlt:(n:Int) < 23 + y
       · have ab:n < 24:=bB9
         go_wp2_with fail
         refine (kSf (s:={ data:=#[47,115] }) bB8).mono ?_
         rintro e cf ⟨na,nc,ps,rfl,hr,dz,hb⟩
         have e6:=hb.size
         replace L:=yD (L.out.below hb)
         obtain ⟨hc,H⟩:=oP
         clear hb
         have HR:=yD (hr.wide (T:=fun q=>b3.heap.size≤q∧q < cf.heap.size) (fun _ h=>h))
         clear hr
         have au:-9223372036854775808≤(n:Int)∧(n:Int)≤9223372036854775807:=bB9
         go_wp2_with (at_builtin;refine kE.zO rfl _ _ 29 rfl (r:=jF) (e:=123) underlying29 kEh rfl bB8 bB8 (w:=cf) L.out bR (c:=1) (kE.jw (r:=kM) (q:=kE.int) (cs:=[.slice na ps.length nc]) (ds:=[.int .i64 n]) (x:=ps) (y:=(n:Int)) HR.out (kE.ky au)) bC1 bC1 nW vM ?_)
         intro v2 cg hQ ch
         have Y:Touch (fun k=>w.heap.size≤k∧k < b3.heap.size) cf cg:=ch.wide (fun j q=>q.1)
         have e8:=Y.size
         clear ch
         obtain ⟨s2,c7⟩:∃ s2,s++[(ps,(n:Int))]=s2:=⟨_,rfl⟩
         rw [c7] at hQ
         have aa:=yD (show s2.length=s.length + 1 by rw [← c7];simp)
         have ce:=yD (show kFc s2 from c7 ▸ smallS_snoc HL.out vM (show (n:Int) < 100 by omega))
         clear c7 L
         obtain ⟨a2,c2,rfl,_⟩:=kE.sl hQ.raw
         have ag:=yD (hQ.wide (T:=fun q=>w.heap.size≤q∧q < cg.heap.size) (fun j q=>by rcases q with q | q | q;exact ⟨q.1,by have:=q.2;omega⟩;exact ⟨by have:=q.1;omega,by have:=q.2;omega⟩;exact ⟨by have:=q.1;omega,q.2⟩))
         clear hQ
         have bt:=hc.touch Y tT sM
         have br:=H.kBj Y sM
         clear Y hc H
         go_wp2
         go_roundw
         case rel=>exact ⟨a2,s2.length,_,s2,rfl,yD rfl,ce,ag,by omega,bt,br⟩
         case measure=>have h1:=aa.out;have h2:=HN.out;first | omega|(simp;omega)
       · exact eQ
 | succ j =>
   have dn:(0:Int) < (j:Int) + 1:=bB9
   replace L:=yD (L.out.wide (T:=fun q=>w.heap.size≤q∧q < wr.heap.size) (fun _ h=>h))
   go_wp2_with fail
   refine (kNc hc).mono ?_
   rintro e w6 ⟨ia,ic,ps,nn,X,nt,rfl,U,aj,hn,hh,ht,G,D⟩
   have c8:=D.size
   obtain ⟨L,H⟩:=oZ
   clear hc D
   have hc:=G
   clear G
   have R:=yD (U.wide (T:=fun q=>wr.heap.size≤q∧q < w6.heap.size) (fun _ h=>h))
   clear U
   go_upto_region 6 with fail
   generalize F:World.alloc w6 _=w7
   obtain ⟨N,B,dg⟩:=C9
   clear F
   replace L:=yD (L.out.below N)
   replace R:=yD (R.out.below N)
   replace hc:=hc.below N
   replace H:=H.trans (Touch.of_below N)
   clear N
   obtain ⟨av,O,J,E⟩:=kAh B
   go_wp2_with fail
   refine (kMg L.out.rd (by have:=HL.out.1;omega) (cn:=[.slice ia ps.length ic]) R.out.rd bB9).mono ?_
   rintro e w8 ⟨v2,rfl,O2,hb⟩
   have eg:=hb.size
   replace B:=kD B hb
   replace L:=yD (L.out.below hb)
   replace R:=yD (R.out.below hb)
   obtain ⟨hc,H⟩:=oP
   clear av O J E
   clear hb
   obtain ⟨s2,c7⟩:∃ s2,zF s ps nn=s2:=⟨_,rfl⟩
   rw [c7] at O2
   have aa:=yD (show kFc s2 from c7 ▸ smallS_add HL.out (show nn < 100 by omega))
   clear c7
   obtain ⟨a2,c2,rfl,_⟩:=kE.sl O2.raw
   have ag:=yD (O2.wide (T:=fun q=>w.heap.size≤q∧q < w8.heap.size) rJ)
   go_wp2
   go_roundw
   case rel=>exact ⟨j,a2,s2.length,_,s2,rfl,by go_num,by omega,yD rfl,aa,ag,by omega,hc,H⟩
   case measure=>first|(simp [intOf];done)|(simp [intOf];omega)
end Go.Proofs.YtonmjkmaadgceaaGreat

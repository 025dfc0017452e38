/-
  The faces of the routes of the longest prefix.
-/
import Derived.Test.YtjhfdpopkkmigabGreatHasP
import Derived.Test.YtjhfdpopkkmigabGreatMatch
set_option linter.unusedVariables false
set_option linter.defProp false
set_option linter.unusedSimpArgs false
set_option linter.unnecessarySimpa false
set_option maxRecDepth 100000
set_option maxHeartbeats 4000000
open Bool renaming true->Tt,false->Ff
open List.cons renaming injEq->Aa
open Go renaming World->Ab,Value->Ag
open Bool renaming noConfusion->Ac,not_false->Ah,and_false->Ai,false_and->Aj,not_true->Ak,and_true->Al,true_and->Am,or_false->Ap,false_or->Aq,or_true->Au,true_or->Av,not_not->Aw
open _root_ renaming List->Ad
open List renaming length_filter_le->Ae
open Int renaming natCast_nonneg->Ar
open Option.some renaming injEq->Ay
namespace Go.Proofs.YtjhfdpopkkmigabGreat
open Go.RowKit _root_.Go.Proofs.Tryz
namespace kD
def kFh {α:Type} (r:kD α) (w0:Ab):kD α where
  n:=r.n
  is _ _ cs x _:=r.is false w0 cs x (λ_=>True)
  bdd:=r.bdd
  zero:=r.zero
  zc:=r.zc
  mark:=r.mark
  held:=r.held
  cnt:=r.cnt
  len h:=r.len h
  one h:=r.one h
  mono h _:=h
  wide h _:=h
  weak h:=h
  live h:=h
  bdd_mono:=r.bdd_mono
  bdd_zero:=r.bdd_zero
  is_zero:=r.is_zero
  mark_held:=r.mark_held
  held_ge:=r.held_ge
  mark_ge:=r.mark_ge
  mark_le:=r.mark_le
  mark_bdd:=r.mark_bdd
def isFlat_asIn {α:Type} {r:kD α} {w0:Ab}:(kD.kFh r w0).kDf:=λh=>h
end kD
def kCa (r:jA):Int:=r.2.2 * 18446744073709551616 + r.2.1
def gtR (y r:jA):Bool:=decide (r.2.2 < y.2.2) || ((y.2.2==r.2.2) && decide (r.2.1 < y.2.1))
def I64 (x:Int):Prop:=Qi x
def gtR_key {y r:jA} (hy:I64 y.2.1) (hr:I64 r.2.1):decide (kCa r < kCa y)=gtR y r:=by
 unfold I64 at hy hr;unfold gtR kCa;rw [Bool.eq_iff_iff];simp only [decide_eq_true_eq,Bool.or_eq_true,Bool.and_eq_true,beq_iff_eq];omega
def orI_key {x y:jA} (hx:I64 x.2.1) (hy:I64 y.2.1):decide (orI [kDs x.2.2 y.2.2,kDs x.2.1 y.2.1] < 0)=decide (kCa x < kCa y):=by
 unfold I64 at hx hy;have e:orI [kDs x.2.2 y.2.2,kDs x.2.1 y.2.1]=if kDs x.2.2 y.2.2≠0 then kDs x.2.2 y.2.2 else kDs x.2.1 y.2.1:=by
  by_cases h:kDs x.2.2 y.2.2=0
  · by_cases h2:kDs x.2.1 y.2.1=0
    · rw [orI_miss (by intro j hj;match j,hj with | 0,_=>exact h | 1,_=>exact h2 | j + 2,hj=>simp only [List.length_cons,List.length_nil] at hj;omega),if_neg bF6,h2]
    rw [jBp (k:=1) bH4 (by simpa using h2) (by intro j hj bf;match j,hj with | 0,_=>exact h),if_neg bF6];rfl
  rw [jBp (k:=0) bH4 bF6 (by intro j hj;omega),if_pos h];rfl
 rw [e,decide_eq_decide];unfold kDs kCa;split <;> split <;> (try split) <;> (try split) <;> omega
def kKr (n:kg) (l:Ad jA) (r:jA):Bool:=eqN r.1 (kEl n l)
def kTn (n:kg) (l:Ad jA):Ad jA:=Srt.sorted kCa (l.filter (kKr n l))
def kEm (l:Ad jA) (n:kg):Ad Int:=if mOk n l then (kTn n l).map (λr=>r.2.1) else []
def hopsF_no {l:List jA} {n:kg} (h:mOk n l=false):kEm l n=[]:=by unfold kEm;rw [h];rfl
def jAb {l:List jA} {n:kg} (h:mOk n l=true):kEm l n=(kTn n l).map (λr=>r.2.1):=by unfold kEm;rw [h];rfl
def jAa {l:Ad jA} {n:kg}:(kTn n l).length<=l.length:=by unfold kTn;rw [kHk];exact Ae _ _
def kNo {l:Ad jA} {n:kg}:(kEm l n).length<=l.length:=by
 unfold kEm;split
 · rw [List.length_map];exact jAa
 exact Nat.zero_le _
def sorted_app {α:Type} {key:α->Int} {l:Ad α} {x:α}:Srt.sorted key (l++[x])=Srt.put key (Srt.sorted key l) x:=by
 unfold Srt.sorted;rw [List.foldl_append];rfl
def kUu {w:Ab} {cr:Ad Ag} {r:jA} (hr:kY.raw w cr r) {p:kg} {bm:Ag} {Y:Nat} (pr:kN.raw w [bm] p) (al:Qc w Y 0 bm) :
    Calls prog 120 (#[.agg cr.toArray]++#[.pointer (some ⟨Y,0,none⟩)]) w (bQ w (.bool (!eqN r.1 p))):=by
 have Hr:=yD hr
 obtain ⟨U,rfl,D,H,O,V⟩:=jS hr
 obtain ⟨R,G,rfl,X⟩:=kD.sl H
 obtain ⟨b8,aw,a7⟩:=kX pr
 simp only [Aa,and_true] at aw
 obtain rfl:=aw
 obtain ⟨a2,a3,rfl,cg⟩:=kD.sl a7
 show Calls prog 120 #[_,_] w _
 go_enter func120,ntmps120
 go_upto_region 1 with fail
 generalize J:World.alloc w _=N
 have EB:Qb w N:=by rw [<- J];exact bI
 have I:Qd N w 0 (.slice R (r.1).length G):=wF
 have o:Qd N w 1 (.int .i64 r.2.1):=wF
 have F:Qd N w 2 (.int .i64 r.2.2):=wF
 clear J
 replace al:=cL EB al
 have FX:=yD (λ(W:Ab) (hW:Qb N W)=>kEe hW I o F al)
 refine kr (λW=>Qb N W) [Tt,Tt,Tt,Ff,Tt,Tt] bR ?_
 intro wS E
 iterate 3
  all_goals refine ky ?_
 all_goals first | refine wkB (ze (kD.raw.below D (tQ EB E)) (kD.raw.below pr (tQ EB E))) (λwS1 E=>?_) | refine ky ?_
 all_goals refine ky ?_
 all_goals (refine jy λb c3=>?_;cases b <;> try simp only [jw] at c3)
 all_goals refine kS ?_
 all_goals have EG:=(tQ EB E)
 all_goals first
   | (have L:=yD (show (!eqN r.1 p)=false by simp only [Ak,Ah,Al,Am,Ai,Aj,Au,Av,Ap,Aq,Aw,c3]);go_wp2;go_ret;exact ⟨kW L.out.symm,EG⟩)
   | (have L:=yD (show (!eqN r.1 p)=true by simp only [Ak,Ah,Al,Am,Ai,Aj,Au,Av,Ap,Aq,Aw,c3]);go_wp2;go_ret;exact ⟨kW L.out.symm,EG⟩)
def kIx:jK prog 120:=zP func120 bG6 bG6
def cmpI_rng (a b:Int):-9223372036854775808<=kDs a b/\kDs a b<=9223372036854775807:=by unfold kDs;split <;> (try split) <;> omega
def kD.row_int2 {w:Ab} {a b:Int} (ha:Qi a) (hb:Qi b):kD.row kD.int true w [.int .i64 a,.int .i64 b] [a,b] (λ_=>True) :=
  ⟨[Qn a],[.int .i64 b],λ_=>False,λ_=>False,rfl,⟨rfl,ha⟩,⟨[Qn b],[],λ_=>False,λ_=>False,rfl,⟨rfl,hb⟩,rfl,λ_ h=>h,λ_ h=>h,λ_ _ h=>h.elim⟩,λ_ h=>h.elim,λ_ h=>h.elim,λ_ _ h=>h.elim⟩
def kUt {w:Ab} {cx:Ad Ag} {x:jA} (hx:kY.raw w cx x) {cy:Ad Ag} {y:jA} (hy:kY.raw w cy y) :
    Calls prog 122 #[.agg cx.toArray,.agg cy.toArray] w λe w'=>∃ k:Int,e=.returned (.int .i64 k)/\decide (k < 0)=decide (kCa x < kCa y)/\Qb w w':=by
 have Hx:=yD hx
 obtain ⟨al,rfl,O,R,Y,ac⟩:=jS hx
 obtain ⟨X,G,rfl,ak⟩:=kD.sl R
 have Hy:=yD hy
 obtain ⟨a5,rfl,aj,ai,am,av⟩:=jS hy
 obtain ⟨ae,ad,rfl,a7⟩:=kD.sl ai
 have HK:=yD (orI_key (x:=x) (y:=y) Y am)
 go_enter func122,ntmps122
 go_upto_region 1 with fail
 generalize J:World.alloc (World.alloc w _) _=N
 obtain ⟨EB,I⟩:=CX
 have o:Qd N w 1 (.int .i64 x.2.1):=wF
 have F:Qd N w 2 (.int .i64 x.2.2):=wF
 have D:Qc N (w.heap.size + 1) 0 (.slice ae (y.1).length ad):=wF
 have aa:Qc N (w.heap.size + 1) 1 (.int .i64 y.2.1):=wF
 have ab:Qc N (w.heap.size + 1) 2 (.int .i64 y.2.2):=wF
 clear J
 have FX:=yD (λ(W:Ab) (hW:Qb N W)=>kIy hW I o F D aa ab)
 refine yN (λW=>Qb N W) [(0,true),(1,true),(2,true),(3,true),(5,true),(6,true),(7,true),(8,true),(4,false),(9,false),(10,false),(11,false),(12,true)] bG6 bG6 qY (bR.drew) ?_
 intro wS E
 simp only [jB,List.getElem?_cons_succ,List.getElem?_cons_zero,List.map_cons,List.map_nil]
 iterate 8
  all_goals refine ky ?_
 iterate 2
  all_goals first | refine wkC (kRa) ?_ | refine ky ?_
 all_goals first|(refine kJ rfl E ?_)|(refine kw rfl (λK H=>?_);go_simp;have RL:(kD.slice 3 kD.int).rd (World.alloc wS (.cells #[.int .i64 (kDs x.2.2 y.2.2),.int .i64 (kDs x.2.1 y.2.1)] 3)) [.slice (some ⟨wS.heap.size,0,none⟩) 2 2] [kDs x.2.2 y.2.2,kDs x.2.1 y.2.1]:=((kD.yJ (e:=3) (r:=kD.int) (w:=wS) (cs:=[.int .i64 (kDs x.2.2 y.2.2),.int .i64 (kDs x.2.1 y.2.1)]) (xs:=[kDs x.2.2 y.2.2,kDs x.2.1 y.2.1]) (T:=λ_=>True) (S:=λ_=>True) (λ_ _=>trivial) (by show 2<=_;unfold maxLen;omega) (kD.row_int2 (cmpI_rng _ _) (cmpI_rng _ _)) (λ_ h=>h) trivial).own (by show 2<=_;unfold Big;omega)).rd;have V:Below wS.heap.size wS (World.alloc wS (.cells #[.int .i64 (kDs x.2.2 y.2.2),.int .i64 (kDs x.2.1 y.2.1)] 3)):=bR.alloc nL _;generalize U:World.alloc wS (.cells #[.int .i64 (kDs x.2.2 y.2.2),.int .i64 (kDs x.2.1 y.2.1)] 3)=wN at RL V ⊢;clear U;replace E:=(tQ E V);refine H _ _ E ?_;clear H K V)
 all_goals refine jG ?_
 all_goals first | refine wkC (cmpOr_c RL.1) ?_ | refine ky ?_
 all_goals refine ky ?_
 all_goals refine kS ?_
 have EG:=(tQ EB E)
 go_wp2
 go_ret
 exact ⟨_,rfl,by simpa using HK.out,EG⟩
def kPj:jK prog 122:=zP func122 bG6 bG6
def kXe {w:Ab} {vl:Ag} {l:Ad jA} (hl:(kD.slice 144 kY).rd w [vl] l) {cn:Ad Ag} {n:kg} (hn:kN.rd w cn n) :
    Calls prog 56 #[vl,.agg cn.toArray] w (kBx 3 kD.int (kEm l n) w):=by
 obtain ⟨HL,HN,bc⟩:=EJ
 obtain ⟨nv,rfl,a5⟩:=kX hn.1
 obtain ⟨na,np,rfl,_⟩:=kD.sl a5
 obtain ⟨la,lp,rfl,_⟩:=kD.sl hl.1
 clear a5 hl hn
 go_enter func56,ntmps56
 go_wp2_with fail
 generalize J:World.alloc w _=N
 obtain ⟨EB,K0⟩:=FC
 have bk:=EB.size
 clear J
 refine (kGj (HL.out.below EB) (HN.out.below EB)).mono ?_
 rintro e w1 ⟨pc,rfl,OP,O⟩
 obtain ⟨b8,rfl,a7⟩:=kX OP.raw
 obtain ⟨a2,a3,rfl,_⟩:=kD.sl a7
 clear a7
 have HP:=yD OP.rd
 have E1:=(tQ EB O)
 have bf:=E1.size
 clear OP O EB K0
 have a4:=yD (hopsF_no (l:=l) (n:=n));have av:=yD (jAb (l:=l) (n:=n))
 cases f1:mOk n l
 · have HE:=yD (a4.out f1);go_wp2;go_ret;exact ⟨_,rfl,by rw [HE.out];exact kD.kQ.void,E1.trans (Below.mono bI E1.size)⟩
 have HE:=yD (av.out f1)
 clear a4 av
 go_wp2_with fail
 generalize D:World.alloc w1 _=wC
 have an:Qb w1 wC:=tL
 have KP:Qd wC w1 0 (.slice a2 (kEl n l).length a3):=wG
 clear D
 have EC:=(tQ E1 an)
 have aw:=an.size
 refine (kJo (HL.out.below EC)).mono ?_
 rintro e V ⟨v2,rfl,O2,af⟩
 obtain ⟨oa,on,oc,ho,a1⟩:=O2.parts;obtain rfl:=ho
 have I:=yD O2;have ax:=yD af
 have a9:=af.size
 have E2:=(tQ EC af)
 clear O2 af
 go_wp2_with fail
 have au:Hid (∀ wr,Touch (jb wC.heap.size V.heap.size) V wr->∀ x cs,kY.raw wr cs x->Calls prog 120 (#[.agg cs.toArray]++#[.pointer (some ⟨w1.heap.size,0,none⟩)]) wr (λe w'=>e=.returned (.bool (!eqN x.1 (kEl n l)))/\Qb wr w')):=yD (λwr E x cs hx=>by
   have e:=ax.out.trans (E.below ax.out.size (λi hi=>hi.1));exact kUu hx (kD.raw.below HP.out.1 (tQ an e)) (cL e KP))
 refine (kPt (λr=>!eqN r.1 (kEl n l)) kIx I.out bc au.out).mono ?_
 rintro e w3 ⟨v3,rfl,O3,T3⟩
 obtain ⟨da,L,dc,hd,U⟩:=O3.parts;obtain rfl:=hd
 have ai:=yD (O3.cast (show _=l.filter (kKr n l) by congr 1;funext r;simp [kKr]))
 have ay:=T3.size
 have E3:=E2.trans (T3.below bH3 vI)
 clear O3 T3 I au KP
 go_wp2_with fail
 have HC:Hid (kBs kCa 122 #[] (jb wC.heap.size V.heap.size) w3):=yD (λwr E x y cs ds hx hy=>by simpa using kUt hx hy)
 refine (kPo kCa kPj HC.out ai.out (by have:=Ae (kKr n l) l;omega)).mono ?_
 rintro e w4 ⟨rfl,O4,R⟩
 have bl:=yD (O4.cast (show _=kTn n l from Srt.kNd _))
 have b1:=R.size
 have E4:=E3.trans (R.below bH3 vI)
 have W:=jAa (l:=l) (n:=n)
 clear O4 R ai HC E3 E2
 have bg:Hid (L=(kTn n l).length):=yD (by have:=bl.out.yw;obtain ⟨a,c,h⟩:=this;simp only [Value.slice.injEq] at h;exact h.2.1)
 generalize kTn n l=H at *
 obtain ⟨F,Z⟩:∃ F:Ad Int,F=H.map (λr=>r.2.1):=⟨_,rfl⟩
 have el:=yD Z;clear Z
 have al:L<=16777216:=by have:=bg.out;omega
 go_wp2
 go_loopw [8,28] (λv i wr=>∃ (k:Nat),k<=L/\i=.int .i64 k/\Hid (kD.kQ 3 kD.int wr v (F.take k) (jb w4.heap.size wr.heap.size))/\Qb w4 wr) (λ_ i _=>L - (intOf i).toNat)
 case atStart=>exact ⟨0,Nat.zero_le _,rfl,yD kD.kQ.void,bI⟩
 obtain ⟨k,hk,rfl,HI,o⟩:=hrel
 obtain ⟨ia,bd,ic,hi,aa⟩:=HI.out.parts;obtain rfl:=hi
 have bt:=o.size
 by_cases hlt:k < L
 · have hkl:k < H.length:=by have:=bg.out;omega
   have hil:bd<=16777216:=sO;obtain ⟨qb,qo,rfl,Y,ae,ah,qr,A0,A1,A2⟩:=kD.kAn (bl.out.kBi.below o) hkl rfl;have b4:=yD (show F.take (k + 1)=F.take k++[H[k].2.1] by (have hl:k < F.length:=by rw [el.out];simpa using hkl);rw [List.take_succ_eq_append_getElem hl];simp [el.out]);generalize H[k]=x at *;obtain ⟨a6,G,ag,ak,am,ar⟩:=jS qr;simp only [Aa,and_true] at G;obtain ⟨rfl,rfl,rfl⟩:=G;obtain ⟨ac,az,rfl,a8⟩:=kD.sl ak;have ad:=am;go_upto_region 10 with fail;generalize ab:World.alloc wr _=wD;have ED:Qb wr wD:=tH;have D1:Qd wD wr 1 (.int .i64 x.2.1):=vV;clear ab;have db:=ED.size;have bj:=(tQ o ED);replace HI:=yD (HI.out.below ED);have bi:(F.take k).length<=16777216:=bC7;go_wp2_with (at_builtin;refine kD.jP rfl _ _ 49 rfl (r:=kD.int) (e:=3) underlying49 kAm rfl bH2 bH2 (B:=w4.heap.size) HI.out bH5 bH5 rfl (kD.ku ad _) rfl (λ_ _ h=>h) rQ (λ_ h=>h.elim) bH3 bH3 ?_);intro v5 w5 hown bh bz;have aj:=yD (kD.kQ.cast hown b4.out.symm);have bb:=bj.trans bh;clear hown bh;go_wp2;go_roundw;case rel=>exact ⟨k + 1,by omega,by go_num,aj,bb⟩
   simp [intOf];omega
 obtain rfl:k=L:=bH3
 have HF:=yD (HI.out.cast (show _=kEm l n by rw [HE.out,<- el.out,List.take_of_length_le (by rw [el.out];simp;have:=bg.out;omega)]))
 have du:¬ (k:Int) < k:=bH3
 go_wp2
 go_ret
 exact ⟨_,rfl,HF.out.wide rR,(tQ E4 o)⟩
def jU {w0 w:Ab} {v:Ag} {xs ys:Ad jA} {S:Nat->Prop} {B:Nat} {av:Option Addr} {len cap:Nat} (hown:kD.kQ 144 (kD.kFh kY w0) w v xs S) (hy:(kD.slice 144 (kD.kFh kY w0)).rd w [.slice av len cap] ys) (hSB:∀ k,S k->B<=k/\k < w.heap.size) (hB:B<=w.heap.size) (hlen:xs.length + ys.length<=1000000000) :
    ∃ v' w',(Builtin.append_ #[30,30] 30 #[v,.slice av len cap]).run prog w=.ok v' w'/\kD.kQ 144 (kD.kFh kY w0) w' v' (xs++ys) (jb B w'.heap.size)/\Below B w w'/\w.heap.size<=w'.heap.size :=
  kD.kNe (r:=(kD.kFh kY w0)) underlying30 kDa rfl (show 0 < 3 by omega) bH2 kD.isFlat_asIn hown hy hSB hB hlen
def kAl {w0 w:Ab} {cs:Ad Ag} {x:jA} (hx:kD.is (kD.kFh kY w0) true w cs x (λ_=>True)) (hb:kD.bdd (kD.kFh kY w0) Big x) :
    (kD.slice 144 (kD.kFh kY w0)).rd (World.alloc w (.cells cs.toArray 144)) [.slice (some ⟨w.heap.size,0,none⟩) 1 1] [x] :=
  ((kD.yJ (e:=144) (r:=(kD.kFh kY w0)) (w:=w) (cs:=cs) (xs:=[x]) (T:=λ_=>True) (S:=λ_=>True) mZ tT (kD.kCx hx) (λ_ h=>h) trivial).own vL).rd
def jBc {w w0:Ab} {vl:Ag} {l:Ad jA} {S:Nat->Prop} (hl:kD.kQ 144 (kD.kFh kY w0) w vl l S) {cr:Ad Ag} {r:jA} (hr:kY.rd w0 cr r) (hlen:l.length < 16777216) :
    Calls prog 168 #[vl,.agg cr.toArray] w (kBx 144 (kD.kFh kY w0) (Srt.put kCa l r) w):=by
 have HR:=yD hr
 obtain ⟨la,lp,b2⟩:=hl.yw;obtain rfl:=b2
 have HL:=yD ((hl.own bD0).rd)
 have R:=yD (kD.kSc hl)
 have b0:=kD.kCt HL.out.1
 obtain ⟨b1,rfl,az,ai,ay,bl⟩:=jS hr.1
 obtain ⟨ra,rp,rfl,_⟩:=kD.sl ai
 have bt:=yD ay
 clear hl hr az ai bl ay
 go_enter func168,ntmps168
 go_wp2
 generalize J:World.alloc w _=N
 have EB:Qb w N:=by rw [<- J];exact bI
 have K0:Qd N w 0 (.slice ra r.1.length rp):=wF
 have K1:Qd N w 1 (.int .i64 r.2.1):=wF
 have K2:Qd N w 2 (.int .i64 r.2.2):=wF
 clear J
 have an:=yD (HL.out.below EB)
 have bk:=EB.size
 go_loopw [5] (λq wr=>∃ (k:Nat),k<=l.length/\q=.int .i64 k/\Hid (Srt.place kCa k l r=Srt.place kCa l.length l r)/\Qb N wr) (λq _=>(intOf q).toNat)
 case atStart=>exact ⟨l.length,Nat.le_refl _,rfl,yD rfl,bR⟩
 obtain ⟨k,bu,rfl,HP,o⟩:=hrel
 obtain ⟨K0,K1⟩:=IJ
 replace K2:=cL o K2
 have ce:=Ar k
 have a5:(k:Int)<=lp:=bH3
 have bx:k<=lp:=bH3
 by_cases hk:0 < k
 · obtain ⟨j,hj⟩:∃ j,j + 1=k:=⟨k - 1,by omega⟩;have c8:(k:Int) - 1=(j:Int):=bH3;obtain ⟨c6,bz⟩:=CB;have aj:j < l.length:=bH3;have bv:(j:Int) < l.length:=bH3;have hp:decide ((k:Int) > 0)=true:=bG7;have ch:decide (0 < k)=true:=bE2;have ck:(0:Int) < k:=bH3;obtain ⟨qb,qo,rfl,Y,ae,ah,qr,A0,A1,A2⟩:=kD.kAn (an.out.1.below o) aj rfl;have HY:=yD (λq=>(kWi (key:=kCa) (x:=r) hj aj q).symm.trans HP.out);have a4:=yD (λq=>(kWg (key:=kCa) (x:=r) hj aj q).symm.trans HP.out);generalize l[j]=y at *;obtain ⟨a6,G,ag,ak,am,ar⟩:=jS (show kY.raw w0 _ y from qr);simp only [Aa,and_true] at G;obtain ⟨rfl,rfl,rfl⟩:=G;have HG:=yD (gtR_key (y:=y) (r:=r) am bt.out);clear ag ak am ar qr;go_upto_region 2 with fail;go_cut [42] from 8 to 42 (λa9 wc=>a9=.bool (gtR y r)/\Qb wr wc);case first =>
    have FX:=yD (λ(W:Ab) (hW:Qb wr W)=>kEe hW A1 A2 K1 K2);refine kK (λW=>Qb wr W) [Tt,Tt,Tt,Tt,Tt,Tt,Tt,Tt,Tt,Tt,Tt,Tt,Tt,Tt,Tt,Tt,Tt,Tt,Tt,Tt,Tt,Tt,Tt,Tt,Tt,Tt,Tt,Tt,Tt,Tt,Tt,Tt,Tt,Tt,Tt] bG6 bG6 qY (bR.drew) ?_;intro wS E;all_goals refine ky ?_
    all_goals refine ky ?_
    all_goals (refine jy λb al=>?_;cases b <;> try simp only [jw] at al)
    iterate 9
     all_goals refine ky ?_
    all_goals (refine jy λb af=>?_;cases b <;> try simp only [jw] at af)
    iterate 9
     all_goals refine ky ?_
    all_goals (refine jy λb dz=>?_;cases b <;> try simp only [jw] at dz)
    iterate 11
     all_goals refine ky ?_
    all_goals (refine jy λb I=>?_;cases b <;> try simp only [jw] at I)
    all_goals refine kS ?_
    all_goals (cases hv:gtR y r)
    all_goals first
      | (exfalso;simp only [gtR,Ak,Ah,Al,Am,Ai,Aj,Au,Av,Ap,Aq,Aw,al,af,dz,I] at hv;exact Ac hv)
      | (have X:=yD hv;clear hv;go_wp2;go_meet;(case rel=>exact ⟨by rw [X.out],E⟩))
   obtain ⟨rfl,E⟩:=hcut;have ab:=(tQ o E);cases br:gtR y r
   · have bj:=yD (a4.out (HG.out.trans br));clear HY a4 HG;have aa:=yD (jBn (show k=_ from bj.out));replace K0:=cL E K0;replace K1:=cL E K1;replace K2:=cL E K2;generalize wc=wq at *;exact xC
   have hw:=yD (HY.out (HG.out.trans br));clear HY a4 HG br;go_wp2;go_roundw;case rel=>exact ⟨j,by omega,rfl,hw,ab⟩
   simp [intOf];omega
 have bq:k=0:=bH3
 have hp:decide ((k:Int) > 0)=false:=bG7
 have ck:¬ (0:Int) < k:=bH3
 have bj:Hid (k=Srt.place kCa l.length l r):=yD (by rw [<- HP.out,bq];rfl)
 clear bq
 go_upto_region 2 with fail
 refine kK (λW=>Qb wr W) [Tt,Tt,Tt,Tt,Tt,Tt,Tt,Tt,Tt,Tt,Tt,Tt,Tt,Tt,Tt,Tt,Tt,Tt,Tt,Tt,Tt,Tt,Tt,Tt,Tt,Tt,Tt,Tt,Tt,Tt,Tt,Tt,Tt,Tt,Tt] bG6 bG6 qY (bR.drew) ?_
 intro wS E
 all_goals refine ky ?_
 all_goals refine ky ?_
 all_goals (refine jy λb al=>?_;cases b <;> try simp only [jw] at al)
 iterate 9
  all_goals refine ky ?_
 all_goals (refine jy λb af=>?_;cases b <;> try simp only [jw] at af)
 iterate 9
  all_goals refine ky ?_
 all_goals (refine jy λb dz=>?_;cases b <;> try simp only [jw] at dz)
 iterate 11
  all_goals refine ky ?_
 all_goals (refine jy λb I=>?_;cases b <;> try simp only [jw] at I)
 all_goals refine kS ?_
 all_goals have ab:=(tQ o E)
 have aa:=yD (jBn (show k=_ from bj.out))
 replace K0:=cL E K0
 replace K1:=cL E K1
 replace K2:=cL E K2
 generalize wS=wq at *
 exact xC
def kVy {w:Ab} {vl:Ag} {l:Ad jA} (hl:(kD.slice 144 kY).rd w [vl] l) {cn:Ad Ag} {n:kg} (hn:kN.rd w cn n) :
    Calls prog 114 #[vl,.agg cn.toArray] w (kBb (kD.slice 3 kD.int) (kEm l n) w):=by
 obtain ⟨HL,HN,bc⟩:=EJ
 obtain ⟨nv,rfl,a5⟩:=kX hn.1
 obtain ⟨na,np,rfl,_⟩:=kD.sl a5
 obtain ⟨la,lp,rfl,_⟩:=kD.sl hl.1
 clear a5 hl hn
 go_enter func114,ntmps114
 go_wp2_with fail
 generalize J:World.alloc w _=N
 obtain ⟨EB,K0⟩:=FC
 have bk:=EB.size
 clear J
 refine (kGc (HL.out.below EB) (HN.out.below EB)).mono ?_
 rintro e w1 ⟨pc,rfl,OP,O⟩
 obtain ⟨b8,rfl,a7⟩:=kX OP.raw
 obtain ⟨a2,a3,rfl,_⟩:=kD.sl a7
 clear a7
 have HP:=yD OP.rd
 have E1:=(tQ EB O)
 have bf:=E1.size
 clear OP O EB K0
 have a4:=yD (hopsF_no (l:=l) (n:=n));have av:=yD (jAb (l:=l) (n:=n))
 have au:Hid (kTn n l=Srt.sorted kCa (l.filter (kKr n l))):=yD rfl
 generalize f1:mOk n l=ok at *
 have hc:=yD f1;clear f1
 go_wp2
 generalize D:World.alloc (World.alloc w1 _) _=wC
 have an:Qb w1 wC:=by rw [<- D];exact bI
 have KP:Qd wC w1 0 (.slice a2 (kEl n l).length a3):=wG
 clear D
 have EC:=(tQ E1 an)
 have aw:=an.size
 go_loopw [7,8] (λv i wr=>∃ (k:Nat),k<=l.length/\i=.int .i64 k/\(ok=false->k=0)/\Hid (kD.kQ 144 (kD.kFh kY w) wr v (Srt.sorted kCa ((l.take k).filter (kKr n l))) (jb w.heap.size wr.heap.size))/\Qb wC wr) (λ_ i _=>l.length - (intOf i).toNat)
 case atStart=>exact ⟨0,Nat.zero_le _,rfl,λ_=>rfl,yD kD.kQ.void,bR⟩
 obtain ⟨k,hk,rfl,ce,I,o⟩:=hrel
 obtain ⟨oa,on,oc,ho,a1⟩:=I.out.parts;obtain rfl:=ho
 have bx:=yD ce;clear ce
 have bt:=o.size
 replace KP:=cL o KP
 have EG:=(tQ EC o)
 have du:=Ar k
 by_cases hlt:k < l.length
 · cases ok
   · have be:(k:Int) < l.length:=bH3;have U:Hid (kEm l n=(Srt.sorted kCa ((l.take k).filter (kKr n l))).map (λr=>r.2.1)):=yD (by rw [a4.out rfl,bx.out rfl];rfl);exact lD
   have be:(k:Int) < l.length:=bH3;have bo:=λq=>kFr (p:=kKr n l) hlt q;have br:=λq=>kDi (p:=kKr n l) hlt q;obtain ⟨qb,qo,rfl,Y,ae,ah,qr,ap,aq,ay⟩:=kD.kAn (HL.out.1.below EG) hlt rfl;have X:=kD.yX HL.out hlt;have bj:Hid (kY.rd w [Y,ae,ah] l[k]):=yD (by
     obtain ⟨b2,o2,af,c0,c1,c2,h,h0,h1,h2⟩:=kD.kAn HL.out.1 hlt rfl;simp only [Ay,Addr.mk.injEq,and_true] at af;obtain ⟨rfl,rfl⟩:=af;have e0:=(cL EG h0).symm.trans ap;have e1:=(cL EG h1).symm.trans aq;have e2:=(cL EG h2).symm.trans ay;simp only [Ay] at e0 e1 e2;subst e0 e1 e2;exact ⟨h,X⟩)
   generalize l[k]=x at *;have ao:=yD bo;have ax:=yD br;clear bo br X;obtain ⟨a6,G,ag,ak,am,ar⟩:=jS qr;simp only [Aa,and_true] at G;obtain ⟨rfl,rfl,rfl⟩:=G;obtain ⟨ac,az,rfl,a8⟩:=kD.sl ak;go_upto_region 6 with fail;have FX:=yD (λ(W:Ab) (hW:Qb wr W)=>kEe hW ap aq ay KP);refine kK (λW=>Qb wr W) [Tt,Tt,Tt,Tt,Tt,Tt,Ff] bG6 bG6 qY (bR.drew) ?_;intro wS E;iterate 6
    all_goals refine ky ?_
   all_goals first | refine wkB (jq (kD.raw.below ag E) (kD.raw.below HP.out.1 (Below.trans an ((tQ o E).mono an.size)))) (λwS1 E=>?_) | refine ky ?_
   all_goals refine kS ?_
   have ab:=(tQ o E);have R:=yD (I.out.below E);have bu:=E.size;replace ap:=cL E ap;replace aq:=cL E aq;replace ay:=cL E ay;generalize wS1=wq at *;clear E;cases hq:eqN x.1 (kEl n l)
   · have L:=yD (ax.out hq);clear ao ax;go_wp2;go_roundw;case rel=>exact ⟨k + 1,by omega,by go_num,(λh=>Ac h),yD ((R.out.cast (by rw [L.out])).wide rQ),ab⟩
     simp [intOf];omega
   have L:=yD (ao.out hq);clear ao ax;have hlen:(Srt.sorted kCa ((l.take k).filter (kKr n l))).length < 16777216:=by have h1:=kAh (p:=kKr n l) (l:=l) (k:=k) bH3;rw [kHk];omega
   go_wp2_with fail;refine (jBc R.out bj.out hlen).mono ?_;rintro e w4 ⟨v4,rfl,O4,ad⟩;have b1:=ad.size;have bl:=yD ((O4.cast (show _=Srt.sorted kCa ((l.take (k + 1)).filter (kKr n l)) by rw [L.out,sorted_app])).wide (T:=jb w.heap.size w4.heap.size) (λj hj=>⟨by have:=hj.1;have:=EC.size;omega,hj.2⟩));have bb:=(tQ ab ad);obtain ⟨fa,fn,fc,hf,ax⟩:=bl.out.parts;obtain rfl:=hf;clear O4 ad;go_wp2;go_roundw;case rel=>exact ⟨k + 1,by omega,by go_num,(λh=>Ac h),bl,bb⟩
   simp [intOf];omega
 have be:¬ (k:Int) < l.length:=bH3
 have U:Hid (kEm l n=(Srt.sorted kCa ((l.take k).filter (kKr n l))).map (λr=>r.2.1)):=yD (by
   obtain rfl:k=l.length:=bH3;rw [List.take_length];cases ok
   · rw [a4.out rfl];have h0:=bx.out rfl;rw [List.eq_nil_of_length_eq_zero h0];rfl
   · rw [av.out rfl,au.out])
 exact lD
end Go.Proofs.YtjhfdpopkkmigabGreat

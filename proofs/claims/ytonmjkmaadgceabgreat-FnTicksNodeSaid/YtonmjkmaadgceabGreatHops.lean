/-
  The faces of the routes of the longest prefix.
-/
import Derived.Test.YtonmjkmaadgceabGreatHasP
import Derived.Test.YtonmjkmaadgceabGreatMatch
set_option linter.unusedVariables false
set_option linter.defProp false
set_option linter.unusedSimpArgs false
set_option linter.unnecessarySimpa false
set_option maxRecDepth 100000
set_option maxHeartbeats 4000000
open Bool renaming true->Tt,false->Ff
open List.cons renaming injEq->Aa
open Go renaming World->Ab,Value->Ag
open Bool renaming noConfusion->Ac,not_false->Ah,and_false->Ai,false_and->Aj,not_true->Ak,and_true->Al,true_and->Am,or_false->Ap,false_or->Aq,or_true->Au,true_or->Av,not_not->Aw
open _root_ renaming List->Ad
open List renaming length_filter_le->Ae
open Int renaming natCast_nonneg->Ar
open Option.some renaming injEq->Ay
namespace Go.Proofs.YtonmjkmaadgceabGreat
open Go.RowKit _root_.Go.Proofs.Tryz
namespace kD
def kEp {α:Type} (r:kD α) (w0:Ab):kD α where
  n:=r.n
  is _ _ cs x _:=r.is false w0 cs x (λ_=>True)
  bdd:=r.bdd
  zero:=r.zero
  zc:=r.zc
  mark:=r.mark
  held:=r.held
  cnt:=r.cnt
  len h:=r.len h
  one h:=r.one h
  mono h _:=h
  wide h _:=h
  weak h:=h
  live h:=h
  bdd_mono:=r.bdd_mono
  bdd_zero:=r.bdd_zero
  is_zero:=r.is_zero
  mark_held:=r.mark_held
  held_ge:=r.held_ge
  mark_ge:=r.mark_ge
  mark_le:=r.mark_le
  mark_bdd:=r.mark_bdd
def isFlat_asIn {α:Type} {r:kD α} {w0:Ab}:(kD.kEp r w0).kDa:=λh=>h
end kD
def kBy (r:ky):Int:=r.2.2 * 18446744073709551616 + r.2.1
def gtR (y r:ky):Bool:=decide (r.2.2 < y.2.2) || ((y.2.2==r.2.2) && decide (r.2.1 < y.2.1))
def I64 (x:Int):Prop:=Qi x
def gtR_key {y r:ky} (hy:I64 y.2.1) (hr:I64 r.2.1):decide (kBy r < kBy y)=gtR y r:=by
 unfold I64 at hy hr;unfold gtR kBy;rw [Bool.eq_iff_iff];simp only [decide_eq_true_eq,Bool.or_eq_true,Bool.and_eq_true,beq_iff_eq];omega
def orI_key {x y:ky} (hx:I64 x.2.1) (hy:I64 y.2.1):decide (orI [kDd x.2.2 y.2.2,kDd x.2.1 y.2.1] < 0)=decide (kBy x < kBy y):=by
 unfold I64 at hx hy;have e:orI [kDd x.2.2 y.2.2,kDd x.2.1 y.2.1]=if kDd x.2.2 y.2.2≠0 then kDd x.2.2 y.2.2 else kDd x.2.1 y.2.1:=by
  by_cases h:kDd x.2.2 y.2.2=0
  · by_cases h2:kDd x.2.1 y.2.1=0
    · rw [orI_miss (by intro j I;match j,I with | 0,_=>exact h | 1,_=>exact h2 | j + 2,I=>simp only [List.length_cons,List.length_nil] at I;omega),if_neg bB3,h2]
    rw [kZw (k:=1) bD0 (by simpa using h2) (by intro j I br;match j,I with | 0,_=>exact h),if_neg bB3];rfl
  rw [kZw (k:=0) bD0 bB3 (by intro j I;omega),if_pos h];rfl
 rw [e,decide_eq_decide];unfold kDd kBy;split <;> split <;> (try split) <;> (try split) <;> omega
def kJb (n:ko) (l:Ad ky) (r:ky):Bool:=eqN r.1 (zX n l)
def kRq (n:ko) (l:Ad ky):Ad ky:=Srt.sorted kBy (l.filter (kJb n l))
def kDv (l:Ad ky) (n:ko):Ad Int:=if mOk n l then (kRq n l).map (λr=>r.2.1) else []
def hopsF_no {l:List ky} {n:ko} (h:mOk n l=false):kDv l n=[]:=by unfold kDv;rw [h];rfl
def kYj {l:List ky} {n:ko} (h:mOk n l=true):kDv l n=(kRq n l).map (λr=>r.2.1):=by unfold kDv;rw [h];rfl
def kYi {l:Ad ky} {n:ko}:(kRq n l).length<=l.length:=by unfold kRq;rw [kGf];exact Ae _ _
def kLr {l:Ad ky} {n:ko}:(kDv l n).length<=l.length:=by
 unfold kDv;split
 · rw [List.length_map];exact kYi
 exact Nat.zero_le _
def sorted_app {α:Type} {key:α->Int} {l:Ad α} {x:α}:Srt.sorted key (l++[x])=Srt.put key (Srt.sorted key l) x:=by
 unfold Srt.sorted;rw [List.foldl_append];rfl
def kSv {w:Ab} {cr:Ad Ag} {r:ky} (hr:kY.raw w cr r) {p:ko} {bm:Ag} {Z:Nat} (pr:kU.raw w [bm] p) (a5:Qc w Z 0 bm) :
    Calls prog 108 (#[.agg cr.toArray]++#[.pointer (some ⟨Z,0,none⟩)]) w (bQ w (.bool (!eqN r.1 p))):=by
 have Hr:=yD hr
 obtain ⟨O,rfl,R,U,V,X⟩:=jM hr
 obtain ⟨H,G,rfl,Y⟩:=kD.sl U
 obtain ⟨b8,aq,a7⟩:=kZ pr
 simp only [Aa,and_true] at aq
 obtain rfl:=aq
 obtain ⟨bn,bo,rfl,cd⟩:=kD.sl a7
 show Calls prog 108 #[_,_] w _
 go_enter func108,ntmps108
 go_upto_region 1 with fail
 generalize D:World.alloc w _=N
 have EB:Qb w N:=by rw [<- D];exact bF
 have J:Qd N w 0 (.slice H (r.1).length G):=tK
 have I:Qd N w 1 (.int .i64 r.2.1):=tK
 have o:Qd N w 2 (.int .i64 r.2.2):=tK
 clear D
 replace a5:=cL EB a5
 have FX:=yD (λ(W:Ab) (hW:Qb N W)=>kGr hW J I o a5)
 refine jE (λW=>Qb N W) [Tt,Tt,Tt,Ff,Tt,Tt] bR ?_
 intro wS E
 iterate 3
  all_goals refine ku ?_
 all_goals first | refine wkB (kAo (kD.raw.below R (tQ EB E)) (kD.raw.below pr (tQ EB E))) (λwS1 E=>?_) | refine ku ?_
 all_goals refine ku ?_
 all_goals (refine jy λb ao=>?_;cases b <;> try simp only [jw] at ao)
 all_goals refine kS ?_
 all_goals have F:=(tQ EB E)
 all_goals first
   | (have L:=yD (show (!eqN r.1 p)=false by simp only [Ak,Ah,Al,Am,Ai,Aj,Au,Av,Ap,Aq,Aw,ao]);go_wp2;go_ret;exact ⟨kX L.out.symm,F⟩)
   | (have L:=yD (show (!eqN r.1 p)=true by simp only [Ak,Ah,Al,Am,Ai,Aj,Au,Av,Ap,Aq,Aw,ao]);go_wp2;go_ret;exact ⟨kX L.out.symm,F⟩)
def kHp:jI prog 108:=zQ func108 bC3 bC3
def cmpI_rng (a b:Int):-9223372036854775808<=kDd a b/\kDd a b<=9223372036854775807:=by unfold kDd;split <;> (try split) <;> omega
def kD.row_int2 {w:Ab} {a b:Int} (ha:Qi a) (hb:Qi b):kD.row kD.int true w [.int .i64 a,.int .i64 b] [a,b] (λ_=>True) :=
  ⟨[Qn a],[.int .i64 b],λ_=>False,λ_=>False,rfl,⟨rfl,ha⟩,⟨[Qn b],[],λ_=>False,λ_=>False,rfl,⟨rfl,hb⟩,rfl,λ_ h=>h,λ_ h=>h,λ_ _ h=>h.elim⟩,λ_ h=>h.elim,λ_ h=>h.elim,λ_ _ h=>h.elim⟩
def kSu {w:Ab} {cx:Ad Ag} {x:ky} (hx:kY.raw w cx x) {cy:Ad Ag} {y:ky} (hy:kY.raw w cy y) :
    Calls prog 110 #[.agg cx.toArray,.agg cy.toArray] w λe w'=>∃ k:Int,e=.returned (.int .i64 k)/\decide (k < 0)=decide (kBy x < kBy y)/\Qb w w':=by
 have Hx:=yD hx
 obtain ⟨ar,rfl,ab,Z,ac,ae⟩:=jM hx
 obtain ⟨aa,R,rfl,an⟩:=kD.sl Z
 have Hy:=yD hy
 obtain ⟨a9,rfl,au,aw,U,av⟩:=jM hy
 obtain ⟨am,ak,rfl,be⟩:=kD.sl aw
 have HK:=yD (orI_key (x:=x) (y:=y) ac U)
 go_enter func110,ntmps110
 go_upto_region 1 with fail
 generalize D:World.alloc (World.alloc w _) _=N
 have EB:Qb w N:=by rw [<- D];exact bF
 have J:Qd N w 0 (.slice aa (x.1).length R):=tK
 have I:Qd N w 1 (.int .i64 x.2.1):=tK
 have o:Qd N w 2 (.int .i64 x.2.2):=tK
 have G:Qc N (w.heap.size + 1) 0 (.slice am (y.1).length ak):=tK
 have ad:Qc N (w.heap.size + 1) 1 (.int .i64 y.2.1):=tK
 have af:Qc N (w.heap.size + 1) 2 (.int .i64 y.2.2):=tK
 clear D
 have FX:=yD (λ(W:Ab) (hW:Qb N W)=>kKa hW J I o G ad af)
 refine jm (λW=>Qb N W) [(0,true),(1,true),(2,true),(3,true),(5,true),(6,true),(7,true),(8,true),(4,false),(9,false),(10,false),(11,false),(12,true)] bC3 bC3 pK (bR.drew) ?_
 intro wS E
 simp only [kz,List.getElem?_cons_succ,List.getElem?_cons_zero,List.map_cons,List.map_nil]
 iterate 8
  all_goals refine ku ?_
 iterate 2
  all_goals first | refine wkC (kPg) ?_ | refine ku ?_
 all_goals first|(refine kI rfl E ?_)|(refine kw rfl (λK H=>?_);go_simp;have Y:(kD.slice 3 kD.int).rd (World.alloc wS (.cells #[.int .i64 (kDd x.2.2 y.2.2),.int .i64 (kDd x.2.1 y.2.1)] 3)) [.slice (some ⟨wS.heap.size,0,none⟩) 2 2] [kDd x.2.2 y.2.2,kDd x.2.1 y.2.1]:=((kD.yO (e:=3) (r:=kD.int) (w:=wS) (cs:=[.int .i64 (kDd x.2.2 y.2.2),.int .i64 (kDd x.2.1 y.2.1)]) (xs:=[kDd x.2.2 y.2.2,kDd x.2.1 y.2.1]) (T:=λ_=>True) (S:=λ_=>True) (λ_ _=>trivial) (by show 2<=_;unfold maxLen;omega) (kD.row_int2 (cmpI_rng _ _) (cmpI_rng _ _)) (λ_ h=>h) trivial).own (by show 2<=_;unfold Big;omega)).rd;have V:Below wS.heap.size wS (World.alloc wS (.cells #[.int .i64 (kDd x.2.2 y.2.2),.int .i64 (kDd x.2.1 y.2.1)] 3)):=bR.alloc nL _;generalize X:World.alloc wS (.cells #[.int .i64 (kDd x.2.2 y.2.2),.int .i64 (kDd x.2.1 y.2.1)] 3)=wN at Y V ⊢;clear X;replace E:=(tQ E V);refine H _ _ E ?_;clear H K V)
 all_goals refine jF ?_
 all_goals first | refine wkC (cmpOr_c Y.1) ?_ | refine ku ?_
 all_goals refine ku ?_
 all_goals refine kS ?_
 have F:=(tQ EB E)
 go_wp2
 go_ret
 exact ⟨_,rfl,by simpa using HK.out,F⟩
def kNn:jI prog 110:=zQ func110 bC3 bC3
def kVn {w:Ab} {vl:Ag} {l:Ad ky} (hl:(kD.slice 77 kY).rd w [vl] l) {cn:Ad Ag} {n:ko} (hn:kU.rd w cn n) :
    Calls prog 58 #[vl,.agg cn.toArray] w (kBs 3 kD.int (kDv l n) w):=by
 obtain ⟨HL,HN,a5⟩:=DF
 obtain ⟨nv,rfl,a8⟩:=kZ hn.1
 obtain ⟨na,np,rfl,_⟩:=kD.sl a8
 obtain ⟨la,lp,rfl,_⟩:=kD.sl hl.1
 clear a8 hl hn
 go_enter func58,ntmps58
 go_wp2_with fail
 generalize D:World.alloc w _=N
 obtain ⟨EB,K0⟩:=GR
 have bu:=EB.size
 clear D
 refine (kCu (HL.out.below EB) (HN.out.below EB)).mono ?_
 rintro e Y ⟨pc,rfl,OP,O⟩
 obtain ⟨b8,rfl,a7⟩:=kZ OP.raw
 obtain ⟨bn,bo,rfl,_⟩:=kD.sl a7
 clear a7
 have HP:=yD OP.rd
 have E1:=(tQ EB O)
 have bq:=E1.size
 clear OP O EB K0
 have a4:=yD (hopsF_no (l:=l) (n:=n));have bj:=yD (kYj (l:=l) (n:=n))
 cases dm:mOk n l
 · have HE:=yD (a4.out dm);go_wp2;go_ret;exact ⟨_,rfl,by rw [HE.out];exact kD.kR.void,E1.trans (Below.mono bF E1.size)⟩
 have HE:=yD (bj.out dm)
 clear a4 bj
 go_wp2_with fail
 generalize X:World.alloc Y _=wC
 have ab:Qb Y wC:=rO
 have KP:Qd wC Y 0 (.slice bn (zX n l).length bo):=tL
 clear X
 have EC:=(tQ E1 ab)
 have ca:=ab.size
 refine (kIb (HL.out.below EC)).mono ?_
 rintro e V ⟨v2,rfl,O2,ak⟩
 obtain ⟨oa,on,oc,ho,bb⟩:=O2.parts;obtain rfl:=ho
 have J:=yD O2;have a1:=yD ak
 have a6:=ak.size
 have E2:=(tQ EC ak)
 clear O2 ak
 go_wp2_with fail
 have aw:Hid (∀ wr,Touch (jX wC.heap.size V.heap.size) V wr->∀ x cs,kY.raw wr cs x->Calls prog 108 (#[.agg cs.toArray]++#[.pointer (some ⟨Y.heap.size,0,none⟩)]) wr (λe w'=>e=.returned (.bool (!eqN x.1 (zX n l)))/\Qb wr w')):=yD (λwr E x cs hx=>by
   have e:=a1.out.trans (E.below a1.out.size (λi hi=>hi.1));exact kSv hx (kD.raw.below HP.out.1 (tQ ab e)) (cL e KP))
 refine (kNw (λr=>!eqN r.1 (zX n l)) kHp J.out a5 aw.out).mono ?_
 rintro e w3 ⟨v3,rfl,O3,T3⟩
 obtain ⟨da,F,dc,hd,L⟩:=O3.parts;obtain rfl:=hd
 have ai:=yD (O3.cast (show _=l.filter (kJb n l) by congr 1;funext r;simp [kJb]))
 have bk:=T3.size
 have E3:=E2.trans (T3.below bC9 sJ)
 clear O3 T3 J aw KP
 go_wp2_with fail
 have HC:Hid (kBo kBy 110 #[] (jX wC.heap.size V.heap.size) w3):=yD (λwr E x y cs ds hx hy=>by simpa using kSu hx hy)
 refine (kNr kBy kNn HC.out ai.out (by have:=Ae (kJb n l) l;omega)).mono ?_
 rintro e w4 ⟨rfl,O4,R⟩
 have be:=yD (O4.cast (show _=kRq n l from Srt.kLj _))
 have bw:=R.size
 have E4:=E3.trans (R.below bC9 sJ)
 have W:=kYi (l:=l) (n:=n)
 clear O4 R ai HC E3 E2
 have ar:Hid (F=(kRq n l).length):=yD (by have:=be.out.zP;obtain ⟨a,c,h⟩:=this;simp only [Value.slice.injEq] at h;exact h.2.1)
 generalize kRq n l=H at *
 obtain ⟨FS,al⟩:∃ FS:Ad Int,FS=H.map (λr=>r.2.1):=⟨_,rfl⟩
 have G:=yD al;clear al
 have aq:F<=16777216:=by have:=ar.out;omega
 go_wp2
 go_loopw [8,28] (λv i wr=>∃ (k:Nat),k<=F/\i=.int .i64 k/\Hid (kD.kR 3 kD.int wr v (FS.take k) (jX w4.heap.size wr.heap.size))/\Qb w4 wr) (λ_ i _=>F - (intOf i).toNat)
 case atStart=>exact ⟨0,Nat.zero_le _,rfl,yD kD.kR.void,bF⟩
 obtain ⟨k,hk,rfl,HI,o⟩:=hrel
 obtain ⟨ia,bl,ic,hi,ag⟩:=HI.out.parts;obtain rfl:=hi
 have b4:=o.size
 by_cases hlt:k < F
 · have aa:k < H.length:=by have:=ar.out;omega
   have hil:bl<=16777216:=qR;obtain ⟨qb,qo,rfl,ae,af,ah,qr,A0,A1,A2⟩:=kD.zg (be.out.kBc.below o) aa rfl;have ba:=yD (show FS.take (k + 1)=FS.take k++[H[k].2.1] by (have hl:k < FS.length:=by rw [G.out];simpa using aa);rw [List.take_succ_eq_append_getElem hl];simp [G.out]);generalize H[k]=x at *;obtain ⟨bg,Z,aj,ap,ao,au⟩:=jM qr;simp only [Aa,and_true] at Z;obtain ⟨rfl,rfl,rfl⟩:=Z;obtain ⟨ac,ay,rfl,bd⟩:=kD.sl ap;have b0:=ao;go_upto_region 10 with fail;generalize ad:World.alloc wr _=wD;have ED:Qb wr wD:=rG;have D1:Qd wD wr 1 (.int .i64 x.2.1):=tC;clear ad;have b1:=ED.size;have bm:=(tQ o ED);replace HI:=yD (HI.out.below ED);have bx:(FS.take k).length<=16777216:=wF;go_wp2_with (at_builtin;refine kD.jL rfl _ _ 59 rfl (r:=kD.int) (e:=3) underlying59 kAi rfl bC8 bC8 (B:=w4.heap.size) HI.out bD1 bD1 rfl (kD.jB b0 _) rfl (λ_ _ h=>h) qU (λ_ h=>h.elim) bC9 bC9 ?_);intro v5 w5 hown bh bv;have bc:=yD (kD.kR.cast hown ba.out.symm);have U:=bm.trans bh;clear hown bh;go_wp2;go_roundw;case rel=>exact ⟨k + 1,by omega,by go_num,bc,U⟩
   simp [intOf];omega
 obtain rfl:k=F:=bC9
 have HF:=yD (HI.out.cast (show _=kDv l n by rw [HE.out,<- G.out,List.take_of_length_le (by rw [G.out];simp;have:=ar.out;omega)]))
 have b3:¬ (k:Int) < k:=bC9
 go_wp2
 go_ret
 exact ⟨_,rfl,HF.out.wide qV,(tQ E4 o)⟩
def jP {w0 w:Ab} {v:Ag} {xs ys:Ad ky} {S:Nat->Prop} {B:Nat} {av:Option Addr} {len cap:Nat} (hown:kD.kR 77 (kD.kEp kY w0) w v xs S) (hy:(kD.slice 77 (kD.kEp kY w0)).rd w [.slice av len cap] ys) (hSB:∀ k,S k->B<=k/\k < w.heap.size) (hB:B<=w.heap.size) (hlen:xs.length + ys.length<=1000000000) :
    ∃ v' w',(Builtin.append_ #[30,30] 30 #[v,.slice av len cap]).run prog w=.ok v' w'/\kD.kR 77 (kD.kEp kY w0) w' v' (xs++ys) (jX B w'.heap.size)/\Below B w w'/\w.heap.size<=w'.heap.size :=
  kD.kLk (r:=(kD.kEp kY w0)) underlying30 kCt rfl (show 0 < 3 by omega) bC8 kD.isFlat_asIn hown hy hSB hB hlen
def kAh {w0 w:Ab} {cs:Ad Ag} {x:ky} (hx:kD.is (kD.kEp kY w0) true w cs x (λ_=>True)) (hb:kD.bdd (kD.kEp kY w0) Big x) :
    (kD.slice 77 (kD.kEp kY w0)).rd (World.alloc w (.cells cs.toArray 77)) [.slice (some ⟨w.heap.size,0,none⟩) 1 1] [x] :=
  ((kD.yO (e:=77) (r:=(kD.kEp kY w0)) (w:=w) (cs:=cs) (xs:=[x]) (T:=λ_=>True) (S:=λ_=>True) gX rR (kD.kDm hx) (λ_ h=>h) trivial).own sM).rd
def kZj {w w0:Ab} {vl:Ag} {l:Ad ky} {S:Nat->Prop} (hl:kD.kR 77 (kD.kEp kY w0) w vl l S) {cr:Ad Ag} {r:ky} (hr:kY.rd w0 cr r) (hlen:l.length < 16777216) :
    Calls prog 125 #[vl,.agg cr.toArray] w (kBs 77 (kD.kEp kY w0) (Srt.put kBy l r) w):=by
 have HR:=yD hr
 obtain ⟨la,lp,b7⟩:=hl.zP;obtain rfl:=b7
 have HL:=yD ((hl.own wH).rd)
 have ba:=yD (kD.kPx hl)
 have R:=kD.kAd HL.out.1
 obtain ⟨b6,rfl,bj,ai,bd,bm⟩:=jM hr.1
 obtain ⟨ra,rp,rfl,_⟩:=kD.sl ai
 have b5:=yD bd
 clear hl hr bj ai bm bd
 go_enter func125,ntmps125
 go_wp2
 generalize D:World.alloc w _=N
 have EB:Qb w N:=by rw [<- D];exact bF
 have K0:Qd N w 0 (.slice ra r.1.length rp):=tK
 have K1:Qd N w 1 (.int .i64 r.2.1):=tK
 have K2:Qd N w 2 (.int .i64 r.2.2):=tK
 clear D
 have a8:=yD (HL.out.below EB)
 have bu:=EB.size
 go_loopw [5] (λq wr=>∃ (k:Nat),k<=l.length/\q=.int .i64 k/\Hid (Srt.place kBy k l r=Srt.place kBy l.length l r)/\Qb N wr) (λq _=>(intOf q).toNat)
 case atStart=>exact ⟨l.length,Nat.le_refl _,rfl,yD rfl,bR⟩
 obtain ⟨k,bx,rfl,HP,o⟩:=hrel
 replace K0:=cL o K0
 replace K1:=cL o K1
 replace K2:=cL o K2
 have bp:=Ar k
 have b3:(k:Int)<=lp:=bC9
 have b2:k<=lp:=bC9
 by_cases hk:0 < k
 · obtain ⟨j,I⟩:∃ j,j + 1=k:=⟨k - 1,by omega⟩;have ce:(k:Int) - 1=(j:Int):=bC9;obtain ⟨co,ch⟩:=AZ;have an:j < l.length:=bC9;have bz:(j:Int) < l.length:=bC9;have hp:decide ((k:Int) > 0)=true:=bC4;have b9:decide (0 < k)=true:=bA0;have cf:(0:Int) < k:=bC9;obtain ⟨qb,qo,rfl,ae,af,ah,qr,A0,A1,A2⟩:=kD.zg (a8.out.1.below o) an rfl;have HY:=yD (λq=>(kUq (key:=kBy) (x:=r) I an q).symm.trans HP.out);have a4:=yD (λq=>(kUo (key:=kBy) (x:=r) I an q).symm.trans HP.out);generalize l[j]=y at *;obtain ⟨bg,Z,aj,ap,ao,au⟩:=jM (show kY.raw w0 _ y from qr);simp only [Aa,and_true] at Z;obtain ⟨rfl,rfl,rfl⟩:=Z;have HG:=yD (gtR_key (y:=y) (r:=r) ao b5.out);clear aj ap ao au qr;go_upto_region 2 with fail;go_cut [42] from 8 to 42 (λb4 wc=>b4=.bool (gtR y r)/\Qb wr wc);case first =>
    have FX:=yD (λ(W:Ab) (hW:Qb wr W)=>kGr hW A1 A2 K1 K2);refine kM (λW=>Qb wr W) [Tt,Tt,Tt,Tt,Tt,Tt,Tt,Tt,Tt,Tt,Tt,Tt,Tt,Tt,Tt,Tt,Tt,Tt,Tt,Tt,Tt,Tt,Tt,Tt,Tt,Tt,Tt,Tt,Tt,Tt,Tt,Tt,Tt,Tt,Tt] bC3 bC3 pK (bR.drew) ?_;intro wS E;all_goals refine ku ?_
    all_goals refine ku ?_
    all_goals (refine jy λb al=>?_;cases b <;> try simp only [jw] at al)
    iterate 9
     all_goals refine ku ?_
    all_goals (refine jy λb a6=>?_;cases b <;> try simp only [jw] at a6)
    iterate 9
     all_goals refine ku ?_
    all_goals (refine jy λb J=>?_;cases b <;> try simp only [jw] at J)
    iterate 11
     all_goals refine ku ?_
    all_goals (refine jy λb ak=>?_;cases b <;> try simp only [jw] at ak)
    all_goals refine kS ?_
    all_goals (cases hv:gtR y r)
    all_goals first
      | (exfalso;simp only [gtR,Ak,Ah,Al,Am,Ai,Aj,Au,Av,Ap,Aq,Aw,al,a6,J,ak] at hv;exact Ac hv)
      | (have U:=yD hv;clear hv;go_wp2;go_meet;(case rel=>exact ⟨by rw [U.out],E⟩))
   obtain ⟨rfl,E⟩:=hcut;have am:=(tQ o E);cases aq:gtR y r
   · have br:=yD (a4.out (HG.out.trans aq));clear HY a4 HG;have aa:=yD (kZu (show k=_ from br.out));replace K0:=cL E K0;replace K1:=cL E K1;replace K2:=cL E K2;generalize wc=wq at *;exact xB
   have b1:=yD (HY.out (HG.out.trans aq));clear HY a4 HG aq;go_wp2;go_roundw;case rel=>exact ⟨j,by omega,rfl,b1,am⟩
   simp [intOf];omega
 have bw:k=0:=bC9
 have hp:decide ((k:Int) > 0)=false:=bC4
 have cf:¬ (0:Int) < k:=bC9
 have br:Hid (k=Srt.place kBy l.length l r):=yD (by rw [<- HP.out,bw];rfl)
 clear bw
 go_upto_region 2 with fail
 refine kM (λW=>Qb wr W) [Tt,Tt,Tt,Tt,Tt,Tt,Tt,Tt,Tt,Tt,Tt,Tt,Tt,Tt,Tt,Tt,Tt,Tt,Tt,Tt,Tt,Tt,Tt,Tt,Tt,Tt,Tt,Tt,Tt,Tt,Tt,Tt,Tt,Tt,Tt] bC3 bC3 pK (bR.drew) ?_
 intro wS E
 all_goals refine ku ?_
 all_goals refine ku ?_
 all_goals (refine jy λb al=>?_;cases b <;> try simp only [jw] at al)
 iterate 9
  all_goals refine ku ?_
 all_goals (refine jy λb a6=>?_;cases b <;> try simp only [jw] at a6)
 iterate 9
  all_goals refine ku ?_
 all_goals (refine jy λb J=>?_;cases b <;> try simp only [jw] at J)
 iterate 11
  all_goals refine ku ?_
 all_goals (refine jy λb ak=>?_;cases b <;> try simp only [jw] at ak)
 all_goals refine kS ?_
 all_goals have am:=(tQ o E)
 have aa:=yD (kZu (show k=_ from br.out))
 replace K0:=cL E K0
 replace K1:=cL E K1
 replace K2:=cL E K2
 generalize wS=wq at *
 exact xB
def kUe {w:Ab} {vl:Ag} {l:Ad ky} (hl:(kD.slice 77 kY).rd w [vl] l) {cn:Ad Ag} {n:ko} (hn:kU.rd w cn n) :
    Calls prog 77 #[vl,.agg cn.toArray] w (kAa (kD.slice 3 kD.int) (kDv l n) w):=by
 obtain ⟨HL,HN,a5⟩:=DF
 obtain ⟨nv,rfl,a8⟩:=kZ hn.1
 obtain ⟨na,np,rfl,_⟩:=kD.sl a8
 obtain ⟨la,lp,rfl,_⟩:=kD.sl hl.1
 clear a8 hl hn
 go_enter func77,ntmps77
 go_wp2_with fail
 generalize D:World.alloc w _=N
 obtain ⟨EB,K0⟩:=GR
 have bu:=EB.size
 clear D
 refine (kCp (HL.out.below EB) (HN.out.below EB)).mono ?_
 rintro e Y ⟨pc,rfl,OP,O⟩
 obtain ⟨b8,rfl,a7⟩:=kZ OP.raw
 obtain ⟨bn,bo,rfl,_⟩:=kD.sl a7
 clear a7
 have HP:=yD OP.rd
 have E1:=(tQ EB O)
 have bq:=E1.size
 clear OP O EB K0
 have a4:=yD (hopsF_no (l:=l) (n:=n));have bj:=yD (kYj (l:=l) (n:=n))
 have aw:Hid (kRq n l=Srt.sorted kBy (l.filter (kJb n l))):=yD rfl
 generalize dm:mOk n l=ok at *
 have bi:=yD dm;clear dm
 go_wp2
 generalize X:World.alloc (World.alloc Y _) _=wC
 have ab:Qb Y wC:=by rw [<- X];exact bF
 have KP:Qd wC Y 0 (.slice bn (zX n l).length bo):=tL
 clear X
 have EC:=(tQ E1 ab)
 have ca:=ab.size
 go_loopw [7,8] (λv i wr=>∃ (k:Nat),k<=l.length/\i=.int .i64 k/\(ok=false->k=0)/\Hid (kD.kR 77 (kD.kEp kY w) wr v (Srt.sorted kBy ((l.take k).filter (kJb n l))) (jX w.heap.size wr.heap.size))/\Qb wC wr) (λ_ i _=>l.length - (intOf i).toNat)
 case atStart=>exact ⟨0,Nat.zero_le _,rfl,λ_=>rfl,yD kD.kR.void,bR⟩
 obtain ⟨k,hk,rfl,bp,J,o⟩:=hrel
 obtain ⟨oa,on,oc,ho,bb⟩:=J.out.parts;obtain rfl:=ho
 have br:=yD bp;clear bp
 have b4:=o.size
 replace KP:=cL o KP
 have F:=(tQ EC o)
 have b3:=Ar k
 by_cases hlt:k < l.length
 · cases ok
   · have a6:(k:Int) < l.length:=bC9;have V:Hid (kDv l n=(Srt.sorted kBy ((l.take k).filter (kJb n l))).map (λr=>r.2.1)):=yD (by rw [a4.out rfl,br.out rfl];rfl);exact iU
   have a6:(k:Int) < l.length:=bC9;have bk:=λq=>kCw (p:=kJb n l) hlt q;have da:=λq=>kBl (p:=kJb n l) hlt q;obtain ⟨qb,qo,rfl,ae,af,ah,qr,ar,ax,a2⟩:=kD.zg (HL.out.1.below F) hlt rfl;have av:=kD.yX HL.out hlt;have bm:Hid (kY.rd w [ae,af,ah] l[k]):=yD (by
     obtain ⟨b2,o2,ak,c0,c1,c2,h,h0,h1,h2⟩:=kD.zg HL.out.1 hlt rfl;simp only [Ay,Addr.mk.injEq,and_true] at ak;obtain ⟨rfl,rfl⟩:=ak;have e0:=(cL F h0).symm.trans ar;have e1:=(cL F h1).symm.trans ax;have e2:=(cL F h2).symm.trans a2;simp only [Ay] at e0 e1 e2;subst e0 e1 e2;exact ⟨h,av⟩)
   generalize l[k]=x at *;have a1:=yD bk;have bf:=yD da;clear bk da av;obtain ⟨bg,Z,aj,ap,ao,au⟩:=jM qr;simp only [Aa,and_true] at Z;obtain ⟨rfl,rfl,rfl⟩:=Z;obtain ⟨ac,ay,rfl,bd⟩:=kD.sl ap;go_upto_region 6 with fail;have FX:=yD (λ(W:Ab) (hW:Qb wr W)=>kGr hW ar ax a2 KP);refine kM (λW=>Qb wr W) [Tt,Tt,Tt,Tt,Tt,Tt,Ff] bC3 bC3 pK (bR.drew) ?_;intro wS E;iterate 6
    all_goals refine ku ?_
   all_goals first | refine wkB (zN (kD.raw.below aj E) (kD.raw.below HP.out.1 (Below.trans ab ((tQ o E).mono ab.size)))) (λwS1 E=>?_) | refine ku ?_
   all_goals refine kS ?_
   have am:=(tQ o E);have R:=yD (J.out.below E);have cg:=E.size;replace ar:=cL E ar;replace ax:=cL E ax;replace a2:=cL E a2;generalize wS1=wq at *;clear E;cases hq:eqN x.1 (zX n l)
   · have L:=yD (bf.out hq);clear a1 bf;go_wp2;go_roundw;case rel=>exact ⟨k + 1,by omega,by go_num,(λh=>Ac h),yD ((R.out.cast (by rw [L.out])).wide qU),am⟩
     simp [intOf];omega
   have L:=yD (a1.out hq);clear a1 bf;have hlen:(Srt.sorted kBy ((l.take k).filter (kJb n l))).length < 16777216:=by have h1:=zY (p:=kJb n l) (l:=l) (k:=k) bC9;rw [kGf];omega
   go_wp2_with fail;refine (kZj R.out bm.out hlen).mono ?_;rintro e w4 ⟨v4,rfl,O4,an⟩;have bw:=an.size;have be:=yD ((O4.cast (show _=Srt.sorted kBy ((l.take (k + 1)).filter (kJb n l)) by rw [L.out,sorted_app])).wide (T:=jX w.heap.size w4.heap.size) (λj I=>⟨by have:=I.1;have:=EC.size;omega,I.2⟩));have U:=(tQ am an);obtain ⟨fa,fn,fc,hf,bf⟩:=be.out.parts;obtain rfl:=hf;clear O4 an;go_wp2;go_roundw;case rel=>exact ⟨k + 1,by omega,by go_num,(λh=>Ac h),be,U⟩
   simp [intOf];omega
 have a6:¬ (k:Int) < l.length:=bC9
 have V:Hid (kDv l n=(Srt.sorted kBy ((l.take k).filter (kJb n l))).map (λr=>r.2.1)):=yD (by
   obtain rfl:k=l.length:=bC9;rw [List.take_length];cases ok
   · rw [a4.out rfl];have h0:=br.out rfl;rw [List.eq_nil_of_length_eq_zero h0];rfl
   · rw [bj.out rfl,aw.out])
 exact iU
end Go.Proofs.YtonmjkmaadgceabGreat

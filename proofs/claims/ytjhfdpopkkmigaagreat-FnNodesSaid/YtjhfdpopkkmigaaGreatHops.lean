/-
  The faces of the routes of the longest prefix.
-/
import Derived.Test.YtjhfdpopkkmigaaGreatPNode
import Derived.Test.YtjhfdpopkkmigaaGreatMatch
set_option linter.unusedVariables false
set_option linter.defProp false
set_option linter.unusedSimpArgs false
set_option linter.unnecessarySimpa false
set_option maxRecDepth 100000
set_option maxHeartbeats 4000000
open Bool renaming true->Tt,false->Ff
open List.cons renaming injEq->Aa
open Go renaming World->Ab,Value->Ag
open Bool renaming noConfusion->Ac,not_false->Ah,and_false->Ai,false_and->Aj,not_true->Ak,and_true->Al,true_and->Am,or_false->Ap,false_or->Aq,or_true->Au,true_or->Av,not_not->Aw
open _root_ renaming List->Ad
open List renaming length_filter_le->Ae
open Int renaming natCast_nonneg->Ar
open Option.some renaming injEq->Ay
namespace Go.Proofs.YtjhfdpopkkmigaaGreat
open Go.RowKit _root_.Go.Proofs.Tryz
namespace kD
def kEk {α:Type} (r:kD α) (w0:Ab):kD α where
  n:=r.n
  is _ _ cs x _:=r.is false w0 cs x (λ_=>True)
  bdd:=r.bdd
  zero:=r.zero
  zc:=r.zc
  mark:=r.mark
  held:=r.held
  cnt:=r.cnt
  len h:=r.len h
  one h:=r.one h
  mono h _:=h
  wide h _:=h
  weak h:=h
  live h:=h
  bdd_mono:=r.bdd_mono
  bdd_zero:=r.bdd_zero
  is_zero:=r.is_zero
  mark_held:=r.mark_held
  held_ge:=r.held_ge
  mark_ge:=r.mark_ge
  mark_le:=r.mark_le
  mark_bdd:=r.mark_bdd
def isFlat_asIn {α:Type} {r:kD α} {w0:Ab}:(kD.kEk r w0).kCy:=λh=>h
end kD
def kBr (r:kz):Int:=r.2.2 * 18446744073709551616 + r.2.1
def gtR (y r:kz):Bool:=decide (r.2.2 < y.2.2) || ((y.2.2==r.2.2) && decide (r.2.1 < y.2.1))
def I64 (x:Int):Prop:=Qi x
def gtR_key {y r:kz} (hy:I64 y.2.1) (hr:I64 r.2.1):decide (kBr r < kBr y)=gtR y r:=by
 unfold I64 at hy hr;unfold gtR kBr;rw [Bool.eq_iff_iff];simp only [decide_eq_true_eq,Bool.or_eq_true,Bool.and_eq_true,beq_iff_eq];omega
def orI_key {x y:kz} (hx:I64 x.2.1) (hy:I64 y.2.1):decide (orI [kDa x.2.2 y.2.2,kDa x.2.1 y.2.1] < 0)=decide (kBr x < kBr y):=by
 unfold I64 at hx hy;have e:orI [kDa x.2.2 y.2.2,kDa x.2.1 y.2.1]=if kDa x.2.2 y.2.2≠0 then kDa x.2.2 y.2.2 else kDa x.2.1 y.2.1:=by
  by_cases h:kDa x.2.2 y.2.2=0
  · by_cases h2:kDa x.2.1 y.2.1=0
    · rw [orI_miss (by intro j I;match j,I with | 0,_=>exact h | 1,_=>exact h2 | j + 2,I=>simp only [List.length_cons,List.length_nil] at I;omega),if_neg bB5,h2]
    rw [jAh (k:=1) bD2 (by simpa using h2) (by intro j I bn;match j,I with | 0,_=>exact h),if_neg bB5];rfl
  rw [jAh (k:=0) bD2 bB5 (by intro j I;omega),if_pos h];rfl
 rw [e,decide_eq_decide];unfold kDa kBr;split <;> split <;> (try split) <;> (try split) <;> omega
def kJe (n:kr) (l:Ad kz) (r:kz):Bool:=eqN r.1 (kDp n l)
def kRz (n:kr) (l:Ad kz):Ad kz:=Srt.sorted kBr (l.filter (kJe n l))
def kDq (l:Ad kz) (n:kr):Ad Int:=if mOk n l then (kRz n l).map (λr=>r.2.1) else []
def hopsF_no {l:List kz} {n:kr} (h:mOk n l=false):kDq l n=[]:=by unfold kDq;rw [h];rfl
def kYy {l:List kz} {n:kr} (h:mOk n l=true):kDq l n=(kRz n l).map (λr=>r.2.1):=by unfold kDq;rw [h];rfl
def kYx {l:Ad kz} {n:kr}:(kRz n l).length<=l.length:=by unfold kRz;rw [kGj];exact Ae _ _
def kLs {l:Ad kz} {n:kr}:(kDq l n).length<=l.length:=by
 unfold kDq;split
 · rw [List.length_map];exact kYx
 exact Nat.zero_le _
def sorted_app {α:Type} {key:α->Int} {l:Ad α} {x:α}:Srt.sorted key (l++[x])=Srt.put key (Srt.sorted key l) x:=by
 unfold Srt.sorted;rw [List.foldl_append];rfl
def kTg {w:Ab} {cr:Ad Ag} {r:kz} (hr:kS.raw w cr r) {p:kr} {ba:Ag} {Bp:Nat} (pr:kW.raw w [ba] p) (a7:Qc w Bp 0 ba) :
    Calls prog 118 (#[.agg cr.toArray]++#[.pointer (some ⟨Bp,0,none⟩)]) w (bQ w (.bool (!eqN r.1 p))):=by
 have Hr:=yD hr
 obtain ⟨O,rfl,o,G,X,V⟩:=jJ hr
 obtain ⟨I,D,rfl,Y⟩:=kD.sl G
 obtain ⟨b7,an,a8⟩:=ko pr
 simp only [Aa,and_true] at an
 obtain rfl:=an
 obtain ⟨a2,be,rfl,cd⟩:=kD.sl a8
 show Calls prog 118 #[_,_] w _
 go_enter func118,ntmps118
 go_upto_region 1 with fail
 generalize J:World.alloc w _=N
 have R:Qb w N:=by rw [<- J];exact bG
 have L:Qd N w 0 (.slice I (r.1).length D):=tT
 have Z:Qd N w 1 (.int .i64 r.2.1):=tT
 have af:Qd N w 2 (.int .i64 r.2.2):=tT
 clear J
 replace a7:=cL R a7
 have FX:=yD (λ(W:Ab) (hW:Qb N W)=>kGr hW L Z af a7)
 refine ky (λW=>Qb N W) [Tt,Tt,Tt,Ff,Tt,Tt] bR ?_
 intro wS E
 iterate 3
  all_goals refine kX ?_
 all_goals first | refine wkB (yA (kD.raw.below o (tQ R E)) (kD.raw.below pr (tQ R E))) (λwS1 E=>?_) | refine kX ?_
 all_goals refine kX ?_
 all_goals (refine jd λb H=>?_;cases b <;> try simp only [jc] at H)
 all_goals refine kR ?_
 all_goals have F:=(tQ R E)
 all_goals first
   | (have U:=yD (show (!eqN r.1 p)=false by simp only [Ak,Ah,Al,Am,Ai,Aj,Au,Av,Ap,Aq,Aw,H]);go_wp2;go_ret;exact ⟨kK U.out.symm,F⟩)
   | (have U:=yD (show (!eqN r.1 p)=true by simp only [Ak,Ah,Al,Am,Ai,Aj,Au,Av,Ap,Aq,Aw,H]);go_wp2;go_ret;exact ⟨kK U.out.symm,F⟩)
def kHu:jH prog 118:=yR func118 bC5 bC5
def cmpI_rng (a b:Int):-9223372036854775808<=kDa a b/\kDa a b<=9223372036854775807:=by unfold kDa;split <;> (try split) <;> omega
def kD.row_int2 {w:Ab} {a b:Int} (ha:Qi a) (hb:Qi b):kD.row kD.int true w [.int .i64 a,.int .i64 b] [a,b] (λ_=>True) :=
  ⟨[Qn a],[.int .i64 b],λ_=>False,λ_=>False,rfl,⟨rfl,ha⟩,⟨[Qn b],[],λ_=>False,λ_=>False,rfl,⟨rfl,hb⟩,rfl,λ_ h=>h,λ_ h=>h,λ_ _ h=>h.elim⟩,λ_ h=>h.elim,λ_ h=>h.elim,λ_ _ h=>h.elim⟩
def kTf {w:Ab} {cx:Ad Ag} {x:kz} (hx:kS.raw w cx x) {cy:Ad Ag} {y:kz} (hy:kS.raw w cy y) :
    Calls prog 120 #[.agg cx.toArray,.agg cy.toArray] w λe w'=>∃ k:Int,e=.returned (.int .i64 k)/\decide (k < 0)=decide (kBr x < kBr y)/\Qb w w':=by
 have Hx:=yD hx
 obtain ⟨ax,rfl,I,o,ad,ah⟩:=jJ hx
 obtain ⟨ac,Y,rfl,av⟩:=kD.sl o
 have Hy:=yD hy
 obtain ⟨a3,rfl,aj,ai,an,aq⟩:=jJ hy
 obtain ⟨al,ak,rfl,a9⟩:=kD.sl ai
 have HK:=yD (orI_key (x:=x) (y:=y) ad an)
 go_enter func120,ntmps120
 go_upto_region 1 with fail
 generalize J:World.alloc (World.alloc w _) _=N
 obtain ⟨R,L⟩:=xW
 obtain ⟨Z,af,D,ae,ag⟩:=AX
 clear J
 have FX:=yD (λ(W:Ab) (hW:Qb N W)=>kGx hW L Z af D ae ag)
 refine jo (λW=>Qb N W) [(0,true),(1,true),(2,true),(3,true),(5,true),(6,true),(7,true),(8,true),(4,false),(9,false),(10,false),(11,false),(12,true)] bC5 bC5 pY (bR.drew) ?_
 intro wS E
 simp only [jB,List.getElem?_cons_succ,List.getElem?_cons_zero,List.map_cons,List.map_nil]
 iterate 8
  all_goals refine kX ?_
 iterate 2
  all_goals first | refine wkC (kPm) ?_ | refine kX ?_
 all_goals first|(refine kG rfl E ?_)|(refine kY rfl (λK H=>?_);go_simp;have X:(kD.slice 3 kD.int).rd (World.alloc wS (.cells #[.int .i64 (kDa x.2.2 y.2.2),.int .i64 (kDa x.2.1 y.2.1)] 3)) [.slice (some ⟨wS.heap.size,0,none⟩) 2 2] [kDa x.2.2 y.2.2,kDa x.2.1 y.2.1]:=((kD.yO (e:=3) (r:=kD.int) (w:=wS) (cs:=[.int .i64 (kDa x.2.2 y.2.2),.int .i64 (kDa x.2.1 y.2.1)]) (xs:=[kDa x.2.2 y.2.2,kDa x.2.1 y.2.1]) (T:=λ_=>True) (S:=λ_=>True) (λ_ _=>trivial) (by show 2<=_;unfold maxLen;omega) (kD.row_int2 (cmpI_rng _ _) (cmpI_rng _ _)) (λ_ h=>h) trivial).own (by show 2<=_;unfold Big;omega)).rd;have V:Below wS.heap.size wS (World.alloc wS (.cells #[.int .i64 (kDa x.2.2 y.2.2),.int .i64 (kDa x.2.1 y.2.1)] 3)):=bR.alloc nL _;generalize U:World.alloc wS (.cells #[.int .i64 (kDa x.2.2 y.2.2),.int .i64 (kDa x.2.1 y.2.1)] 3)=wN at X V ⊢;clear U;replace E:=(tQ E V);refine H _ _ E ?_;clear H K V)
 all_goals refine jD ?_
 all_goals first | refine wkC (cmpOr_c X.1) ?_ | refine kX ?_
 all_goals refine kX ?_
 all_goals refine kR ?_
 have F:=(tQ R E)
 go_wp2
 go_ret
 exact ⟨_,rfl,by simpa using HK.out,F⟩
def kNu:jH prog 120:=yR func120 bC5 bC5
def kWe {w:Ab} {vl:Ag} {l:Ad kz} (hl:(kD.slice 131 kS).rd w [vl] l) {cn:Ad Ag} {n:kr} (hn:kW.rd w cn n) :
    Calls prog 49 #[vl,.agg cn.toArray] w (kCl 3 kD.int (kDq l n) w):=by
 obtain ⟨HL,HN,bc⟩:=G7
 obtain ⟨nv,rfl,a9⟩:=ko hn.1
 obtain ⟨na,np,rfl,_⟩:=kD.sl a9
 obtain ⟨la,lp,rfl,_⟩:=kD.sl hl.1
 clear a9 hl hn
 go_enter func49,ntmps49
 go_wp2_with fail
 generalize J:World.alloc w _=N
 obtain ⟨R,K0⟩:=IW
 have bq:=R.size
 clear J
 refine (kFh (HL.out.below R) (HN.out.below R)).mono ?_
 rintro e w1 ⟨pc,rfl,OP,O⟩
 obtain ⟨b7,rfl,a8⟩:=ko OP.raw
 obtain ⟨a2,be,rfl,_⟩:=kD.sl a8
 clear a8
 have HP:=yD OP.rd
 have E1:=(tQ R O)
 have bj:=E1.size
 clear OP O R K0
 have a5:=yD (hopsF_no (l:=l) (n:=n));have aa:=yD (kYy (l:=l) (n:=n))
 cases bb:mOk n l
 · have HE:=yD (a5.out bb);go_wp2;go_ret;exact ⟨_,rfl,by rw [HE.out];exact kD.kU.void,E1.trans (Below.mono bG E1.size)⟩
 have HE:=yD (aa.out bb)
 clear a5 aa
 go_wp2_with fail
 generalize D:World.alloc w1 _=wC
 have X:Qb w1 wC:=rU
 have KP:Qd wC w1 0 (.slice a2 (kDp n l).length be):=tV
 clear D
 have EC:=(tQ E1 X)
 have cl:=X.size
 refine (kEp (HL.out.below EC)).mono ?_
 rintro e V ⟨v2,rfl,O2,ab⟩
 obtain ⟨oa,on,oc,ho,bh⟩:=O2.parts;obtain rfl:=ho
 have L:=yD O2;have a1:=yD ab
 have a7:=ab.size
 have E2:=(tQ EC ab)
 clear O2 ab
 go_wp2_with fail
 have av:Hid (∀ wr,Touch (jU wC.heap.size V.heap.size) V wr->∀ x cs,kS.raw wr cs x->Calls prog 118 (#[.agg cs.toArray]++#[.pointer (some ⟨w1.heap.size,0,none⟩)]) wr (λe w'=>e=.returned (.bool (!eqN x.1 (kDp n l)))/\Qb wr w')):=yD (λwr E x cs hx=>by
   have e:=a1.out.trans (E.below a1.out.size (λi hi=>hi.1));exact kTg hx (kD.raw.below HP.out.1 (tQ X e)) (cL e KP))
 refine (kOd (λr=>!eqN r.1 (kDp n l)) kHu L.out bc av.out).mono ?_
 rintro e w3 ⟨v3,rfl,O3,T3⟩
 obtain ⟨da,F,dc,hd,U⟩:=O3.parts;obtain rfl:=hd
 have ai:=yD (O3.cast (show _=l.filter (kJe n l) by congr 1;funext r;simp [kJe]))
 have ar:=T3.size
 have E3:=E2.trans (T3.below bD1 sP)
 clear O3 T3 L av KP
 go_wp2_with fail
 have HC:Hid (kBo kBr 120 #[] (jU wC.heap.size V.heap.size) w3):=yD (λwr E x y cs ds hx hy=>by simpa using kTf hx hy)
 refine (kNy kBr kNu HC.out ai.out (by have:=Ae (kJe n l) l;omega)).mono ?_
 rintro e w4 ⟨rfl,O4,W⟩
 have bm:=yD (O4.cast (show _=kRz n l from Srt.kLi _))
 have b3:=W.size
 have E4:=E3.trans (W.below bD1 sP)
 have Z:=kYx (l:=l) (n:=n)
 clear O4 W ai HC E3 E2
 have ay:Hid (F=(kRz n l).length):=yD (by have:=bm.out.zW;obtain ⟨a,c,h⟩:=this;simp only [Value.slice.injEq] at h;exact h.2.1)
 generalize kRz n l=H at *
 obtain ⟨FS,an⟩:∃ FS:Ad Int,FS=H.map (λr=>r.2.1):=⟨_,rfl⟩
 have G:=yD an;clear an
 have au:F<=16777216:=by have:=ay.out;omega
 go_wp2
 go_loopw [8,28] (λv i wr=>∃ (k:Nat),k<=F/\i=.int .i64 k/\Hid (kD.kU 3 kD.int wr v (FS.take k) (jU w4.heap.size wr.heap.size))/\Qb w4 wr) (λ_ i _=>F - (intOf i).toNat)
 case atStart=>exact ⟨0,Nat.zero_le _,rfl,yD kD.kU.void,bG⟩
 obtain ⟨k,hk,rfl,HI,o⟩:=hrel
 obtain ⟨ia,ca,ic,hi,bo⟩:=HI.out.parts;obtain rfl:=hi
 have cg:=o.size
 by_cases hlt:k < F
 · have am:k < H.length:=by have:=ay.out;omega
   have hil:ca<=16777216:=rA;obtain ⟨qb,qo,rfl,ae,af,ah,qr,A0,A1,A2⟩:=kD.zt (bm.out.kAz.below o) am rfl;have bl:=yD (show FS.take (k + 1)=FS.take k++[H[k].2.1] by (have hl:k < FS.length:=by rw [G.out];simpa using am);rw [List.take_succ_eq_append_getElem hl];simp [G.out]);generalize H[k]=x at *;obtain ⟨bd,ac,ag,ak,ao,ax⟩:=jJ qr;simp only [Aa,and_true] at ac;obtain ⟨rfl,rfl,rfl⟩:=ac;obtain ⟨ad,aw,rfl,bf⟩:=kD.sl ak;have al:=ao;go_upto_region 10 with fail;generalize Y:World.alloc wr _=wD;have ED:Qb wr wD:=rX;have D1:Qd wD wr 1 (.int .i64 x.2.1):=tX;clear Y;have bz:=ED.size;have aq:=(tQ o ED);replace HI:=yD (HI.out.below ED);have cf:(FS.take k).length<=16777216:=wI;go_wp2_with (at_builtin;refine kD.jO rfl _ _ 51 rfl (r:=kD.int) (e:=3) underlying51 kAi rfl bD0 bD0 (B:=w4.heap.size) HI.out bD3 bD3 rfl (kD.jG al _) rfl (λ_ _ h=>h) rC (λ_ h=>h.elim) bD1 bD1 ?_);intro v5 w5 hown bn ce;have az:=yD (kD.kU.cast hown bl.out.symm);have b5:=aq.trans bn;clear hown bn;go_wp2;go_roundw;case rel=>exact ⟨k + 1,by omega,by go_num,az,b5⟩
   simp [intOf];omega
 obtain rfl:k=F:=bD1
 have HF:=yD (HI.out.cast (show _=kDq l n by rw [HE.out,<- G.out,List.take_of_length_le (by rw [G.out];simp;have:=ay.out;omega)]))
 have b6:¬ (k:Int) < k:=bD1
 go_wp2
 go_ret
 exact ⟨_,rfl,HF.out.wide rD,(tQ E4 o)⟩
def jQ {w0 w:Ab} {v:Ag} {xs ys:Ad kz} {S:Nat->Prop} {B:Nat} {av:Option Addr} {len cap:Nat} (hown:kD.kU 131 (kD.kEk kS w0) w v xs S) (hy:(kD.slice 131 (kD.kEk kS w0)).rd w [.slice av len cap] ys) (hSB:∀ k,S k->B<=k/\k < w.heap.size) (hB:B<=w.heap.size) (hlen:xs.length + ys.length<=1000000000) :
    ∃ v' w',(Builtin.append_ #[30,30] 30 #[v,.slice av len cap]).run prog w=.ok v' w'/\kD.kU 131 (kD.kEk kS w0) w' v' (xs++ys) (jU B w'.heap.size)/\Below B w w'/\w.heap.size<=w'.heap.size :=
  kD.kLj (r:=(kD.kEk kS w0)) underlying30 kCr rfl (show 0 < 3 by omega) bD0 kD.isFlat_asIn hown hy hSB hB hlen
def kAh {w0 w:Ab} {cs:Ad Ag} {x:kz} (hx:kD.is (kD.kEk kS w0) true w cs x (λ_=>True)) (hb:kD.bdd (kD.kEk kS w0) Big x) :
    (kD.slice 131 (kD.kEk kS w0)).rd (World.alloc w (.cells cs.toArray 131)) [.slice (some ⟨w.heap.size,0,none⟩) 1 1] [x] :=
  ((kD.yO (e:=131) (r:=(kD.kEk kS w0)) (w:=w) (cs:=cs) (xs:=[x]) (T:=λ_=>True) (S:=λ_=>True) mH rY (kD.kDi hx) (λ_ h=>h) trivial).own sS).rd
def kZu {w w0:Ab} {vl:Ag} {l:Ad kz} {S:Nat->Prop} (hl:kD.kU 131 (kD.kEk kS w0) w vl l S) {cr:Ad Ag} {r:kz} (hr:kS.rd w0 cr r) (hlen:l.length < 16777216) :
    Calls prog 131 #[vl,.agg cr.toArray] w (kCl 131 (kD.kEk kS w0) (Srt.put kBr l r) w):=by
 have HR:=yD hr
 obtain ⟨la,lp,b8⟩:=hl.zW;obtain rfl:=b8
 have HL:=yD ((hl.own wM).rd)
 have a9:=yD (kD.kQb hl)
 have Z:=kD.kBe HL.out.1
 obtain ⟨b7,rfl,bl,ai,bf,bp⟩:=jJ hr.1
 obtain ⟨ra,rp,rfl,_⟩:=kD.sl ai
 have b6:=yD bf
 clear hl hr bl ai bp bf
 go_enter func131,ntmps131
 go_wp2
 generalize J:World.alloc w _=N
 have R:Qb w N:=by rw [<- J];exact bG
 have K0:Qd N w 0 (.slice ra r.1.length rp):=tT
 have K1:Qd N w 1 (.int .i64 r.2.1):=tT
 have K2:Qd N w 2 (.int .i64 r.2.2):=tT
 clear J
 have a7:=yD (HL.out.below R)
 have bq:=R.size
 go_loopw [5] (λq wr=>∃ (k:Nat),k<=l.length/\q=.int .i64 k/\Hid (Srt.place kBr k l r=Srt.place kBr l.length l r)/\Qb N wr) (λq _=>(intOf q).toNat)
 case atStart=>exact ⟨l.length,Nat.le_refl _,rfl,yD rfl,bR⟩
 obtain ⟨k,bw,rfl,HP,o⟩:=hrel
 replace K0:=cL o K0
 replace K1:=cL o K1
 replace K2:=cL o K2
 have bk:=Ar k
 have b4:(k:Int)<=lp:=bD1
 have b3:k<=lp:=bD1
 by_cases hk:0 < k
 · obtain ⟨j,I⟩:∃ j,j + 1=k:=⟨k - 1,by omega⟩;have dn:(k:Int) - 1=(j:Int):=bD1;obtain ⟨co,b0⟩:=CL;have a4:j < l.length:=bD1;have bx:(j:Int) < l.length:=bD1;have hp:decide ((k:Int) > 0)=true:=bC6;have cf:decide (0 < k)=true:=bA5;have ck:(0:Int) < k:=bD1;obtain ⟨qb,qo,rfl,ae,af,ah,qr,A0,A1,A2⟩:=kD.zt (a7.out.1.below o) a4 rfl;have HY:=yD (λq=>(kVi (key:=kBr) (x:=r) I a4 q).symm.trans HP.out);have a5:=yD (λq=>(kVg (key:=kBr) (x:=r) I a4 q).symm.trans HP.out);generalize l[j]=y at *;obtain ⟨bd,ac,ag,ak,ao,ax⟩:=jJ (show kS.raw w0 _ y from qr);simp only [Aa,and_true] at ac;obtain ⟨rfl,rfl,rfl⟩:=ac;have HG:=yD (gtR_key (y:=y) (r:=r) ao b6.out);clear ag ak ao ax qr;go_upto_region 2 with fail;go_cut [42] from 8 to 42 (λb5 wc=>b5=.bool (gtR y r)/\Qb wr wc);case first =>
    have FX:=yD (λ(W:Ab) (hW:Qb wr W)=>kGr hW A1 A2 K1 K2);refine kM (λW=>Qb wr W) [Tt,Tt,Tt,Tt,Tt,Tt,Tt,Tt,Tt,Tt,Tt,Tt,Tt,Tt,Tt,Tt,Tt,Tt,Tt,Tt,Tt,Tt,Tt,Tt,Tt,Tt,Tt,Tt,Tt,Tt,Tt,Tt,Tt,Tt,Tt] bC5 bC5 pY (bR.drew) ?_;intro wS E;all_goals refine kX ?_
    all_goals refine kX ?_
    all_goals (refine jd λb au=>?_;cases b <;> try simp only [jc] at au)
    iterate 9
     all_goals refine kX ?_
    all_goals (refine jd λb ab=>?_;cases b <;> try simp only [jc] at ab)
    iterate 9
     all_goals refine kX ?_
    all_goals (refine jd λb L=>?_;cases b <;> try simp only [jc] at L)
    iterate 11
     all_goals refine kX ?_
    all_goals (refine jd λb aa=>?_;cases b <;> try simp only [jc] at aa)
    all_goals refine kR ?_
    all_goals (cases hv:gtR y r)
    all_goals first
      | (exfalso;simp only [gtR,Ak,Ah,Al,Am,Ai,Aj,Au,Av,Ap,Aq,Aw,au,ab,L,aa] at hv;exact Ac hv)
      | (have Y:=yD hv;clear hv;go_wp2;go_meet;(case rel=>exact ⟨by rw [Y.out],E⟩))
   obtain ⟨rfl,E⟩:=hcut;have aq:=(tQ o E);cases en:gtR y r
   · have br:=yD (a5.out (HG.out.trans en));clear HY a5 HG;have al:=yD (jAe (show k=_ from br.out));replace K0:=cL E K0;replace K1:=cL E K1;replace K2:=cL E K2;generalize wc=wq at *;exact x8
   have b2:=yD (HY.out (HG.out.trans en));clear HY a5 HG en;go_wp2;go_roundw;case rel=>exact ⟨j,by omega,rfl,b2,aq⟩
   simp [intOf];omega
 have bv:k=0:=bD1
 have hp:decide ((k:Int) > 0)=false:=bC6
 have ck:¬ (0:Int) < k:=bD1
 have br:Hid (k=Srt.place kBr l.length l r):=yD (by rw [<- HP.out,bv];rfl)
 clear bv
 go_upto_region 2 with fail
 refine kM (λW=>Qb wr W) [Tt,Tt,Tt,Tt,Tt,Tt,Tt,Tt,Tt,Tt,Tt,Tt,Tt,Tt,Tt,Tt,Tt,Tt,Tt,Tt,Tt,Tt,Tt,Tt,Tt,Tt,Tt,Tt,Tt,Tt,Tt,Tt,Tt,Tt,Tt] bC5 bC5 pY (bR.drew) ?_
 intro wS E
 all_goals refine kX ?_
 all_goals refine kX ?_
 all_goals (refine jd λb au=>?_;cases b <;> try simp only [jc] at au)
 iterate 9
  all_goals refine kX ?_
 all_goals (refine jd λb ab=>?_;cases b <;> try simp only [jc] at ab)
 iterate 9
  all_goals refine kX ?_
 all_goals (refine jd λb L=>?_;cases b <;> try simp only [jc] at L)
 iterate 11
  all_goals refine kX ?_
 all_goals (refine jd λb aa=>?_;cases b <;> try simp only [jc] at aa)
 all_goals refine kR ?_
 all_goals have aq:=(tQ o E)
 have al:=yD (jAe (show k=_ from br.out))
 replace K0:=cL E K0
 replace K1:=cL E K1
 replace K2:=cL E K2
 generalize wS=wq at *
 exact x8
def kUu {w:Ab} {vl:Ag} {l:Ad kz} (hl:(kD.slice 131 kS).rd w [vl] l) {cn:Ad Ag} {n:kr} (hn:kW.rd w cn n) :
    Calls prog 64 #[vl,.agg cn.toArray] w (kBm (kD.slice 3 kD.int) (kDq l n) w):=by
 obtain ⟨HL,HN,bc⟩:=G7
 obtain ⟨nv,rfl,a9⟩:=ko hn.1
 obtain ⟨na,np,rfl,_⟩:=kD.sl a9
 obtain ⟨la,lp,rfl,_⟩:=kD.sl hl.1
 clear a9 hl hn
 go_enter func64,ntmps64
 go_wp2_with fail
 generalize J:World.alloc w _=N
 obtain ⟨R,K0⟩:=IW
 have bq:=R.size
 clear J
 refine (kFb (HL.out.below R) (HN.out.below R)).mono ?_
 rintro e w1 ⟨pc,rfl,OP,O⟩
 obtain ⟨b7,rfl,a8⟩:=ko OP.raw
 obtain ⟨a2,be,rfl,_⟩:=kD.sl a8
 clear a8
 have HP:=yD OP.rd
 have E1:=(tQ R O)
 have bj:=E1.size
 clear OP O R K0
 have a5:=yD (hopsF_no (l:=l) (n:=n));have aa:=yD (kYy (l:=l) (n:=n))
 have av:Hid (kRz n l=Srt.sorted kBr (l.filter (kJe n l))):=yD rfl
 generalize bb:mOk n l=ok at *
 have ba:=yD bb;clear bb
 go_wp2
 generalize D:World.alloc (World.alloc w1 _) _=wC
 have X:Qb w1 wC:=by rw [<- D];exact bG
 have KP:Qd wC w1 0 (.slice a2 (kDp n l).length be):=tV
 clear D
 have EC:=(tQ E1 X)
 have cl:=X.size
 go_loopw [7,8] (λv i wr=>∃ (k:Nat),k<=l.length/\i=.int .i64 k/\(ok=false->k=0)/\Hid (kD.kU 131 (kD.kEk kS w) wr v (Srt.sorted kBr ((l.take k).filter (kJe n l))) (jU w.heap.size wr.heap.size))/\Qb wC wr) (λ_ i _=>l.length - (intOf i).toNat)
 case atStart=>exact ⟨0,Nat.zero_le _,rfl,λ_=>rfl,yD kD.kU.void,bR⟩
 obtain ⟨k,hk,rfl,bk,L,o⟩:=hrel
 obtain ⟨oa,on,oc,ho,bh⟩:=L.out.parts;obtain rfl:=ho
 have cd:=yD bk;clear bk
 have cg:=o.size
 replace KP:=cL o KP
 have F:=(tQ EC o)
 have b6:=Ar k
 by_cases hlt:k < l.length
 · cases ok
   · have a7:(k:Int) < l.length:=bD1;have V:Hid (kDq l n=(Srt.sorted kBr ((l.take k).filter (kJe n l))).map (λr=>r.2.1)):=yD (by rw [a5.out rfl,cd.out rfl];rfl);exact iY
   have a7:(k:Int) < l.length:=bD1;have bv:=λq=>kGm (p:=kJe n l) hlt q;have b1:=λq=>kEq (p:=kJe n l) hlt q;obtain ⟨qb,qo,rfl,ae,af,ah,qr,ap,ar,ay⟩:=kD.zt (HL.out.1.below F) hlt rfl;have al:=kD.yh HL.out hlt;have bg:Hid (kS.rd w [ae,af,ah] l[k]):=yD (by
     obtain ⟨b2,o2,ab,c0,c1,c2,h,h0,h1,h2⟩:=kD.zt HL.out.1 hlt rfl;simp only [Ay,Addr.mk.injEq,and_true] at ab;obtain ⟨rfl,rfl⟩:=ab;have e0:=(cL F h0).symm.trans ap;have e1:=(cL F h1).symm.trans ar;have e2:=(cL F h2).symm.trans ay;simp only [Ay] at e0 e1 e2;subst e0 e1 e2;exact ⟨h,al⟩)
   generalize l[k]=x at *;have a1:=yD bv;have b4:=yD b1;clear bv b1 al;obtain ⟨bd,ac,ag,ak,ao,ax⟩:=jJ qr;simp only [Aa,and_true] at ac;obtain ⟨rfl,rfl,rfl⟩:=ac;obtain ⟨ad,aw,rfl,bf⟩:=kD.sl ak;go_upto_region 6 with fail;have FX:=yD (λ(W:Ab) (hW:Qb wr W)=>kGr hW ap ar ay KP);refine kM (λW=>Qb wr W) [Tt,Tt,Tt,Tt,Tt,Tt,Ff] bC5 bC5 pY (bR.drew) ?_;intro wS E;iterate 6
    all_goals refine kX ?_
   all_goals first | refine wkB (zD (kD.raw.below ag E) (kD.raw.below HP.out.1 (Below.trans X ((tQ o E).mono X.size)))) (λwS1 E=>?_) | refine kX ?_
   all_goals refine kR ?_
   have aq:=(tQ o E);have Z:=yD (L.out.below E);have cw:=E.size;replace ap:=cL E ap;replace ar:=cL E ar;replace ay:=cL E ay;generalize wS1=wq at *;clear E;cases hq:eqN x.1 (kDp n l)
   · have U:=yD (b4.out hq);clear a1 b4;go_wp2;go_roundw;case rel=>exact ⟨k + 1,by omega,by go_num,(λh=>Ac h),yD ((Z.out.cast (by rw [U.out])).wide rC),aq⟩
     simp [intOf];omega
   have U:=yD (a1.out hq);clear a1 b4;have hlen:(Srt.sorted kBr ((l.take k).filter (kJe n l))).length < 16777216:=by have h1:=kAa (p:=kJe n l) (l:=l) (k:=k) bD1;rw [kGj];omega
   go_wp2_with fail;refine (kZu Z.out bg.out hlen).mono ?_;rintro e w4 ⟨v4,rfl,O4,aj⟩;have b3:=aj.size;have bm:=yD ((O4.cast (show _=Srt.sorted kBr ((l.take (k + 1)).filter (kJe n l)) by rw [U.out,sorted_app])).wide (T:=jU w.heap.size w4.heap.size) (λj I=>⟨by have:=I.1;have:=EC.size;omega,I.2⟩));have b5:=(tQ aq aj);obtain ⟨fa,fn,fc,hf,b4⟩:=bm.out.parts;obtain rfl:=hf;clear O4 aj;go_wp2;go_roundw;case rel=>exact ⟨k + 1,by omega,by go_num,(λh=>Ac h),bm,b5⟩
   simp [intOf];omega
 have a7:¬ (k:Int) < l.length:=bD1
 have V:Hid (kDq l n=(Srt.sorted kBr ((l.take k).filter (kJe n l))).map (λr=>r.2.1)):=yD (by
   obtain rfl:k=l.length:=bD1;rw [List.take_length];cases ok
   · rw [a5.out rfl];have h0:=cd.out rfl;rw [List.eq_nil_of_length_eq_zero h0];rfl
   · rw [aa.out rfl,av.out])
 exact iY
end Go.Proofs.YtjhfdpopkkmigaaGreat

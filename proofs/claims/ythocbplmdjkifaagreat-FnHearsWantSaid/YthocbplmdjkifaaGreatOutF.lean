/-
  The faces by which an interest leaves.
-/
import Derived.Test.YthocbplmdjkifaaGreatMatch
set_option linter.unusedVariables false
set_option linter.defProp false
set_option linter.unusedSimpArgs false
set_option linter.unnecessarySimpa false
set_option maxRecDepth 100000
set_option maxHeartbeats 4000000
open Bool renaming true->Tt,false->Ff
open List renaming length_filter_le->Aa,take_length->Ag,eq_nil_of_length_eq_zero->Ah,drop_eq_getElem_cons->Aj,length_cons->Bd
open Bool renaming noConfusion->Ab,not_false->Al,and_false->Am,false_and->Ap,not_true->Aq,and_true->Ar,true_and->Au,or_false->Av,false_or->Aw,or_true->Ay,true_or->Az,not_not->Ba
open Int renaming natCast_nonneg->Ac
open Go renaming World->Ad,Value->Ae,Calls->Ak
open _root_ renaming List->Ai
open Go.Proofs.Tryz renaming underlying79->Bb
open Option.some renaming injEq->Bc
namespace Go.Proofs.YthocbplmdjkifaaGreat
open Go.RowKit _root_.Go.Proofs.Tryz
namespace kD
def kFu {α:Type} (r:kD α) (w0:Ad):kD α where
  n:=r.n
  is _ _ cs x _:=r.is false w0 cs x (λ_=>True)
  bdd:=r.bdd
  zero:=r.zero
  zc:=r.zc
  mark:=r.mark
  held:=r.held
  cnt:=r.cnt
  len h:=r.len h
  one h:=r.one h
  mono h _:=h
  wide h _:=h
  weak h:=h
  live h:=h
  bdd_mono:=r.bdd_mono
  bdd_zero:=r.bdd_zero
  is_zero:=r.is_zero
  mark_held:=r.mark_held
  held_ge:=r.held_ge
  mark_ge:=r.mark_ge
  mark_le:=r.mark_le
  mark_bdd:=r.mark_bdd
def isFlat_asIn {α:Type} {r:kD α} {w0:Ad}:(kD.kFu r w0).kCz:=λh=>h
end kD
def kCj (r:jI):Int:=r.2.2 * 18446744073709551616 + r.2.1
def gtR (y r:jI):Bool:=decide (r.2.2 < y.2.2) || ((y.2.2==r.2.2) && decide (r.2.1 < y.2.1))
def I64 (x:Int):Prop:=Qi x
def gtR_key {y r:jI} (hy:I64 y.2.1) (hr:I64 r.2.1):decide (kCj r < kCj y)=gtR y r:=by
 unfold I64 at hy hr;unfold gtR kCj;rw [Bool.eq_iff_iff];simp only [decide_eq_true_eq,Bool.or_eq_true,Bool.and_eq_true,beq_iff_eq];omega
def orI_key {x y:jI} (hx:I64 x.2.1) (hy:I64 y.2.1):decide (orI [kEb x.2.2 y.2.2,kEb x.2.1 y.2.1] < 0)=decide (kCj x < kCj y):=by
 unfold I64 at hx hy;have e:orI [kEb x.2.2 y.2.2,kEb x.2.1 y.2.1]=if kEb x.2.2 y.2.2≠0 then kEb x.2.2 y.2.2 else kEb x.2.1 y.2.1:=by
  by_cases h:kEb x.2.2 y.2.2=0
  · by_cases h2:kEb x.2.1 y.2.1=0
    · rw [orI_miss (by intro j I;match j,I with | 0,_=>exact h | 1,_=>exact h2 | j + 2,I=>simp only [Bd,List.length_nil] at I;omega),if_neg bD5,h2]
    rw [jFv (k:=1) bF3 (by simpa using h2) (by intro j I bb;match j,I with | 0,_=>exact h),if_neg bD5];rfl
  rw [jFv (k:=0) bF3 bD5 (by intro j I;omega),if_pos h];rfl
 rw [e,decide_eq_decide];unfold kEb kCj;split <;> split <;> (try split) <;> (try split) <;> omega
def kMp (n:ko) (l:Ai jI) (r:jI):Bool:=eqN r.1 (kEs n l)
def kWu (n:ko) (l:Ai jI):Ai jI:=Srt.sorted kCj (l.filter (kMp n l))
def kDz (l:Ai jI) (n:ko):Ai Int:=if mOk n l then (kWu n l).map (λr=>r.2.1) else []
def hopsF_no {l:List jI} {n:ko} (h:mOk n l=false):kDz l n=[]:=by unfold kDz;rw [h];rfl
def jEm {l:List jI} {n:ko} (h:mOk n l=true):kDz l n=(kWu n l).map (λr=>r.2.1):=by unfold kDz;rw [h];rfl
def jEl {l:Ai jI} {n:ko}:(kWu n l).length<=l.length:=by unfold kWu;rw [kIm];exact Aa _ _
def kLl {l:Ai jI} {n:ko}:(kDz l n).length<=l.length:=by
 unfold kDz;split
 · rw [List.length_map];exact jEl
 exact Nat.zero_le _
def sorted_app {α:Type} {key:α->Int} {l:Ai α} {x:α}:Srt.sorted key (l++[x])=Srt.put key (Srt.sorted key l) x:=by
 unfold Srt.sorted;rw [List.foldl_append];rfl
def kXy {w:Ad} {cr:Ai Ae} {r:jI} (hr:jA.raw w cr r) {p:ko} {bg:Ae} {Bp:Nat} (pr:kR.raw w [bg] p) (ax:Qc w Bp 0 bg) :
    Ak prog 197 (#[.agg cr.toArray]++#[.pointer (some ⟨Bp,0,none⟩)]) w (bQ w (.bool (!eqN r.1 p))):=by
 have Hr:=yD hr
 obtain ⟨H,rfl,I,J,O,N⟩:=kCl hr
 obtain ⟨aa,V,rfl,Y⟩:=kD.sl J
 have a2:=kJa pr
 obtain ⟨a8,bf,rfl,bo⟩:=kD.sl a2
 show Ak prog 197 #[_,_] w _
 go_enter func197,ntmps197
 go_upto_region 1 with fail
 refine ja ?_
 intro U Z F _
 obtain ⟨X,o,R⟩:=kBd F
 clear F
 replace ax:=cL Z ax
 have FX:=yD (λ(W:Ad) (hW:Qb U W)=>kDk hW X o R ax)
 refine kL (λW=>Qb U W) [Tt,Tt,Tt,Ff,Tt,Tt] bR ?_
 intro wS E
 all_goals ((iterate 3 refine kS ?_);(first | refine zi (jw (kD.raw.below I (tQ Z E)) (kD.raw.below pr (tQ Z E))) (λwS1 E=>?_) | refine kS ?_);refine kS ?_;refine jT λb a3=>?_;cases b <;> try simp only [jS] at a3)
 all_goals (refine kM ?_;have D:=(tQ Z E))
 all_goals first
   | (have L:=yD (show (!eqN r.1 p)=false by simp only [Aq,Al,Ar,Au,Am,Ap,Ay,Az,Av,Aw,Ba,a3]);go_wp2;go_ret;exact ⟨kJ L.out.symm,D⟩)
   | (have L:=yD (show (!eqN r.1 p)=true by simp only [Aq,Al,Ar,Au,Am,Ap,Ay,Az,Av,Aw,Ba,a3]);go_wp2;go_ret;exact ⟨kJ L.out.symm,D⟩)
def kKo:jL prog 197:=yM func197 bE5 bE5
def cmpI_rng (a b:Int):-9223372036854775808<=kEb a b/\kEb a b<=9223372036854775807:=by unfold kEb;split <;> (try split) <;> omega
def kD.row_int2 {w:Ad} {a b:Int} (ha:Qi a) (hb:Qi b):kD.row kD.int true w [.int .i64 a,.int .i64 b] [a,b] (λ_=>True) :=
  ⟨[Qn a],[.int .i64 b],λ_=>False,λ_=>False,rfl,⟨rfl,ha⟩,⟨[Qn b],[],λ_=>False,λ_=>False,rfl,⟨rfl,hb⟩,rfl,λ_ h=>h,λ_ h=>h,λ_ _ h=>h.elim⟩,λ_ h=>h.elim,λ_ h=>h.elim,λ_ _ h=>h.elim⟩
def kXx {w:Ad} {cx:Ai Ae} {x:jI} (hx:jA.raw w cx x) {cy:Ai Ae} {y:jI} (hy:jA.raw w cy y) :
    Ak prog 199 #[.agg cx.toArray,.agg cy.toArray] w λe w'=>∃ k:Int,e=.returned (.int .i64 k)/\decide (k < 0)=decide (kCj x < kCj y)/\Qb w w':=by
 have Hx:=yD hx
 obtain ⟨a4,rfl,Y,N,ae,ag⟩:=kCl hx
 obtain ⟨a5,a2,rfl,ay⟩:=kD.sl N
 have Hy:=yD hy
 obtain ⟨a8,rfl,aa,ad,ah,ak⟩:=kCl hy
 obtain ⟨aq,ap,rfl,ba⟩:=kD.sl ad
 have HK:=yD (orI_key (x:=x) (y:=y) ae ah)
 go_enter func199,ntmps199
 go_upto_region 1 with fail
 refine kAe ?_
 intro U Z F an _
 obtain ⟨X,o,R⟩:=kBd F
 obtain ⟨I,ac,af⟩:=kBd an
 clear F an
 have FX:=yD (λ(W:Ad) (hW:Qb U W)=>kJf hW X o R I ac af)
 refine yT (λW=>Qb U W) [(0,true),(1,true),(2,true),(3,true),(5,true),(6,true),(7,true),(8,true),(4,false),(9,false),(10,false),(11,false),(12,true)] bE5 bE5 qW (bR.drew) ?_
 intro wS E
 simp only [jG,List.getElem?_cons_succ,List.getElem?_cons_zero,List.map_cons,List.map_nil]
 all_goals ((iterate 8 refine kS ?_);(iterate 2 (first | refine wkC (kTu) ?_ | refine kS ?_));(first|(refine kI rfl E ?_)|(refine ku rfl (λK H=>?_);go_simp;have RL:(kD.slice 3 kD.int).rd (World.alloc wS (.cells #[.int .i64 (kEb x.2.2 y.2.2),.int .i64 (kEb x.2.1 y.2.1)] 3)) [.slice (some ⟨wS,0,none⟩) 2 2] [kEb x.2.2 y.2.2,kEb x.2.1 y.2.1]:=((kD.yR (e:=3) (r:=kD.int) (w:=wS) (cs:=[.int .i64 (kEb x.2.2 y.2.2),.int .i64 (kEb x.2.1 y.2.1)]) (xs:=[kEb x.2.2 y.2.2,kEb x.2.1 y.2.1]) (T:=λ_=>True) (S:=λ_=>True) (λ_ _=>trivial) (by show 2<=_;unfold maxLen;omega) (kD.row_int2 (cmpI_rng _ _) (cmpI_rng _ _)) (λ_ h=>h) trivial).own (by show 2<=_;unfold Big;omega)).rd;have bN:Below wS wS (World.alloc wS (.cells #[.int .i64 (kEb x.2.2 y.2.2),.int .i64 (kEb x.2.1 y.2.1)] 3)):=bR.alloc nL _;generalize am:World.alloc wS (.cells #[.int .i64 (kEb x.2.2 y.2.2),.int .i64 (kEb x.2.1 y.2.1)] 3)=wN at RL bN ⊢;clear am;replace E:=(tQ E bN);refine H _ _ E ?_;clear H K bN));refine jH ?_;(first | refine wkC (cmpOr_c RL.1) ?_ | refine kS ?_);refine kS ?_;refine kM ?_)
 have D:=(tQ Z E)
 go_wp2
 go_ret
 exact ⟨_,rfl,by simpa using HK.out,D⟩
def kSg:jL prog 199:=yM func199 bE5 bE5
def jBb {w:Ad} {vl:Ae} {l:Ai jI} (hl:(kD.slice 176 jA).rd w [vl] l) {cn:Ai Ae} {n:ko} (hn:kR.rd w cn n) (L:l.length<=19) :
    Ak prog 116 #[vl,.agg cn.toArray] w (kBu 3 kD.int (kDz l n) w):=by
 obtain ⟨HL,Y,bc⟩:=CE
 obtain ⟨nv,rfl,az⟩:=kw hn.1
 obtain ⟨na,np,rfl,_,la,lp,rfl,_⟩:=kD.sx az (kD.sl hl.1)
 clear az hl hn
 go_enter func116,ntmps116
 go_wp2_with fail
 generalize R:World.alloc w _=U
 obtain ⟨Z,K0⟩:=DX
 clear R
 refine (kGy (HL.out.below Z) (Y.out.below Z)).mono ?_
 rintro e w1 ⟨pc,rfl,OP,N⟩
 obtain ⟨bq,rfl,a2⟩:=kw OP.raw
 obtain ⟨a8,bf,rfl,_⟩:=kD.sl a2
 clear a2
 have HP:=yD OP.rd
 have E1:=(tQ Z N)
 have bn:=E1.size
 clear OP N Z K0
 have a7:=yD (hopsF_no (l:=l) (n:=n))
 have ba:=yD (jEm (l:=l) (n:=n))
 cases fi:mOk n l
 · have HE:=yD (a7.out fi);go_wp2;go_ret;exact ⟨_,rfl,by rw [HE.out];exact kD.kY.void,E1.trans (Below.mono bI E1.size)⟩
 have HE:=yD (ba.out fi)
 clear a7 ba
 go_wp2_with fail
 generalize O:World.alloc w1 _=wC
 have aa:Qb w1 wC:=tC
 have KP:Qd wC w1 0 (.slice a8 (kEs n l).length bf):=vT
 clear O
 have EC:=(tQ E1 aa)
 have bt:=aa.size
 refine (kLf (HL.out.below EC)).mono ?_
 rintro e w2 ⟨v2,rfl,O2,ag⟩
 obtain ⟨oa,on,oc,ho,ay⟩:=O2.parts
 obtain rfl:=ho
 have J:=yD O2
 have ai:=yD ag
 have ax:=ag.size
 have E2:=(tQ EC ag)
 clear O2 ag
 go_wp2_with fail
 have a5:Hid (∀ wr,Touch (jg wC w2) w2 wr->∀ x cs,jA.raw wr cs x->Ak prog 197 (#[.agg cs.toArray]++#[.pointer (some ⟨w1,0,none⟩)]) wr (λe w'=>e=.returned (.bool (!eqN x.1 (kEs n l)))/\Qb wr w')):=yD (λwr E x cs hx=>by
   have e:=ai.out.trans (E.below ai.out.size (λi hi=>hi.1));exact kXy hx (kD.raw.below HP.out.1 (tQ aa e)) (cL e KP))
 refine (kSp (λr=>!eqN r.1 (kEs n l)) kKo J.out bc a5.out).mono ?_
 rintro e w3 ⟨v3,rfl,O3,T3⟩
 obtain ⟨da,D,dc,hd,W⟩:=O3.parts
 obtain rfl:=hd
 have aq:=yD (O3.cast (show _=l.filter (kMp n l) by congr 1;funext r;simp [kMp]))
 have ap:=T3.size
 have E3:=E2.trans (T3.below bF2 vF)
 clear O3 T3 J a5 KP
 go_wp2_with fail
 have HC:Hid (kVx kCj 199 #[] (jg wC w2) w3):=yD (λwr E x y cs ds hx hy=>by simpa using kXx hx hy)
 refine (kSm kCj kSg HC.out aq.out (by have:=Aa (kMp n l) l;omega)).mono ?_
 rintro e w4 ⟨rfl,O4,F⟩
 have ao:=yD (show kD.kY 176 jA w4 _ (kWu n l) _ from O4)
 have b5:=F.size
 have E4:=E3.trans (F.below bF2 vF)
 have al:=jEl (l:=l) (n:=n)
 clear O4 F aq HC E3 E2
 have b8:Hid (D=(kWu n l).length):=yD (by have:=ao.out.zJ;obtain ⟨a,c,h⟩:=this;simp only [Value.slice.injEq] at h;exact h.2.1)
 generalize kWu n l=H at *
 obtain ⟨V,bi⟩:∃ V:Ai Int,V=H.map (λr=>r.2.1):=⟨_,rfl⟩
 have es:=yD bi
 clear bi
 have bb:D<=16777216:=by have:=b8.out;omega
 go_wp2
 go_loopw [8,28] (λv i wr=>∃ (k:Nat),k<=D/\i=.int .i64 k/\Hid (kD.kY 3 kD.int wr v (V.take k) (jg w4 wr))/\Qb w4 wr) (λ_ i _=>D - (intOf i).toNat)
 case atStart=>exact ⟨0,Nat.zero_le _,rfl,yD kD.kY.void,bI⟩
 obtain ⟨k,hk,rfl,HI,o⟩:=hrel
 obtain ⟨ia,bj,ic,hi,an⟩:=HI.out.parts
 obtain rfl:=hi
 have bk:=o.size
 by_cases hlt:k < D
 · have hkl:k < H.length:=by have:=b8.out;omega
   have hil:bj<=16777216:=sG;obtain ⟨qb,qo,rfl,ac,ae,af,qr,A0,A1,A2⟩:=kD.zL (ao.out.kKg.below o) hkl rfl;have bm:=yD (show V.take (k + 1)=V.take k++[H[k].2.1] by (have hl:k < V.length:=by rw [es.out];simpa using hkl);rw [List.take_succ_eq_append_getElem hl];simp [es.out]);generalize H[k]=x at *;obtain ⟨rfl,rfl,ah,aj,ak,aw⟩:=yI qr;obtain ⟨ad,a4,rfl,a6⟩:=kD.sl aj;have ab:=ak;go_upto_region 10 with fail;generalize bg:World.alloc wr _=wD;have ED:Qb wr wD:=by rw [<- bg];exact bR.alloc nL _
   have D1:Qd wD wr 1 (Qn x.2.1):=by rw [<- bg];simp [go_sem]
   clear bg;have c6:=ED.size;have a9:=(tQ o ED);replace HI:=yD (HI.out.below ED);have bp:(V.take k).length<=16777216:=bA9;go_wp2_with (at_builtin;refine kD.jR rfl _ _ 79 rfl (r:=kD.int) (e:=3) Bb kBl rfl bF1 bF1 (B:=w4.heap.size) HI.out bF4 bF4 rfl (kD.ky ab _) rfl (λ_ _ h=>h) sI (λ_ h=>h.elim) bF2 bF2 ?_);intro v5 w5 hown X b4;have am:=yD (kD.kY.cast hown bm.out.symm);have bd:=a9.trans X;clear hown X;refine Qg ?_;exact ⟨k + 1,by omega,by go_num,am,bd⟩
 obtain rfl:k=D:=bF2
 have HF:=yD (HI.out.cast (show _=kDz l n by rw [HE.out,<- es.out,List.take_of_length_le (by rw [es.out];simp;have:=b8.out;omega)]))
 have dq:¬ (k:Int) < k:=bF2
 go_wp2
 go_ret
 exact ⟨_,rfl,HF.out.wide sJ,(tQ E4 o)⟩
def jc {w0 w:Ad} {v:Ae} {xs ys:Ai jI} {S:Nat->Prop} {B:Nat} {av:Option Addr} {len cap:Nat} (hown:kD.kY 176 (kD.kFu jA w0) w v xs S) (hy:(kD.slice 176 (kD.kFu jA w0)).rd w [.slice av len cap] ys) (hSB:∀ k,S k->B<=k/\k < w.heap.size) (hB:B<=w.heap.size) (hlen:xs.length + ys.length<=1000000000) :
    ∃ v' w',(Builtin.append_ #[30,30] 30 #[v,.slice av len cap]).run prog w=.ok v' w'/\kD.kY 176 (kD.kFu jA w0) w' v' (xs++ys) (jg B w')/\Below B w w'/\w.heap.size<=w'.heap.size :=
  kD.kPg (r:=(kD.kFu jA w0)) underlying30 kGx rfl (show 0 < 3 by omega) bF1 kD.isFlat_asIn hown hy hSB hB hlen
def kAz {w0 w:Ad} {cs:Ai Ae} {x:jI} (hx:kD.is (kD.kFu jA w0) true w cs x (λ_=>True)) (hb:kD.bdd (kD.kFu jA w0) Big x) :
    (kD.slice 176 (kD.kFu jA w0)).rd (World.alloc w (.cells cs.toArray 176)) [.slice (some ⟨w,0,none⟩) 1 1] [x] :=
  ((kD.yR (e:=176) (r:=(kD.kFu jA w0)) (w:=w) (cs:=cs) (xs:=[x]) (T:=λ_=>True) (S:=λ_=>True) mY tK (kD.kDh hx) (λ_ h=>h) trivial).own vI).rd
def jFi {w w0:Ad} {vl:Ae} {l:Ai jI} {S:Nat->Prop} (hl:kD.kY 176 (kD.kFu jA w0) w vl l S) {cr:Ai Ae} {r:jI} (hr:jA.rd w0 cr r) (hlen:l.length < 16777216) :
    Ak prog 215 #[vl,.agg cr.toArray] w (kBu 176 (kD.kFu jA w0) (Srt.put kCj l r) w):=by
 have HR:=yD hr
 obtain ⟨la,lp,bm⟩:=hl.zJ
 obtain rfl:=bm
 have HL:=yD ((hl.own bB1).rd)
 have O:=yD (kD.kUz hl)
 have br:=kD.kBj HL.out.1
 obtain ⟨bn,rfl,bd,aq,a8,bk⟩:=kCl hr.1
 obtain ⟨ra,rp,rfl,_⟩:=kD.sl aq
 have az:=yD a8
 clear hl hr bd aq bk a8
 go_enter func215,ntmps215
 go_wp2
 refine ja ?_
 intro U Z F _
 obtain ⟨K0,K1,K2⟩:=kBd F
 clear F
 have R:=yD (HL.out.below Z)
 have bx:=Z.size
 go_loopw [5] (λq wr=>∃ (k:Nat),k<=l.length/\q=.int .i64 k/\Hid (Srt.place kCj k l r=Srt.place kCj l.length l r)/\Qb U wr) (λq _=>(intOf q).toNat)
 case atStart=>exact ⟨l.length,Nat.le_refl _,rfl,yD rfl,bR⟩
 obtain ⟨k,bt,rfl,HP,o⟩:=hrel
 replace K0:=cL o K0
 replace K1:=cL o K1
 replace K2:=cL o K2
 have b9:=Ac k
 have Y:(k:Int)<=lp:=bF2
 have bv:k<=lp:=bF2
 by_cases hk:0 < k
 · obtain ⟨j,I⟩:∃ j,j + 1=k:=⟨k - 1,by omega⟩;have c9:(k:Int) - 1=(j:Int):=bF2;have b0:IntKind.i64.wrap (j:Int)=j:=IntWalk.i64_in _ bF2;have bi:=Ac j;have av:j < l.length:=bF2;have bu:(j:Int) < l.length:=bF2;have hp:decide ((k:Int) > 0)=true:=bE6;have bw:decide (0 < k)=true:=bC2;have bz:(0:Int) < k:=bF2;obtain ⟨qb,qo,rfl,ac,ae,af,qr,A0,A1,A2⟩:=kD.zL (R.out.1.below o) av rfl;have HY:=yD (λq=>(kZy (key:=kCj) (x:=r) I av q).symm.trans HP.out);have a7:=yD (λq=>(kZw (key:=kCj) (x:=r) I av q).symm.trans HP.out);generalize l[j]=y at *;obtain ⟨rfl,rfl,ah,aj,ak,aw⟩:=yI (show jA.raw w0 _ y from qr);have HG:=yD (gtR_key (y:=y) (r:=r) ak az.out);clear ah aj ak aw qr;go_upto_region 2 with fail;go_cut [42] from 8 to 42 (λax wc=>ax=.bool (gtR y r)/\Qb wr wc);case first =>
    have FX:=yD (λ(W:Ad) (hW:Qb wr W)=>kDk hW A1 A2 K1 K2);refine kK (λW=>Qb wr W) [Tt,Tt,Tt,Tt,Tt,Tt,Tt,Tt,Tt,Tt,Tt,Tt,Tt,Tt,Tt,Tt,Tt,Tt,Tt,Tt,Tt,Tt,Tt,Tt,Tt,Tt,Tt,Tt,Tt,Tt,Tt,Tt,Tt,Tt,Tt] bE5 bE5 qW (bR.drew) ?_;intro wS E;all_goals (refine kS ?_;refine kS ?_;refine jT λb au=>?_;cases b <;> try simp only [jS] at au)
    all_goals ((iterate 9 refine kS ?_);refine jT λb ab=>?_;cases b <;> try simp only [jS] at ab)
    all_goals ((iterate 9 refine kS ?_);refine jT λb d5=>?_;cases b <;> try simp only [jS] at d5)
    all_goals ((iterate 11 refine kS ?_);refine jT λb J=>?_;cases b <;> try simp only [jS] at J)
    all_goals refine kM ?_
    all_goals (cases hv:gtR y r)
    all_goals first
      | (exfalso;simp only [gtR,Aq,Al,Ar,Au,Am,Ap,Ay,Az,Av,Aw,Ba,au,ab,d5,J] at hv;exact Ab hv)
      | (have X:=yD hv;clear hv;go_wp2;go_meet;(case rel=>exact ⟨by rw [X.out],E⟩))
   obtain ⟨rfl,E⟩:=hcut;have ai:=(tQ o E);cases ag:gtR y r
   · have a9:=yD (a7.out (HG.out.trans ag));clear HY a7 HG;have aa:=yD (jFs (show k=_ from a9.out));replace K0:=cL E K0;replace K1:=cL E K1;replace K2:=cL E K2;generalize wc=wq at *;exact uP
   have hs:=yD (HY.out (HG.out.trans ag));clear HY a7 HG ag;refine Qg ?_;exact ⟨j,by omega,rfl,hs,ai⟩
 have bq:k=0:=bF2
 have hp:decide ((k:Int) > 0)=false:=bE6
 have bz:¬ (0:Int) < k:=bF2
 have a9:Hid (k=Srt.place kCj l.length l r):=yD (by rw [<- HP.out,bq];rfl)
 clear bq
 go_upto_region 2 with fail
 refine kK (λW=>Qb wr W) [Tt,Tt,Tt,Tt,Tt,Tt,Tt,Tt,Tt,Tt,Tt,Tt,Tt,Tt,Tt,Tt,Tt,Tt,Tt,Tt,Tt,Tt,Tt,Tt,Tt,Tt,Tt,Tt,Tt,Tt,Tt,Tt,Tt,Tt,Tt] bE5 bE5 qW (bR.drew) ?_
 intro wS E
 all_goals (refine kS ?_;refine kS ?_;refine jT λb au=>?_;cases b <;> try simp only [jS] at au)
 all_goals ((iterate 9 refine kS ?_);refine jT λb ab=>?_;cases b <;> try simp only [jS] at ab)
 all_goals ((iterate 9 refine kS ?_);refine jT λb d5=>?_;cases b <;> try simp only [jS] at d5)
 all_goals ((iterate 11 refine kS ?_);refine jT λb J=>?_;cases b <;> try simp only [jS] at J)
 all_goals (refine kM ?_;have ai:=(tQ o E))
 have aa:=yD (jFs (show k=_ from a9.out))
 replace K0:=cL E K0
 replace K1:=cL E K1
 replace K2:=cL E K2
 generalize wS=wq at *
 exact uP
def kZl {w:Ad} {vl:Ae} {l:Ai jI} (hl:(kD.slice 176 jA).rd w [vl] l) {cn:Ai Ae} {n:ko} (hn:kR.rd w cn n) :
    Ak prog 145 #[vl,.agg cn.toArray] w (kBh (kD.slice 3 kD.int) (kDz l n) w):=by
 obtain ⟨HL,Y,bc⟩:=CE
 obtain ⟨nv,rfl,az⟩:=kw hn.1
 obtain ⟨na,np,rfl,_,la,lp,rfl,_⟩:=kD.sx az (kD.sl hl.1)
 clear az hl hn
 go_enter func145,ntmps145
 go_wp2_with fail
 generalize R:World.alloc w _=U
 obtain ⟨Z,K0⟩:=DX
 clear R
 refine (kGs (HL.out.below Z) (Y.out.below Z)).mono ?_
 rintro e w1 ⟨pc,rfl,OP,N⟩
 obtain ⟨bq,rfl,a2⟩:=kw OP.raw
 obtain ⟨a8,bf,rfl,_⟩:=kD.sl a2
 clear a2
 have HP:=yD OP.rd
 have E1:=(tQ Z N)
 clear OP N Z K0
 have a7:=yD (hopsF_no (l:=l) (n:=n))
 have ba:=yD (jEm (l:=l) (n:=n))
 have bg:Hid (kWu n l=Srt.sorted kCj (l.filter (kMp n l))):=yD rfl
 generalize fi:mOk n l=ok at *
 have g9:=yD fi
 clear fi
 go_wp2
 generalize O:World.alloc (World.alloc w1 _) _=wC
 have aa:Qb w1 wC:=by rw [<- O];exact bI
 have KP:Qd wC w1 0 (.slice a8 (kEs n l).length bf):=vT
 clear O
 have EC:=(tQ E1 aa)
 go_loopw [7,8] (λv i wr=>∃ (k:Nat),k<=l.length/\i=.int .i64 k/\(ok=false->k=0)/\Hid (kD.kY 176 (kD.kFu jA w) wr v (Srt.sorted kCj ((l.take k).filter (kMp n l))) (jg w wr))/\Qb wC wr) (λ_ i _=>l.length - (intOf i).toNat)
 case atStart=>exact ⟨0,Nat.zero_le _,rfl,λ_=>rfl,yD kD.kY.void,bR⟩
 obtain ⟨k,hk,rfl,b9,J,o⟩:=hrel
 obtain ⟨oa,on,oc,ho,ay⟩:=J.out.parts
 obtain rfl:=ho
 have a3:=yD b9
 clear b9
 have bk:=o.size
 replace KP:=cL o KP
 have D:=(tQ EC o)
 have dq:=Ac k
 by_cases hlt:k < l.length
 · cases ok
   · have bt:(k:Int) < l.length:=bF2;have ar:Hid (kDz l n=(Srt.sorted kCj ((l.take k).filter (kMp n l))).map (λr=>r.2.1)):=yD (by rw [a7.out rfl,a3.out rfl];rfl);exact lM
   have bt:(k:Int) < l.length:=bF2;have be:=λq=>kDj (p:=kMp n l) hlt q;have bh:=λq=>kCc (p:=kMp n l) hlt q;obtain ⟨qb,qo,rfl,ac,ae,af,qr,ap,aq,au⟩:=kD.zL (HL.out.1.below D) hlt rfl;have av:=kD.yx HL.out hlt;have br:Hid (jA.rd w [ac,ae,af] l[k]):=yD (by
     obtain ⟨b2,o2,ag,c0,c1,c2,h,h0,h1,h2⟩:=kD.zL HL.out.1 hlt rfl;simp only [Bc,Addr.mk.injEq,and_true] at ag;obtain ⟨rfl,rfl⟩:=ag;have e0:=(cL D h0).symm.trans ap;have e1:=(cL D h1).symm.trans aq;have e2:=(cL D h2).symm.trans au;simp only [Bc] at e0 e1 e2;subst e0 e1 e2;exact ⟨h,av⟩)
   generalize l[k]=x at *;have a1:=yD be;have al:=yD bh;clear be bh av;obtain ⟨rfl,rfl,ah,aj,ak,aw⟩:=yI qr;obtain ⟨ad,a4,rfl,a6⟩:=kD.sl aj;go_upto_region 6 with fail;have FX:=yD (λ(W:Ad) (hW:Qb wr W)=>kDk hW ap aq au KP);refine kK (λW=>Qb wr W) [Tt,Tt,Tt,Tt,Tt,Tt,Ff] bE5 bE5 qW (bR.drew) ?_;intro wS E;all_goals ((iterate 6 refine kS ?_);(first | refine zi (jU (kD.raw.below ah E) (kD.raw.below HP.out.1 (Below.trans aa ((tQ o E).mono aa.size)))) (λwS1 E=>?_) | refine kS ?_);refine kM ?_)
   have ai:=(tQ o E);have ab:=yD (J.out.below E);have a5:=E.size;replace ap:=cL E ap;replace aq:=cL E aq;replace au:=cL E au;generalize wS1=wq at *;clear E;cases hq:eqN x.1 (kEs n l)
   · have L:=yD (al.out hq);clear a1 al;refine Qg ?_;exact ⟨k + 1,by omega,by go_num,(λh=>Ab h),yD ((ab.out.cast (by rw [L.out])).wide sI),ai⟩
   have L:=yD (a1.out hq);clear a1 al;have hlen:(Srt.sorted kCj ((l.take k).filter (kMp n l))).length < 16777216:=by have h1:=zf (p:=kMp n l) (l:=l) (k:=k) bF2;rw [kIm];omega
   go_wp2_with fail;refine (jFi ab.out br.out hlen).mono ?_;rintro e w4 ⟨v4,rfl,O4,F⟩;have ao:=yD ((O4.cast (show _=Srt.sorted kCj ((l.take (k + 1)).filter (kMp n l)) by rw [L.out,sorted_app])).wide (T:=jg w w4) (λj I=>⟨by have:=I.1;have:=EC.size;omega,I.2⟩));have bd:=(tQ ai F);obtain ⟨fa,fn,fc,hf,al⟩:=ao.out.parts;obtain rfl:=hf;clear O4 F;refine Qg ?_;exact ⟨k + 1,by omega,by go_num,(λh=>Ab h),ao,bd⟩
 have bt:¬ (k:Int) < l.length:=bF2
 have ar:Hid (kDz l n=(Srt.sorted kCj ((l.take k).filter (kMp n l))).map (λr=>r.2.1)):=yD (by
   obtain rfl:k=l.length:=bF2;rw [Ag];cases ok
   · rw [a7.out rfl];have h0:=a3.out rfl;rw [Ah h0];rfl
   · rw [ba.out rfl,bg.out])
 exact lM
def kVw {w:Ad} {v:Ae} {l:Ai Int} {g:FuncId} {cp:Array Ae} {S:Nat->Prop} (p:Int->Bool) (hg:jL prog g) (hl:kD.kY 3 kD.int w v l S) (hlen:l.length<=16777216)
    (an:∀ wr,Touch S w wr->∀ x c,kD.int.raw wr [c] x->Ak prog g (#[c]++cp) wr (λe w'=>e=.returned (.bool (p x))/\Qb wr w')) :
    Ak prog 115 #[v,.func (.func g) #[] cp] w λe w'=>∃ v',e=.returned v'/\kD.kY 3 kD.int w' v' (l.filter (λx=>!p x)) S/\Touch S w w':=by
 have a5:=yD an
 clear an
 have J:=yD hl
 have ah:=yD hg
 unfold jL at hg
 have HI:Hid (∀ va,v=va->Ak prog 195 #[va,.func (.func g) #[] cp] w λe w'=>e=.returned (.int .i64 (idxOf p l))/\Qb w w'):=yD (λva hv=>by
   subst hv;exact kYb p ah.out (J.out.own hlen).raw (λwr hb i h c hr=>a5.out wr (Touch.of_below hb) _ c hr))
 rcases kOq p l with ⟨hi,hno⟩|⟨i,hil,hi,hyes,hno⟩
 · obtain ⟨oa,on,oc,ho,ay⟩:=hl.parts;obtain rfl:=ho;rw [hi] at HI;have HF:=yD (kOt hno).symm;clear hno hi hl;go_enter func115,ntmps115;exact aU
 obtain ⟨b,cap,rfl,o⟩:=kD.kLm hl hil
 rw [hi] at HI
 rw [Aj hil] at o
 obtain ⟨V,a3,Y,ac,br⟩:=DF
 simp only [List.length_take,Bd,List.length_drop] at br
 have ar:l.length<=cap:=br.2.1
 have ap:cap<=9223372036854775807:=qF
 clear hno hi hl o hyes J br
 have bx:((i:Int)==-1)=false:=sQ
 go_enter func115,ntmps115
 go_wp2_with fail
 refine (HI.out _ rfl).mono ?_
 rintro e w1 ⟨rfl,N⟩
 have G1:=yD (V.below N)
 have E1:=yD (Touch.of_below (S:=S) N)
 clear V HI
 go_wp2
 go_loopw [5,6] (λq c wr=>∃ m kn:Nat,m<=l.length/\kn + 1<=m/\q=.int .i64 kn/\c=.int .i64 m/\Hid (kn=((l.take m).filter (λy=>!p y)).length)/\Hid (kD.gap 3 kD.int wr b cap l.length ((l.take m).filter (λy=>!p y)) (m - kn) (l.drop m) S)/\Hid (Touch S w wr)) (λ_ c _=>l.length - (intOf c).toNat)
 case atStart =>
  exact aV
 clear E1 G1 Y a3 N
 obtain ⟨m,kn,hm,dq,rfl,rfl,eq,G,E⟩:=hrel
 by_cases hlt:m < l.length
 · have W:=G.out;rw [Aj hlt] at W;obtain ⟨be,bh⟩:=EY;obtain ⟨cs,hr,an,av,U,H⟩:=W.next;have O:=W.skip;have af:=W.frozen;generalize l[m]=x at *;have a1:=yD be;have al:=yD bh;clear be bh W;rw [<- eq.out] at U H;rw [show kn + (m - kn)=m by omega] at U;obtain ⟨c0,rfl⟩:∃ c0,cs=[c0]:=by
    have bg:=kD.int.len hr
    match cs,bg with
    | [c0],_=>exact ⟨_,rfl⟩
   have A0:Qc wr b m c0:=by have:=U 0 c0 rfl;simpa [show kD.int.n=1 from rfl] using this
   have D:∀ q,q < 1->kn * 1 + q < cap * 1:=by intro q hq;omega
   obtain ⟨o0,O0⟩:=Option.isSome_iff_exists.1 (G.out.cells (i:=kn) (by have:=D 0 bF2;simp only [show kD.int.n=1 from rfl];omega));have Z0:=af kn;have HR:=yD hr;obtain ⟨F,aj⟩:=kD.yX hr;obtain rfl:c0=_:=by simpa using F
   clear F aj hr an U D af;have R:=yD H;have Z:=yD O;clear H O;have HB:=yD (G.out.lt);go_wp2_with fail;refine (a5.out wr E.out _ _ HR.out).mono ?_;rintro e w5 ⟨rfl,X⟩;have E5:=yD X;clear X;cases hp:p x
   · have L:=yD (a1.out bE8);replace O0:=cL E5.out O0;replace Z0:=(E5.out.frozen (p:=⟨b,kn,none⟩) HB.out).trans Z0;obtain ⟨bm,au⟩:=R.out w5 E5.out bF2 _ rfl;simp only [show kD.int.n=1 from rfl,Nat.mul_one] at bm au;exact aW
   exact aX
 obtain rfl:m=l.length:=bF2
 have W:=G.out
 rw [List.drop_length,Ag] at W
 rw [Ag] at eq
 have HG:=yD W
 clear W G
 obtain ⟨ae,ag,bi⟩:=FC
 obtain ⟨w6,ab,h6,t6⟩:=HG.out.kLa (P:=prog) (t:=79) (ty:=0) (c:=cap - kn) (p:=kn) bi Bb kBl rfl bF1 (kYl _ bF1) (by simp only [show kD.int.n=1 from rfl];rw [<- eq.out,Nat.mul_one])
 exact aY
def outOk (x:jX) (n:ko):Bool:=mOk n x.2.2.2.2.1
def kIp (x:jX) (n:ko) (ex:Int):Ai Int:=if outOk x n then kNg x.2.2.2.2.2.1 (kEs n x.2.2.2.2.1) ((kDz x.2.2.2.2.1 n).filter (λf=>!(f==ex))) else []
def jFu {x:jX} {n:ko} {ex:Int} (h:mOk n x.2.2.2.2.1=false):kIp x n ex=[]:=by unfold kIp outOk;rw [h];rfl
def jAf {x:jX} {n:ko} {ex:Int} (h:mOk n x.2.2.2.2.1=true):kIp x n ex=kNg x.2.2.2.2.2.1 (kEs n x.2.2.2.2.1) ((kDz x.2.2.2.2.1 n).filter (λf=>!(f==ex))):=by unfold kIp outOk;rw [h];rfl
def jEc {x:jX} {n:ko} {ex:Int} (h:mOk n x.2.2.2.2.1=true):kIp x n ex=(kNg x.2.2.2.2.2.1 (kEs n x.2.2.2.2.1) (kDz x.2.2.2.2.1 n)).filter (λf=>!(f==ex)):=by
 rw [jAf h];unfold kNg;rw [Srt.jCm]
def outF_len {x:jX} {n:ko} {ex:Int}:(kIp x n ex).length<=x.2.2.2.2.1.length:=by
 unfold kIp;split
 · rw [kPi];exact Nat.le_trans (Aa _ _) kLl
 exact Nat.zero_le _
def kXw {w:Ad} {f ex:Int} {B:Nat} (A:Qc w B 0 (Qn ex)):Ak prog 117 (#[.int .i64 f]++#[.pointer (some ⟨B,0,none⟩)]) w λe w'=>e=.returned (.bool (f==ex))/\w'=w:=by
 show Ak prog 117 #[_,_] w _;go_enter func117,ntmps117;go_wp2;go_ret;exact ⟨rfl,rfl⟩
def kSf:jL prog 117:=yM func117 bE5 bE5
def cell_lt {w:Ad} {b i:Nat} {v:Ae} (k:Qc w b i v):b < w.heap.size:=by
 rcases Nat.lt_or_ge b w with q | q
 · exact q
 unfold World.cell? at k;simp [Array.getElem?_eq_none q] at k
def Touch.cell {S:Nat->Prop} {w w':Ad} {b i:Nat} {v:Ae} (h:Touch S w w') (hb:¬ S b) (k:Qc w b i v):Qc w' b i v:=by
 exact aA
def kQd {w:Ad} {cx:Ai Ae} {x:jX} (hx:jo.rd w cx x) {cn:Ai Ae} {n:ko} (hn:kR.rd w cn n) {ex:Int} (ah:Qi ex) (L:x.2.2.2.2.1.length<=19) :
    Ak prog 41 #[.agg cx.toArray,.agg cn.toArray,.int .i64 ex] w (kBh (kD.slice 3 kD.int) (kIp x n ex) w):=by
 obtain ⟨q1,q2,q3,q4,q5,q6,q7⟩:=hx.2
 have HA:Hid (x.2.2.2.2.1.length<=16777216):=yD q5.1
 have Y:=yD hn
 obtain ⟨nv,rfl,az⟩:=kw hn.1
 obtain ⟨na,np,rfl,_⟩:=kD.sl az
 obtain ⟨f6,f4,gp,gm,gj,gb,rfl,V,a9,bl,bi,bg,bo,b1,cf,du⟩:=yO hx.1
 obtain ⟨em,d7,rfl,gi,dx,dw,rfl,gf,e9,e6,rfl,gx,e7,e4,rfl,gz,e0,ey,rfl,g3,en,ej,rfl,gv⟩:=kD.sx V (kD.sx bi (kD.sx bg (kD.sx bo (kD.sx b1 (kD.sl cf)))))
 obtain ⟨RR,RM⟩:=DV
 clear az hn hx q1 q2 q3 q4 q5 q6 q7 V a9 bl bi bg bo b1 cf du
 have a7:=yD (jFu (x:=x) (n:=n) (ex:=ex))
 have ba:=yD (jAf (x:=x) (n:=n) (ex:=ex))
 go_enter func41,ntmps41
 go_wp2_with fail
 generalize R:World.alloc (World.alloc (World.alloc w _) _) _=U
 obtain ⟨Z,K5,K6,KN⟩:=EZ
 have o:U.cell? ⟨w.heap.size + 1 + 1,0,none⟩=some (.int .i64 ex):=vS
 clear R
 refine (kGy (RR.out.below Z) (Y.out.below Z)).mono ?_
 rintro e w1 ⟨pc,rfl,OP,N⟩
 obtain ⟨bq,rfl,a2⟩:=kw OP.raw
 obtain ⟨a8,bf,rfl,_⟩:=kD.sl a2
 clear a2
 have HP:=yD OP.rd
 have E1:=(tQ Z N)
 replace K5:=cL N K5
 replace K6:=cL N K6
 replace KN:=cL N KN
 replace o:=cL N o
 clear OP N Z
 cases fi:mOk n x.2.2.2.2.1
 · have HE:=yD (a7.out fi);go_wp2;go_ret;exact ⟨_,rfl,by rw [HE.out];exact kD.yF,E1.trans (Below.mono bI E1.size)⟩
 have HE:=yD (ba.out fi)
 clear a7 ba
 go_upto_region 4 with fail
 generalize O:World.alloc w1 _=wC
 have aa:Qb w1 wC:=tC
 have KP:Qd wC w1 0 (.slice a8 (kEs n x.2.2.2.2.1).length bf):=vT
 clear O
 replace K5:=cL aa K5
 replace K6:=cL aa K6
 replace KN:=cL aa KN
 replace o:=cL aa o
 have EC:=(tQ E1 aa)
 have X:=cell_lt K6
 have ab:=cell_lt KP
 go_wp2_with fail
 refine (jBb (RR.out.below EC) (Y.out.below EC) L).mono ?_
 rintro e w2 ⟨v2,rfl,O2,ag⟩
 obtain ⟨oa,on,oc,ho,ay⟩:=O2.parts
 obtain rfl:=ho
 have J:=yD O2
 have ai:=yD ag
 have ax:=ag.size
 have E2:=(tQ EC ag)
 replace K6:=cL ag K6
 replace KP:=cL ag KP
 clear O2 ag
 go_wp2_with fail
 have a5:Hid (∀ wr,Touch (jg wC w2) w2 wr->∀ z c,kD.int.raw wr [c] z->Ak prog 117 (#[c]++#[.pointer (some ⟨w.heap.size + 1 + 1,0,none⟩)]) wr (λe w'=>e=.returned (.bool (z==ex))/\Qb wr w')):=yD (λwr E z c hz=>by
   have e:=ai.out.trans (E.below ai.out.size (λi hi=>hi.1));obtain ⟨hc,_⟩:=kD.yX hz;obtain rfl:c=_:=by simpa using hc
   exact (kXw (cL e o)).mono (λe2 w2 h=>⟨h.1,by rw [h.2];exact bR⟩))
 refine (kVw (λz=>z==ex) kSf J.out (by have:=kLl (l:=x.2.2.2.2.1) (n:=n);have:=HA.out;omega) a5.out).mono ?_
 rintro e w3 ⟨v3,rfl,O3,T3⟩
 obtain ⟨da,D,dc,hd,W⟩:=O3.parts
 obtain rfl:=hd
 have ae:=T3.below (B:=wC.heap.size) ax (λi hi=>hi.1)
 have ap:=T3.size
 have aq:=yD O3
 have E3:=E2.trans (T3.below bF2 vF)
 have H:Qb wC w3:=ai.out.trans ae
 have ad:Qd w3 w 6 (Qs en x.2.2.2.2.2.1 ej):=T3.cell (by intro q;have:=q.1;omega) K6
 have ac:Qd w3 w1 0 (.slice a8 (kEs n x.2.2.2.2.1).length bf):=T3.cell (by intro q;have:=q.1;omega) KP
 clear O3 T3 J a5 K6 KP ae
 have HD:Hid ((kD.slice 3 kD.int).rd w3 [.slice da D dc] ((kDz x.2.2.2.2.1 n).filter (λz=>!(z==ex)))):=yD ((aq.out.own (by have:=kLl (l:=x.2.2.2.2.1) (n:=n);have:=HA.out;have:=Aa (λz=>!(z==ex)) (kDz x.2.2.2.2.1 n);unfold Big;omega)).rd)
 go_wp2_with fail
 refine (kXv (RM.out.below E3) (HP.out.below (tQ aa H)) HD.out (by have:=kLl (l:=x.2.2.2.2.1) (n:=n);have:=Aa (λz=>!(z==ex)) (kDz x.2.2.2.2.1 n);omega)).mono ?_
 rintro e w4 ⟨v4,rfl,O4,F⟩
 obtain ⟨ra,rp,rfl,_⟩:=kD.sl O4.raw
 have ao:=yD O4
 clear O4
 go_wp2
 go_ret
 exact ⟨_,rfl,by rw [HE.out];exact ao.out.wide sJ,(tQ E3 F)⟩
def kPz {w:Ad} {cx:Ai Ae} {x:jX} (hx:jo.rd w cx x) {cn:Ai Ae} {n:ko} (hn:kR.rd w cn n) {ex:Int} (ah:Qi ex) :
    Ak prog 60 #[.agg cx.toArray,.agg cn.toArray,.int .i64 ex] w (kBh (kD.slice 3 kD.int) (kIp x n ex) w):=by
 obtain ⟨q1,q2,q3,q4,q5,q6,q7⟩:=hx.2
 have HA:Hid (x.2.2.2.2.1.length<=16777216):=yD q5.1
 have Y:=yD hn
 obtain ⟨nv,rfl,az⟩:=kw hn.1
 obtain ⟨na,np,rfl,_⟩:=kD.sl az
 obtain ⟨f6,f4,gp,gm,gj,gb,rfl,V,a9,bl,bi,bg,bo,b1,cf,du⟩:=yO hx.1
 obtain ⟨em,d7,rfl,gi,dx,dw,rfl,gf,e9,e6,rfl,gx,e7,e4,rfl,gz,e0,ey,rfl,g3,en,ej,rfl,gv⟩:=kD.sx V (kD.sx bi (kD.sx bg (kD.sx bo (kD.sx b1 (kD.sl cf)))))
 obtain ⟨RR,RM⟩:=DV
 clear az hn hx q1 q2 q3 q4 q5 q6 q7 V a9 bl bi bg bo b1 cf du
 have a7:=yD (jFu (x:=x) (n:=n) (ex:=ex))
 have ba:=yD (jAf (x:=x) (n:=n) (ex:=ex))
 have J:=yD (jEc (x:=x) (n:=n) (ex:=ex))
 go_enter func60,ntmps60
 go_wp2_with fail
 generalize R:World.alloc (World.alloc w _) _=U
 obtain ⟨Z,K5,K6,KN⟩:=EZ
 clear R
 refine (kGs (RR.out.below Z) (Y.out.below Z)).mono ?_
 rintro e w1 ⟨pc,rfl,OP,N⟩
 obtain ⟨bq,rfl,a2⟩:=kw OP.raw
 obtain ⟨a8,bf,rfl,_⟩:=kD.sl a2
 clear a2
 have HP:=yD OP.rd
 have E1:=(tQ Z N)
 replace K5:=cL N K5
 replace K6:=cL N K6
 replace KN:=cL N KN
 clear OP N Z
 generalize fi:mOk n x.2.2.2.2.1=ok at *
 go_upto_region 2 with fail
 generalize O:World.alloc w1 _=wC
 have aa:Qb w1 wC:=tC
 have KP:Qd wC w1 0 (.slice a8 (kEs n x.2.2.2.2.1).length bf):=vT
 clear O
 replace K5:=cL aa K5
 replace K6:=cL aa K6
 replace KN:=cL aa KN
 have EC:=(tQ E1 aa)
 have FX:=yD (λ(W:Ad) (hW:Qb wC W)=>kDk hW K5 K6 KN KP)
 refine kK (λW=>Qb wC W) [Tt,Tt,Tt,Tt,Tt,Tt,Ff,Ff,Tt] bE5 bE5 qW (bR.drew) ?_
 intro wS E
 all_goals ((iterate 6 refine kS ?_);(first|(refine kI rfl E ?_)|(refine ku rfl (λK H=>?_);go_simp;refine (kZl (RR.out.below (tQ EC E)) (Y.out.below (tQ EC E))).mono ?_;rintro e wT ⟨hv,rfl,OH,ai⟩;obtain ⟨ha,hp,rfl,_⟩:=kD.sl OH.raw;have af:=yD OH;clear OH;replace E:=(tQ E ai);refine H _ _ E ?_;clear H K ai));refine jH ?_;(first|(refine kI rfl E ?_)|(refine ku rfl (λK H=>?_);go_simp;refine (kXf (RM.out.below (tQ EC E)) (HP.out.below (tQ aa E)) af.out.rd).mono ?_;rintro e wU ⟨fv,rfl,OF,D⟩;obtain ⟨fa,fp,rfl,_⟩:=kD.sl OF.raw;have HF:=yD OF;clear OF;replace E:=(tQ E D);refine H _ _ E ?_;clear H K D));refine jH ?_;refine kS ?_;refine kM ?_)
 generalize wU=w4 at *
 have E4:=(tQ EC E)
 have b5:=E4.size
 have ag:Hid ((kNg x.2.2.2.2.2.1 (kEs n x.2.2.2.2.1) (kDz x.2.2.2.2.1 n)).length<=16777216):=yD (by rw [kPi];have:=kLl (l:=x.2.2.2.2.1) (n:=n);have:=HA.out;omega)
 have ae:=yD HF.out.raw
 clear af HF KP K5 K6 KN E
 generalize kNg x.2.2.2.2.2.1 (kEs n x.2.2.2.2.1) (kDz x.2.2.2.2.1 n)=F at *
 have gg:F.length<=16777216:=ag.out
 go_wp2
 go_loopw [10,11] (λv i wr=>∃ (k:Nat),k<=F.length/\i=.int .i64 k/\(ok=false->k=0)/\Hid (kD.kY 3 kD.int wr v ((F.take k).filter (λz=>!(z==ex))) (jg w4 wr))/\Qb w4 wr) (λ_ i _=>F.length - (intOf i).toNat)
 case atStart=>exact ⟨0,Nat.zero_le _,rfl,λ_=>rfl,yD kD.kY.void,bI⟩
 obtain ⟨k,hk,rfl,b9,HI,o⟩:=hrel
 obtain ⟨ia,bj,ic,hi,an⟩:=HI.out.parts
 obtain rfl:=hi
 have a3:=yD b9
 clear b9
 have bk:=o.size
 have dq:=Ac k
 by_cases hlt:k < F.length
 · have aj:(k:Int) < F.length:=bF2;cases ok
   · have ar:Hid (kIp x n ex=(F.take k).filter (λz=>!(z==ex))):=yD (by rw [a7.out rfl,a3.out rfl];rfl);exact o8
   have bt:(k:Int) < F.length:=bF2;have be:=λq=>kDj (p:=λz=>!(z==ex)) hlt q;have bh:=λq=>kCc (p:=λz=>!(z==ex)) hlt q;have hil:bj<=16777216:=by have h1:=an.out;have h2:=zf (p:=λz=>!(z==ex)) (l:=F) (k:=k) bF2;omega
   have bp:((F.take k).filter (λz=>!(z==ex))).length<=16777216:=by have h2:=zf (p:=λz=>!(z==ex)) (l:=F) (k:=k) bF2;omega
   obtain ⟨qb,qo,rfl,ac,qr,A0⟩:=kD.kCk (ae.out.below o) hlt rfl;obtain ⟨ad,ab⟩:=kD.yX qr;obtain rfl:ac=_:=by simpa using ad
   generalize F[k]=z at *;have a1:=yD be;have al:=yD bh;clear be bh ad qr;cases hq:(z==ex)
   · have L:=yD (a1.out (by rw [hq];rfl));have hne:(z != ex)=true:=by simp only [bne,hq];rfl
     clear a1 al;go_wp2_with (at_builtin;refine kD.jR rfl _ _ 79 rfl (r:=kD.int) (e:=3) Bb kBl rfl bF1 bF1 (B:=w4.heap.size) HI.out bF4 bF4 rfl (kD.ky ab _) rfl (λ_ _ h=>h) sI (λ_ h=>h.elim) bF2 bF2 ?_);intro v5 w5 hown X b4;have am:=yD (kD.kY.cast hown L.out.symm);have bd:=o.trans X;clear hown X;refine Qg ?_;exact ⟨k + 1,by omega,by go_num,(λh=>Ab h),am,bd⟩
   have L:=yD (al.out (by rw [hq];rfl));have hne:(z != ex)=false:=by simp only [bne,hq];rfl
   clear a1 al;refine Qg ?_;exact ⟨k + 1,by omega,by go_num,(λh=>Ab h),yD (HI.out.cast L.out.symm),o⟩
 have bt:¬ (k:Int) < F.length:=bF2
 have ar:Hid (kIp x n ex=(F.take k).filter (λz=>!(z==ex))):=yD (by 
         obtain rfl:k=F.length:=bF2;rw [Ag];cases ok
         · rw [a7.out rfl];have h0:=a3.out rfl;rw [Ah h0];rfl
         · exact J.out rfl)
 exact o8
end Go.Proofs.YthocbplmdjkifaaGreat

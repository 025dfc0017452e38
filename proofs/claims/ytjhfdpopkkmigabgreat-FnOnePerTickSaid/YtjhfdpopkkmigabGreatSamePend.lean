/-
  Pending interests compared by the laws.
-/
import Derived.Test.YtjhfdpopkkmigabGreatHops
import Derived.Test.YtjhfdpopkkmigabGreatDrawA
set_option linter.unusedVariables false
set_option linter.defProp false
set_option linter.unusedSimpArgs false
set_option linter.unnecessarySimpa false
set_option maxRecDepth 100000
set_option maxHeartbeats 4000000
open Bool renaming true->Tt,false->Ff
open List.cons renaming injEq->Aa
open Bool renaming eq_iff_iff->Ab,not_false->Ac,and_false->Ad,false_and->Ae,not_true->Ag,and_true->Ah,true_and->Ai,or_false->Aj,false_or->Ak,or_true->Al,true_or->Am,not_not->Ap,noConfusion->Bc
open Int renaming natCast_nonneg->Aq,ofNat_lt->Ay
open List renaming drop_eq_getElem_cons->Ar,take_length->Aw,length_filter_le->Bb
open Go renaming World->Au,Value->Av,Calls->Az
open Go.RowKit renaming intOf->Ba
open _root_ renaming List->Bd
namespace Go.Proofs.YtjhfdpopkkmigabGreat
open Go.RowKit _root_.Go.Proofs.Tryz
def kSy {w:Au} {v:Av} {l:Bd Int} {g:FuncId} {cp:Array Av} {S:Nat->Prop} (p:Int->Bool) (hg:jK prog g) (hl:kD.kQ 3 kD.int w v l S) (hlen:l.length<=16777216)
    (F:∀ wr,Touch S w wr->∀ x c,kD.int.raw wr [c] x->Az prog g (#[c]++cp) wr (λe w'=>e=.returned (.bool (p x))/\Qb wr w')) :
    Az prog 55 #[v,.func (.func g) #[] cp] w λe w'=>∃ v',e=.returned v'/\kD.kQ 3 kD.int w' v' (l.filter (λx=>!p x)) S/\Touch S w w':=by
 have au:=yD F;clear F
 have I:=yD hl
 have Z:=yD hg
 unfold jK at hg
 have HI:Hid (∀ va,v=va->Az prog 118 #[va,.func (.func g) #[] cp] w λe w'=>e=.returned (.int .i64 (idxOf p l))/\Qb w w'):=yD (λva hv=>by
   subst hv;exact kUw p Z.out (I.out.own hlen).raw (λwr hb i h c hr=>au.out wr (Touch.of_below hb) _ c hr))
 rcases kMr p l with ⟨hi,hno⟩|⟨i,hil,hi,hyes,hno⟩
 · obtain ⟨oa,on,oc,ho,a1⟩:=hl.parts;obtain rfl:=ho;rw [hi] at HI;have HF:=yD (kMs hno).symm;clear hno hi hl;go_enter func55,ntmps55;exact aT
 obtain ⟨b,cap,rfl,R⟩:=kD.kJq hl hil
 rw [hi] at HI
 rw [Ar hil] at R
 obtain ⟨N,bx,ae,ad,b0⟩:=FO
 simp only [List.length_take,List.length_cons,List.length_drop] at b0
 have a4:l.length<=cap:=b0.2.1
 have U:cap<=9223372036854775807:=qH
 clear hno hi hl R hyes I b0
 have be:((i:Int)==-1)=false:=sV
 go_enter func55,ntmps55
 go_wp2_with fail
 refine (HI.out _ rfl).mono ?_
 rintro e w1 ⟨rfl,O⟩
 have G1:=yD (N.below O)
 have E1:=yD (Touch.of_below (S:=S) O)
 clear N HI
 go_wp2
 go_loopw [5,6] (λq c wr=>∃ m kn:Nat,m<=l.length/\kn + 1<=m/\q=.int .i64 kn/\c=.int .i64 m/\Hid (kn=((l.take m).filter (λy=>!p y)).length)/\Hid (kD.gap 3 kD.int wr b cap l.length ((l.take m).filter (λy=>!p y)) (m - kn) (l.drop m) S)/\Hid (Touch S w wr)) (λ_ c _=>l.length - (Ba c).toNat)
 case atStart =>
  exact aU
 clear E1 G1 ae bx O
 obtain ⟨m,kn,hm,du,rfl,rfl,ei,G,E⟩:=hrel
 by_cases hlt:m < l.length
 · have V:=G.out;rw [Ar hlt] at V;obtain ⟨bo,br⟩:=IC;obtain ⟨cs,hr,F,X,Y,H⟩:=V.next;have J:=V.skip;have ah:=V.frozen;generalize l[m]=x at *;have ao:=yD bo;have ax:=yD br;clear bo br V;rw [<- ei.out] at Y H;rw [show kn + (m - kn)=m by omega] at Y;obtain ⟨c0,rfl⟩:∃ c0,cs=[c0]:=by
    have ba:=kD.int.len hr
    match cs,ba with
    | [c0],_=>exact ⟨_,rfl⟩
   have A0:Qc wr b m c0:=by have:=Y 0 c0 rfl;simpa [show kD.int.n=1 from rfl] using this
   have o:∀ q,q < 1->kn * 1 + q < cap * 1:=by intro q hq;omega
   obtain ⟨o0,O0⟩:=Option.isSome_iff_exists.1 (G.out.cells (i:=kn) (by have:=o 0 bH3;simp only [show kD.int.n=1 from rfl];omega));have Z0:=ah kn;have HR:=yD hr;obtain ⟨aa,D⟩:=kD.je hr;obtain rfl:c0=_:=by simpa using aa
   clear aa D hr F Y o ah;have an:=yD H;have ac:=yD J;clear H J;have HB:=yD (G.out.lt);go_wp2_with fail;refine (au.out wr E.out _ _ HR.out).mono ?_;rintro e w5 ⟨rfl,bh⟩;have E5:=yD bh;clear bh;cases hp:p x
   · have L:=yD (ao.out bG9);replace O0:=cL E5.out O0;replace Z0:=(E5.out.frozen (p:=⟨b,kn,none⟩) HB.out).trans Z0;obtain ⟨W,al⟩:=an.out w5 E5.out bH3 _ rfl;simp only [show kD.int.n=1 from rfl,Nat.mul_one] at W al;exact aV
   exact aW
 obtain rfl:m=l.length:=bH3
 have V:=G.out
 rw [List.drop_length,Aw] at V
 rw [Aw] at ei
 have HG:=yD V;clear V G
 obtain ⟨ak,am,aq,ap,bz⟩:=DW
 obtain ⟨w6,af,h6,t6⟩:=HG.out.kJl (P:=prog) (t:=49) (ty:=0) (c:=cap - kn) (p:=kn) bz underlying49 kAm rfl bH2 (kVh _ bH2) (by simp only [show kD.int.n=1 from rfl];rw [<- ei.out,Nat.mul_one])
 exact aX
def outOk (x:jd) (n:kg):Bool:=mOk n x.2.2.2.2.1
def kEw (x:jd) (n:kg) (ex:Int):Bd Int:=if outOk x n then kLf x.2.2.2.2.2.1 (kEl n x.2.2.2.2.1) ((kEm x.2.2.2.2.1 n).filter (λf=>!(f==ex))) else []
def outF_no {x:jd} {n:kg} {ex:Int} (h:mOk n x.2.2.2.2.1=false):kEw x n ex=[]:=by unfold kEw outOk;rw [h];rfl
def kWo {x:jd} {n:kg} {ex:Int} (h:mOk n x.2.2.2.2.1=true):kEw x n ex=kLf x.2.2.2.2.2.1 (kEl n x.2.2.2.2.1) ((kEm x.2.2.2.2.1 n).filter (λf=>!(f==ex))):=by unfold kEw outOk;rw [h];rfl
def kZv {x:jd} {n:kg} {ex:Int} (h:mOk n x.2.2.2.2.1=true):kEw x n ex=(kLf x.2.2.2.2.2.1 (kEl n x.2.2.2.2.1) (kEm x.2.2.2.2.1 n)).filter (λf=>!(f==ex)):=by
 rw [kWo h];unfold kLf;rw [Srt.kYm]
def kQk {x:jd} {n:kg} {ex:Int}:(kEw x n ex).length<=x.2.2.2.2.1.length:=by
 unfold kEw;split
 · rw [kNg];exact Nat.le_trans (Bb _ _) kNo
 exact Nat.zero_le _
def kUs {w:Au} {f ex:Int} {B:Nat} (A:Qc w B 0 (.int .i64 ex)):Az prog 57 (#[.int .i64 f]++#[.pointer (some ⟨B,0,none⟩)]) w λe w'=>e=.returned (.bool (f==ex))/\w'=w:=by
 show Az prog 57 #[_,_] w _;go_enter func57,ntmps57;go_wp2;go_ret;exact ⟨rfl,rfl⟩
def kPi:jK prog 57:=zP func57 bG6 bG6
def cell_lt {w:Au} {b i:Nat} {v:Av} (k:Qc w b i v):b < w.heap.size:=by
 rcases Nat.lt_or_ge b w.heap.size with q | q
 · exact q
 unfold World.cell? at k;simp [Array.getElem?_eq_none q] at k
def Touch.cell {S:Nat->Prop} {w w':Au} {b i:Nat} {v:Av} (h:Touch S w w') (hb:¬ S b) (k:Qc w b i v):Qc w' b i v:=by
 exact aA
def kGq {w:Au} {cx:Bd Av} {x:jd} (hx:yB.rd w cx x) {cn:Bd Av} {n:kg} (hn:kN.rd w cn n) {ex:Int} (ac:Qi ex) :
    Az prog 12 #[.agg cx.toArray,.agg cn.toArray,.int .i64 ex] w (kBb (kD.slice 3 kD.int) (kEw x n ex) w):=by
 obtain ⟨q1,q2,q3,q4,q5,q6,q7⟩:=hx.2
 have HA:Hid (x.2.2.2.2.1.length<=16777216):=yD q5.1
 have HN:=yD hn
 obtain ⟨nv,rfl,a5⟩:=kX hn.1
 obtain ⟨na,np,rfl,_⟩:=kD.sl a5
 obtain ⟨gb,gd,gv,gu,gs,gq,rfl,Z,ba,bq,bm,bj,bu,b2,dg,eg⟩:=yY hx.1
 obtain ⟨dx,dv,rfl,gl⟩:=kD.sl Z
 obtain ⟨dy,dw,rfl,gt⟩:=kD.sl bm
 obtain ⟨e7,e1,rfl,g8⟩:=kD.sl bj
 obtain ⟨e4,e0,rfl,hm⟩:=kD.sl bu
 obtain ⟨eu,er,rfl,hs⟩:=kD.sl b2
 obtain ⟨en,eh,rfl,hh⟩:=kD.sl dg
 obtain ⟨RR,RM⟩:=GH
 clear a5 hn hx q1 q2 q3 q4 q5 q6 q7 Z ba bq bm bj bu b2 dg eg
 have a4:=yD (outF_no (x:=x) (n:=n) (ex:=ex));have av:=yD (kWo (x:=x) (n:=n) (ex:=ex));have R:=yD (kZv (x:=x) (n:=n) (ex:=ex));have dd:=yD (kQk (x:=x) (n:=n) (ex:=ex))
 go_enter func12,ntmps12
 go_wp2_with fail
 generalize J:World.alloc (World.alloc (World.alloc w _) _) _=N
 obtain ⟨EB,K5,K6,X⟩:=G8
 have o:N.cell? ⟨w.heap.size + 1 + 1,0,none⟩=some (.int .i64 ex):=wF
 clear J
 have bk:=EB.size
 refine (kGj (RR.out.below EB) (HN.out.below EB)).mono ?_
 rintro e w1 ⟨pc,rfl,OP,O⟩
 obtain ⟨b8,rfl,a7⟩:=kX OP.raw
 obtain ⟨a2,a3,rfl,_⟩:=kD.sl a7
 clear a7
 have HP:=yD OP.rd
 have E1:=(tQ EB O)
 have bf:=E1.size
 replace K5:=cL O K5
 replace K6:=cL O K6
 replace X:=cL O X
 replace o:=cL O o
 clear OP O EB
 cases f1:mOk n x.2.2.2.2.1
 · have HE:=yD (a4.out f1);go_wp2;go_ret;exact ⟨_,rfl,by rw [HE.out];exact kD.jm,E1.trans (Below.mono bI E1.size)⟩
 have HE:=yD (av.out f1)
 clear a4 av R
 go_upto_region 4 with fail
 generalize D:World.alloc w1 _=wC
 have an:Qb w1 wC:=tL
 have KP:Qd wC w1 0 (.slice a2 (kEl n x.2.2.2.2.1).length a3):=wG
 clear D
 replace K5:=cL an K5
 replace K6:=cL an K6
 replace X:=cL an X
 replace o:=cL an o
 have EC:=(tQ E1 an)
 have aw:=EC.size
 have G:=cell_lt K6
 have H:=cell_lt KP
 go_wp2_with fail
 refine (kXe (RR.out.below EC) (HN.out.below EC)).mono ?_
 rintro e V ⟨v2,rfl,O2,af⟩
 obtain ⟨oa,on,oc,ho,a1⟩:=O2.parts;obtain rfl:=ho
 have I:=yD O2;have ax:=yD af
 have a9:=af.size
 have E2:=(tQ EC af)
 have W:=cL af o
 replace K6:=cL af K6
 replace KP:=cL af KP
 clear O2 af
 go_wp2_with fail
 have au:Hid (∀ wr,Touch (jb wC.heap.size V.heap.size) V wr->∀ z c,kD.int.raw wr [c] z->Az prog 57 (#[c]++#[.pointer (some ⟨w.heap.size + 1 + 1,0,none⟩)]) wr (λe w'=>e=.returned (.bool (z==ex))/\Qb wr w')):=yD (λwr E z c hz=>by
   have e:=ax.out.trans (E.below ax.out.size (λi hi=>hi.1));obtain ⟨hc,_⟩:=kD.je hz;obtain rfl:c=_:=by simpa using hc
   exact (kUs (cL e o)).mono (λe2 V h=>⟨h.1,by rw [h.2];exact bR⟩))
 refine (kSy (λz=>z==ex) kPi I.out (by have:=kNo (l:=x.2.2.2.2.1) (n:=n);have:=HA.out;omega) au.out).mono ?_
 rintro e w3 ⟨v3,rfl,O3,T3⟩
 obtain ⟨da,L,dc,hd,U⟩:=O3.parts;obtain rfl:=hd
 have aa:=T3.below (B:=wC.heap.size) a9 (λi hi=>hi.1)
 have ay:=T3.size
 have ai:=yD O3
 have E3:=E2.trans (T3.below bH3 vI)
 have F:Qb wC w3:=ax.out.trans aa
 have ab:Qd w3 w 6 (.slice en x.2.2.2.2.2.1.length eh):=T3.cell (by intro q;have:=q.1;omega) K6
 have Y:Qd w3 w1 0 (.slice a2 (kEl n x.2.2.2.2.1).length a3):=T3.cell (by intro q;have:=q.1;omega) KP
 clear O3 T3 I au K6 KP aa
 have HD:Hid ((kD.slice 3 kD.int).rd w3 [.slice da L dc] ((kEm x.2.2.2.2.1 n).filter (λz=>!(z==ex)))):=yD ((ai.out.own (by have:=kNo (l:=x.2.2.2.2.1) (n:=n);have:=HA.out;have:=Bb (λz=>!(z==ex)) (kEm x.2.2.2.2.1 n);unfold Big;omega)).rd)
 go_wp2_with fail
 refine (kUr (RM.out.below E3) (HP.out.below (tQ an F)) HD.out).mono ?_
 rintro e w4 ⟨v4,rfl,O4,ad⟩
 obtain ⟨ra,rp,rfl,_⟩:=kD.sl O4.raw
 have bl:=yD O4;clear O4
 have b1:=ad.size;have bz:=E3.size
 go_wp2
 go_ret
 exact ⟨_,rfl,by rw [HE.out];exact bl.out.wide rR,(tQ E3 ad)⟩
def kNu {w:Au} {cx:Bd Av} {x:jd} (hx:yB.rd w cx x) {cn:Bd Av} {n:kg} (hn:kN.rd w cn n) {ex:Int} (ac:Qi ex) :
    Az prog 46 #[.agg cx.toArray,.agg cn.toArray,.int .i64 ex] w (kBb (kD.slice 3 kD.int) (kEw x n ex) w):=by
 obtain ⟨q1,q2,q3,q4,q5,q6,q7⟩:=hx.2
 have HA:Hid (x.2.2.2.2.1.length<=16777216):=yD q5.1
 have HN:=yD hn
 obtain ⟨nv,rfl,a5⟩:=kX hn.1
 obtain ⟨na,np,rfl,_⟩:=kD.sl a5
 obtain ⟨gb,gd,gv,gu,gs,gq,rfl,Z,ba,bq,bm,bj,bu,b2,dg,eg⟩:=yY hx.1
 obtain ⟨dx,dv,rfl,gl⟩:=kD.sl Z
 obtain ⟨dy,dw,rfl,gt⟩:=kD.sl bm
 obtain ⟨e7,e1,rfl,g8⟩:=kD.sl bj
 obtain ⟨e4,e0,rfl,hm⟩:=kD.sl bu
 obtain ⟨eu,er,rfl,hs⟩:=kD.sl b2
 obtain ⟨en,eh,rfl,hh⟩:=kD.sl dg
 obtain ⟨RR,RM⟩:=GH
 clear a5 hn hx q1 q2 q3 q4 q5 q6 q7 Z ba bq bm bj bu b2 dg eg
 have a4:=yD (outF_no (x:=x) (n:=n) (ex:=ex));have av:=yD (kWo (x:=x) (n:=n) (ex:=ex));have R:=yD (kZv (x:=x) (n:=n) (ex:=ex));have dd:=yD (kQk (x:=x) (n:=n) (ex:=ex))
 go_enter func46,ntmps46
 go_wp2_with fail
 generalize J:World.alloc (World.alloc w _) _=N
 obtain ⟨EB,K5,K6,X⟩:=G8
 clear J
 have bk:=EB.size
 refine (kGc (RR.out.below EB) (HN.out.below EB)).mono ?_
 rintro e w1 ⟨pc,rfl,OP,O⟩
 obtain ⟨b8,rfl,a7⟩:=kX OP.raw
 obtain ⟨a2,a3,rfl,_⟩:=kD.sl a7
 clear a7
 have HP:=yD OP.rd
 have E1:=(tQ EB O)
 have bf:=E1.size
 replace K5:=cL O K5
 replace K6:=cL O K6
 replace X:=cL O X
 clear OP O EB
 generalize f1:mOk n x.2.2.2.2.1=ok at *
 go_upto_region 2 with fail
 generalize D:World.alloc w1 _=wC
 have an:Qb w1 wC:=tL
 have KP:Qd wC w1 0 (.slice a2 (kEl n x.2.2.2.2.1).length a3):=wG
 clear D
 replace K5:=cL an K5
 replace K6:=cL an K6
 replace X:=cL an X
 have EC:=(tQ E1 an)
 have aw:=EC.size
 have FX:=yD (λ(W:Au) (hW:Qb wC W)=>kEe hW K5 K6 X KP)
 refine kK (λW=>Qb wC W) [Tt,Tt,Tt,Tt,Tt,Tt,Ff,Ff,Tt] bG6 bG6 qY (bR.drew) ?_
 intro wS E
 iterate 6
  all_goals refine ky ?_
 all_goals first|(refine kJ rfl E ?_)|(refine kw rfl (λK H=>?_);go_simp;refine (kVy (RR.out.below (tQ EC E)) (HN.out.below (tQ EC E))).mono ?_;rintro e wT ⟨hv,rfl,OH,al⟩;obtain ⟨ha,hp,rfl,_⟩:=kD.sl OH.raw;have ab:=yD OH;clear OH;replace E:=(tQ E al);refine H _ _ E ?_;clear H K al)
 all_goals refine jG ?_
 all_goals first|(refine kJ rfl E ?_)|(refine kw rfl (λK H=>?_);go_simp;refine (kUb (RM.out.below (tQ EC E)) (HP.out.below (tQ an E)) ab.out.rd).mono ?_;rintro e wU ⟨fv,rfl,OF,I⟩;obtain ⟨fa,fp,rfl,_⟩:=kD.sl OF.raw;have HF:=yD OF;clear OF;replace E:=(tQ E I);refine H _ _ E ?_;clear H K I)
 all_goals refine jG ?_
 all_goals refine ky ?_
 all_goals refine kS ?_
 generalize wU=w4 at *
 have E4:=(tQ EC E)
 have b1:=E4.size
 have bw:Hid ((kLf x.2.2.2.2.2.1 (kEl n x.2.2.2.2.1) (kEm x.2.2.2.2.1 n)).length<=16777216):=yD (by rw [kNg];have:=kNo (l:=x.2.2.2.2.1) (n:=n);have:=HA.out;omega)
 have V:=yD HF.out.raw
 clear ab HF KP K5 K6 X E
 generalize kLf x.2.2.2.2.2.1 (kEl n x.2.2.2.2.1) (kEm x.2.2.2.2.1 n)=F at *
 have gf:F.length<=16777216:=bw.out
 go_wp2
 go_loopw [10,11] (λv i wr=>∃ (k:Nat),k<=F.length/\i=.int .i64 k/\(ok=false->k=0)/\Hid (kD.kQ 3 kD.int wr v ((F.take k).filter (λz=>!(z==ex))) (jb w4.heap.size wr.heap.size))/\Qb w4 wr) (λ_ i _=>F.length - (Ba i).toNat)
 case atStart=>exact ⟨0,Nat.zero_le _,rfl,λ_=>rfl,yD kD.kQ.void,bI⟩
 obtain ⟨k,hk,rfl,ce,HI,o⟩:=hrel
 obtain ⟨ia,bd,ic,hi,aa⟩:=HI.out.parts;obtain rfl:=hi
 have bx:=yD ce;clear ce
 have bt:=o.size
 have du:=Aq k
 by_cases hlt:k < F.length
 · have ae:(k:Int) < F.length:=bH3;cases ok
   · have U:Hid (kEw x n ex=(F.take k).filter (λz=>!(z==ex))):=yD (by rw [a4.out rfl,bx.out rfl];rfl);exact mG
   have be:(k:Int) < F.length:=bH3;have bo:=λq=>kFr (p:=λz=>!(z==ex)) hlt q;have br:=λq=>kDi (p:=λz=>!(z==ex)) hlt q;have hil:bd<=16777216:=by have h1:=aa.out;have h2:=kAh (p:=λz=>!(z==ex)) (l:=F) (k:=k) bH3;omega
   have bi:((F.take k).filter (λz=>!(z==ex))).length<=16777216:=by have h2:=kAh (p:=λz=>!(z==ex)) (l:=F) (k:=k) bH3;omega
   obtain ⟨qb,qo,rfl,Y,qr,A0⟩:=kD.kCu (V.out.below o) hlt rfl;obtain ⟨G,ad⟩:=kD.je qr;obtain rfl:Y=_:=by simpa using G
   generalize F[k]=z at *;have ao:=yD bo;have ax:=yD br;clear bo br G qr;cases hq:(z==ex)
   · have L:=yD (ao.out (by rw [hq];rfl));have hne:(z != ex)=true:=by simp only [bne,hq];rfl
     clear ao ax;go_wp2_with (at_builtin;refine kD.jP rfl _ _ 49 rfl (r:=kD.int) (e:=3) underlying49 kAm rfl bH2 bH2 (B:=w4.heap.size) HI.out bH5 bH5 rfl (kD.ku ad _) rfl (λ_ _ h=>h) rQ (λ_ h=>h.elim) bH3 bH3 ?_);intro v5 w5 hown bh bz;have aj:=yD (kD.kQ.cast hown L.out.symm);have bb:=o.trans bh;clear hown bh;go_wp2;go_roundw;case rel=>exact ⟨k + 1,by omega,by go_num,(λh=>Bc h),aj,bb⟩
     simp [Ba];omega
   have L:=yD (ax.out (by rw [hq];rfl));have hne:(z != ex)=false:=by simp only [bne,hq];rfl
   clear ao ax;go_wp2;go_roundw;case rel=>exact ⟨k + 1,by omega,by go_num,(λh=>Bc h),yD (HI.out.cast L.out.symm),o⟩
   simp [Ba];omega
 have be:¬ (k:Int) < F.length:=bH3
 have U:Hid (kEw x n ex=(F.take k).filter (λz=>!(z==ex))):=yD (by 
         obtain rfl:k=F.length:=bH3;rw [Aw];cases ok
         · rw [a4.out rfl];have h0:=bx.out rfl;rw [List.eq_nil_of_length_eq_zero h0];rfl
         · exact R.out rfl)
 exact mG
def kHf.lenN {x:jd} (h:kHf x):lenN 1048576 x:=by
 obtain ⟨a,b,c,d,e,f,_⟩:=h;exact lenN_mk bH3 bH3 (by have:=c.1;omega) (λy hy=>by have:=(c.2 y hy).1;omega) (by have:=d.1;omega) bH3 bH3
def vDatS (x y:jT):Bool:=!(!decide (x.1=y.1) || (!decide (x.2.1=y.2.1) || (!decide (x.2.2.1=y.2.2.1) || (!decide (x.2.2.2.1=y.2.2.2.1) || !decide (x.2.2.2.2=y.2.2.2.2)))))
def vDatS_eq (x y:jT):vDatS x y=decide (x=y):=by
 obtain ⟨U,F,x2,x3,x4⟩:=x;obtain ⟨y0,y1,y2,y3,y4⟩:=y;rw [Ab];simp [vDatS]
def jAr (x y:jL):Bool:=!((x.2 != y.2) || !eqN x.1 y.1)
def vSeenS_eq (x y:jL):jAr x y=decide (x=y):=by
 obtain ⟨U,F⟩:=x;obtain ⟨y0,y1⟩:=y;rw [Ab];simp [jAr,eqN];constructor
 · rintro ⟨h1,h2⟩;exact ⟨h2,h1⟩
 rintro ⟨h1,h2⟩;exact ⟨h2,h1⟩
def vCeS (x y:jC):Bool:=!((x.2 != y.2) || !decide (x.1=y.1))
def vCeS_eq (x y:jC):vCeS x y=decide (x=y):=by
 obtain ⟨U,F⟩:=x;obtain ⟨y0,y1⟩:=y;rw [Ab];simp [vCeS];constructor
 · rintro ⟨h1,h2⟩;exact ⟨h2,h1⟩
 rintro ⟨h1,h2⟩;exact ⟨h2,h1⟩
def vSt (x y:kz):Bool:=(x.1==y.1) && decide (x.2=y.2)
def vSt_eq (x y:kz):vSt x y=decide (x=y):=by
 obtain ⟨U,F⟩:=x;obtain ⟨y0,y1⟩:=y;rw [Ab];simp [vSt]
def vReq (x y:kU):Bool:=(x.1==y.1) && ((x.2.1==y.2.1) && (x.2.2==y.2.2))
def vReq_eq (x y:kU):vReq x y=decide (x=y):=by
 obtain ⟨U,F,x2⟩:=x;obtain ⟨y0,y1,y2⟩:=y;rw [Ab];simp [vReq]
def kIn (x y:kF):Bool:=!((x.2.2 != y.2.2) || (!eqN x.1 y.1 || ((x.2.1.length:Int) != y.2.1.length)))
def vPendS_no {x y:kF} (h:kIn x y=false):x≠y:=by
 rintro rfl;simp [kIn,eqN] at h
def kVl {x y:kF} (h:kIn x y=true):x.2.1.length=y.2.1.length/\(x.2.1=y.2.1->x=y):=by
 obtain ⟨U,F,x2⟩:=x;obtain ⟨y0,y1,y2⟩:=y;simp [kIn,eqN] at h;obtain ⟨h0,h1,h2⟩:=h;subst h0 h1;exact ⟨by show F.length=y1.length;omega,λq=>by simp at q;rw [q]⟩
def kVn (x y:jd):Bool:=(((((decide (x.1=y.1) && decide (x.2.1=y.2.1)) && decide (x.2.2.1=y.2.2.1)) && decide (x.2.2.2.1=y.2.2.2.1)) && decide (x.2.2.2.2.1=y.2.2.2.2.1)) && decide (x.2.2.2.2.2.1=y.2.2.2.2.2.1)) && (x.2.2.2.2.2.2==y.2.2.2.2.2.2)
def vNode_eq (x y:jd):kVn x y=decide (x=y):=by
 obtain ⟨U,F,x2,x3,x4,x5,x6⟩:=x;obtain ⟨y0,y1,y2,y3,y4,o,y6⟩:=y;rw [Ab];simp [kVn,and_assoc]
def kUh {w:Au} {va J:Av} {a b:Bd ByteArray} (Z:(kD.slice 9 kD.str).raw w [va] a) (a4:(kD.slice 9 kD.str).raw w [J] b) :
    Az prog 192 #[va,J] w (bQ w (.bool (eqN a b))):=by
 obtain ⟨aa,ao,rfl,la⟩:=kD.sl Z
 obtain ⟨ab,af,rfl,lb⟩:=kD.sl a4
 go_enter func192,ntmps192
 by_cases hl:a.length=b.length
 case neg =>
  exact lX
 obtain ⟨hz,bo⟩:=xW
 have HL:=yD hl;clear hl
 go_wp2
 go_loopw [5] (λi wr=>∃ k:Nat,k<=a.length/\i=.int .i64 k/\Hid (a.take k=b.take k)/\Qb w wr) (λi _=>a.length - (Ba i).toNat)
 case atStart=>exact ⟨0,Nat.zero_le _,rfl,yD rfl,bR⟩
 exact uU
def kAx {w:Au} {ca:Bd Av} {a:kg} (ha:kN.raw w ca a) {cb:Bd Av} {b:kg} (hb:kN.raw w cb b) :
    Az prog 161 #[.agg ca.toArray,.agg cb.toArray] w (bQ w (.bool (eqN a b))):=by
 obtain ⟨av,rfl,Z⟩:=kX ha
 obtain ⟨bv,rfl,a4⟩:=kX hb
 obtain ⟨aa,ao,rfl,la⟩:=kD.sl Z
 obtain ⟨ab,af,rfl,lb⟩:=kD.sl a4
 go_enter func161,ntmps161
 go_wp2_with fail
 refine (kUh (Z.below bI) (a4.below bI)).mono ?_
 rintro e w1 ⟨rfl,O⟩
 have EF:Qb w w1:=Below.trans bI (O.mono bG7)
 clear O
 go_wp2
 go_ret
 exact ⟨rfl,EF⟩
def kSe {w:Au} {va J:Av} {a b:(Bd jA)} (Z:(kD.slice 144 kY).raw w [va] a) (a4:(kD.slice 144 kY).raw w [J] b) :
    Az prog 94 #[va,J] w (bQ w (.bool (decide (a=b)))):=by
 obtain ⟨aa,ao,rfl,la⟩:=kD.sl Z
 obtain ⟨ab,af,rfl,lb⟩:=kD.sl a4
 go_enter func94,ntmps94
 by_cases hl:a.length=b.length
 case neg =>
  exact o6
 obtain ⟨hz,bo⟩:=xW
 have HL:=yD hl;clear hl
 go_wp2
 go_loopw [5] (λi wr=>∃ k:Nat,k<=a.length/\i=.int .i64 k/\Hid (a.take k=b.take k)/\Qb w wr) (λi _=>a.length - (Ba i).toNat)
 case atStart=>exact ⟨0,Nat.zero_le _,rfl,yD rfl,bR⟩
 obtain ⟨k,hk,rfl,HN,o⟩:=hrel
 by_cases hlt:k < a.length
 · have ad:k < b.length:=bB3;obtain ⟨pb,po,rfl,bm,cf,cd,pr,al,au,ax⟩:=kD.kAn (Z.below o) (i:=k) bH3 rfl;obtain ⟨qb,qo,rfl,Y,ae,ah,qr,ap,aq,ay⟩:=kD.kAn (a4.below o) (i:=k) bH3 rfl;obtain ⟨hne,D⟩:=CG;generalize a[k]=x at *;generalize b[k]=y at *;obtain ⟨HD,HX⟩:=AB;have H:=yD (vRouteS_eq x y);clear hne D;obtain ⟨U,F,x2⟩:=x;obtain ⟨y0,y1,y2⟩:=y;obtain ⟨b8,aw,a7,bj,bw,b3⟩:=jS pr;simp only [Aa,and_true] at aw;obtain ⟨rfl,rfl,rfl⟩:=aw;obtain ⟨a2,a3,rfl,cg⟩:=kD.sl bj;obtain ⟨a6,G,ag,ak,am,ar⟩:=jS qr;simp only [Aa,and_true] at G;obtain ⟨rfl,rfl,rfl⟩:=G;obtain ⟨ac,az,rfl,a8⟩:=kD.sl ak;go_wp2_with fail;have FX:=yD (λ(W:Au) (hW:Qb wr W)=>kIy hW al au ax ap aq ay);refine kK (λW=>Qb wr W) [Tt,Tt,Tt,Tt,Tt,Tt,Tt,Tt,Tt,Tt,Tt,Tt,Tt,Tt,Tt,Tt,Tt,Tt,Tt,Tt,Tt,Tt,Tt,Tt,Tt,Tt,Tt,Tt,Tt,Tt,Tt,Tt,Tt,Tt,Tt,Ff,Tt,Tt] bG6 bG6 qY (bR.drew) ?_;intro wS E;iterate 11
    all_goals refine ky ?_
   all_goals (refine jy λb an=>?_;cases b <;> try simp only [jw] at an)
   iterate 12
    all_goals refine ky ?_
   all_goals (refine jy λb I=>?_;cases b <;> try simp only [jw] at I)
   iterate 10
    all_goals refine ky ?_
   all_goals first | refine wkB (kAx (kD.raw.below a7 E) (kD.raw.below ag E)) (λwS1 E=>?_) | refine ky ?_
   all_goals refine ky ?_
   all_goals (refine jy λb N=>?_;cases b <;> try simp only [jw] at N)
   all_goals refine kS ?_
   all_goals have EG:=(tQ o E)
   all_goals first
     | (have X:=H.out.symm.trans (show _=false by simp only [kUy,Ag,Ac,Ah,Ai,Ad,Ae,Al,Am,Aj,Ak,Ap,an,I,N]);have L:=yD (HD.out X);clear X H HD HX;go_wp2;go_ret;exact ⟨kW L.out.symm,EG⟩)
     | (have X:=H.out.symm.trans (show _=true by simp only [kUy,Ag,Ac,Ah,Ai,Ad,Ae,Al,Am,Aj,Ak,Ap,an,I,N]);have L:=yD (HX.out X);clear X H HD HX;go_wp2;go_roundw;(case rel=>exact ⟨k + 1,by omega,by go_num,L,EG⟩);(case measure=>simp [Ba];omega))
 exact o7
def kXa {w:Au} {va J:Av} {a b:(Bd kZ)} (Z:(kD.slice 166 kR).raw w [va] a) (a4:(kD.slice 166 kR).raw w [J] b) :
    Az prog 95 #[va,J] w (bQ w (.bool (decide (a=b)))):=by
 obtain ⟨aa,ao,rfl,la⟩:=kD.sl Z
 obtain ⟨ab,af,rfl,lb⟩:=kD.sl a4
 go_enter func95,ntmps95
 by_cases hl:a.length=b.length
 case neg =>
  exact o6
 obtain ⟨hz,bo⟩:=xW
 have HL:=yD hl;clear hl
 go_wp2
 go_loopw [5] (λi wr=>∃ k:Nat,k<=a.length/\i=.int .i64 k/\Hid (a.take k=b.take k)/\Qb w wr) (λi _=>a.length - (Ba i).toNat)
 case atStart=>exact ⟨0,Nat.zero_le _,rfl,yD rfl,bR⟩
 obtain ⟨k,hk,rfl,HN,o⟩:=hrel
 by_cases hlt:k < a.length
 · have ad:k < b.length:=bB3;obtain ⟨pb,po,rfl,bm,cf,cd,pr,al,au,ax⟩:=kD.kAn (Z.below o) (i:=k) bH3 rfl;obtain ⟨qb,qo,rfl,Y,ae,ah,qr,ap,aq,ay⟩:=kD.kAn (a4.below o) (i:=k) bH3 rfl;obtain ⟨hne,D⟩:=CG;generalize a[k]=x at *;generalize b[k]=y at *;obtain ⟨HD,HX⟩:=AB;have H:=yD (vMeasS_eq x y);clear hne D;obtain ⟨U,F,x2⟩:=x;obtain ⟨y0,y1,y2⟩:=y;obtain ⟨b8,aw,a7,bj,bw,b3⟩:=yV pr;simp only [Aa,and_true] at aw;obtain ⟨rfl,rfl,rfl⟩:=aw;obtain ⟨a2,a3,rfl,cg⟩:=kD.sl bj;obtain ⟨a6,G,ag,ak,am,ar⟩:=yV qr;simp only [Aa,and_true] at G;obtain ⟨rfl,rfl,rfl⟩:=G;obtain ⟨ac,az,rfl,a8⟩:=kD.sl ak;go_wp2_with fail;have FX:=yD (λ(W:Au) (hW:Qb wr W)=>kIy hW al au ax ap aq ay);refine kK (λW=>Qb wr W) [Tt,Tt,Tt,Tt,Tt,Tt,Tt,Tt,Tt,Tt,Tt,Tt,Tt,Tt,Tt,Tt,Tt,Tt,Tt,Tt,Tt,Tt,Tt,Tt,Tt,Tt,Tt,Tt,Tt,Tt,Tt,Tt,Tt,Tt,Tt,Ff,Tt,Tt] bG6 bG6 qY (bR.drew) ?_;intro wS E;iterate 11
    all_goals refine ky ?_
   all_goals (refine jy λb an=>?_;cases b <;> try simp only [jw] at an)
   iterate 12
    all_goals refine ky ?_
   all_goals (refine jy λb I=>?_;cases b <;> try simp only [jw] at I)
   iterate 10
    all_goals refine ky ?_
   all_goals first | refine wkB (kAx (kD.raw.below a7 E) (kD.raw.below ag E)) (λwS1 E=>?_) | refine ky ?_
   all_goals refine ky ?_
   all_goals (refine jy λb N=>?_;cases b <;> try simp only [jw] at N)
   all_goals refine kS ?_
   all_goals have EG:=(tQ o E)
   all_goals first
     | (have X:=H.out.symm.trans (show _=false by simp only [jAu,Ag,Ac,Ah,Ai,Ad,Ae,Al,Am,Aj,Ak,Ap,an,I,N]);have L:=yD (HD.out X);clear X H HD HX;go_wp2;go_ret;exact ⟨kW L.out.symm,EG⟩)
     | (have X:=H.out.symm.trans (show _=true by simp only [jAu,Ag,Ac,Ah,Ai,Ad,Ae,Al,Am,Aj,Ak,Ap,an,I,N]);have L:=yD (HX.out X);clear X H HD HX;go_wp2;go_roundw;(case rel=>exact ⟨k + 1,by omega,by go_num,L,EG⟩);(case measure=>simp [Ba];omega))
 exact o7
def kUi {w:Au} {va J:Av} {a b:Bd kF} (Z:(kD.slice 93 kH).raw w [va] a) (a4:(kD.slice 93 kH).raw w [J] b) :
    Az prog 92 #[va,J] w (bQ w (.bool (decide (a=b)))):=by
 obtain ⟨aa,ao,rfl,la⟩:=kD.sl Z
 obtain ⟨ab,af,rfl,lb⟩:=kD.sl a4
 go_enter func92,ntmps92
 by_cases hl:a.length=b.length
 case neg =>
  exact o6
 obtain ⟨hz,bo⟩:=xW
 have HL:=yD hl;clear hl
 go_wp2
 go_loopw [5] (λi wr=>∃ k:Nat,k<=a.length/\i=.int .i64 k/\Hid (a.take k=b.take k)/\Qb w wr) (λi _=>a.length - (Ba i).toNat)
 case atStart=>exact ⟨0,Nat.zero_le _,rfl,yD rfl,bR⟩
 obtain ⟨k,hk,rfl,HN,o⟩:=hrel
 by_cases hlt:k < a.length
 · have ad:k < b.length:=bB3;obtain ⟨pb,po,rfl,bm,cf,cd,pr,al,au,ax⟩:=kD.kAn (Z.below o) (i:=k) bH3 rfl;obtain ⟨qb,qo,rfl,Y,ae,ah,qr,ap,aq,ay⟩:=kD.kAn (a4.below o) (i:=k) bH3 rfl;obtain ⟨hne,D⟩:=CG;have b4:=Ay.2 hlt;have b7:=Ay.2 ad;have ce:=Aq k;generalize a[k]=x at *;generalize b[k]=y at *;have HD:Hid (kIn x y=false->decide (a=b)=false):=yD (λq=>by simpa using hne (vPendS_no q));have HE:Hid (¬ x.2.1=y.2.1->decide (a=b)=false):=yD (λq=>by simpa using hne (λe=>q (by rw [e])));have HX:Hid (kIn x y=true->x.2.1.length=y.2.1.length/\(x.2.1=y.2.1->a.take (k + 1)=b.take (k + 1))):=yD (λq=>⟨(kVl q).1,λe=>D ((kVl q).2 e)⟩);clear hne D;obtain ⟨b8,bi,aw,a7,bj,bw,b3⟩:=jR pr;simp only [Aa,and_true] at aw;obtain ⟨rfl,rfl,rfl⟩:=aw;obtain ⟨a2,a3,rfl,cg⟩:=kD.sl bj;obtain ⟨dd,de,rfl,br⟩:=kD.sl bw;obtain ⟨a6,bn,G,ag,ak,am,ar⟩:=jR qr;simp only [Aa,and_true] at G;obtain ⟨rfl,rfl,rfl⟩:=G;obtain ⟨ac,az,rfl,a8⟩:=kD.sl ak;obtain ⟨ai,bl,rfl,bt⟩:=kD.sl am;go_upto_region 6 with fail;have FX:=yD (λ(W:Au) (hW:Qb wr W)=>kIy hW al au ax ap aq ay);refine kK (λW=>Qb wr W) [Tt,Tt,Tt,Tt,Tt,Tt,Tt,Tt,Tt,Tt,Tt,Tt,Tt,Tt,Tt,Tt,Tt,Tt,Tt,Tt,Tt,Tt,Ff,Tt,Tt,Tt,Tt,Tt,Tt,Tt,Tt,Tt,Tt,Tt,Tt,Tt,Tt,Tt,Tt,Tt] bG6 bG6 qY (bR.drew) ?_;intro wS E;iterate 11
    all_goals refine ky ?_
   all_goals (refine jy λb an=>?_;cases b <;> try simp only [jw] at an)
   iterate 10
    all_goals refine ky ?_
   all_goals first | refine wkB (kAx (kD.raw.below a7 E) (kD.raw.below ag E)) (λwS1 E=>?_) | refine ky ?_
   all_goals refine ky ?_
   all_goals refine ky ?_
   all_goals (refine jy λb H=>?_;cases b <;> try simp only [jw] at H)
   iterate 13
    all_goals refine ky ?_
   all_goals (refine jy λb F=>?_;cases b <;> try simp only [jw] at F)
   all_goals refine kS ?_
   all_goals have EG:=(tQ o E)
   all_goals first
     | (have L:=yD (HD.out (show kIn x y=false by simp only [kIn,Ag,Ac,Ah,Ai,Ad,Ae,Al,Am,Aj,Ak,Ap,an,H,F]));clear HD HE HX;go_wp2;go_ret;exact ⟨kW L.out.symm,EG⟩)
     | have L:=yD (HX.out (show kIn x y=true by simp only [kIn,Ag,Ac,Ah,Ai,Ad,Ae,Al,Am,Aj,Ak,Ap,an,H,F]))
   all_goals try clear HD HX
   have b0:=au;have bx:=aq;have pn:=bw;have qn:=am;have I:=yD L.out.1;clear an H F;have bv:=yD L.out.2;clear L;generalize x.2.1=P at *;generalize y.2.1=Q at *;clear HN;go_wp2;go_loopw [6] (λi wq=>∃ j:Nat,j<=P.length/\i=.int .i64 j/\Hid (P.take j=Q.take j)/\Qb wr wq) (λi _=>P.length - (Ba i).toNat);case atStart=>exact ⟨0,Nat.zero_le _,rfl,yD rfl,E⟩
   obtain ⟨j,hj,rfl,HM,hq⟩:=hrel;have B3:=cL hq b0;have D3:=cL hq bx;by_cases aj:j < P.length
   · have bf:j < Q.length:=by have:=I.out;omega
     obtain ⟨R,no,rfl,c7,d2,d3,nr,U,bb,bg⟩:=kD.kAn (pn.below hq) aj rfl;obtain ⟨mb,mo,rfl,b5,b2,b1,mr,bd,bc,bq⟩:=kD.kAn (qn.below hq) bf rfl;obtain ⟨av,_⟩:=yU nr;obtain ⟨be,_⟩:=yU mr;simp only [Aa,and_true] at av be;obtain ⟨rfl,rfl,rfl⟩:=av;obtain ⟨rfl,rfl,rfl⟩:=be;clear nr mr;have c8:=Ay.2 aj;have b6:=Ay.2 bf;have bz:=Aq j;have hne:=λq=>kBp aj bf q;have D:=λq=>zT HM.out aj bf q;generalize P[j]=u at *;generalize Q[j]=v at *;have a1:Hid (vReq u v=false->decide (a=b)=false):=yD (λq=>HE.out (hne (by rw [vReq_eq] at q;simpa using q)));have bh:Hid (vReq u v=true->P.take (j + 1)=Q.take (j + 1)):=yD (λq=>D (by rw [vReq_eq] at q;simpa using q));clear hne D;obtain ⟨u0,u1,u2⟩:=u;obtain ⟨v0,v1,v2⟩:=v;have bu:(u0=v0/\u1=v1/\u2=v2)\/(u0≠v0)\/(u0=v0/\u1≠v1)\/(u0=v0/\u1=v1/\u2≠v2):=bH3;rcases bu with ⟨rfl,rfl,rfl⟩ | e|⟨rfl,e⟩|⟨rfl,rfl,e⟩;all_goals go_upto_region 11 with fail
     all_goals refine kK (λW=>Qb wr W) [Tt,Tt,Tt,Tt,Tt,Tt,Tt,Tt,Tt,Tt,Tt,Tt,Tt,Tt,Tt,Tt,Tt] bG6 bG6 qY (bR.drew) ?_
     all_goals intro wS E
     iterate 4
      all_goals refine ky ?_
     iterate 2
      all_goals first|(refine kJ rfl E ?_)|(refine jE (v:=?_) rfl (λW hW=>?_) ?_;rotate_left;(· have bk:=cL hW B3;have bp:=cL hW D3;have O:=cL hW U;have N:=cL hW bb;have ba:=cL hW bg;have X:=cL hW bd;have a5:=cL hW bc;have a9:=cL hW bq;clear hW;go_simp;try with_reducible rfl))
      all_goals refine jG ?_
      all_goals refine ky ?_
      all_goals refine ky ?_
     iterate 2
      all_goals refine ky ?_
      all_goals refine ky ?_
      all_goals first|(refine kJ rfl E ?_)|(refine jE (v:=?_) rfl (λW hW=>?_) ?_;rotate_left;(· have bk:=cL hW B3;have bp:=cL hW D3;have O:=cL hW U;have N:=cL hW bb;have ba:=cL hW bg;have X:=cL hW bd;have a5:=cL hW bc;have a9:=cL hW bq;clear hW;go_simp;try with_reducible rfl))
      all_goals refine jG ?_
     all_goals (refine jy λb V=>?_;cases b <;> try simp only [jw] at V)
     all_goals refine kS ?_
     all_goals have EQ:=(tQ hq E)
     all_goals first
       | (have L:=yD (a1.out (by first|(simp [vReq,e];done)|(simp [vReq];done)));clear a1 bh;have EG:=(tQ o EQ);go_wp2;go_ret;exact ⟨kW L.out.symm,EG⟩)
       | (have L:=yD (bh.out (by first|(simp [vReq];done)));clear a1 bh;go_wp2;go_roundw;(case rel=>exact ⟨j + 1,by omega,by go_num,L,EQ⟩);(case measure=>simp [Ba];omega))
   have L:=yD (bv.out (kBa HM.out aj I.out));have EG:=(tQ o hq);go_wp2;go_roundw;case rel=>exact ⟨k + 1,by omega,by go_num,L,EG⟩
   simp [Ba];omega
 exact o7
end Go.Proofs.YtjhfdpopkkmigabGreat

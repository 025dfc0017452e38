/-
  Pending interests compared by the laws.
-/
import Derived.Test.YtonmjkmaadgceabGreatHops
import Derived.Test.YtonmjkmaadgceabGreatEvict
import Derived.Test.YtonmjkmaadgceabGreatDrawE
set_option linter.unusedVariables false
set_option linter.defProp false
set_option linter.unusedSimpArgs false
set_option linter.unnecessarySimpa false
set_option maxRecDepth 100000
set_option maxHeartbeats 4000000
open Bool renaming true->Tt,false->Ff
open _root_ renaming List->Aa
open List renaming length_filter_le->Ab,drop_eq_getElem_cons->Av,take_length->Az,take_of_length_le->Ba
open List.cons renaming injEq->Ac
open Bool renaming eq_iff_iff->Ad,not_false->Ae,and_false->Ag,false_and->Ah,not_true->Ai,and_true->Aj,true_and->Ak,or_false->Al,false_or->Am,or_true->Ap,true_or->Aq,not_not->Ar,noConfusion->Be
open Int renaming natCast_nonneg->Au,ofNat_lt->Bb
open Go renaming World->Aw,Value->Ay,Calls->Bc
open Go.RowKit renaming intOf->Bd
namespace Go.Proofs.YtonmjkmaadgceabGreat
open Go.RowKit _root_.Go.Proofs.Tryz
def kQs {w:Aw} {v:Ay} {l:Aa Int} {g:FuncId} {cp:Array Ay} {S:Nat->Prop} (p:Int->Bool) (hg:jI prog g) (hl:kD.kR 3 kD.int w v l S) (hlen:l.length<=16777216)
    (ag:∀ wr,Touch S w wr->∀ x c,kD.int.raw wr [c] x->Bc prog g (#[c]++cp) wr (λe w'=>e=.returned (.bool (p x))/\Qb wr w')) :
    Bc prog 57 #[v,.func (.func g) #[] cp] w λe w'=>∃ v',e=.returned v'/\kD.kR 3 kD.int w' v' (l.filter (λx=>!p x)) S/\Touch S w w':=by
 have aw:=yD ag;clear ag
 have J:=yD hl
 have X:=yD hg
 unfold jI at hg
 have HI:Hid (∀ va,v=va->Bc prog 106 #[va,.func (.func g) #[] cp] w λe w'=>e=.returned (.int .i64 (idxOf p l))/\Qb w w'):=yD (λva hv=>by
   subst hv;exact kSx p X.out (J.out.own hlen).raw (λwr hb i h c hr=>aw.out wr (Touch.of_below hb) _ c hr))
 rcases kKy p l with ⟨hi,hno⟩|⟨i,hil,hi,hyes,hno⟩
 · obtain ⟨oa,on,oc,ho,bb⟩:=hl.parts;obtain rfl:=ho;rw [hi] at HI;have HF:=yD (kKz hno).symm;clear hno hi hl;go_enter func57,ntmps57;exact aN
 obtain ⟨b,cap,rfl,Z⟩:=kD.kFy hl hil
 rw [hi] at HI
 rw [Av hil] at Z
 obtain ⟨V,br,af,ad,R⟩:=EL
 simp only [List.length_take,List.length_cons,List.length_drop] at R
 have a3:l.length<=cap:=R.2.1
 have az:cap<=9223372036854775807:=nX
 clear hno hi hl Z hyes J R
 have cc:((i:Int)==-1)=false:=qZ
 go_enter func57,ntmps57
 go_wp2_with fail
 refine (HI.out _ rfl).mono ?_
 rintro e Y ⟨rfl,O⟩
 have G1:=yD (V.below O)
 have E1:=yD (Touch.of_below (S:=S) O)
 clear V HI
 go_wp2
 go_loopw [5,6] (λq c wr=>∃ m kn:Nat,m<=l.length/\kn + 1<=m/\q=.int .i64 kn/\c=.int .i64 m/\Hid (kn=((l.take m).filter (λy=>!p y)).length)/\Hid (kD.gap 3 kD.int wr b cap l.length ((l.take m).filter (λy=>!p y)) (m - kn) (l.drop m) S)/\Hid (Touch S w wr)) (λ_ c _=>l.length - (Bd c).toNat)
 case atStart =>
  exact aO
 clear E1 G1 af br O
 obtain ⟨m,kn,hm,b3,rfl,rfl,H,G,E⟩:=hrel
 by_cases hlt:m < l.length
 · have W:=G.out;rw [Av hlt] at W;obtain ⟨bk,da⟩:=GL;obtain ⟨cs,hr,ag,av,U,D⟩:=W.next;have N:=W.skip;have ah:=W.frozen;generalize l[m]=x at *;have a1:=yD bk;have bf:=yD da;clear bk da W;rw [<- H.out] at U D;rw [show kn + (m - kn)=m by omega] at U;obtain ⟨c0,rfl⟩:∃ c0,cs=[c0]:=by
    have a8:=kD.int.len hr
    match cs,a8 with
    | [c0],_=>exact ⟨_,rfl⟩
   have A0:Qc wr b m c0:=by have:=U 0 c0 rfl;simpa [show kD.int.n=1 from rfl] using this
   have o:∀ q,q < 1->kn * 1 + q < cap * 1:=by intro q hq;omega
   obtain ⟨o0,O0⟩:=Option.isSome_iff_exists.1 (G.out.cells (i:=kn) (by have:=o 0 bC9;simp only [show kD.int.n=1 from rfl];omega));have Z0:=ah kn;have HR:=yD hr;obtain ⟨cd,ai⟩:=kD.jY hr;obtain rfl:c0=_:=by simpa using cd
   clear cd ai hr ag U o ah;have db:=yD D;have ab:=yD N;clear D N;have HB:=yD (G.out.lt);go_wp2_with fail;refine (aw.out wr E.out _ _ HR.out).mono ?_;rintro e w5 ⟨rfl,bh⟩;have E5:=yD bh;clear bh;cases hp:p x
   · have L:=yD (a1.out bC7);replace O0:=cL E5.out O0;replace Z0:=(E5.out.frozen (p:=⟨b,kn,none⟩) HB.out).trans Z0;obtain ⟨aa,al⟩:=db.out w5 E5.out bC9 _ rfl;simp only [show kD.int.n=1 from rfl,Nat.mul_one] at aa al;exact aP
   exact aQ
 obtain rfl:m=l.length:=bC9
 have W:=G.out
 rw [List.drop_length,Az] at W
 rw [Az] at H
 have HG:=yD W;clear W G
 obtain ⟨aj,ak,an,am,ch⟩:=D6
 obtain ⟨w6,ac,h6,t6⟩:=HG.out.kHy (P:=prog) (t:=59) (ty:=0) (c:=cap - kn) (p:=kn) ch underlying59 kAi rfl bC8 (kTg _ bC8) (by simp only [show kD.int.n=1 from rfl];rw [<- H.out,Nat.mul_one])
 exact aR
def outOk (x:yB) (n:ko):Bool:=mOk n x.2.2.2.2.1
def kJy (x:yB) (n:ko) (ex:Int):Aa Int:=if outOk x n then kJn x.2.2.2.2.2.1 (zX n x.2.2.2.2.1) ((kDv x.2.2.2.2.1 n).filter (λf=>!(f==ex))) else []
def outF_no {x:yB} {n:ko} {ex:Int} (h:mOk n x.2.2.2.2.1=false):kJy x n ex=[]:=by unfold kJy outOk;rw [h];rfl
def kUv {x:yB} {n:ko} {ex:Int} (h:mOk n x.2.2.2.2.1=true):kJy x n ex=kJn x.2.2.2.2.2.1 (zX n x.2.2.2.2.1) ((kDv x.2.2.2.2.1 n).filter (λf=>!(f==ex))):=by unfold kJy outOk;rw [h];rfl
def kYc {x:yB} {n:ko} {ex:Int} (h:mOk n x.2.2.2.2.1=true):kJy x n ex=(kJn x.2.2.2.2.2.1 (zX n x.2.2.2.2.1) (kDv x.2.2.2.2.1 n)).filter (λf=>!(f==ex)):=by
 rw [kUv h];unfold kJn;rw [Srt.kWw]
def outF_len {x:yB} {n:ko} {ex:Int}:(kJy x n ex).length<=x.2.2.2.2.1.length:=by
 unfold kJy;split
 · rw [kLl];exact Nat.le_trans (Ab _ _) kLr
 exact Nat.zero_le _
def kSt {w:Aw} {f ex:Int} {B:Nat} (A:Qc w B 0 (.int .i64 ex)):Bc prog 59 (#[.int .i64 f]++#[.pointer (some ⟨B,0,none⟩)]) w λe w'=>e=.returned (.bool (f==ex))/\w'=w:=by
 show Bc prog 59 #[_,_] w _;go_enter func59,ntmps59;go_wp2;go_ret;exact ⟨rfl,rfl⟩
def kNm:jI prog 59:=zQ func59 bC3 bC3
def cell_lt {w:Aw} {b i:Nat} {v:Ay} (k:Qc w b i v):b < w.heap.size:=by
 rcases Nat.lt_or_ge b w.heap.size with q | q
 · exact q
 unfold World.cell? at k;simp [Array.getElem?_eq_none q] at k
def Touch.cell {S:Nat->Prop} {w w':Aw} {b i:Nat} {v:Ay} (h:Touch S w w') (hb:¬ S b) (k:Qc w b i v):Qc w' b i v:=by
 exact aA
def kMb {w:Aw} {cx:Aa Ay} {x:yB} (hx:jr.rd w cx x) {cn:Aa Ay} {n:ko} (hn:kU.rd w cn n) {ex:Int} (ah:Qi ex) :
    Bc prog 20 #[.agg cx.toArray,.agg cn.toArray,.int .i64 ex] w (kAa (kD.slice 3 kD.int) (kJy x n ex) w):=by
 obtain ⟨q1,q2,q3,q4,q5,q6,q7⟩:=hx.2
 have HA:Hid (x.2.2.2.2.1.length<=16777216):=yD q5.1
 have HN:=yD hn
 obtain ⟨nv,rfl,a8⟩:=kZ hn.1
 obtain ⟨na,np,rfl,_⟩:=kD.sl a8
 obtain ⟨d4,d7,en,el,eg,ef,rfl,ad,a3,bi,a9,az,ba,bm,bz,dg⟩:=yS hx.1
 obtain ⟨cw,b6,rfl,d6⟩:=kD.sl ad
 obtain ⟨cz,co,rfl,d8⟩:=kD.sl a9
 obtain ⟨dk,c8,rfl,eh⟩:=kD.sl az
 obtain ⟨dj,di,rfl,ek⟩:=kD.sl ba
 obtain ⟨c5,c4,rfl,eq⟩:=kD.sl bm
 obtain ⟨c3,cm,rfl,ej⟩:=kD.sl bz
 obtain ⟨RR,RM⟩:=FE
 clear a8 hn hx q1 q2 q3 q4 q5 q6 q7 ad a3 bi a9 az ba bm bz dg
 have a4:=yD (outF_no (x:=x) (n:=n) (ex:=ex));have bj:=yD (kUv (x:=x) (n:=n) (ex:=ex));have aa:=yD (kYc (x:=x) (n:=n) (ex:=ex));have af:=yD (outF_len (x:=x) (n:=n) (ex:=ex))
 go_enter func20,ntmps20
 go_wp2_with fail
 generalize D:World.alloc (World.alloc (World.alloc w _) _) _=N
 obtain ⟨EB,K5,K6,R⟩:=F9
 have o:N.cell? ⟨w.heap.size + 1 + 1,0,none⟩=some (.int .i64 ex):=tK
 clear D
 have bu:=EB.size
 refine (kCu (RR.out.below EB) (HN.out.below EB)).mono ?_
 rintro e Y ⟨pc,rfl,OP,O⟩
 obtain ⟨b8,rfl,a7⟩:=kZ OP.raw
 obtain ⟨bn,bo,rfl,_⟩:=kD.sl a7
 clear a7
 have HP:=yD OP.rd
 have E1:=(tQ EB O)
 have bq:=E1.size
 replace K5:=cL O K5
 replace K6:=cL O K6
 replace R:=cL O R
 replace o:=cL O o
 clear OP O EB
 cases dm:mOk n x.2.2.2.2.1
 · have HE:=yD (a4.out dm);go_wp2;go_ret;exact ⟨_,rfl,by rw [HE.out];exact kD.jd,E1.trans (Below.mono bF E1.size)⟩
 have HE:=yD (bj.out dm)
 clear a4 bj aa
 go_upto_region 4 with fail
 generalize X:World.alloc Y _=wC
 have ab:Qb Y wC:=rO
 have KP:Qd wC Y 0 (.slice bn (zX n x.2.2.2.2.1).length bo):=tL
 clear X
 replace K5:=cL ab K5
 replace K6:=cL ab K6
 replace R:=cL ab R
 replace o:=cL ab o
 have EC:=(tQ E1 ab)
 have ca:=EC.size
 have H:=cell_lt K6
 have U:=cell_lt KP
 go_wp2_with fail
 refine (kVn (RR.out.below EC) (HN.out.below EC)).mono ?_
 rintro e V ⟨v2,rfl,O2,ak⟩
 obtain ⟨oa,on,oc,ho,bb⟩:=O2.parts;obtain rfl:=ho
 have J:=yD O2;have a1:=yD ak
 have a6:=ak.size
 have E2:=(tQ EC ak)
 have W:=cL ak o
 replace K6:=cL ak K6
 replace KP:=cL ak KP
 clear O2 ak
 go_wp2_with fail
 have aw:Hid (∀ wr,Touch (jX wC.heap.size V.heap.size) V wr->∀ z c,kD.int.raw wr [c] z->Bc prog 59 (#[c]++#[.pointer (some ⟨w.heap.size + 1 + 1,0,none⟩)]) wr (λe w'=>e=.returned (.bool (z==ex))/\Qb wr w')):=yD (λwr E z c hz=>by
   have e:=a1.out.trans (E.below a1.out.size (λi hi=>hi.1));obtain ⟨hc,_⟩:=kD.jY hz;obtain rfl:c=_:=by simpa using hc
   exact (kSt (cL e o)).mono (λe2 V h=>⟨h.1,by rw [h.2];exact bR⟩))
 refine (kQs (λz=>z==ex) kNm J.out (by have:=kLr (l:=x.2.2.2.2.1) (n:=n);have:=HA.out;omega) aw.out).mono ?_
 rintro e w3 ⟨v3,rfl,O3,T3⟩
 obtain ⟨da,F,dc,hd,L⟩:=O3.parts;obtain rfl:=hd
 have ae:=T3.below (B:=wC.heap.size) a6 (λi hi=>hi.1)
 have bk:=T3.size
 have ai:=yD O3
 have E3:=E2.trans (T3.below bC9 sJ)
 have G:Qb wC w3:=a1.out.trans ae
 have ac:Qd w3 w 6 (.slice c3 x.2.2.2.2.2.1.length cm):=T3.cell (by intro q;have:=q.1;omega) K6
 have Z:Qd w3 Y 0 (.slice bn (zX n x.2.2.2.2.1).length bo):=T3.cell (by intro q;have:=q.1;omega) KP
 clear O3 T3 J aw K6 KP ae
 have HD:Hid ((kD.slice 3 kD.int).rd w3 [.slice da F dc] ((kDv x.2.2.2.2.1 n).filter (λz=>!(z==ex)))):=yD ((ai.out.own (by have:=kLr (l:=x.2.2.2.2.1) (n:=n);have:=HA.out;have:=Ab (λz=>!(z==ex)) (kDv x.2.2.2.2.1 n);unfold Big;omega)).rd)
 go_wp2_with fail
 refine (kSs (RM.out.below E3) (HP.out.below (tQ ab G)) HD.out).mono ?_
 rintro e w4 ⟨v4,rfl,O4,an⟩
 obtain ⟨ra,rp,rfl,_⟩:=kD.sl O4.raw
 have be:=yD O4;clear O4
 have bw:=an.size;have bv:=E3.size
 go_wp2
 go_ret
 exact ⟨_,rfl,by rw [HE.out];exact be.out.wide qV,(tQ E3 an)⟩
def kLw {w:Aw} {cx:Aa Ay} {x:yB} (hx:jr.rd w cx x) {cn:Aa Ay} {n:ko} (hn:kU.rd w cn n) {ex:Int} (ah:Qi ex) :
    Bc prog 32 #[.agg cx.toArray,.agg cn.toArray,.int .i64 ex] w (kAa (kD.slice 3 kD.int) (kJy x n ex) w):=by
 obtain ⟨q1,q2,q3,q4,q5,q6,q7⟩:=hx.2
 have HA:Hid (x.2.2.2.2.1.length<=16777216):=yD q5.1
 have HN:=yD hn
 obtain ⟨nv,rfl,a8⟩:=kZ hn.1
 obtain ⟨na,np,rfl,_⟩:=kD.sl a8
 obtain ⟨d4,d7,en,el,eg,ef,rfl,ad,a3,bi,a9,az,ba,bm,bz,dg⟩:=yS hx.1
 obtain ⟨cw,b6,rfl,d6⟩:=kD.sl ad
 obtain ⟨cz,co,rfl,d8⟩:=kD.sl a9
 obtain ⟨dk,c8,rfl,eh⟩:=kD.sl az
 obtain ⟨dj,di,rfl,ek⟩:=kD.sl ba
 obtain ⟨c5,c4,rfl,eq⟩:=kD.sl bm
 obtain ⟨c3,cm,rfl,ej⟩:=kD.sl bz
 obtain ⟨RR,RM⟩:=FE
 clear a8 hn hx q1 q2 q3 q4 q5 q6 q7 ad a3 bi a9 az ba bm bz dg
 have a4:=yD (outF_no (x:=x) (n:=n) (ex:=ex));have bj:=yD (kUv (x:=x) (n:=n) (ex:=ex));have aa:=yD (kYc (x:=x) (n:=n) (ex:=ex));have af:=yD (outF_len (x:=x) (n:=n) (ex:=ex))
 go_enter func32,ntmps32
 go_wp2_with fail
 generalize D:World.alloc (World.alloc w _) _=N
 obtain ⟨EB,K5,K6,R⟩:=F9
 clear D
 have bu:=EB.size
 refine (kCp (RR.out.below EB) (HN.out.below EB)).mono ?_
 rintro e Y ⟨pc,rfl,OP,O⟩
 obtain ⟨b8,rfl,a7⟩:=kZ OP.raw
 obtain ⟨bn,bo,rfl,_⟩:=kD.sl a7
 clear a7
 have HP:=yD OP.rd
 have E1:=(tQ EB O)
 have bq:=E1.size
 replace K5:=cL O K5
 replace K6:=cL O K6
 replace R:=cL O R
 clear OP O EB
 generalize dm:mOk n x.2.2.2.2.1=ok at *
 go_upto_region 2 with fail
 generalize X:World.alloc Y _=wC
 have ab:Qb Y wC:=rO
 have KP:Qd wC Y 0 (.slice bn (zX n x.2.2.2.2.1).length bo):=tL
 clear X
 replace K5:=cL ab K5
 replace K6:=cL ab K6
 replace R:=cL ab R
 have EC:=(tQ E1 ab)
 have ca:=EC.size
 have FX:=yD (λ(W:Aw) (hW:Qb wC W)=>kGr hW K5 K6 R KP)
 refine kM (λW=>Qb wC W) [Tt,Tt,Tt,Tt,Tt,Tt,Ff,Ff,Tt] bC3 bC3 pK (bR.drew) ?_
 intro wS E
 iterate 6
  all_goals refine ku ?_
 all_goals first|(refine kI rfl E ?_)|(refine kw rfl (λK H=>?_);go_simp;refine (kUe (RR.out.below (tQ EC E)) (HN.out.below (tQ EC E))).mono ?_;rintro e wT ⟨hv,rfl,OH,aq⟩;obtain ⟨ha,hp,rfl,_⟩:=kD.sl OH.raw;have ac:=yD OH;clear OH;replace E:=(tQ E aq);refine H _ _ E ?_;clear H K aq)
 all_goals refine jF ?_
 all_goals first|(refine kI rfl E ?_)|(refine kw rfl (λK H=>?_);go_simp;refine (kSd (RM.out.below (tQ EC E)) (HP.out.below (tQ ab E)) ac.out.rd).mono ?_;rintro e wU ⟨fv,rfl,OF,G⟩;obtain ⟨fa,fp,rfl,_⟩:=kD.sl OF.raw;have HF:=yD OF;clear OF;replace E:=(tQ E G);refine H _ _ E ?_;clear H K G)
 all_goals refine jF ?_
 all_goals refine ku ?_
 all_goals refine kS ?_
 generalize wU=w4 at *
 have E4:=(tQ EC E)
 have bw:=E4.size
 have bt:Hid ((kJn x.2.2.2.2.2.1 (zX n x.2.2.2.2.1) (kDv x.2.2.2.2.1 n)).length<=16777216):=yD (by rw [kLl];have:=kLr (l:=x.2.2.2.2.1) (n:=n);have:=HA.out;omega)
 have J:=yD HF.out.raw
 clear ac HF KP K5 K6 R E
 generalize kJn x.2.2.2.2.2.1 (zX n x.2.2.2.2.1) (kDv x.2.2.2.2.1 n)=F at *
 have e9:F.length<=16777216:=bt.out
 go_wp2
 go_loopw [10,11] (λv i wr=>∃ (k:Nat),k<=F.length/\i=.int .i64 k/\(ok=false->k=0)/\Hid (kD.kR 3 kD.int wr v ((F.take k).filter (λz=>!(z==ex))) (jX w4.heap.size wr.heap.size))/\Qb w4 wr) (λ_ i _=>F.length - (Bd i).toNat)
 case atStart=>exact ⟨0,Nat.zero_le _,rfl,λ_=>rfl,yD kD.kR.void,bF⟩
 obtain ⟨k,hk,rfl,bp,HI,o⟩:=hrel
 obtain ⟨ia,bl,ic,hi,ag⟩:=HI.out.parts;obtain rfl:=hi
 have br:=yD bp;clear bp
 have b4:=o.size
 have b3:=Au k
 by_cases hlt:k < F.length
 · have ai:(k:Int) < F.length:=bC9;cases ok
   · have V:Hid (kJy x n ex=(F.take k).filter (λz=>!(z==ex))):=yD (by rw [a4.out rfl,br.out rfl];rfl);exact lG
   have a6:(k:Int) < F.length:=bC9;have bk:=λq=>kCw (p:=λz=>!(z==ex)) hlt q;have da:=λq=>kBl (p:=λz=>!(z==ex)) hlt q;have hil:bl<=16777216:=by have h1:=ag.out;have h2:=zY (p:=λz=>!(z==ex)) (l:=F) (k:=k) bC9;omega
   have bx:((F.take k).filter (λz=>!(z==ex))).length<=16777216:=by have h2:=zY (p:=λz=>!(z==ex)) (l:=F) (k:=k) bC9;omega
   obtain ⟨qb,qo,rfl,ae,qr,A0⟩:=kD.kCv (J.out.below o) hlt rfl;obtain ⟨Z,b0⟩:=kD.jY qr;obtain rfl:ae=_:=by simpa using Z
   generalize F[k]=z at *;have a1:=yD bk;have bf:=yD da;clear bk da Z qr;cases hq:(z==ex)
   · have L:=yD (a1.out (by rw [hq];rfl));have hne:(z != ex)=true:=by simp only [bne,hq];rfl
     clear a1 bf;go_wp2_with (at_builtin;refine kD.jL rfl _ _ 59 rfl (r:=kD.int) (e:=3) underlying59 kAi rfl bC8 bC8 (B:=w4.heap.size) HI.out bD1 bD1 rfl (kD.jB b0 _) rfl (λ_ _ h=>h) qU (λ_ h=>h.elim) bC9 bC9 ?_);intro v5 w5 hown bh bv;have bc:=yD (kD.kR.cast hown L.out.symm);have U:=o.trans bh;clear hown bh;go_wp2;go_roundw;case rel=>exact ⟨k + 1,by omega,by go_num,(λh=>Be h),bc,U⟩
     simp [Bd];omega
   have L:=yD (bf.out (by rw [hq];rfl));have hne:(z != ex)=false:=by simp only [bne,hq];rfl
   clear a1 bf;go_wp2;go_roundw;case rel=>exact ⟨k + 1,by omega,by go_num,(λh=>Be h),yD (HI.out.cast L.out.symm),o⟩
   simp [Bd];omega
 have a6:¬ (k:Int) < F.length:=bC9
 have V:Hid (kJy x n ex=(F.take k).filter (λz=>!(z==ex))):=yD (by 
         obtain rfl:k=F.length:=bC9;rw [Az];cases ok
         · rw [a4.out rfl];have h0:=br.out rfl;rw [List.eq_nil_of_length_eq_zero h0];rfl
         · exact aa.out rfl)
 exact lG
def kOb (fs:Aa Int) (n:ko) (m:Aa kJ):Aa kJ:=match fs with | []=>m | f :: _=>kHj n f m
def zT (x:yB) (P:Aa kF) (st:Aa jH × Aa kJ) (p:kF):Aa jH × Aa kJ :=
  if p.2.1.length=0 then st else if 0<=idxOf (ja p.1) P then st else
    ((p.2.1.foldl (λs r=>yK s p.1 r.2.1) st.1),
      if mOk p.1 x.2.2.2.2.1 then kOb (kJy (x.1,x.2.1,P,(p.2.1.foldl (λs r=>yK s p.1 r.2.1) st.1),x.2.2.2.2.1,st.2,x.2.2.2.2.2.2) p.1 0) (zX p.1 x.2.2.2.2.1) st.2 else st.2)
def zf (now:Int) (x:yB) (k:Nat):Aa jH × Aa kJ:=(x.2.2.1.take k).foldl (zT x (kDc now x.2.2.1)) (x.2.2.2.1,x.2.2.2.2.2.1)
def kOa (now:Int) (x:yB):yB:=(x.1,kRs now x.2.1,kDc now x.2.2.1,(zf now x x.2.2.1.length).1,x.2.2.2.2.1,(zf now x x.2.2.1.length).2,x.2.2.2.2.2.2)
def kMz {now:Int} {x:yB} {k:Nat} (h:k < x.2.2.1.length):zf now x (k + 1)=zT x (kDc now x.2.2.1) (zf now x k) x.2.2.1[k]:=by
 unfold zf;rw [List.take_succ_eq_append_getElem h,List.foldl_append];rfl
def kYz {x:yB} {P:Aa kF} {st:Aa jH × Aa kJ} {p:kF}:(zT x P st p).1.length<=max st.1.length 24:=by
 unfold zT;split
 · omega
 split
 · omega
 exact kOk _ _
def kLh {now:Int} {x:yB}:∀ {k:Nat},(zf now x k).1.length<=max x.2.2.2.1.length 24:=by
 intro k;induction k with
 | zero=>simp [zf];omega
 | succ k ih =>
   by_cases h:k < x.2.2.1.length
   · rw [kMz h];have:=kYz (x:=x) (P:=kDc now x.2.2.1) (st:=zf now x k) (p:=x.2.2.1[k]);omega
   · have e:zf now x (k + 1)=zf now x k:=by unfold zf;rw [Ba bC9,Ba bC9]
     rw [e];exact ih
def evict_valid {t:Int} {x:kg} (h:kBt x=true):kBt (kRs t x)=true:=by
 obtain ⟨⟨a,b⟩,c,d⟩:=kTm.1 h;refine kTm.2 ⟨⟨λe he=>a e (List.mem_filter.1 he).1,b.filter _⟩,c,?_⟩;have:=Ab (λe:kT=>fresh t e.1) x.2;show ((x.2.filter (λe:kT=>fresh t e.1)).length:Int)<=x.1;omega
def kVt {now:Int} {l:Aa kF} {p:kF} (h:p∈kDc now l):(∃ q∈l,p=(q.1,kGj now q.2.1,q.2.2))/\0 < p.2.1.length:=by
 unfold kDc at h;obtain ⟨h1,h2⟩:=List.mem_filter.1 h;obtain ⟨q,hq,rfl⟩:=List.mem_map.1 h1;exact ⟨⟨q,hq,rfl⟩,by simpa using h2⟩
def expP_alive {now:Int} {l:Aa kF} {p:kF} (h:p∈kDc now l) {r:kW} (hr:r∈p.2.1):now<=r.2.2:=by
 obtain ⟨⟨q,hq,rfl⟩,_⟩:=kVt h;have:=(List.mem_filter.1 hr).2;simpa using this
def expR_good {now:Int} {o:Aa kW} (h:kJw o=true) (h0:0 < (kGj now o).length):kJw (kGj now o)=true:=by
 obtain ⟨_,a,b⟩:=vAsk_iff.1 h;exact vAsk_iff.2 ⟨h0,λr hr=>a r (List.mem_filter.1 hr).1,List.Pairwise.filter _ b⟩
def expP_valid {now:Int} {l:Aa kF} (h:kDj l=true):kDj (kDc now l)=true:=by
 obtain ⟨a,b,c⟩:=kTo.1 h;refine kTo.2 ⟨Nat.le_trans (kIh now l) a,λp hp=>?_,?_⟩
 · obtain ⟨⟨q,hq,rfl⟩,h0⟩:=kVt hp;obtain ⟨k1,k2,k3,k4⟩:=b q hq;exact ⟨k1,k2,expR_good k3 h0,k4⟩
 unfold kDc;exact List.Pairwise.filter _ (List.pairwise_map.2 c)
def kWi {x:yB} {P:Aa kF} {st:Aa jH × Aa kJ} {p:kF} (h:kBu st.2=true):kBu (zT x P st p).2=true:=by
 unfold zT;split
 · exact h
 split
 · exact h
 show kBu (if mOk p.1 x.2.2.2.2.1 then _ else st.2)=true;split
 · unfold kOb;split
   · exact h
   exact recF_valid h
 exact h
def tickK_meas {now:Int} {x:yB} (h:kBu x.2.2.2.2.2.1=true) (k:Nat):kBu (zf now x k).2=true:=by
 have go:∀ (l:Aa kF) (st:Aa jH × Aa kJ),kBu st.2=true->kBu (l.foldl (zT x (kDc now x.2.2.1)) st).2=true:=by
  intro l;induction l with
  | nil=>exact λst h=>h
  | cons p l ih=>exact λst h=>ih _ (kWi h)
 exact go _ _ h
def tick_valid {now:Int} {x:yB} (h:kAq x=true):kAq (kOa now x)=true:=by
 obtain ⟨a,b,c,d,e,f,g,k⟩:=kVa.1 h;refine kVa.2 ⟨a,b,evict_valid c,expP_valid d,e,tickK_meas f _,?_,k⟩;have:=kLh (now:=now) (x:=x) (k:=x.2.2.1.length);show (zf now x x.2.2.1.length).1.length<=24;omega
def recF_most {n:ko} {f:Int} {l:Aa kJ}:(kHj n f l).length<=max l.length 24:=by
 unfold kHj;split
 · split
   · split
     · simp;omega
     omega
   simp;omega
 omega
def kWh {x:yB} {P:Aa kF} {st:Aa jH × Aa kJ} {p:kF}:(zT x P st p).2.length<=max st.2.length 24:=by
 unfold zT;split
 · omega
 split
 · omega
 show (if mOk p.1 x.2.2.2.2.1 then _ else st.2).length<=_;split
 · unfold kOb;split
   · omega
   exact recF_most
 omega
def tickK_most {now:Int} {x:yB} (k:Nat):(zf now x k).2.length<=max x.2.2.2.2.2.1.length 24:=by
 have go:∀ (l:Aa kF) (st:Aa jH × Aa kJ),(l.foldl (zT x (kDc now x.2.2.1)) st).2.length<=max st.2.length 24:=by
  intro l;induction l with
  | nil=>exact λst=>by simp only [List.foldl_nil];omega
  | cons p l ih=>exact λst=>by simp only [List.foldl_cons];have h1:=ih (zT x (kDc now x.2.2.1) st p);have h2:=kWh (x:=x) (P:=kDc now x.2.2.1) (st:=st) (p:=p);omega
 exact go _ _
def tick_lenN {now:Int} {m:Nat} {x:yB} (h:lenN m x) (hm:24<=m):lenN m (kOa now x):=by
 obtain ⟨⟨a,_⟩,⟨_,b,_⟩,⟨c,d⟩,⟨e,_⟩,⟨f,_⟩,⟨g,_⟩,_⟩:=h;refine lenN_mk a ?_ ?_ (λp hp=>?_) ?_ f ?_
 · have:=Ab (λe:kT=>fresh now e.1) x.2.1.2;show (x.2.1.2.filter (λe:kT=>fresh now e.1)).length<=m;omega
 · exact Nat.le_trans (kIh now _) c
 · obtain ⟨⟨q,hq,rfl⟩,_⟩:=kVt hp;exact Nat.le_trans (Ab _ _) (d q hq).2.1
 · have:=kLh (now:=now) (x:=x) (k:=x.2.2.1.length);show (zf now x x.2.2.1.length).1.length<=m;omega
 have:=tickK_most (now:=now) (x:=x) x.2.2.1.length;show (zf now x x.2.2.1.length).2.length<=m;omega
def kGt.lenN {x:yB} (h:kGt x):lenN 1048576 x:=by
 obtain ⟨a,b,c,d,e,f,_⟩:=h;exact lenN_mk bC9 bC9 (by have:=c.1;omega) (λy hy=>by have:=(c.2 y hy).1;omega) (by have:=d.1;omega) bC9 bC9
def kXk (now:Int) (x0:Aa jN) (kc:Int) (xe:Aa kT) (x2:Aa kF) (x3:Aa jH) (x4:Aa ky) (x5:Aa kJ) (x6:Int) (h:lenN 1048576 (x0,(kc,xe),x2,x3,x4,x5,x6)) :
    ∃ ye y2 y3 y5,kOa now (x0,(kc,xe),x2,x3,x4,x5,x6)=(x0,(kc,ye),y2,y3,x4,y5,x6)/\(∀ p∈y2,∀ r∈p.2.1,now<=r.2.2)/\(kAq (x0,(kc,xe),x2,x3,x4,x5,x6)=true->kAq (x0,(kc,ye),y2,y3,x4,y5,x6)=true)/\y2.length<=x2.length/\lenN 1048576 (x0,(kc,ye),y2,y3,x4,y5,x6) :=
  ⟨(kRs now (kc,xe)).2,kDc now x2,(zf now (x0,(kc,xe),x2,x3,x4,x5,x6) x2.length).1,(zf now (x0,(kc,xe),x2,x3,x4,x5,x6) x2.length).2,rfl,λp hp r hr=>expP_alive (l:=x2) hp hr,λk=>tick_valid (now:=now) (x:=(x0,(kc,xe),x2,x3,x4,x5,x6)) k,kIh now x2,tick_lenN (now:=now) (x:=(x0,(kc,xe),x2,x3,x4,x5,x6)) h bC8⟩
def vDatS (x y:jN):Bool:=!(!decide (x.1=y.1) || (!decide (x.2.1=y.2.1) || (!decide (x.2.2.1=y.2.2.1) || (!decide (x.2.2.2.1=y.2.2.2.1) || !decide (x.2.2.2.2=y.2.2.2.2)))))
def vDatS_eq (x y:jN):vDatS x y=decide (x=y):=by
 obtain ⟨x0,x1,x2,x3,x4⟩:=x;obtain ⟨y0,y1,y2,y3,y4⟩:=y;rw [Ad];simp [vDatS]
def kYx (x y:jH):Bool:=!((x.2 != y.2) || !eqN x.1 y.1)
def vSeenS_eq (x y:jH):kYx x y=decide (x=y):=by
 obtain ⟨x0,x1⟩:=x;obtain ⟨y0,y1⟩:=y;rw [Ad];simp [kYx,eqN];constructor
 · rintro ⟨h1,h2⟩;exact ⟨h2,h1⟩
 rintro ⟨h1,h2⟩;exact ⟨h2,h1⟩
def vCeS (x y:kT):Bool:=!((x.2 != y.2) || !decide (x.1=y.1))
def vCeS_eq (x y:kT):vCeS x y=decide (x=y):=by
 obtain ⟨x0,x1⟩:=x;obtain ⟨y0,y1⟩:=y;rw [Ad];simp [vCeS];constructor
 · rintro ⟨h1,h2⟩;exact ⟨h2,h1⟩
 rintro ⟨h1,h2⟩;exact ⟨h2,h1⟩
def vSt (x y:kg):Bool:=(x.1==y.1) && decide (x.2=y.2)
def vSt_eq (x y:kg):vSt x y=decide (x=y):=by
 obtain ⟨x0,x1⟩:=x;obtain ⟨y0,y1⟩:=y;rw [Ad];simp [vSt]
def vReq (x y:kW):Bool:=(x.1==y.1) && ((x.2.1==y.2.1) && (x.2.2==y.2.2))
def vReq_eq (x y:kW):vReq x y=decide (x=y):=by
 obtain ⟨x0,x1,x2⟩:=x;obtain ⟨y0,y1,y2⟩:=y;rw [Ad];simp [vReq]
def kHd (x y:kF):Bool:=!((x.2.2 != y.2.2) || (!eqN x.1 y.1 || ((x.2.1.length:Int) != y.2.1.length)))
def vPendS_no {x y:kF} (h:kHd x y=false):x≠y:=by
 rintro rfl;simp [kHd,eqN] at h
def kTq {x y:kF} (h:kHd x y=true):x.2.1.length=y.2.1.length/\(x.2.1=y.2.1->x=y):=by
 obtain ⟨x0,x1,x2⟩:=x;obtain ⟨y0,y1,y2⟩:=y;simp [kHd,eqN] at h;obtain ⟨h0,h1,h2⟩:=h;subst h0 h1;exact ⟨by show x1.length=y1.length;omega,λq=>by simp at q;rw [q]⟩
def kTs (x y:yB):Bool:=(((((decide (x.1=y.1) && decide (x.2.1=y.2.1)) && decide (x.2.2.1=y.2.2.1)) && decide (x.2.2.2.1=y.2.2.2.1)) && decide (x.2.2.2.2.1=y.2.2.2.2.1)) && decide (x.2.2.2.2.2.1=y.2.2.2.2.2.1)) && (x.2.2.2.2.2.2==y.2.2.2.2.2.2)
def vNode_eq (x y:yB):kTs x y=decide (x=y):=by
 obtain ⟨x0,x1,x2,x3,x4,x5,x6⟩:=x;obtain ⟨y0,y1,y2,y3,y4,y5,o⟩:=y;rw [Ad];simp [kTs,and_assoc]
def kSj {w:Aw} {va D:Ay} {a b:Aa ByteArray} (ad:(kD.slice 9 kD.str).raw w [va] a) (ag:(kD.slice 9 kD.str).raw w [D] b) :
    Bc prog 91 #[va,D] w (bQ w (.bool (eqN a b))):=by
 obtain ⟨aa,al,rfl,la⟩:=kD.sl ad
 obtain ⟨ab,X,rfl,lb⟩:=kD.sl ag
 go_enter func91,ntmps91
 by_cases hl:a.length=b.length
 case neg =>
  exact lC
 obtain ⟨hz,bj⟩:=y8
 have HL:=yD hl;clear hl
 go_wp2
 go_loopw [5] (λi wr=>∃ k:Nat,k<=a.length/\i=.int .i64 k/\Hid (a.take k=b.take k)/\Qb w wr) (λi _=>a.length - (Bd i).toNat)
 case atStart=>exact ⟨0,Nat.zero_le _,rfl,yD rfl,bR⟩
 exact uV
def kBk {w:Aw} {ca:Aa Ay} {a:ko} (ha:kU.raw w ca a) {cb:Aa Ay} {b:ko} (hb:kU.raw w cb b) :
    Bc prog 42 #[.agg ca.toArray,.agg cb.toArray] w (bQ w (.bool (eqN a b))):=by
 obtain ⟨av,rfl,ad⟩:=kZ ha
 obtain ⟨bv,rfl,ag⟩:=kZ hb
 obtain ⟨aa,al,rfl,la⟩:=kD.sl ad
 obtain ⟨ab,X,rfl,lb⟩:=kD.sl ag
 go_enter func42,ntmps42
 go_wp2_with fail
 refine (kSj (ad.below bF) (ag.below bF)).mono ?_
 rintro e Y ⟨rfl,O⟩
 have R:Qb w Y:=Below.trans bF (O.mono bC4)
 clear O
 go_wp2
 go_ret
 exact ⟨rfl,R⟩
def kBj {w:Aw} {va D:Ay} {a b:(Aa ky)} (ad:(kD.slice 77 kY).raw w [va] a) (ag:(kD.slice 77 kY).raw w [D] b) :
    Bc prog 12 #[va,D] w (bQ w (.bool (decide (a=b)))):=by
 obtain ⟨aa,al,rfl,la⟩:=kD.sl ad
 obtain ⟨ab,X,rfl,lb⟩:=kD.sl ag
 go_enter func12,ntmps12
 by_cases hl:a.length=b.length
 case neg =>
  exact lW
 obtain ⟨hz,bj⟩:=y8
 have HL:=yD hl;clear hl
 go_wp2
 go_loopw [5] (λi wr=>∃ k:Nat,k<=a.length/\i=.int .i64 k/\Hid (a.take k=b.take k)/\Qb w wr) (λi _=>a.length - (Bd i).toNat)
 case atStart=>exact ⟨0,Nat.zero_le _,rfl,yD rfl,bR⟩
 obtain ⟨k,hk,rfl,HN,o⟩:=hrel
 by_cases hlt:k < a.length
 · have az:k < b.length:=vN;obtain ⟨pb,po,rfl,bm,cm,cl,pr,a5,a6,bb⟩:=kD.zg (ad.below o) (i:=k) bC9 rfl;obtain ⟨qb,qo,rfl,ae,af,ah,qr,ar,ax,a2⟩:=kD.zg (ag.below o) (i:=k) bC9 rfl;obtain ⟨hne,bx⟩:=CL;generalize a[k]=x at *;generalize b[k]=y at *;obtain ⟨HD,HX⟩:=AX;have H:=yD (vRouteS_eq x y);clear hne bx;obtain ⟨x0,x1,x2⟩:=x;obtain ⟨y0,y1,y2⟩:=y;obtain ⟨b8,aq,a7,bi,bw,b6⟩:=jM pr;simp only [Ac,and_true] at aq;obtain ⟨rfl,rfl,rfl⟩:=aq;obtain ⟨bn,bo,rfl,cd⟩:=kD.sl bi;obtain ⟨bg,Z,aj,ap,ao,au⟩:=jM qr;simp only [Ac,and_true] at Z;obtain ⟨rfl,rfl,rfl⟩:=Z;obtain ⟨ac,ay,rfl,bd⟩:=kD.sl ap;go_wp2_with fail;have FX:=yD (λ(W:Aw) (hW:Qb wr W)=>kKa hW a5 a6 bb ar ax a2);refine kM (λW=>Qb wr W) [Tt,Tt,Tt,Tt,Tt,Tt,Tt,Tt,Tt,Tt,Tt,Tt,Tt,Tt,Tt,Tt,Tt,Tt,Tt,Tt,Tt,Tt,Tt,Tt,Tt,Tt,Tt,Tt,Tt,Tt,Tt,Tt,Tt,Tt,Tt,Ff,Tt,Tt] bC3 bC3 pK (bR.drew) ?_;intro wS E;iterate 11
    all_goals refine ku ?_
   all_goals (refine jy λb V=>?_;cases b <;> try simp only [jw] at V)
   iterate 12
    all_goals refine ku ?_
   all_goals (refine jy λb G=>?_;cases b <;> try simp only [jw] at G)
   iterate 10
    all_goals refine ku ?_
   all_goals first | refine wkB (kBk (kD.raw.below a7 E) (kD.raw.below aj E)) (λwS1 E=>?_) | refine ku ?_
   all_goals refine ku ?_
   all_goals (refine jy λb I=>?_;cases b <;> try simp only [jw] at I)
   all_goals refine kS ?_
   all_goals have F:=(tQ o E)
   all_goals first
     | (have U:=H.out.symm.trans (show _=false by simp only [kSz,Ai,Ae,Aj,Ak,Ag,Ah,Ap,Aq,Al,Am,Ar,V,G,I]);have L:=yD (HD.out U);clear U H HD HX;go_wp2;go_ret;exact ⟨kX L.out.symm,F⟩)
     | (have U:=H.out.symm.trans (show _=true by simp only [kSz,Ai,Ae,Aj,Ak,Ag,Ah,Ap,Aq,Al,Am,Ar,V,G,I]);have L:=yD (HX.out U);clear U H HD HX;go_wp2;go_roundw;(case rel=>exact ⟨k + 1,by omega,by go_num,L,F⟩);(case measure=>simp [Bd];omega))
 exact lX
def kVi {w:Aw} {va D:Ay} {a b:(Aa kJ)} (ad:(kD.slice 108 kL).raw w [va] a) (ag:(kD.slice 108 kL).raw w [D] b) :
    Bc prog 26 #[va,D] w (bQ w (.bool (decide (a=b)))):=by
 obtain ⟨aa,al,rfl,la⟩:=kD.sl ad
 obtain ⟨ab,X,rfl,lb⟩:=kD.sl ag
 go_enter func26,ntmps26
 by_cases hl:a.length=b.length
 case neg =>
  exact lW
 obtain ⟨hz,bj⟩:=y8
 have HL:=yD hl;clear hl
 go_wp2
 go_loopw [5] (λi wr=>∃ k:Nat,k<=a.length/\i=.int .i64 k/\Hid (a.take k=b.take k)/\Qb w wr) (λi _=>a.length - (Bd i).toNat)
 case atStart=>exact ⟨0,Nat.zero_le _,rfl,yD rfl,bR⟩
 obtain ⟨k,hk,rfl,HN,o⟩:=hrel
 by_cases hlt:k < a.length
 · have az:k < b.length:=vN;obtain ⟨pb,po,rfl,bm,cm,cl,pr,a5,a6,bb⟩:=kD.zg (ad.below o) (i:=k) bC9 rfl;obtain ⟨qb,qo,rfl,ae,af,ah,qr,ar,ax,a2⟩:=kD.zg (ag.below o) (i:=k) bC9 rfl;obtain ⟨hne,bx⟩:=CL;generalize a[k]=x at *;generalize b[k]=y at *;obtain ⟨HD,HX⟩:=AX;have H:=yD (vMeasS_eq x y);clear hne bx;obtain ⟨x0,x1,x2⟩:=x;obtain ⟨y0,y1,y2⟩:=y;obtain ⟨b8,aq,a7,bi,bw,b6⟩:=yF pr;simp only [Ac,and_true] at aq;obtain ⟨rfl,rfl,rfl⟩:=aq;obtain ⟨bn,bo,rfl,cd⟩:=kD.sl bi;obtain ⟨bg,Z,aj,ap,ao,au⟩:=yF qr;simp only [Ac,and_true] at Z;obtain ⟨rfl,rfl,rfl⟩:=Z;obtain ⟨ac,ay,rfl,bd⟩:=kD.sl ap;go_wp2_with fail;have FX:=yD (λ(W:Aw) (hW:Qb wr W)=>kKa hW a5 a6 bb ar ax a2);refine kM (λW=>Qb wr W) [Tt,Tt,Tt,Tt,Tt,Tt,Tt,Tt,Tt,Tt,Tt,Tt,Tt,Tt,Tt,Tt,Tt,Tt,Tt,Tt,Tt,Tt,Tt,Tt,Tt,Tt,Tt,Tt,Tt,Tt,Tt,Tt,Tt,Tt,Tt,Ff,Tt,Tt] bC3 bC3 pK (bR.drew) ?_;intro wS E;iterate 11
    all_goals refine ku ?_
   all_goals (refine jy λb V=>?_;cases b <;> try simp only [jw] at V)
   iterate 12
    all_goals refine ku ?_
   all_goals (refine jy λb G=>?_;cases b <;> try simp only [jw] at G)
   iterate 10
    all_goals refine ku ?_
   all_goals first | refine wkB (kBk (kD.raw.below a7 E) (kD.raw.below aj E)) (λwS1 E=>?_) | refine ku ?_
   all_goals refine ku ?_
   all_goals (refine jy λb I=>?_;cases b <;> try simp only [jw] at I)
   all_goals refine kS ?_
   all_goals have F:=(tQ o E)
   all_goals first
     | (have U:=H.out.symm.trans (show _=false by simp only [kYy,Ai,Ae,Aj,Ak,Ag,Ah,Ap,Aq,Al,Am,Ar,V,G,I]);have L:=yD (HD.out U);clear U H HD HX;go_wp2;go_ret;exact ⟨kX L.out.symm,F⟩)
     | (have U:=H.out.symm.trans (show _=true by simp only [kYy,Ai,Ae,Aj,Ak,Ag,Ah,Ap,Aq,Al,Am,Ar,V,G,I]);have L:=yD (HX.out U);clear U H HD HX;go_wp2;go_roundw;(case rel=>exact ⟨k + 1,by omega,by go_num,L,F⟩);(case measure=>simp [Bd];omega))
 exact lX
def kSk {w:Aw} {va D:Ay} {a b:Aa kF} (ad:(kD.slice 43 kH).raw w [va] a) (ag:(kD.slice 43 kH).raw w [D] b) :
    Bc prog 24 #[va,D] w (bQ w (.bool (decide (a=b)))):=by
 obtain ⟨aa,al,rfl,la⟩:=kD.sl ad
 obtain ⟨ab,X,rfl,lb⟩:=kD.sl ag
 go_enter func24,ntmps24
 by_cases hl:a.length=b.length
 case neg =>
  exact lW
 obtain ⟨hz,bj⟩:=y8
 have HL:=yD hl;clear hl
 go_wp2
 go_loopw [5] (λi wr=>∃ k:Nat,k<=a.length/\i=.int .i64 k/\Hid (a.take k=b.take k)/\Qb w wr) (λi _=>a.length - (Bd i).toNat)
 case atStart=>exact ⟨0,Nat.zero_le _,rfl,yD rfl,bR⟩
 obtain ⟨k,hk,rfl,HN,o⟩:=hrel
 by_cases hlt:k < a.length
 · have az:k < b.length:=vN;obtain ⟨pb,po,rfl,bm,cm,cl,pr,a5,a6,bb⟩:=kD.zg (ad.below o) (i:=k) bC9 rfl;obtain ⟨qb,qo,rfl,ae,af,ah,qr,ar,ax,a2⟩:=kD.zg (ag.below o) (i:=k) bC9 rfl;obtain ⟨hne,bx⟩:=CL;have bt:=Bb.2 hlt;have b9:=Bb.2 az;have bp:=Au k;generalize a[k]=x at *;generalize b[k]=y at *;have HD:Hid (kHd x y=false->decide (a=b)=false):=yD (λq=>by simpa using hne (vPendS_no q));have HE:Hid (¬ x.2.1=y.2.1->decide (a=b)=false):=yD (λq=>by simpa using hne (λe=>q (by rw [e])));have HX:Hid (kHd x y=true->x.2.1.length=y.2.1.length/\(x.2.1=y.2.1->a.take (k + 1)=b.take (k + 1))):=yD (λq=>⟨(kTq q).1,λe=>bx ((kTq q).2 e)⟩);clear hne bx;obtain ⟨b8,be,aq,a7,bi,bw,b6⟩:=jQ pr;simp only [Ac,and_true] at aq;obtain ⟨rfl,rfl,rfl⟩:=aq;obtain ⟨bn,bo,rfl,cd⟩:=kD.sl bi;obtain ⟨d5,d8,rfl,bz⟩:=kD.sl bw;obtain ⟨bg,dc,Z,aj,ap,ao,au⟩:=jQ qr;simp only [Ac,and_true] at Z;obtain ⟨rfl,rfl,rfl⟩:=Z;obtain ⟨ac,ay,rfl,bd⟩:=kD.sl ap;obtain ⟨ai,bc,rfl,bl⟩:=kD.sl ao;go_upto_region 6 with fail;have FX:=yD (λ(W:Aw) (hW:Qb wr W)=>kKa hW a5 a6 bb ar ax a2);refine kM (λW=>Qb wr W) [Tt,Tt,Tt,Tt,Tt,Tt,Tt,Tt,Tt,Tt,Tt,Tt,Tt,Tt,Tt,Tt,Tt,Tt,Tt,Tt,Tt,Tt,Ff,Tt,Tt,Tt,Tt,Tt,Tt,Tt,Tt,Tt,Tt,Tt,Tt,Tt,Tt,Tt,Tt,Tt] bC3 bC3 pK (bR.drew) ?_;intro wS E;iterate 11
    all_goals refine ku ?_
   all_goals (refine jy λb V=>?_;cases b <;> try simp only [jw] at V)
   iterate 10
    all_goals refine ku ?_
   all_goals first | refine wkB (kBk (kD.raw.below a7 E) (kD.raw.below aj E)) (λwS1 E=>?_) | refine ku ?_
   all_goals refine ku ?_
   all_goals refine ku ?_
   all_goals (refine jy λb H=>?_;cases b <;> try simp only [jw] at H)
   iterate 13
    all_goals refine ku ?_
   all_goals (refine jy λb J=>?_;cases b <;> try simp only [jw] at J)
   all_goals refine kS ?_
   all_goals have F:=(tQ o E)
   all_goals first
     | (have L:=yD (HD.out (show kHd x y=false by simp only [kHd,Ai,Ae,Aj,Ak,Ag,Ah,Ap,Aq,Al,Am,Ar,V,H,J]));clear HD HE HX;go_wp2;go_ret;exact ⟨kX L.out.symm,F⟩)
     | have L:=yD (HX.out (show kHd x y=true by simp only [kHd,Ai,Ae,Aj,Ak,Ag,Ah,Ap,Aq,Al,Am,Ar,V,H,J]))
   all_goals try clear HD HX
   have b2:=a6;have b1:=ax;have pn:=bw;have qn:=ao;have N:=yD L.out.1;clear V H J;have fj:=yD L.out.2;clear L;generalize x.2.1=P at *;generalize y.2.1=Q at *;clear HN;go_wp2;go_loopw [6] (λi wq=>∃ j:Nat,j<=P.length/\i=.int .i64 j/\Hid (P.take j=Q.take j)/\Qb wr wq) (λi _=>P.length - (Bd i).toNat);case atStart=>exact ⟨0,Nat.zero_le _,rfl,yD rfl,E⟩
   obtain ⟨j,I,rfl,HM,hq⟩:=hrel;have B3:=cL hq b2;have D3:=cL hq b1;by_cases an:j < P.length
   · have br:j < Q.length:=by have:=N.out;omega
     obtain ⟨R,no,rfl,ck,fe,fg,nr,U,ba,bq⟩:=kD.zg (pn.below hq) an rfl;obtain ⟨mb,mo,rfl,b5,b4,b3,mr,bh,bf,b0⟩:=kD.zg (qn.below hq) br rfl;obtain ⟨ak,_⟩:=yG nr;obtain ⟨bk,_⟩:=yG mr;simp only [Ac,and_true] at ak bk;obtain ⟨rfl,rfl,rfl⟩:=ak;obtain ⟨rfl,rfl,rfl⟩:=bk;clear nr mr;have ce:=Bb.2 an;have b7:=Bb.2 br;have ch:=Au j;have hne:=λq=>kCf an br q;have bx:=λq=>zW HM.out an br q;generalize P[j]=u at *;generalize Q[j]=v at *;have aw:Hid (vReq u v=false->decide (a=b)=false):=yD (λq=>HE.out (hne (by rw [vReq_eq] at q;simpa using q)));have a9:Hid (vReq u v=true->P.take (j + 1)=Q.take (j + 1)):=yD (λq=>bx (by rw [vReq_eq] at q;simpa using q));clear hne bx;obtain ⟨u0,Y,u2⟩:=u;obtain ⟨v0,v1,v2⟩:=v;have a1:(u0=v0/\Y=v1/\u2=v2)\/(u0≠v0)\/(u0=v0/\Y≠v1)\/(u0=v0/\Y=v1/\u2≠v2):=bC9;rcases a1 with ⟨rfl,rfl,rfl⟩ | e|⟨rfl,e⟩|⟨rfl,rfl,e⟩;all_goals go_upto_region 11 with fail
     all_goals refine kM (λW=>Qb wr W) [Tt,Tt,Tt,Tt,Tt,Tt,Tt,Tt,Tt,Tt,Tt,Tt,Tt,Tt,Tt,Tt,Tt] bC3 bC3 pK (bR.drew) ?_
     all_goals intro wS E
     iterate 4
      all_goals refine ku ?_
     iterate 2
      all_goals first|(refine kI rfl E ?_)|(refine jC (v:=?_) rfl (λW hW=>?_) ?_;rotate_left;(· have bu:=cL hW B3;have bv:=cL hW D3;have am:=cL hW U;have O:=cL hW ba;have a8:=cL hW bq;have av:=cL hW bh;have a3:=cL hW bf;have a4:=cL hW b0;clear hW;go_simp;try with_reducible rfl))
      all_goals refine jF ?_
      all_goals refine ku ?_
      all_goals refine ku ?_
     iterate 2
      all_goals refine ku ?_
      all_goals refine ku ?_
      all_goals first|(refine kI rfl E ?_)|(refine jC (v:=?_) rfl (λW hW=>?_) ?_;rotate_left;(· have bu:=cL hW B3;have bv:=cL hW D3;have am:=cL hW U;have O:=cL hW ba;have a8:=cL hW bq;have av:=cL hW bh;have a3:=cL hW bf;have a4:=cL hW b0;clear hW;go_simp;try with_reducible rfl))
      all_goals refine jF ?_
     all_goals (refine jy λb G=>?_;cases b <;> try simp only [jw] at G)
     all_goals refine kS ?_
     all_goals have EQ:=(tQ hq E)
     all_goals first
       | (have L:=yD (aw.out (by first|(simp [vReq,e];done)|(simp [vReq];done)));clear aw a9;have F:=(tQ o EQ);go_wp2;go_ret;exact ⟨kX L.out.symm,F⟩)
       | (have L:=yD (a9.out (by first|(simp [vReq];done)));clear aw a9;go_wp2;go_roundw;(case rel=>exact ⟨j + 1,by omega,by go_num,L,EQ⟩);(case measure=>simp [Bd];omega))
   have L:=yD (fj.out (kBa HM.out an N.out));have F:=(tQ o hq);exact lY
 exact lX
end Go.Proofs.YtonmjkmaadgceabGreat

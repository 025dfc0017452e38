/-
  Nodes: equal.
-/
import Derived.Test.YtjhfdpopkkmigaaGreatHops
import Derived.Test.YtjhfdpopkkmigaaGreatDrawF
set_option linter.unusedVariables false
set_option linter.defProp false
set_option linter.unusedSimpArgs false
set_option linter.unnecessarySimpa false
set_option maxRecDepth 100000
set_option maxHeartbeats 4000000
open Bool renaming true->Tt,false->Ff
open Bool renaming not_false->Aa,and_false->Ab,false_and->Ac,eq_iff_iff->Ad,not_true->Ae,and_true->Ag,true_and->Ah,or_false->Ai,false_or->Aj,or_true->Ak,true_or->Al,not_not->Am,noConfusion->Ay
open Go renaming Value->Ap,World->Aq,Calls->Ar
open List renaming drop_eq_getElem_cons->Au,take_length->Aw,length_filter_le->Az
open _root_ renaming List->Av
open List.cons renaming injEq->Ba
open Go.Act renaming put->Bb
namespace Go.Proofs.YtjhfdpopkkmigaaGreat
open Go.RowKit _root_.Go.Proofs.Tryz
def jdz {α:Type} {p:Prop} {G q:α->Prop} (k:∀ c,G c->q c) (h:Hid (∀ c,G c->q c)->p:=by intro kq;first|(refine kG rfl E ?_;(try simp only [Act.put,zA,zB,zC]);exact hu2 kq)|(refine kEm (v:=?_) (b:=?_) rfl (λW hW=>?_) ?_ ?_;rotate_left;rotate_left;(· (try have A:=FX.out W hW);clear hW;go_simp;try with_reducible rfl);(· with_reducible rfl);first|(refine pfF (λ_=>?_) (by with_reducible rfl);(try simp only [Act.put,zA,zB,zC]);exact hu2 kq)|(refine pfT (λ_=>?_) (by with_reducible rfl);(try simp only [Act.put,zA,zB,zC]);exact hu2 kq)|(intro c hc;(try simp only [Act.put,zA,zB,zC]);exact kq.out c hc))):p:=h (yD k)
def kRa {w:Aq} {v:Ap} {l:Av Int} {g:FuncId} {cp:Array Ap} {S:Nat->Prop} (p:Int->Bool) (hg:jH prog g) (hl:kD.kU 3 kD.int w v l S) (hlen:l.length<=16777216)
    (J:∀ wr,Touch S w wr->∀ x c,kD.int.raw wr [c] x->Ar prog g (#[c]++cp) wr (λe w'=>e=.returned (.bool (p x))/\Qb wr w')) :
    Ar prog 48 #[v,.func (.func g) #[] cp] w λe w'=>∃ v',e=.returned v'/\kD.kU 3 kD.int w' v' (l.filter (λx=>!p x)) S/\Touch S w w':=by
 have av:=yD J;clear J
 have L:=yD hl
 have W:=yD hg
 unfold jH at hg
 have HI:Hid (∀ va,v=va->Ar prog 116 #[va,.func (.func g) #[] cp] w λe w'=>e=.returned (.int .i64 (idxOf p l))/\Qb w w'):=yD (λva hv=>by
   subst hv;exact kTk p W.out (L.out.own hlen).raw (λwr hb i h c hr=>av.out wr (Touch.of_below hb) _ c hr))
 rcases kRy p l with ⟨hi,hno⟩|⟨i,hil,hi,hyes,hno⟩
 · obtain ⟨oa,on,oc,ho,bh⟩:=hl.parts;obtain rfl:=ho;rw [hi] at HI;have HF:=yD (kSb hno).symm;clear hno hi hl;go_enter func48,ntmps48;exact aO
 obtain ⟨b,cap,rfl,F⟩:=kD.kLt hl hil
 rw [hi] at HI
 rw [Au hil] at F
 have V:=F.skip
 have cd:=yD (kMy hil hno)
 have bd:=yD (kEq (p:=λy=>!p y) hil (by simp [hyes]))
 have ab:=yD F.mem
 have Z:=F.len
 simp only [List.length_take,List.length_cons,List.length_drop] at Z
 have bw:l.length<=cap:=Z.2.1
 have bo:cap<=9223372036854775807:=pO
 clear hno hi hl F hyes L Z
 have aq:((i:Int)==-1)=false:=rJ
 go_enter func48,ntmps48
 go_wp2_with fail
 refine (HI.out _ rfl).mono ?_
 rintro e w1 ⟨rfl,O⟩
 have G1:=yD (V.below O)
 have E1:=yD (Touch.of_below (S:=S) O)
 clear V HI
 go_wp2
 go_loopw [5,6] (λq c wr=>∃ m kn:Nat,m<=l.length/\kn + 1<=m/\q=.int .i64 kn/\c=.int .i64 m/\Hid (kn=((l.take m).filter (λy=>!p y)).length)/\Hid (kD.gap 3 kD.int wr b cap l.length ((l.take m).filter (λy=>!p y)) (m - kn) (l.drop m) S)/\Hid (Touch S w wr)) (λ_ c _=>l.length - (intOf c).toNat)
 case atStart =>
  exact aP
 clear E1 G1 bd cd O
 obtain ⟨m,kn,hm,b6,rfl,rfl,N,G,E⟩:=hrel
 by_cases hlt:m < l.length
 · have X:=G.out;rw [Au hlt] at X;have bv:=λq=>kGm (p:=λy=>!p y) hlt q;have b1:=λq=>kEq (p:=λy=>!p y) hlt q;obtain ⟨cs,hr,J,al,Y,H⟩:=X.next;have R:=X.skip;have ah:=X.frozen;generalize l[m]=x at *;have a1:=yD bv;have b4:=yD b1;clear bv b1 X;rw [<- N.out] at Y H;rw [show kn + (m - kn)=m by omega] at Y;obtain ⟨c0,rfl⟩:∃ c0,cs=[c0]:=by
    have ba:=kD.int.len hr
    match cs,ba with
    | [c0],_=>exact ⟨_,rfl⟩
   have A0:Qc wr b m c0:=by have:=Y 0 c0 rfl;simpa [show kD.int.n=1 from rfl] using this
   have o:∀ q,q < 1->kn * 1 + q < cap * 1:=by intro q hq;omega
   obtain ⟨o0,O0⟩:=Option.isSome_iff_exists.1 (G.out.cells (i:=kn) (by have:=o 0 bD1;simp only [show kD.int.n=1 from rfl];omega));have Z0:=ah kn;have HR:=yD hr;obtain ⟨ae,D⟩:=kD.jb hr;obtain rfl:c0=_:=by simpa using ae
   clear ae D hr J Y o ah;have ap:=yD H;have ey:=yD R;clear H R;have HB:=yD (G.out.lt);go_wp2_with fail;refine (av.out wr E.out _ _ HR.out).mono ?_;rintro e w5 ⟨rfl,bn⟩;have E5:=yD bn;clear bn;cases hp:p x
   · have U:=yD (a1.out bC9);replace O0:=cL E5.out O0;replace Z0:=(E5.out.frozen (p:=⟨b,kn,none⟩) HB.out).trans Z0;obtain ⟨ez,au⟩:=ap.out w5 E5.out bD1 _ rfl;simp only [show kD.int.n=1 from rfl,Nat.mul_one] at ez au;exact aQ
   exact aR
 obtain rfl:m=l.length:=bD1
 have X:=G.out
 rw [List.drop_length,Aw] at X
 rw [Aw] at N
 have HG:=yD X;clear X G
 have af:(kn:Int)<=l.length:=bD1
 have ag:(kn:Int)<=cap:=bD1
 have ak:kn<=l.length:=bD1
 have aj:(l.length:Int)<=cap:=bD1
 have b0:0 < l.length - kn:=bD1
 obtain ⟨w6,ac,h6,t6⟩:=HG.out.kLk (P:=prog) (t:=51) (ty:=0) (c:=cap - kn) (p:=kn) b0 underlying51 kAi rfl bD0 (zero_one _ bD0) (by simp only [show kD.int.n=1 from rfl];rw [<- N.out,Nat.mul_one])
 exact aS
def outOk (x:jq) (n:kr):Bool:=mOk n x.2.2.2.2.1
def outF (x:jq) (n:kr) (ex:Int):Av Int:=if outOk x n then kJs x.2.2.2.2.2.1 (kDp n x.2.2.2.2.1) ((kDq x.2.2.2.2.1 n).filter (λf=>!(f==ex))) else []
def jAg {x:jq} {n:kr} {ex:Int} (h:mOk n x.2.2.2.2.1=false):outF x n ex=[]:=by unfold outF outOk;rw [h];rfl
def kVn {x:jq} {n:kr} {ex:Int} (h:mOk n x.2.2.2.2.1=true):outF x n ex=kJs x.2.2.2.2.2.1 (kDp n x.2.2.2.2.1) ((kDq x.2.2.2.2.1 n).filter (λf=>!(f==ex))):=by unfold outF outOk;rw [h];rfl
def kQc {x:jq} {n:kr} {ex:Int} (h:mOk n x.2.2.2.2.1=true):outF x n ex=(kJs x.2.2.2.2.2.1 (kDp n x.2.2.2.2.1) (kDq x.2.2.2.2.1 n)).filter (λf=>!(f==ex)):=by
 rw [kVn h];unfold kJs;rw [Srt.kXk]
def outF_len {x:jq} {n:kr} {ex:Int}:(outF x n ex).length<=x.2.2.2.2.1.length:=by
 unfold outF;split
 · rw [kLm];exact Nat.le_trans (Az _ _) kLs
 exact Nat.zero_le _
def kTe {w:Aq} {f ex:Int} {B:Nat} (A:Qc w B 0 (.int .i64 ex)):Ar prog 50 (#[.int .i64 f]++#[.pointer (some ⟨B,0,none⟩)]) w λe w'=>e=.returned (.bool (f==ex))/\w'=w:=by
 show Ar prog 50 #[_,_] w _;go_enter func50,ntmps50;go_wp2;go_ret;exact ⟨rfl,rfl⟩
def kNt:jH prog 50:=yR func50 bC5 bC5
def cell_lt {w:Aq} {b i:Nat} {v:Ap} (k:Qc w b i v):b < w.heap.size:=by
 rcases Nat.lt_or_ge b w.heap.size with q | q
 · exact q
 unfold World.cell? at k;simp [Array.getElem?_eq_none q] at k
def Touch.cell {S:Nat->Prop} {w w':Aq} {b i:Nat} {v:Ap} (h:Touch S w w') (hb:¬ S b) (k:Qc w b i v):Qc w' b i v:=by
 exact aA
def kMc {w:Aq} {cx:Av Ap} {x:jq} (hx:je.rd w cx x) {cn:Av Ap} {n:kr} (hn:kW.rd w cn n) {ex:Int} (ah:Qi ex) :
    Ar prog 15 #[.agg cx.toArray,.agg cn.toArray,.int .i64 ex] w (kBm (kD.slice 3 kD.int) (outF x n ex) w):=by
 obtain ⟨q1,q2,q3,q4,Y,q6,q7⟩:=hx.2
 have HA:Hid (x.2.2.2.2.1.length<=16777216):=yD Y.1
 have HN:=yD hn
 obtain ⟨nv,rfl,a9⟩:=ko hn.1
 obtain ⟨na,np,rfl,_⟩:=kD.sl a9
 obtain ⟨ch,cz,dg,df,db,c9,rfl,G,aq,ba,a3,au,a4,a6,bg,br⟩:=yB hx.1
 obtain ⟨bp,bi,rfl,co⟩:=kD.sl G
 obtain ⟨bw,bt,rfl,dd⟩:=kD.sl a3
 obtain ⟨ck,cc,rfl,dh⟩:=kD.sl au
 obtain ⟨b9,b8,rfl,dj⟩:=kD.sl a4
 obtain ⟨bx,bu,rfl,dk⟩:=kD.sl a6
 obtain ⟨b0,bz,rfl,di⟩:=kD.sl bg
 obtain ⟨RR,RM⟩:=GH
 clear a9 hn hx q1 q2 q3 q4 Y q6 q7 G aq ba a3 au a4 a6 bg br
 have a5:=yD (jAg (x:=x) (n:=n) (ex:=ex));have aa:=yD (kVn (x:=x) (n:=n) (ex:=ex));have Z:=yD (kQc (x:=x) (n:=n) (ex:=ex));have af:=yD (outF_len (x:=x) (n:=n) (ex:=ex))
 go_enter func15,ntmps15
 go_wp2_with fail
 generalize J:World.alloc (World.alloc (World.alloc w _) _) _=N
 obtain ⟨R,K5,K6,KN⟩:=G8
 have o:N.cell? ⟨w.heap.size + 1 + 1,0,none⟩=some (.int .i64 ex):=tT
 clear J
 have bq:=R.size
 refine (kFh (RR.out.below R) (HN.out.below R)).mono ?_
 rintro e w1 ⟨pc,rfl,OP,O⟩
 obtain ⟨b7,rfl,a8⟩:=ko OP.raw
 obtain ⟨a2,be,rfl,_⟩:=kD.sl a8
 clear a8
 have HP:=yD OP.rd
 have E1:=(tQ R O)
 have bj:=E1.size
 replace K5:=cL O K5
 replace K6:=cL O K6
 replace KN:=cL O KN
 replace o:=cL O o
 clear OP O R
 cases bb:mOk n x.2.2.2.2.1
 · have HE:=yD (a5.out bb);go_wp2;go_ret;exact ⟨_,rfl,by rw [HE.out];exact kD.jr,E1.trans (Below.mono bG E1.size)⟩
 have HE:=yD (aa.out bb)
 clear a5 aa Z
 go_upto_region 4 with fail
 generalize D:World.alloc w1 _=wC
 have X:Qb w1 wC:=rU
 have KP:Qd wC w1 0 (.slice a2 (kDp n x.2.2.2.2.1).length be):=tV
 clear D
 replace K5:=cL X K5
 replace K6:=cL X K6
 replace KN:=cL X KN
 replace o:=cL X o
 have EC:=(tQ E1 X)
 have cl:=EC.size
 have W:=cell_lt K6
 have ac:=cell_lt KP
 go_wp2_with fail
 refine (kWe (RR.out.below EC) (HN.out.below EC)).mono ?_
 rintro e V ⟨v2,rfl,O2,ab⟩
 obtain ⟨oa,on,oc,ho,bh⟩:=O2.parts;obtain rfl:=ho
 have L:=yD O2;have a1:=yD ab
 have a7:=ab.size
 have E2:=(tQ EC ab)
 have ad:=cL ab o
 replace K6:=cL ab K6
 replace KP:=cL ab KP
 clear O2 ab
 go_wp2_with fail
 have av:Hid (∀ wr,Touch (jU wC.heap.size V.heap.size) V wr->∀ z c,kD.int.raw wr [c] z->Ar prog 50 (#[c]++#[.pointer (some ⟨w.heap.size + 1 + 1,0,none⟩)]) wr (λe w'=>e=.returned (.bool (z==ex))/\Qb wr w')):=yD (λwr E z c hz=>by
   have e:=a1.out.trans (E.below a1.out.size (λi hi=>hi.1));obtain ⟨hc,_⟩:=kD.jb hz;obtain rfl:c=_:=by simpa using hc
   exact (kTe (cL e o)).mono (λe2 V h=>⟨h.1,by rw [h.2];exact bR⟩))
 refine (kRa (λz=>z==ex) kNt L.out (by have:=kLs (l:=x.2.2.2.2.1) (n:=n);have:=HA.out;omega) av.out).mono ?_
 rintro e w3 ⟨v3,rfl,O3,T3⟩
 obtain ⟨da,F,dc,hd,U⟩:=O3.parts;obtain rfl:=hd
 have ae:=T3.below (B:=wC.heap.size) a7 (λi hi=>hi.1)
 have ar:=T3.size
 have ai:=yD O3
 have E3:=E2.trans (T3.below bD1 sP)
 have H:Qb wC w3:=a1.out.trans ae
 have ak:Qd w3 w 6 (.slice b0 x.2.2.2.2.2.1.length bz):=T3.cell (by intro q;have:=q.1;omega) K6
 have ag:Qd w3 w1 0 (.slice a2 (kDp n x.2.2.2.2.1).length be):=T3.cell (by intro q;have:=q.1;omega) KP
 clear O3 T3 L av K6 KP ae
 have HD:Hid ((kD.slice 3 kD.int).rd w3 [.slice da F dc] ((kDq x.2.2.2.2.1 n).filter (λz=>!(z==ex)))):=yD ((ai.out.own (by have:=kLs (l:=x.2.2.2.2.1) (n:=n);have:=HA.out;have:=Az (λz=>!(z==ex)) (kDq x.2.2.2.2.1 n);unfold Big;omega)).rd)
 go_wp2_with fail
 refine (kTd (RM.out.below E3) (HP.out.below (tQ X H)) HD.out).mono ?_
 rintro e w4 ⟨v4,rfl,O4,aj⟩
 obtain ⟨ra,rp,rfl,_⟩:=kD.sl O4.raw
 have bm:=yD O4;clear O4
 have b3:=aj.size;have ce:=E3.size
 go_wp2
 go_ret
 exact ⟨_,rfl,by rw [HE.out];exact bm.out.wide rD,(tQ E3 aj)⟩
def kMa {w:Aq} {cx:Av Ap} {x:jq} (hx:je.rd w cx x) {cn:Av Ap} {n:kr} (hn:kW.rd w cn n) {ex:Int} (ah:Qi ex) :
    Ar prog 20 #[.agg cx.toArray,.agg cn.toArray,.int .i64 ex] w (kBm (kD.slice 3 kD.int) (outF x n ex) w):=by
 obtain ⟨q1,q2,q3,q4,Y,q6,q7⟩:=hx.2
 have HA:Hid (x.2.2.2.2.1.length<=16777216):=yD Y.1
 have HN:=yD hn
 obtain ⟨nv,rfl,a9⟩:=ko hn.1
 obtain ⟨na,np,rfl,_⟩:=kD.sl a9
 obtain ⟨ch,cz,dg,df,db,c9,rfl,G,aq,ba,a3,au,a4,a6,bg,br⟩:=yB hx.1
 obtain ⟨bp,bi,rfl,co⟩:=kD.sl G
 obtain ⟨bw,bt,rfl,dd⟩:=kD.sl a3
 obtain ⟨ck,cc,rfl,dh⟩:=kD.sl au
 obtain ⟨b9,b8,rfl,dj⟩:=kD.sl a4
 obtain ⟨bx,bu,rfl,dk⟩:=kD.sl a6
 obtain ⟨b0,bz,rfl,di⟩:=kD.sl bg
 obtain ⟨RR,RM⟩:=GH
 clear a9 hn hx q1 q2 q3 q4 Y q6 q7 G aq ba a3 au a4 a6 bg br
 have a5:=yD (jAg (x:=x) (n:=n) (ex:=ex));have aa:=yD (kVn (x:=x) (n:=n) (ex:=ex));have Z:=yD (kQc (x:=x) (n:=n) (ex:=ex));have af:=yD (outF_len (x:=x) (n:=n) (ex:=ex))
 go_enter func20,ntmps20
 go_wp2_with fail
 generalize J:World.alloc (World.alloc w _) _=N
 obtain ⟨R,K5,K6,KN⟩:=G8
 clear J
 have bq:=R.size
 refine (kFb (RR.out.below R) (HN.out.below R)).mono ?_
 rintro e w1 ⟨pc,rfl,OP,O⟩
 obtain ⟨b7,rfl,a8⟩:=ko OP.raw
 obtain ⟨a2,be,rfl,_⟩:=kD.sl a8
 clear a8
 have HP:=yD OP.rd
 have E1:=(tQ R O)
 have bj:=E1.size
 replace K5:=cL O K5
 replace K6:=cL O K6
 replace KN:=cL O KN
 clear OP O R
 generalize bb:mOk n x.2.2.2.2.1=ok at *
 go_upto_region 2 with fail
 generalize D:World.alloc w1 _=wC
 have X:Qb w1 wC:=rU
 have KP:Qd wC w1 0 (.slice a2 (kDp n x.2.2.2.2.1).length be):=tV
 clear D
 replace K5:=cL X K5
 replace K6:=cL X K6
 replace KN:=cL X KN
 have EC:=(tQ E1 X)
 have cl:=EC.size
 have FX:=yD (λ(W:Aq) (hW:Qb wC W)=>kGr hW K5 K6 KN KP)
 refine kM (λW=>Qb wC W) [Tt,Tt,Tt,Tt,Tt,Tt,Ff,Ff,Tt] bC5 bC5 pY (bR.drew) ?_
 intro wS E
 iterate 6
  all_goals refine kX ?_
 all_goals first|(refine kG rfl E ?_)|(refine kY rfl (λK H=>?_);go_simp;refine (kUu (RR.out.below (tQ EC E)) (HN.out.below (tQ EC E))).mono ?_;rintro e wT ⟨hv,rfl,OH,an⟩;obtain ⟨ha,hp,rfl,_⟩:=kD.sl OH.raw;have ad:=yD OH;clear OH;replace E:=(tQ E an);refine H _ _ E ?_;clear H K an)
 all_goals refine jD ?_
 all_goals first|(refine kG rfl E ?_)|(refine kY rfl (λK H=>?_);go_simp;refine (kSk (RM.out.below (tQ EC E)) (HP.out.below (tQ X E)) ad.out.rd).mono ?_;rintro e wU ⟨fv,rfl,OF,L⟩;obtain ⟨fa,fp,rfl,_⟩:=kD.sl OF.raw;have HF:=yD OF;clear OF;replace E:=(tQ E L);refine H _ _ E ?_;clear H K L)
 all_goals refine jD ?_
 all_goals refine kX ?_
 all_goals refine kR ?_
 generalize wU=w4 at *
 have E4:=(tQ EC E)
 have b3:=E4.size
 have c3:Hid ((kJs x.2.2.2.2.2.1 (kDp n x.2.2.2.2.1) (kDq x.2.2.2.2.1 n)).length<=16777216):=yD (by rw [kLm];have:=kLs (l:=x.2.2.2.2.1) (n:=n);have:=HA.out;omega)
 have ab:=yD HF.out.raw
 clear ad HF KP K5 K6 KN E
 generalize kJs x.2.2.2.2.2.1 (kDp n x.2.2.2.2.1) (kDq x.2.2.2.2.1 n)=F at *
 have ag:F.length<=16777216:=c3.out
 go_wp2
 go_loopw [10,11] (λv i wr=>∃ (k:Nat),k<=F.length/\i=.int .i64 k/\(ok=false->k=0)/\Hid (kD.kU 3 kD.int wr v ((F.take k).filter (λz=>!(z==ex))) (jU w4.heap.size wr.heap.size))/\Qb w4 wr) (λ_ i _=>F.length - (intOf i).toNat)
 case atStart=>exact ⟨0,Nat.zero_le _,rfl,λ_=>rfl,yD kD.kU.void,bG⟩
 obtain ⟨k,hk,rfl,bk,HI,o⟩:=hrel
 obtain ⟨ia,ca,ic,hi,bo⟩:=HI.out.parts;obtain rfl:=hi
 have cd:=yD bk;clear bk
 have cg:=o.size
 have b6:=Int.natCast_nonneg k
 by_cases hlt:k < F.length
 · have ai:(k:Int) < F.length:=bD1;cases ok
   · have V:Hid (outF x n ex=(F.take k).filter (λz=>!(z==ex))):=yD (by rw [a5.out rfl,cd.out rfl];rfl);exact lW
   have a7:(k:Int) < F.length:=bD1;have bv:=λq=>kGm (p:=λz=>!(z==ex)) hlt q;have b1:=λq=>kEq (p:=λz=>!(z==ex)) hlt q;have hil:ca<=16777216:=by have h1:=bo.out;have h2:=kAa (p:=λz=>!(z==ex)) (l:=F) (k:=k) bD1;omega
   have cf:((F.take k).filter (λz=>!(z==ex))).length<=16777216:=by have h2:=kAa (p:=λz=>!(z==ex)) (l:=F) (k:=k) bD1;omega
   obtain ⟨qb,qo,rfl,ae,qr,A0⟩:=kD.kCa (ab.out.below o) hlt rfl;obtain ⟨ac,al⟩:=kD.jb qr;obtain rfl:ae=_:=by simpa using ac
   generalize F[k]=z at *;have a1:=yD bv;have b4:=yD b1;clear bv b1 ac qr;cases hq:(z==ex)
   · have U:=yD (a1.out (by rw [hq];rfl));have hne:(z != ex)=true:=by simp only [bne,hq];rfl
     clear a1 b4;go_wp2_with (at_builtin;refine kD.jO rfl _ _ 51 rfl (r:=kD.int) (e:=3) underlying51 kAi rfl bD0 bD0 (B:=w4.heap.size) HI.out bD3 bD3 rfl (kD.jG al _) rfl (λ_ _ h=>h) rC (λ_ h=>h.elim) bD1 bD1 ?_);intro v5 w5 hown bn ce;have az:=yD (kD.kU.cast hown U.out.symm);have b5:=o.trans bn;clear hown bn;go_wp2;go_roundw;case rel=>exact ⟨k + 1,by omega,by go_num,(λh=>Ay h),az,b5⟩
     simp [intOf];omega
   have U:=yD (b4.out (by rw [hq];rfl));have hne:(z != ex)=false:=by simp only [bne,hq];rfl
   clear a1 b4;go_wp2;go_roundw;case rel=>exact ⟨k + 1,by omega,by go_num,(λh=>Ay h),yD (HI.out.cast U.out.symm),o⟩
   simp [intOf];omega
 have a7:¬ (k:Int) < F.length:=bD1
 have V:Hid (outF x n ex=(F.take k).filter (λz=>!(z==ex))):=yD (by 
         obtain rfl:k=F.length:=bD1;rw [Aw];cases ok
         · rw [a5.out rfl];have h0:=cd.out rfl;rw [List.eq_nil_of_length_eq_zero h0];rfl
         · exact Z.out rfl)
 exact lW
def kFo.lenN {x:jq} (h:kFo x):lenN 1048576 x:=by
 obtain ⟨a,b,c,d,e,f,_⟩:=h;exact lenN_mk bD1 bD1 (by have:=c.1;omega) (λy hy=>by have:=(c.2 y hy).1;omega) (by have:=d.1;omega) bD1 bD1
def vDatS (x y:jL):Bool:=!(!decide (x.1=y.1) || (!decide (x.2.1=y.2.1) || (!decide (x.2.2.1=y.2.2.1) || (!decide (x.2.2.2.1=y.2.2.2.1) || !decide (x.2.2.2.2=y.2.2.2.2)))))
def vDatS_eq (x y:jL):vDatS x y=decide (x=y):=by
 obtain ⟨x0,x1,x2,x3,x4⟩:=x;obtain ⟨y0,y1,y2,y3,y4⟩:=y;rw [Ad];simp [vDatS]
def kZk (x y:jK):Bool:=!((x.2 != y.2) || !eqN x.1 y.1)
def vSeenS_eq (x y:jK):kZk x y=decide (x=y):=by
 obtain ⟨x0,x1⟩:=x;obtain ⟨y0,y1⟩:=y;rw [Ad];simp [kZk,eqN];constructor
 · rintro ⟨h1,h2⟩;exact ⟨h2,h1⟩
 rintro ⟨h1,h2⟩;exact ⟨h2,h1⟩
def kUe (x y:jK):Bool:=eqN x.1 y.1 && (x.2==y.2)
def vSeen_eq (x y:jK):kUe x y=decide (x=y):=by
 obtain ⟨x0,x1⟩:=x;obtain ⟨y0,y1⟩:=y;rw [Ad];simp [kUe,eqN]
def vCeS (x y:kZ):Bool:=!((x.2 != y.2) || !decide (x.1=y.1))
def vCeS_eq (x y:kZ):vCeS x y=decide (x=y):=by
 obtain ⟨x0,x1⟩:=x;obtain ⟨y0,y1⟩:=y;rw [Ad];simp [vCeS];constructor
 · rintro ⟨h1,h2⟩;exact ⟨h2,h1⟩
 rintro ⟨h1,h2⟩;exact ⟨h2,h1⟩
def vCe (x y:kZ):Bool:=decide (x.1=y.1) && (x.2==y.2)
def vCe_eq (x y:kZ):vCe x y=decide (x=y):=by
 obtain ⟨x0,x1⟩:=x;obtain ⟨y0,y1⟩:=y;rw [Ad];simp [vCe]
def vSt (x y:kg):Bool:=(x.1==y.1) && decide (x.2=y.2)
def vSt_eq (x y:kg):vSt x y=decide (x=y):=by
 obtain ⟨x0,x1⟩:=x;obtain ⟨y0,y1⟩:=y;rw [Ad];simp [vSt]
def kNv:jH prog 69:=yR func69 bC5 bC5
def kPi {w:Aq} {cx:Av Ap} {x:jK} (hx:jE.raw w cx x) {cy:Av Ap} {y:jK} (hy:jE.raw w cy y) :
    Ar prog 73 #[.agg cx.toArray,.agg cy.toArray] w (bQ w (.bool (kUe x y))):=by
 have Hx:=yD hx
 obtain ⟨ax,rfl,I,o,ad⟩:=kAb hx
 obtain ⟨ac,Y,rfl,av⟩:=kD.sl o
 have Hy:=yD hy
 obtain ⟨a3,rfl,aj,ai,an⟩:=kAb hy
 obtain ⟨al,ak,rfl,a9⟩:=kD.sl ai
 go_enter func73,ntmps73
 go_upto_region 1 with fail
 generalize J:World.alloc (World.alloc w _) _=N
 obtain ⟨R,L⟩:=xW
 have Z:Qd N w 1 (.int .i64 x.2):=tT
 have D:Qc N (w.heap.size + 1) 0 (.slice al (y.1).length ak):=tT
 have ae:Qc N (w.heap.size + 1) 1 (.int .i64 y.2):=tT
 clear J
 have FX:=yD (λ(W:Aq) (hW:Qb N W)=>kGr hW L Z D ae)
 refine ky (λW=>Qb N W) [Tt,Tt,Tt,Tt,Ff,Tt,Tt,Tt,Tt,Tt,Tt,Tt,Tt] bR ?_
 intro wS E
 iterate 4
  all_goals refine kX ?_
 all_goals first | refine wkB (yA (kD.raw.below I (tQ R E)) (kD.raw.below aj (tQ R E))) (λwS1 E=>?_) | refine kX ?_
 all_goals (refine jdz λb H=>?_;cases b <;> try simp only [jc] at H)
 iterate 6
  all_goals refine kX ?_
 all_goals (refine jdz λb ab=>?_;cases b <;> try simp only [jc] at ab)
 all_goals refine kR ?_
 all_goals have F:=(tQ R E)
 all_goals first
   | (have U:=yD (show (kUe x y)=false by simp only [kUe,Ae,Aa,Ag,Ah,Ab,Ac,Ak,Al,Ai,Aj,Am,H,ab]);go_wp2;go_ret;exact ⟨kK U.out.symm,F⟩)
   | (have U:=yD (show (kUe x y)=true by simp only [kUe,Ae,Aa,Ag,Ah,Ab,Ac,Ak,Al,Ai,Aj,Am,H,ab]);go_wp2;go_ret;exact ⟨kK U.out.symm,F⟩)
def kGp:jH prog 73:=yR func73 bC5 bC5
def kGt {w:Aq} {cx:Av Ap} {x:kZ} (hx:jC.raw w cx x) {cy:Av Ap} {y:kZ} (hy:jC.raw w cy y) :
    Ar prog 135 #[.agg cx.toArray,.agg cy.toArray] w (bQ w (.bool (vCe x y))):=by
 have Hx:=yD hx
 obtain ⟨ax,bg,bb,rfl,I,o,ad,ah,am,aw,az,bi,br⟩:=jV hx
 obtain ⟨ac,Y,rfl,av⟩:=kD.sl ad
 obtain ⟨au,ap,rfl,bf⟩:=kD.sl ah
 obtain ⟨ar,ao,rfl,bd⟩:=kD.sl aw
 have Hy:=yD hy
 obtain ⟨a3,bh,bm,rfl,aj,ai,an,aq,X,a2,ba,bc,b4⟩:=jV hy
 obtain ⟨al,ak,rfl,a9⟩:=kD.sl an
 obtain ⟨a6,a7,rfl,bk⟩:=kD.sl aq
 obtain ⟨a1,a5,rfl,bl⟩:=kD.sl a2
 go_enter func135,ntmps135
 go_upto_region 1 with fail
 generalize J:World.alloc (World.alloc w _) _=N
 obtain ⟨R,L,Z,af,V,ay,bj⟩:=DZ
 have D:Qc N (w.heap.size + 1) 0 (.slice al (y.1.1).length ak):=tT
 have ae:Qc N (w.heap.size + 1) 1 (.slice a6 (y.1.2.1).length a7):=tT
 have ag:Qc N (w.heap.size + 1) 2 (.slice a1 (y.1.2.2.1).length a5):=tT
 have a8:Qc N (w.heap.size + 1) 3 (.int .i64 y.1.2.2.2.1):=tT
 have a4:Qc N (w.heap.size + 1) 4 (.int .i64 y.1.2.2.2.2):=tT
 have be:Qc N (w.heap.size + 1) 5 (.int .i64 y.2):=tT
 clear J
 have FX:=yD (λ(W:Aq) (hW:Qb N W)=>cLs12 hW L Z af V ay bj D ae ag a8 a4 be)
 refine ky (λW=>Qb N W) [Tt,Tt,Tt,Tt,Ff,Tt,Tt,Tt,Tt,Tt,Tt,Tt,Tt] bR ?_
 intro wS E
 iterate 4
  all_goals refine kX ?_
 all_goals first | refine wkB (kJx (kD.raw.below I (tQ R E)) (kD.raw.below aj (tQ R E))) (λwS1 E=>?_) | refine kX ?_
 all_goals (refine jdz λb H=>?_;cases b <;> try simp only [jc] at H)
 iterate 6
  all_goals refine kX ?_
 all_goals (refine jdz λb ab=>?_;cases b <;> try simp only [jc] at ab)
 all_goals refine kR ?_
 all_goals have F:=(tQ R E)
 all_goals first
   | (have U:=yD (show (vCe x y)=false by simp only [vCe,Ae,Aa,Ag,Ah,Ab,Ac,Ak,Al,Ai,Aj,Am,H,ab]);go_wp2;go_ret;exact ⟨kK U.out.symm,F⟩)
   | (have U:=yD (show (vCe x y)=true by simp only [vCe,Ae,Aa,Ag,Ah,Ab,Ac,Ak,Al,Ai,Aj,Am,H,ab]);go_wp2;go_ret;exact ⟨kK U.out.symm,F⟩)
def kDk:jH prog 135:=yR func135 bC5 bC5
def kHr {w:Aq} {cx:Av Ap} {x:kg} (hx:kP.raw w cx x) {cy:Av Ap} {y:kg} (hy:kP.raw w cy y) :
    Ar prog 70 #[.agg cx.toArray,.agg cy.toArray] w (bQ w (.bool (vSt x y))):=by
 have Hx:=yD hx
 obtain ⟨bg,rfl,I,o⟩:=jI hx
 obtain ⟨au,ap,rfl,bf⟩:=kD.sl o
 have Hy:=yD hy
 obtain ⟨bh,rfl,aj,ai⟩:=jI hy
 obtain ⟨a6,a7,rfl,bk⟩:=kD.sl ai
 go_enter func70,ntmps70
 go_upto_region 1 with fail
 generalize J:World.alloc (World.alloc w _) _=N
 have R:Qb w N:=by rw [<- J];exact bG
 have L:Qd N w 0 (.int .i64 x.1):=tT
 have Z:Qd N w 1 (.slice au (x.2).length ap):=tT
 have D:Qc N (w.heap.size + 1) 0 (.int .i64 y.1):=tT
 have ae:Qc N (w.heap.size + 1) 1 (.slice a6 (y.2).length a7):=tT
 clear J
 have FX:=yD (λ(W:Aq) (hW:Qb N W)=>kGr hW L Z D ae)
 refine ky (λW=>Qb N W) [Tt,Tt,Tt,Tt,Tt,Tt,Tt,Tt,Tt,Tt,Ff,Tt,Tt] bR ?_
 intro wS E
 iterate 5
  all_goals refine kX ?_
 all_goals (refine jdz λb H=>?_;cases b <;> try simp only [jc] at H)
 iterate 4
  all_goals refine kX ?_
 all_goals first|(refine kG rfl E ?_)|(refine kY rfl (λK J=>?_);go_simp;refine (kJj kDk (kD.raw.below o (tQ R E)) (kD.raw.below ai (tQ R E)) (λwr hb cs ds x y hx hy=>by have h:=kGt hx hy;rw [vCe_eq] at h;exact h)).mono ?_;rintro e wS1 ⟨rfl,hbS⟩;replace E:=(tQ E hbS);refine J _ _ E ?_;clear J K hbS)
 all_goals refine jD ?_
 all_goals refine kX ?_
 all_goals (refine jdz λb ab=>?_;cases b <;> try simp only [jc] at ab)
 all_goals refine kR ?_
 all_goals have F:=(tQ R E)
 all_goals first
   | (have U:=yD (show (vSt x y)=false by simp only [vSt,Ae,Aa,Ag,Ah,Ab,Ac,Ak,Al,Ai,Aj,Am,H,ab]);go_wp2;go_ret;exact ⟨kK U.out.symm,F⟩)
   | (have U:=yD (show (vSt x y)=true by simp only [vSt,Ae,Aa,Ag,Ah,Ab,Ac,Ak,Al,Ai,Aj,Am,H,ab]);go_wp2;go_ret;exact ⟨kK U.out.symm,F⟩)
def kHs {w:Aq} {cx:Av Ap} {x:kg} (hx:kP.raw w cx x) {cy:Av Ap} {y:kg} (hy:kP.raw w cy y) :
    Ar prog 70 #[.agg cx.toArray,.agg cy.toArray] w (bQ w (.bool (decide (x=y)))):=by
 have h:=kHr hx hy
 rw [vSt_eq] at h
 exact h
def vReq (x y:jA):Bool:=(x.1==y.1) && ((x.2.1==y.2.1) && (x.2.2==y.2.2))
def kZl (x y:jA):vReq x y=decide (x=y):=by
 obtain ⟨x0,x1,x2⟩:=x;obtain ⟨y0,y1,y2⟩:=y;rw [Ad];simp [vReq]
def kPq {w:Aq} {va L:Ap} {a b:(Av jA)} (G:(kD.slice 147 jN).raw w [va] a) (al:(kD.slice 147 jN).raw w [L] b) :
    Ar prog 138 #[va,L] w (bQ w (.bool (decide (a=b)))):=by
 obtain ⟨aa,am,rfl,la⟩:=kD.sl G
 obtain ⟨ab,aq,rfl,lb⟩:=kD.sl al
 go_enter func138,ntmps138
 by_cases hl:a.length=b.length
 case neg =>
  exact iG
 obtain ⟨hz,a3⟩:=xG
 have HL:=yD hl;clear hl
 go_wp2
 go_loopw [13] (λi wr=>∃ k:Nat,k<=a.length/\i=.int .i64 k/\Hid (a.take k=b.take k)/\Qb w wr) (λi _=>a.length - (intOf i).toNat)
 case atStart=>exact ⟨0,Nat.zero_le _,rfl,yD rfl,bR⟩
 obtain ⟨k,hk,rfl,HN,o⟩:=hrel
 by_cases hlt:k < a.length
 · have X:k < b.length:=vQ;obtain ⟨pb,po,rfl,ba,b9,ch,pr,a7,bb,bg⟩:=kD.zt (G.below o) (i:=k) bD1 rfl;obtain ⟨qb,qo,rfl,ae,af,ah,qr,ap,ar,ay⟩:=kD.zt (al.below o) (i:=k) bD1 rfl;obtain ⟨hne,D⟩:=A9;generalize a[k]=x at *;generalize b[k]=y at *;obtain ⟨HD,HX⟩:=y9;have H:=yD (kZl x y);clear hne D;obtain ⟨x0,x1,x2⟩:=x;obtain ⟨y0,y1,y2⟩:=y;obtain ⟨an,a8,a6,bh⟩:=yz pr;simp only [Ba,and_true] at an;obtain ⟨rfl,rfl,rfl⟩:=an;obtain ⟨ac,ag,ak,ao⟩:=yz qr;simp only [Ba,and_true] at ac;obtain ⟨rfl,rfl,rfl⟩:=ac;have J:(x0=y0/\x1=y1/\x2=y2)\/(x0≠y0)\/(x0=y0/\x1≠y1)\/(x0=y0/\x1=y1/\x2≠y2):=bD1;rcases J with ⟨rfl,rfl,rfl⟩ | e|⟨rfl,e⟩|⟨rfl,rfl,e⟩;all_goals go_wp2_with fail
   all_goals refine kM (λW=>Qb wr W) [Tt,Tt,Tt,Tt,Tt,Tt,Tt,Tt,Tt] bC5 bC5 pY (bR.drew) ?_
   all_goals intro wS E
   iterate 3
    all_goals first|(refine kG rfl E ?_)|(refine kw (v:=?_) rfl (λW hW=>?_) ?_;rotate_left;(· go_simp;try with_reducible rfl))
    all_goals try simp only [Bb,zA,zB,zC]
   all_goals first|(refine kG rfl E ?_)|(refine kw (v:=?_) rfl (λW hW=>?_) ?_;rotate_left;(· have O:=cL hW a7;have I:=cL hW bb;have V:=cL hW bg;have R:=cL hW ap;have Z:=cL hW ar;have N:=cL hW ay;clear hW;go_simp;try with_reducible rfl))
   iterate 3
    all_goals try simp only [Bb,zA,zB,zC]
    all_goals first|(refine kG rfl E ?_)|(refine kw (v:=?_) rfl (λW hW=>?_) ?_;rotate_left;(· go_simp;try with_reducible rfl))
   all_goals try simp only [Bb,zA,zB,zC]
   all_goals first|(refine kG rfl E ?_)|(refine kw (v:=?_) rfl (λW hW=>?_) ?_;rotate_left;(· have O:=cL hW a7;have I:=cL hW bb;have V:=cL hW bg;have R:=cL hW ap;have Z:=cL hW ar;have N:=cL hW ay;clear hW;go_simp;try with_reducible rfl))
   all_goals try simp only [Bb,zA,zB,zC]
   all_goals first|(refine kG rfl E ?_;have av:=True.intro)|(refine kEm (v:=?_) (b:=?_) rfl (λW hW=>?_) ?_ (λb av=>?_);rotate_left;rotate_left;(· go_simp;try with_reducible rfl);(· with_reducible rfl);cases b;all_goals first|(exact Ay av)|(simp only [zU,zV] at av) | skip)
   all_goals try simp only [Bb,zA,zB,zC]
   all_goals refine kR ?_
   all_goals have F:=(tQ o E)
   all_goals first
     | (have Y:=H.out.symm.trans (show _=false by first|(simp [vReq,e];done)|(simp [vReq];done));have U:=yD (HD.out Y);clear Y H HD HX;go_wp2;go_ret;exact ⟨kK U.out.symm,F⟩)
     | (have Y:=H.out.symm.trans (show _=true by first|(simp [vReq,e];done)|(simp [vReq];done));have U:=yD (HX.out Y);clear Y H HD HX;go_wp2;go_roundw;(case rel=>exact ⟨k + 1,by omega,by go_num,U,F⟩);(case measure=>simp [intOf];omega))
 exact iI
def kHj (x y:kI):Bool:=!((x.2.2 != y.2.2) || (!eqN x.1 y.1 || ((x.2.1.length:Int) != y.2.1.length)))
def vPendS_no {x y:kI} (h:kHj x y=false):x≠y:=by
 rintro rfl;simp [kHj,eqN] at h
def kUg {x y:kI} (h:kHj x y=true):x.2.1.length=y.2.1.length/\(x.2.1=y.2.1->x=y):=by
 obtain ⟨x0,x1,x2⟩:=x;obtain ⟨y0,y1,y2⟩:=y;simp [kHj,eqN] at h;obtain ⟨h0,h1,h2⟩:=h;subst h0 h1;exact ⟨by show x1.length=y1.length;omega,λq=>by simp at q;rw [q]⟩
def kUh (x y:kI):Bool:=(eqN x.1 y.1 && decide (x.2.1=y.2.1)) && (x.2.2==y.2.2)
def vPend_eq (x y:kI):kUh x y=decide (x=y):=by
 obtain ⟨x0,x1,x2⟩:=x;obtain ⟨y0,y1,y2⟩:=y;rw [Ad];simp [kUh,eqN,and_assoc]
def kMd {w:Aq} {cx:Av Ap} {x:kI} (hx:kJ.raw w cx x) {cy:Av Ap} {y:kI} (hy:kJ.raw w cy y) :
    Ar prog 137 #[.agg cx.toArray,.agg cy.toArray] w (bQ w (.bool (kUh x y))):=by
 have Hx:=yD hx
 obtain ⟨ax,bg,rfl,I,o,ad,ah⟩:=jT hx
 obtain ⟨ac,Y,rfl,av⟩:=kD.sl o
 obtain ⟨au,ap,rfl,bf⟩:=kD.sl ad
 have Hy:=yD hy
 obtain ⟨a3,bh,rfl,aj,ai,an,aq⟩:=jT hy
 obtain ⟨al,ak,rfl,a9⟩:=kD.sl ai
 obtain ⟨a6,a7,rfl,bk⟩:=kD.sl an
 go_enter func137,ntmps137
 go_upto_region 1 with fail
 generalize J:World.alloc (World.alloc w _) _=N
 obtain ⟨R,L⟩:=xW
 have Z:Qd N w 1 (.slice au (x.2.1).length ap):=tT
 have af:Qd N w 2 (.int .i64 x.2.2):=tT
 have D:Qc N (w.heap.size + 1) 0 (.slice al (y.1).length ak):=tT
 have ae:Qc N (w.heap.size + 1) 1 (.slice a6 (y.2.1).length a7):=tT
 have ag:Qc N (w.heap.size + 1) 2 (.int .i64 y.2.2):=tT
 clear J
 have FX:=yD (λ(W:Aq) (hW:Qb N W)=>kGx hW L Z af D ae ag)
 refine ky (λW=>Qb N W) [Tt,Tt,Tt,Tt,Ff,Tt,Tt,Tt,Tt,Tt,Ff,Tt,Tt,Tt,Tt,Tt,Tt,Tt,Tt,Tt] bR ?_
 intro wS E
 iterate 4
  all_goals refine kX ?_
 all_goals first | refine wkB (yA (kD.raw.below I (tQ R E)) (kD.raw.below aj (tQ R E))) (λwS1 E=>?_) | refine kX ?_
 all_goals (refine jdz λb H=>?_;cases b <;> try simp only [jc] at H)
 iterate 4
  all_goals refine kX ?_
 all_goals first | refine wkB (kPq (kD.raw.below ad (tQ R E)) (kD.raw.below an (tQ R E))) (λwS1 E=>?_) | refine kX ?_
 all_goals refine kX ?_
 all_goals (refine jdz λb ab=>?_;cases b <;> try simp only [jc] at ab)
 iterate 6
  all_goals refine kX ?_
 all_goals (refine jdz λb aa=>?_;cases b <;> try simp only [jc] at aa)
 all_goals refine kR ?_
 all_goals have F:=(tQ R E)
 all_goals first
   | (have U:=yD (show (kUh x y)=false by simp only [kUh,Ae,Aa,Ag,Ah,Ab,Ac,Ak,Al,Ai,Aj,Am,H,ab,aa]);go_wp2;go_ret;exact ⟨kK U.out.symm,F⟩)
   | (have U:=yD (show (kUh x y)=true by simp only [kUh,Ae,Aa,Ag,Ah,Ab,Ac,Ak,Al,Ai,Aj,Am,H,ab,aa]);go_wp2;go_ret;exact ⟨kK U.out.symm,F⟩)
def kFn:jH prog 137:=yR func137 bC5 bC5
def kNr {w:Aq} {va L:Ap} {a b:Av kI} (G:(kD.slice 145 kJ).raw w [va] a) (al:(kD.slice 145 kJ).raw w [L] b) :
    Ar prog 71 #[va,L] w (bQ w (.bool (decide (a=b)))):=by
 go_enter func71,ntmps71
 go_wp2_with fail
 refine (kGa kFn G al ?_).mono ?_
 · intro wr hb cs ds x y hx hy;have:=kMd hx hy;rw [vPend_eq] at this;exact this
 exact iJ
def kJk (x y:jq):Bool:=(((((decide (x.1=y.1) && decide (x.2.1=y.2.1)) && decide (x.2.2.1=y.2.2.1)) && decide (x.2.2.2.1=y.2.2.2.1)) && decide (x.2.2.2.2.1=y.2.2.2.2.1)) && decide (x.2.2.2.2.2.1=y.2.2.2.2.2.1)) && (x.2.2.2.2.2.2==y.2.2.2.2.2.2)
def vNode_eq (x y:jq):kJk x y=decide (x=y):=by
 obtain ⟨x0,x1,x2,x3,x4,X,o⟩:=x;obtain ⟨y0,y1,y2,y3,y4,y5,y6⟩:=y;rw [Ad];simp [kJk,and_assoc]
def kQp {w:Aq} {cx:Av Ap} {x:jq} (hx:je.raw w cx x) {cy:Av Ap} {y:jq} (hy:je.raw w cy y) :
    Ar prog 22 #[.agg cx.toArray,.agg cy.toArray] w (bQ w (.bool (kJk x y))):=by
 have Hx:=yD hx
 obtain ⟨ax,bb,ch,cm,cd,b6,rfl,I,o,ad,ah,am,aw,az,bi,br⟩:=yB hx
 obtain ⟨ac,Y,rfl,av⟩:=kD.sl I
 obtain ⟨ar,ao,rfl,bd⟩:=kD.sl ah
 obtain ⟨bx,a6,rfl,cc⟩:=kD.sl am
 obtain ⟨bq,bn,rfl,cg⟩:=kD.sl aw
 obtain ⟨bv,bt,rfl,ck⟩:=kD.sl az
 obtain ⟨bg,bk,rfl,ce⟩:=kD.sl bi
 have Hy:=yD hy
 obtain ⟨a3,bm,cf,b7,b9,co,rfl,aj,ai,an,aq,X,a2,ba,bc,b4⟩:=yB hy
 obtain ⟨al,ak,rfl,a9⟩:=kD.sl aj
 obtain ⟨a1,a5,rfl,bl⟩:=kD.sl aq
 obtain ⟨b1,a7,rfl,b5⟩:=kD.sl X
 obtain ⟨bf,bw,rfl,b8⟩:=kD.sl a2
 obtain ⟨b0,b3,rfl,cl⟩:=kD.sl ba
 obtain ⟨bh,bu,rfl,ca⟩:=kD.sl bc
 go_enter func22,ntmps22
 go_upto_region 1 with fail
 generalize J:World.alloc (World.alloc w _) _=N
 obtain ⟨R,L⟩:=xW
 have Z:Qd N w 1 (.int .i64 x.2.1.1):=tT
 obtain ⟨af,V,ay,bj,bp,bo,D,ae,ag,a8,a4,be,b2,bz⟩:=xQ
 clear J
 have FX:=yD (λ(W:Aq) (hW:Qb N W)=>cLs16 hW L Z af V ay bj bp bo D ae ag a8 a4 be b2 bz)
 refine ky (λW=>Qb N W) [Tt,Tt,Tt,Tt,Ff,Tt,Tt,Tt,Tt,Tt,Ff,Tt,Tt,Tt,Tt,Tt,Tt,Ff,Tt,Tt,Tt,Tt,Tt,Tt,Ff,Tt,Tt,Tt,Tt,Tt,Tt,Ff,Tt,Tt,Tt,Tt,Tt,Tt,Ff,Tt,Tt,Tt,Tt,Tt,Tt,Tt,Tt,Tt] bR ?_
 intro wS E
 iterate 4
  all_goals refine kX ?_
 all_goals first|(refine kG rfl E ?_)|(refine kY rfl (λK J=>?_);go_simp;refine (kQz kNv (kD.raw.below I (tQ R E)) (kD.raw.below aj (tQ R E)) (λwr hb cs ds x y hx hy=>by have h:=kJx hx hy;exact h)).mono ?_;rintro e wS1 ⟨rfl,hbS⟩;replace E:=(tQ E hbS);refine J _ _ E ?_;clear J K hbS)
 all_goals refine jD ?_
 all_goals (refine jdz λb H=>?_;cases b <;> try simp only [jc] at H)
 iterate 4
  all_goals refine kX ?_
 all_goals first | refine wkB (kHs (kD.raw.below o (tQ R E)) (kD.raw.below ai (tQ R E))) (λwS1 E=>?_) | refine kX ?_
 all_goals refine kX ?_
 all_goals (refine jdz λb ab=>?_;cases b <;> try simp only [jc] at ab)
 iterate 4
  all_goals refine kX ?_
 all_goals first | refine wkB (kNr (kD.raw.below am (tQ R E)) (kD.raw.below X (tQ R E))) (λwS1 E=>?_) | refine kX ?_
 all_goals refine kX ?_
 all_goals (refine jdz λb aa=>?_;cases b <;> try simp only [jc] at aa)
 iterate 4
  all_goals refine kX ?_
 all_goals first|(refine kG rfl E ?_)|(refine kY rfl (λK J=>?_);go_simp;refine (kKd kGp (kD.raw.below aw (tQ R E)) (kD.raw.below a2 (tQ R E)) (λwr hb cs ds x y hx hy=>by have h:=kPi hx hy;rw [vSeen_eq] at h;exact h)).mono ?_;rintro e wS1 ⟨rfl,hbS⟩;replace E:=(tQ E hbS);refine J _ _ E ?_;clear J K hbS)
 all_goals refine jD ?_
 all_goals refine kX ?_
 all_goals (refine jdz λb G=>?_;cases b <;> try simp only [jc] at G)
 iterate 4
  all_goals refine kX ?_
 all_goals first | refine wkB (kPh (kD.raw.below az (tQ R E)) (kD.raw.below ba (tQ R E))) (λwS1 E=>?_) | refine kX ?_
 all_goals refine kX ?_
 all_goals (refine jdz λb O=>?_;cases b <;> try simp only [jc] at O)
 iterate 4
  all_goals refine kX ?_
 all_goals first | refine wkB (kIl (kD.raw.below bi (tQ R E)) (kD.raw.below bc (tQ R E))) (λwS1 E=>?_) | refine kX ?_
 all_goals refine kX ?_
 all_goals (refine jdz λb au=>?_;cases b <;> try simp only [jc] at au)
 iterate 6
  all_goals refine kX ?_
 all_goals (refine jdz λb ap=>?_;cases b <;> try simp only [jc] at ap)
 all_goals refine kR ?_
 all_goals have F:=(tQ R E)
 all_goals first
   | (have U:=yD (show (kJk x y)=false by simp only [kJk,Ae,Aa,Ag,Ah,Ab,Ac,Ak,Al,Ai,Aj,Am,H,ab,aa,G,O,au,ap]);go_wp2;go_ret;exact ⟨kK U.out.symm,F⟩)
   | (have U:=yD (show (kJk x y)=true by simp only [kJk,Ae,Aa,Ag,Ah,Ab,Ac,Ak,Al,Ai,Aj,Am,H,ab,aa,G,O,au,ap]);go_wp2;go_ret;exact ⟨kK U.out.symm,F⟩)
def kQo {w:Aq} {cx:Av Ap} {x:jq} (hx:je.raw w cx x) {cy:Av Ap} {y:jq} (hy:je.raw w cy y) :
    Ar prog 22 #[.agg cx.toArray,.agg cy.toArray] w (bQ w (.bool (decide (x=y)))):=by
 have h:=kQp hx hy
 rw [vNode_eq] at h
 exact h
end Go.Proofs.YtjhfdpopkkmigaaGreat

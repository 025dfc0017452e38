/-
  Pending interests: found.
-/
import Derived.Test.YtonmjkmaadgceabGreatDrawM
set_option linter.unusedVariables false
set_option linter.defProp false
set_option linter.unusedSimpArgs false
set_option linter.unnecessarySimpa false
set_option maxRecDepth 100000
set_option maxHeartbeats 4000000
open List renaming drop_eq_getElem_cons->Aa,findIdx?_eq_some_iff_getElem->Ab,length_cons->Ac,take_length->Ad,getElem?_cons_succ->Au,getElem?_cons_zero->Av,length_take->Aw,drop_succ_cons->Bc,getElem_of_mem->Bd,cons_append->Be,length_drop->Bf
open List.cons renaming injEq->Ae
open Bool renaming not_false->Ag,and_false->Ah,false_and->Ai,not_true->Aj,and_true->Ak,true_and->Al,or_false->Am,false_or->Ap,or_true->Ay,true_or->Az,not_not->Ba
open Go renaming World->Aq,Value->Ar,Calls->Bb
open _root_ renaming List->Bg
open Go.IntWalk renaming i64_in->Bh
namespace Go.Proofs.YtonmjkmaadgceabGreat
open Go.RowKit _root_.Go.Proofs.Tryz
def int_own {w:Aq} {v:Ar} {ps:ko} {n h t:Int} {S:Nat->Prop} (k:(kD.slice 9 kD.str).own w [v] ps S) (hn:-1<=n/\n<=1000001) (hh:-1<=h/\h<=17) (ht:0<=t/\t<=21):kLs.own w [v,Qn n,Qn h,Qn t] (ps,n,h,t) S :=
  kD.jv (r:=kU) (cs:=[v]) (ds:=[.int .i64 n,.int .i64 h,.int .i64 t]) k (kD.yC (cs:=[.int .i64 n]) (kD.jB bC9) (kD.yC (cs:=[.int .i64 h]) (kD.jB bC9) (kD.jB bC9)))
def kOg {w0 w:Aq} {p:Nat} (hc:yU w0 w p) :
    Bb prog 173 #[.pointer (some ⟨p,0,none⟩)] w λe w'=>∃ a c ps n h t,e=.returned (.agg #[Qs a ps c,Qn n,Qn h,Qn t])/\kU.own w' [Qs a ps c] ps (jX w.heap.size w'.heap.size)/\(ps.length<=8/\yj ps)/\(-1<=n/\n<=8)/\(-1<=h/\h<=17)/\(0<=t/\t<=21)/\yU w0 w' p/\Touch (λk=>k=p) w w':=by
 go_enter func173,ntmps173
 obtain ⟨bf,b4⟩:=hc.lt
 go_upto_region 1 with fail
 generalize F:World.alloc w _=Y
 have X:Qb w Y:=rM
 have R:Qr Y w.heap.size #[.slice none 0 0,Qn 0,Qn 0,Qn 0] 159:=vB
 have bd:w.heap.size + 1<=Y.heap.size:=bB1
 clear F
 obtain ⟨hc,N⟩:=xQ
 clear X
 go_wp2_with fail
 refine (kIu hc).mono ?_
 rintro e V ⟨a,n,c,ps,rfl,hO,U,o,G,D⟩
 obtain ⟨bk,R,N⟩:=BG
 clear hc D
 have hc:=G
 clear G
 have ba:=yD o
 clear o
 have J:=yD (hO.wide (T:=λj=>Y.heap.size<=j/\j < V.heap.size) (λ_ h=>h))
 clear hO
 go_upto_region 2 with fail
 generalize F:World.alloc V _=w3
 obtain ⟨ak,B,bl⟩:=EW
 clear F
 obtain ⟨R,J,hc,N⟩:=z8
 clear ak
 have ax:Qd w3 V 0 (.slice a n c):=kE B rfl
 obtain ⟨_,_,_,a4,ay⟩:=J.out.parts
 simp only [Value.slice.injEq] at a4
 have b5:=yD (a4.2.1.trans ay.out)
 clear a4 ay
 by_cases hz:n=0
 · subst hz;obtain rfl:ps=[]:=List.eq_nil_of_length_eq_zero b5.out.symm;clear ax;obtain ⟨ax,az,GB,HB⟩:=AO;go_upto_region 4 with fail;clear GB HB;have a7:=yD (kD.kLp (e:=9) w3 (kD.kFj (s:={ data:=#[97] }) bC8));generalize F:World.alloc w3 _=w4 at a7 ⊢;have a2:Qb w3 w4:=rM;have bw:w3.heap.size + 1<=w4.heap.size:=bB1;clear F J;replace R:=kC R a2;replace B:=kC B a2;replace hc:=hc.below a2;replace N:=N.trans (Touch.of_below a2);clear ax az;clear a2;have J:=yD (kD.kR.wide (T:=λj=>Y.heap.size<=j/\j < w4.heap.size/\j≠V.heap.size) a7.out qA);clear a7;generalize F:World.setCell w4 _ _=w5;obtain ⟨bt,B,bv⟩:=I9;clear F;replace R:=bt.kC R bC9;replace J:=yD (J.out.touch bt pJ);replace hc:=hc.touch bt bC9 wM;replace N:=N.jO bt bC9;clear bt;go_upto_region 4 with fail;have FX:=yD (λ(W:Aq) (hW:Touch (λk=>k=p) w5 W/\yU w0 W p)=>kE (hW.1.kC B bC9) (j:=0) (v:=.slice (some ⟨w3.heap.size,0,none⟩) 1 1) rfl);refine jU (λW=>Touch (λk=>k=p) w5 W/\yU w0 W p) [(0,true),(1,true),(3,true),(5,true),(2,false),(4,false),(6,false),(7,true),(8,true)] bC3 bC3 pK (⟨Touch.of_below bR.drew,hc.below bR.drew⟩) ?_;intro wS E;simp only [kz,Ac,List.length_nil,Au,Av,List.map_cons,List.map_nil,Be,List.nil_append,Bc,List.drop_zero];iterate 4
    refine ku ?_
   refine kw rfl (λK H=>?_);go_simp;refine (kr (n:=9) E.2 bC8).mono ?_;rintro e wS1 ⟨x,ao,L,a1,rfl,ar,ap⟩;replace L:=L bC8;clear a1;replace E:=And.intro (E.1.trans ap) ar;clear ar ap;refine H _ _ E ?_;clear H K;refine jF ?_;refine kw rfl (λK H=>?_);go_simp;refine (kr (n:=5) E.2 bC8).mono ?_;rintro e wS1 ⟨y,b7,bn,bz,rfl,ar,ap⟩;replace bn:=bn bC8;clear bz;replace E:=And.intro (E.1.trans ap) ar;clear ar ap;refine H _ _ E ?_;clear H K;refine jF ?_;refine kw rfl (λK H=>?_);go_simp;refine (kr (n:=6) E.2 bC8).mono ?_;rintro e wS1 ⟨z,bx,bq,a6,rfl,ar,ap⟩;replace bq:=bq bC8;clear a6;replace E:=And.intro (E.1.trans ap) ar;clear ar ap;have hw:IntKind.i64.wrap (1 + z)=1 + z:=Bh _ bC9;refine H _ _ E ?_;clear H K;refine jF ?_;refine ku ?_;refine ku ?_;refine jc ?_;have hzs:=E.1.size;obtain ⟨R5,Z,af,bc,aj,al,av,bg,ad,an,bb,bh⟩:=xH;go_wp2;refine bodyPost_ret (v:=.agg #[.slice (some ⟨w3.heap.size,0,none⟩) 1 1,Qn x,Qn y,.int .i64 (1 + z)]) fK rfl ⟨_,_,[({ data:=#[97] }:ByteArray)],x,y,1 + z,rfl,?_,⟨by decide,λp hp=>by rw [List.mem_singleton.1 hp];decide⟩,by omega,by omega,by omega,af.touch sT4 bC9 wM,Z.jO sT4 bC9⟩;exact (((bc.out.touch sT4 sV).own bC8).wide dU)
 have cz:¬ (n:Int)=0:=bC9
 go_upto_region 4 with fail
 clear ax
 have FX:=yD (λ(W:Aq) (hW:Touch (λk=>k=p) w3 W/\yU w0 W p)=>kE (hW.1.kC B bC9) (j:=0) (v:=.slice a n c) rfl)
 refine jU (λW=>Touch (λk=>k=p) w3 W/\yU w0 W p) [(0,true),(1,true),(3,true),(5,true),(2,false),(4,false),(6,false),(7,true),(8,true)] bC3 bC3 pK (⟨Touch.of_below bR.drew,hc.below bR.drew⟩) ?_
 intro wS E
 simp only [kz,Ac,List.length_nil,Au,Av,List.map_cons,List.map_nil,Be,List.nil_append,Bc,List.drop_zero]
 iterate 4
  refine ku ?_
 refine kw rfl (λK H=>?_);go_simp;refine (kr (n:=9) E.2 bC8).mono ?_;rintro e wS1 ⟨x,ao,L,a1,rfl,ar,ap⟩;replace L:=L bC8;clear a1;replace E:=And.intro (E.1.trans ap) ar;clear ar ap;refine H _ _ E ?_;clear H K
 refine jF ?_
 refine kw rfl (λK H=>?_);go_simp;refine (kr (n:=5) E.2 bC8).mono ?_;rintro e wS1 ⟨y,b7,bn,bz,rfl,ar,ap⟩;replace bn:=bn bC8;clear bz;replace E:=And.intro (E.1.trans ap) ar;clear ar ap;refine H _ _ E ?_;clear H K
 refine jF ?_
 refine kw rfl (λK H=>?_);go_simp;refine (kr (n:=6) E.2 bC8).mono ?_;rintro e wS1 ⟨z,bx,bq,a6,rfl,ar,ap⟩;replace bq:=bq bC8;clear a6;replace E:=And.intro (E.1.trans ap) ar;clear ar ap;have hw:IntKind.i64.wrap (1 + z)=1 + z:=Bh _ bC9;refine H _ _ E ?_;clear H K
 refine jF ?_
 refine ku ?_
 refine ku ?_
 refine jc ?_
 have hzs:=E.1.size
 obtain ⟨R5,Z,af,bc,aj,al,av,bg,ad,an,bb,bh⟩:=xH
 go_wp2
 refine bodyPost_ret (v:=.agg #[.slice a n c,Qn x,Qn y,.int .i64 (1 + z)]) fK rfl ⟨_,_,ps,x,y,1 + z,by rw [b5.out],?_,⟨by omega,ba.out⟩,by omega,by omega,by omega,af.touch sT4 bC9 wM,Z.jO sT4 bC9⟩
 rw [<- b5.out]
 exact (((bc.out.touch sT4 sV).own wH).wide fB)
def flatint:kD.int.kDa:=kD.yg
def flatbyte:kD.byte.kDa:=kD.kFi
def jAj {w:Aq} {va:Ar} {x:Bg UInt8} (ha:(kD.slice 5 kD.byte).rd w [va] x):Bb prog 149 #[va] w (kAa (kD.slice 5 kD.byte) x w):=by
 obtain ⟨aa,al,rfl,la⟩:=kD.sl ha.1;have HA:=yD ha;have D:=λ(W:Aq) (a:Option Addr) (n c:Nat)=>Lib.run_eql_slice_nil (P:=prog) W 22 5 a n c 0 0 underlying22;cases aa with
 | none =>
   have hx:x=[]:=by
     cases x with
     | nil=>rfl
     | cons y ys =>
       exact aD
   subst hx;clear ha;go_enter func149,ntmps149;go_wp2;go_ret;exact ⟨_,rfl,kD.jd,bR⟩
 | some a =>
   have hb:x.length<=16777216:=ha.2.1;clear ha;go_enter func149,ntmps149;have O0:kD.kR 5 kD.byte (w.alloc (.cells #[] 5)) (.slice (some ⟨w.heap.size,0,none⟩) 0 0) [] (λk=>k=w.heap.size):=kD.yO (cs:=[]) (xs:=[]) (T:=λ_=>False) bD0 bD0 rfl (λ_ h=>h.elim) rfl;go_wp2_with (at_builtin;refine kD.yQ rfl _ _ 22 rfl (r:=kD.byte) (e:=5) underlying22 kEj rfl bC8 bC8 flatbyte (B:=w.heap.size) O0 bD1 bD1 (HA.out.alloc _) qJ bD0 bC4 ?_);exact aF
def kHm:jA.kDa:=kD.kRn (kD.yg) (kD.kRn (kD.yg) (kD.yg))
def kPn {w:Aq} {va:Ar} {x:Bg kW} (ha:(kD.slice 45 jA).rd w [va] x):Bb prog 100 #[va] w (kAa (kD.slice 45 jA) x w):=by
 obtain ⟨aa,al,rfl,la⟩:=kD.sl ha.1;obtain ⟨HA,D⟩:=GZ;cases aa with
 | none =>
   have hx:x=[]:=by
     cases x with
     | nil=>rfl
     | cons y ys =>
       exact aD
   subst hx;clear ha;go_enter func100,ntmps100;go_wp2;go_ret;exact ⟨_,rfl,kD.jd,bR⟩
 | some a =>
   have hb:x.length<=16777216:=ha.2.1;clear ha;go_enter func100,ntmps100;have O0:kD.kR 45 jA (w.alloc (.cells #[] 45)) (.slice (some ⟨w.heap.size,0,none⟩) 0 0) [] (λk=>k=w.heap.size):=kD.yO (cs:=[]) (xs:=[]) (T:=λ_=>False) bD0 bD0 rfl (λ_ h=>h.elim) rfl;go_wp2_with (at_builtin;refine kD.yQ rfl _ _ 41 rfl (r:=jA) (e:=45) underlying41 zo rfl bC8 bC8 kHm (B:=w.heap.size) O0 bD1 bD1 (HA.out.alloc _) qJ bD0 bC4 ?_);exact aF
def kKy {α:Type} (p:α->Bool) (x:Bg α):(idxOf p x=-1/\∀ j (h:j < x.length),p x[j]=false)\/∃ k,∃ h:k < x.length,idxOf p x=(k:Int)/\p x[k]=true/\∀ j (h:j < k) (h2:j < x.length),p x[j]=false:=by
 unfold idxOf;cases hf:x.findIdx? p with
 | none =>
   refine .inl ⟨rfl,λj h=>?_⟩;rw [List.findIdx?_eq_none_iff] at hf;exact hf _ (List.getElem_mem h)
 | some k =>
   obtain ⟨h1,h2,h3⟩:=Ab.1 hf;exact .inr ⟨k,h1,rfl,h2,λj h h4=>by simpa using h3 j h⟩
def kKz {α:Type} {p:α->Bool} {x:Bg α} (h:∀ j (h:j < x.length),p x[j]=false):x.filter (λy=>!p y)=x:=by
 rw [List.filter_eq_self];intro y hy;obtain ⟨j,I,rfl⟩:=Bd hy;simp [h j I]
def kHn {α:Type} {p:α->Bool} {x:Bg α} {k:Nat} (hk:k < x.length) (h:∀ j (h:j < k) (h2:j < x.length),p x[j]=false):(x.take k).filter (λy=>!p y)=x.take k:=by
 rw [List.filter_eq_self];intro y hy;obtain ⟨j,I,rfl⟩:=Bd hy;simp only [Aw] at I;simp only [List.getElem_take];simp [h j bC9 bC9]
def kTg (z:Ar) (h:(z.cells.toList.all λu=>u.oneCell')=true):∀ u∈z.cells,u.oneCell'=true:=by
 intro u hu;exact List.all_eq_true.1 h u (by simpa using hu)
def kNw {w:Aq} {v:Ar} {l:Bg ky} {g:FuncId} {cp:Array Ar} {S:Nat->Prop} (p:ky->Bool) (hg:jI prog g) (hl:kD.kR 77 kY w v l S) (hlen:l.length<=16777216)
    (ag:∀ wr,Touch S w wr->∀ x cs,kY.raw wr cs x->Bb prog g (#[.agg cs.toArray]++cp) wr (λe w'=>e=.returned (.bool (p x))/\Qb wr w')) :
    Bb prog 107 #[v,.func (.func g) #[] cp] w λe w'=>∃ v',e=.returned v'/\kD.kR 77 kY w' v' (l.filter (λx=>!p x)) S/\Touch S w w':=by
 have aw:=yD ag;clear ag
 have J:=yD hl
 unfold jI at hg
 have HI:Hid (∀ va,v=va->Bb prog 128 #[va,.func (.func g) #[] cp] w λe w'=>e=.returned (.int .i64 (idxOf p l))/\Qb w w'):=yD (λva hv=>by
   subst hv;exact kGz p hg (J.out.own hlen).raw (λwr hb i h cs hr=>aw.out wr (Touch.of_below hb) _ cs hr))
 rcases kKy p l with ⟨hi,hno⟩|⟨i,hil,hi,hyes,hno⟩
 · obtain ⟨oa,on,oc,ho,bb⟩:=hl.parts;obtain rfl:=ho;rw [hi] at HI;have HF:=yD (kKz hno).symm;clear hno hi hl;go_enter func107,ntmps107;exact aN
 obtain ⟨b,cap,rfl,Z⟩:=kD.kFy hl hil
 rw [hi] at HI
 rw [Aa hil] at Z
 obtain ⟨V,br,af,ad,R⟩:=EL
 simp only [Aw,Ac,Bf] at R
 have a3:l.length<=cap:=R.2.1
 have az:cap<=9223372036854775807:=nX
 clear hno hi hl Z hyes J R
 have cc:((i:Int)==-1)=false:=qZ
 go_enter func107,ntmps107
 go_wp2_with fail
 refine (HI.out _ rfl).mono ?_
 rintro e Y ⟨rfl,O⟩
 have G1:=yD (V.below O)
 have E1:=yD (Touch.of_below (S:=S) O)
 clear V HI
 go_wp2
 go_loopw [5,6] (λq c wr=>∃ m kn:Nat,m<=l.length/\kn + 1<=m/\q=.int .i64 kn/\c=.int .i64 m/\Hid (kn=((l.take m).filter (λy=>!p y)).length)/\Hid (kD.gap 77 kY wr b cap l.length ((l.take m).filter (λy=>!p y)) (m - kn) (l.drop m) S)/\Hid (Touch S w wr)) (λ_ c _=>l.length - (intOf c).toNat)
 case atStart =>
  exact aO
 clear E1 G1 af br O
 obtain ⟨m,kn,hm,b3,rfl,rfl,H,G,E⟩:=hrel
 by_cases hlt:m < l.length
 · have W:=G.out;rw [Aa hlt] at W;obtain ⟨bk,da⟩:=GL;obtain ⟨cs,hr,ag,av,U,D⟩:=W.next;have N:=W.skip;have ah:=W.frozen;generalize l[m]=x at *;have a1:=yD bk;have bf:=yD da;clear bk da W;rw [<- H.out] at U D;rw [show kn + (m - kn)=m by omega] at U;obtain ⟨c0,c1,c2,rfl⟩:∃ c0 c1 c2,cs=[c0,c1,c2]:=by
    have a8:=kY.len hr
    match cs,a8 with
    | [c0,c1,c2],_=>exact ⟨_,_,_,rfl⟩
   obtain ⟨A0,A1,A2,o⟩:=G5;obtain ⟨o0,O0⟩:=Option.isSome_iff_exists.1 (G.out.cells (i:=kn * 3) (by have:=o 0 bC9;simp only [show kY.n=3 from rfl];omega));have Z0:=ah (kn * 3);obtain ⟨o1,O1⟩:=Option.isSome_iff_exists.1 (G.out.cells (i:=kn * 3 + 1) (by have:=o 1 bC9;simp only [show kY.n=3 from rfl];omega));have Z1:=ah (kn * 3 + 1);obtain ⟨o2,O2⟩:=Option.isSome_iff_exists.1 (G.out.cells (i:=kn * 3 + 2) (by have:=o 2 bC9;simp only [show kY.n=3 from rfl];omega));have Z2:=ah (kn * 3 + 2);have HR:=yD hr;obtain ⟨b6,cd,bj,ai,bd,bm⟩:=jM hr;simp only [Ae,and_true] at cd;obtain ⟨rfl,rfl,rfl⟩:=cd;obtain ⟨ap,ao,rfl,aq⟩:=kD.sl ai;clear bj ai bd bm hr ag U o ah;have db:=yD D;have ab:=yD N;clear D N;have HB:=yD (G.out.lt);go_wp2_with fail;generalize X:World.alloc wr _=wC;have EC:Qb wr wC:=rO;have M0:Qd wC wr 0 (.slice ap (x.1).length ao):=tL;have M1:Qd wC wr 1 (.int .i64 x.2.1):=tL;have M2:Qd wC wr 2 (.int .i64 x.2.2):=tL;clear X;refine (aw.out wC (E.out.trans (Touch.of_below EC)) _ _ (HR.out.below EC)).mono ?_;rintro e w5 ⟨rfl,bh⟩;have E5:=yD (tQ EC bh);replace M0:=cL bh M0;replace M1:=cL bh M1;replace M2:=cL bh M2;clear EC bh;cases hp:p x
   · have L:=yD (a1.out bC7);obtain ⟨O0,Z0,O1,Z1,O2,Z2⟩:=DD;obtain ⟨aa,al⟩:=db.out w5 E5.out bC9 _ rfl;simp only [show kY.n=3 from rfl] at aa al;exact aP
   exact aQ
 obtain rfl:m=l.length:=bC9
 have W:=G.out
 rw [List.drop_length,Ad] at W
 rw [Ad] at H
 have HG:=yD W;clear W G
 obtain ⟨aj,ak,an,am,ch⟩:=D6
 obtain ⟨w6,ac,h6,t6⟩:=HG.out.kHy (P:=prog) (t:=30) (ty:=0) (c:=cap - kn) (p:=kn * 3) ch underlying30 kCt rfl bC8 (kTg _ bC8) (by simp only [show kY.n=3 from rfl];rw [<- H.out])
 exact aR
def kJi {w:Aq} {v:Ar} {l:Bg kW} {g:FuncId} {cp:Array Ar} {S:Nat->Prop} (p:kW->Bool) (hg:jI prog g) (hl:kD.kR 45 jA w v l S) (hlen:l.length<=16777216)
    (ag:∀ wr,Touch S w wr->∀ x cs,jA.raw wr cs x->Bb prog g (#[.agg cs.toArray]++cp) wr (λe w'=>e=.returned (.bool (p x))/\Qb wr w')) :
    Bb prog 52 #[v,.func (.func g) #[] cp] w λe w'=>∃ v',e=.returned v'/\kD.kR 45 jA w' v' (l.filter (λx=>!p x)) S/\Touch S w w':=by
 have aw:=yD ag;clear ag
 have J:=yD hl
 unfold jI at hg
 have HI:Hid (∀ va,v=va->Bb prog 101 #[va,.func (.func g) #[] cp] w λe w'=>e=.returned (.int .i64 (idxOf p l))/\Qb w w'):=yD (λva hv=>by
   subst hv;exact kKc p hg (J.out.own hlen).raw (λwr hb i h cs hr=>aw.out wr (Touch.of_below hb) _ cs hr))
 rcases kKy p l with ⟨hi,hno⟩|⟨i,hil,hi,hyes,hno⟩
 · obtain ⟨oa,on,oc,ho,bb⟩:=hl.parts;obtain rfl:=ho;rw [hi] at HI;have HF:=yD (kKz hno).symm;clear hno hi hl;go_enter func52,ntmps52;exact aN
 obtain ⟨b,cap,rfl,Z⟩:=kD.kFy hl hil
 rw [hi] at HI
 rw [Aa hil] at Z
 obtain ⟨V,br,af,ad,R⟩:=EL
 simp only [Aw,Ac,Bf] at R
 have a3:l.length<=cap:=R.2.1
 have az:cap<=9223372036854775807:=nX
 clear hno hi hl Z hyes J R
 have cc:((i:Int)==-1)=false:=qZ
 go_enter func52,ntmps52
 go_wp2_with fail
 refine (HI.out _ rfl).mono ?_
 rintro e Y ⟨rfl,O⟩
 have G1:=yD (V.below O)
 have E1:=yD (Touch.of_below (S:=S) O)
 clear V HI
 go_wp2
 go_loopw [5,6] (λq c wr=>∃ m kn:Nat,m<=l.length/\kn + 1<=m/\q=.int .i64 kn/\c=.int .i64 m/\Hid (kn=((l.take m).filter (λy=>!p y)).length)/\Hid (kD.gap 45 jA wr b cap l.length ((l.take m).filter (λy=>!p y)) (m - kn) (l.drop m) S)/\Hid (Touch S w wr)) (λ_ c _=>l.length - (intOf c).toNat)
 case atStart =>
  exact aO
 clear E1 G1 af br O
 obtain ⟨m,kn,hm,b3,rfl,rfl,H,G,E⟩:=hrel
 by_cases hlt:m < l.length
 · have W:=G.out;rw [Aa hlt] at W;obtain ⟨bk,da⟩:=GL;obtain ⟨cs,hr,ag,av,U,D⟩:=W.next;have N:=W.skip;have ah:=W.frozen;generalize l[m]=x at *;have a1:=yD bk;have bf:=yD da;clear bk da W;rw [<- H.out] at U D;rw [show kn + (m - kn)=m by omega] at U;obtain ⟨c0,c1,c2,rfl⟩:∃ c0 c1 c2,cs=[c0,c1,c2]:=by
    have a8:=jA.len hr
    match cs,a8 with
    | [c0,c1,c2],_=>exact ⟨_,_,_,rfl⟩
   obtain ⟨A0,A1,A2,o⟩:=G5;obtain ⟨o0,O0⟩:=Option.isSome_iff_exists.1 (G.out.cells (i:=kn * 3) (by have:=o 0 bC9;simp only [show jA.n=3 from rfl];omega));have Z0:=ah (kn * 3);obtain ⟨o1,O1⟩:=Option.isSome_iff_exists.1 (G.out.cells (i:=kn * 3 + 1) (by have:=o 1 bC9;simp only [show jA.n=3 from rfl];omega));have Z1:=ah (kn * 3 + 1);obtain ⟨o2,O2⟩:=Option.isSome_iff_exists.1 (G.out.cells (i:=kn * 3 + 2) (by have:=o 2 bC9;simp only [show jA.n=3 from rfl];omega));have Z2:=ah (kn * 3 + 2);have HR:=yD hr;obtain ⟨cd,bj,ai,bd⟩:=yG hr;simp only [Ae,and_true] at cd;obtain ⟨rfl,rfl,rfl⟩:=cd;clear bj ai bd hr ag U o ah;have db:=yD D;have ab:=yD N;clear D N;have HB:=yD (G.out.lt);go_wp2_with fail;generalize X:World.alloc wr _=wC;have EC:Qb wr wC:=rO;have M0:Qd wC wr 0 (.int .i64 x.1):=tL;have M1:Qd wC wr 1 (.int .i64 x.2.1):=tL;have M2:Qd wC wr 2 (.int .i64 x.2.2):=tL;clear X;refine (aw.out wC (E.out.trans (Touch.of_below EC)) _ _ (HR.out.below EC)).mono ?_;rintro e w5 ⟨rfl,bh⟩;have E5:=yD (tQ EC bh);replace M0:=cL bh M0;replace M1:=cL bh M1;replace M2:=cL bh M2;clear EC bh;cases hp:p x
   · have L:=yD (a1.out bC7);obtain ⟨O0,Z0,O1,Z1,O2,Z2⟩:=DD;obtain ⟨aa,al⟩:=db.out w5 E5.out bC9 _ rfl;simp only [show jA.n=3 from rfl] at aa al;exact aP
   exact aQ
 obtain rfl:m=l.length:=bC9
 have W:=G.out
 rw [List.drop_length,Ad] at W
 rw [Ad] at H
 have HG:=yD W;clear W G
 obtain ⟨aj,ak,an,am,ch⟩:=D6
 obtain ⟨w6,ac,h6,t6⟩:=HG.out.kHy (P:=prog) (t:=41) (ty:=0) (c:=cap - kn) (p:=kn * 3) ch underlying41 zo rfl bC8 (kTg _ bC8) (by simp only [show jA.n=3 from rfl];rw [<- H.out])
 exact aR
def ja (n:ko) (p:kF):Bool:=eqN p.1 n
def kIf {α:Type} {p:α->Bool} {x:Bg α} (h:¬ idxOf p x < 0):∃ k:Nat,k < x.length/\idxOf p x=k:=by
 unfold idxOf at *;cases e:x.findIdx? p with
 | none=>rw [e] at h;simp at h
 | some i=>exact ⟨i,(Ab.1 e).1,rfl⟩
def kEw {w:Aq} {vl:Ar} {l:(Bg kF)} (hl:(kD.slice 43 kH).raw w [vl] l) {cn:Bg Ar} {n:ko} (hn:kU.raw w cn n) :
    Bb prog 74 #[vl,.agg cn.toArray] w (bQ w (.int .i64 (idxOf (ja n) l))):=by
 obtain ⟨al,pl,rfl,ll⟩:=kD.sl hl
 have Hn:=yD hn
 obtain ⟨X,rfl,R⟩:=kZ hn
 obtain ⟨U,J,rfl,aa⟩:=kD.sl R
 go_enter func74,ntmps74
 go_wp2
 generalize D:World.alloc w _=N
 obtain ⟨EB,G⟩:=BF
 clear D
 replace hl:=hl.below EB
 go_loopw [5] (λi wr=>∃ k:Nat,k<=l.length/\i=.int .i64 k/\Hid (∀ j,(h:j < k)->(h2:j < l.length)->(ja n) l[j]=false)/\Qb N wr) (λi _=>l.length - (intOf i).toNat)
 case atStart=>exact ⟨0,Nat.zero_le _,rfl,yD (λ_ h=>by omega),bR⟩
 obtain ⟨k,hk,rfl,HN,o⟩:=hrel
 replace G:=cL o G
 by_cases hlt:k < l.length
 · obtain ⟨qb,qo,rfl,ae,af,ah,qr,ar,ax,a2⟩:=kD.zg (hl.below o) (i:=k) bC9 rfl;obtain ⟨I,H⟩:=CK;generalize l[k]=x at *;have HD:=yD I;have HX:=yD H;clear I H;obtain ⟨x0,x1,x2⟩:=x;obtain ⟨bg,dc,Z,aj,ap,ao,au⟩:=jQ qr;simp only [Ae,and_true] at Z;obtain ⟨rfl,rfl,rfl⟩:=Z;obtain ⟨ac,ay,rfl,bd⟩:=kD.sl ap;obtain ⟨ai,bc,rfl,bl⟩:=kD.sl ao;go_upto_region 4 with fail;have FX:=yD (λ(W:Aq) (hW:Qb wr W)=>kGr hW G ar ax a2);refine kM (λW=>Qb wr W) [true,true,true,true,true,true,false] bC3 bC3 pK (bR.drew) ?_;intro wS E;iterate 6
    all_goals refine ku ?_
   all_goals first | refine wkB (zN (kD.raw.below aj E) (kD.raw.below Hn.out ((tQ EB (tQ o E))))) (λwS1 E=>?_) | refine ku ?_
   all_goals refine kS ?_
   all_goals cases ad:eqN x0 n
   all_goals have F:=(tQ o E)
   all_goals first
     | (have L:=yD (HD.out (show _=true by simp only [ja,Aj,Ag,Ak,Al,Ah,Ai,Ay,Az,Am,Ap,Ba,ad]));clear HD HX;go_wp2;go_ret;exact ⟨jT L.out.symm,(tQ EB F)⟩)
     | (have L:=yD (HX.out (show _=false by simp only [ja,Aj,Ag,Ak,Al,Ah,Ai,Ay,Az,Am,Ap,Ba,ad]));clear HD HX;go_wp2;go_roundw;(case rel=>exact ⟨k + 1,by omega,by go_num,L,F⟩);(case measure=>simp [intOf];omega))
 exact iI
def kQc {w:Aq} {cp:Bg Ar} {p:kF} (hp:kH.raw w cp p) {n:ko} {ck:Ar} {Bn:Nat} (nr:kU.raw w [ck] n) (U:Qc w Bn 0 ck) :
    Bb prog 103 (#[.agg cp.toArray]++#[.pointer (some ⟨Bn,0,none⟩)]) w (bQ w (.bool (ja n p))):=by
 have Hp:=yD hp
 obtain ⟨ab,ad,rfl,V,R,Y,af⟩:=jQ hp
 obtain ⟨aa,G,rfl,ac⟩:=kD.sl R
 obtain ⟨X,Z,rfl,ae⟩:=kD.sl Y
 obtain ⟨H,ak,a8⟩:=kZ nr
 simp only [Ae,and_true] at ak
 obtain rfl:=ak
 obtain ⟨ee,am,rfl,ao⟩:=kD.sl a8
 show Bb prog 103 #[_,_] w _
 go_enter func103,ntmps103
 go_upto_region 1 with fail
 generalize D:World.alloc w _=N
 have EB:Qb w N:=by rw [<- D];exact bF
 have J:Qd N w 0 (.slice aa (p.1).length G):=tK
 have I:Qd N w 1 (.slice X (p.2.1).length Z):=tK
 have o:Qd N w 2 (.int .i64 p.2.2):=tK
 clear D
 replace U:=cL EB U
 have FX:=yD (λ(W:Aq) (hW:Qb N W)=>kGr hW J I o U)
 refine jE (λW=>Qb N W) [true,true,true,false,true] bR ?_
 intro wS E
 iterate 3
  all_goals refine ku ?_
 all_goals first | refine wkB (kAo (kD.raw.below V (tQ EB E)) (kD.raw.below nr (tQ EB E))) (λwS1 E=>?_) | refine ku ?_
 all_goals (refine jy λb O=>?_;cases b <;> try simp only [jw] at O)
 all_goals refine kS ?_
 all_goals have F:=(tQ EB E)
 all_goals first
   | (have L:=yD (show (ja n p)=false by simp only [ja,Aj,Ag,Ak,Al,Ah,Ai,Ay,Az,Am,Ap,Ba,O]);go_wp2;go_ret;exact ⟨kX L.out.symm,F⟩)
   | (have L:=yD (show (ja n p)=true by simp only [ja,Aj,Ag,Ak,Al,Ah,Ai,Ay,Az,Am,Ap,Ba,O]);go_wp2;go_ret;exact ⟨kX L.out.symm,F⟩)
def kGp:jI prog 103:=zQ func103 bC3 bC3
def kJr {w:Aq} {vl:Ar} {l:(Bg kF)} (hl:(kD.slice 43 kH).raw w [vl] l) {cn:Bg Ar} {n:ko} (hn:kU.raw w cn n) :
    Bb prog 54 #[vl,.agg cn.toArray] w (bQ w (.int .i64 (idxOf (ja n) l))):=by
 obtain ⟨al,pl,rfl,ll⟩:=kD.sl hl
 have Hn:=yD hn
 obtain ⟨X,rfl,R⟩:=kZ hn
 obtain ⟨U,J,rfl,aa⟩:=kD.sl R
 go_enter func54,ntmps54
 go_upto_region 1 with fail
 generalize D:World.alloc w _=N
 obtain ⟨EB,G⟩:=BF
 clear D
 go_wp2_with fail
 refine (kFw (ja n) kGp (kD.raw.below hl EB) ?_).mono ?_
 · intro wr hb i h cs hr;exact kQc hr (kD.raw.below Hn.out (tQ EB hb)) (cL hb G)
 exact iJ
end Go.Proofs.YtonmjkmaadgceabGreat

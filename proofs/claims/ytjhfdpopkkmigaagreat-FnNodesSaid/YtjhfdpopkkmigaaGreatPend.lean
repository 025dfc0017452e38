/-
  Pending interests: found.
-/
import Derived.Test.YtjhfdpopkkmigaaGreatDrawM
set_option linter.unusedVariables false
set_option linter.defProp false
set_option linter.unusedSimpArgs false
set_option linter.unnecessarySimpa false
set_option maxRecDepth 100000
set_option maxHeartbeats 4000000
open List renaming findIdx?_eq_some_iff_getElem->Aa,drop_eq_getElem_cons->Ae,length_cons->Am,getElem?_cons_succ->Ap,getElem?_cons_zero->Aq,drop_succ_cons->Az,getElem_of_mem->Ba,cons_append->Bc,length_take->Bd,take_length->Be
open Bool renaming not_false->Ab,and_false->Ac,false_and->Ad,not_true->Ag,and_true->Ah,true_and->Ai,or_false->Aj,false_or->Ak,or_true->Ar,true_or->Au,not_not->Av
open Go renaming World->Al,Value->Ay,Calls->Bb
open List.cons renaming injEq->Aw
open Go.IntWalk renaming i64_in->Bf
open _root_ renaming List->Bg
namespace Go.Proofs.YtjhfdpopkkmigaaGreat
open Go.RowKit _root_.Go.Proofs.Tryz
def int_own {w:Al} {v:Ay} {Y:kr} {n h t:Int} {S:Nat->Prop} (k:(kD.slice 9 kD.str).own w [v] Y S) (hn:-1<=n/\n<=1000001) (hh:-1<=h/\h<=17) (ht:0<=t/\t<=21):kLv.own w [v,Qn n,Qn h,Qn t] (Y,n,h,t) S :=
  kD.yN (r:=kW) (cs:=[v]) (ds:=[.int .i64 n,.int .i64 h,.int .i64 t]) k (kD.yJ (cs:=[.int .i64 n]) (kD.jG bD1) (kD.yJ (cs:=[.int .i64 h]) (kD.jG bD1) (kD.jG bD1)))
def kOl {w0 w:Al} {p:Nat} (hc:yT w0 w p) :
    Bb prog 206 #[.pointer (some ⟨p,0,none⟩)] w λe w'=>∃ a c Y n h t,e=.returned (.agg #[Qs a Y c,Qn n,Qn h,Qn t])/\kW.own w' [Qs a Y c] Y (jU w.heap.size w'.heap.size)/\(Y.length<=8/\yu Y)/\(-1<=n/\n<=8)/\(-1<=h/\h<=17)/\(0<=t/\t<=21)/\yT w0 w' p/\Touch (λk=>k=p) w w':=by
 go_enter func206,ntmps206
 obtain ⟨ay,bt⟩:=hc.lt
 go_upto_region 1 with fail
 generalize F:World.alloc w _=w1
 have ag:Qb w w1:=rT
 have R:Qr w1 w.heap.size #[.slice none 0 0,Qn 0,Qn 0,Qn 0] 68:=vD
 have bf:w.heap.size + 1<=w1.heap.size:=bB3
 clear F
 obtain ⟨hc,J⟩:=xO
 clear ag
 go_wp2_with fail
 refine (kIz hc).mono ?_
 rintro e V ⟨a,n,c,Y,rfl,hO,ah,N,G,D⟩
 have bg:=D.size
 obtain ⟨R,J⟩:=DX
 clear hc D
 have hc:=G
 clear G
 have bl:=yD N
 clear N
 have L:=yD (hO.wide (T:=λj=>w1.heap.size<=j/\j < V.heap.size) (λ_ h=>h))
 clear hO
 go_upto_region 2 with fail
 generalize F:World.alloc V _=w3
 obtain ⟨aa,B,bi⟩:=FW
 clear F
 replace R:=kC R aa
 obtain ⟨L,hc,J⟩:=xR
 clear aa
 have av:Qd w3 V 0 (.slice a n c):=kE B rfl
 obtain ⟨_,_,_,a4,a2⟩:=L.out.parts
 simp only [Value.slice.injEq] at a4
 have b7:=yD (a4.2.1.trans a2.out)
 clear a4 a2
 by_cases hz:n=0
 · subst hz;obtain rfl:Y=[]:=List.eq_nil_of_length_eq_zero b7.out.symm;clear av;obtain ⟨av,a3,GB,HB⟩:=C8;go_upto_region 4 with fail;clear GB HB;have a9:=yD (kD.kLp (e:=9) w3 (kD.kFi (s:={ data:=#[97] }) bD0));generalize F:World.alloc w3 _=w4 at a9 ⊢;have ab:Qb w3 w4:=rT;have bu:w3.heap.size + 1<=w4.heap.size:=bB3;clear F L;replace R:=kC R ab;replace B:=kC B ab;replace hc:=hc.below ab;replace J:=J.trans (Touch.of_below ab);clear av a3;clear ab;have L:=yD (kD.kU.wide (T:=λj=>w1.heap.size<=j/\j < w4.heap.size/\j≠V.heap.size) a9.out qJ);clear a9;generalize F:World.setCell w4 _ _=w5;obtain ⟨a8,B,br⟩:=JE;clear F;replace R:=a8.kC R bD1;replace L:=yD (L.out.touch a8 pX);replace hc:=hc.touch a8 bD1 wW;replace J:=J.jP a8 bD1;clear a8;go_upto_region 4 with fail;have FX:=yD (λ(W:Al) (hW:Touch (λk=>k=p) w5 W/\yT w0 W p)=>kE (hW.1.kC B bD1) (j:=0) (v:=.slice (some ⟨w3.heap.size,0,none⟩) 1 1) rfl);refine jS (λW=>Touch (λk=>k=p) w5 W/\yT w0 W p) [(0,true),(1,true),(3,true),(5,true),(2,false),(4,false),(6,false),(7,true),(8,true)] bC5 bC5 pY (⟨Touch.of_below bR.drew,hc.below bR.drew⟩) ?_;intro wS E;simp only [jB,Am,List.length_nil,Ap,Aq,List.map_cons,List.map_nil,Bc,List.nil_append,Az,List.drop_zero];iterate 4
    refine kX ?_
   refine kY rfl (λK H=>?_);go_simp;refine (ku (n:=9) E.2 bD0).mono ?_;rintro e wS1 ⟨x,ao,U,a1,rfl,au,aq⟩;replace U:=U bD0;clear a1;replace E:=And.intro (E.1.trans aq) au;clear au aq;refine H _ _ E ?_;clear H K;refine jD ?_;refine kY rfl (λK H=>?_);go_simp;refine (ku (n:=5) E.2 bD0).mono ?_;rintro e wS1 ⟨y,db,bk,bm,rfl,au,aq⟩;replace bk:=bk bD0;clear bm;replace E:=And.intro (E.1.trans aq) au;clear au aq;refine H _ _ E ?_;clear H K;refine jD ?_;refine kY rfl (λK H=>?_);go_simp;refine (ku (n:=6) E.2 bD0).mono ?_;rintro e wS1 ⟨z,b1,bj,a7,rfl,au,aq⟩;replace bj:=bj bD0;clear a7;replace E:=And.intro (E.1.trans aq) au;clear au aq;have hw:IntKind.i64.wrap (1 + z)=1 + z:=Bf _ bD1;refine H _ _ E ?_;clear H K;refine jD ?_;refine kX ?_;refine kX ?_;refine jy ?_;have hzs:=E.1.size;obtain ⟨R5,o,am,az,ak,al,ax,be,ac,an,bd,bh⟩:=xH;go_wp2;refine bodyPost_ret (v:=.agg #[.slice (some ⟨w3.heap.size,0,none⟩) 1 1,Qn x,Qn y,.int .i64 (1 + z)]) gB rfl ⟨_,_,[({ data:=#[97] }:ByteArray)],x,y,1 + z,rfl,?_,⟨by decide,λp hp=>by rw [List.mem_singleton.1 hp];decide⟩,by omega,by omega,by omega,am.touch sT4 bD1 wW,o.jP sT4 bD1⟩;exact (((az.out.touch sT4 tF).own bD0).wide dZ)
 have cz:¬ (n:Int)=0:=bD1
 go_upto_region 4 with fail
 clear av
 have FX:=yD (λ(W:Al) (hW:Touch (λk=>k=p) w3 W/\yT w0 W p)=>kE (hW.1.kC B bD1) (j:=0) (v:=.slice a n c) rfl)
 refine jS (λW=>Touch (λk=>k=p) w3 W/\yT w0 W p) [(0,true),(1,true),(3,true),(5,true),(2,false),(4,false),(6,false),(7,true),(8,true)] bC5 bC5 pY (⟨Touch.of_below bR.drew,hc.below bR.drew⟩) ?_
 intro wS E
 simp only [jB,Am,List.length_nil,Ap,Aq,List.map_cons,List.map_nil,Bc,List.nil_append,Az,List.drop_zero]
 iterate 4
  refine kX ?_
 refine kY rfl (λK H=>?_);go_simp;refine (ku (n:=9) E.2 bD0).mono ?_;rintro e wS1 ⟨x,ao,U,a1,rfl,au,aq⟩;replace U:=U bD0;clear a1;replace E:=And.intro (E.1.trans aq) au;clear au aq;refine H _ _ E ?_;clear H K
 refine jD ?_
 refine kY rfl (λK H=>?_);go_simp;refine (ku (n:=5) E.2 bD0).mono ?_;rintro e wS1 ⟨y,db,bk,bm,rfl,au,aq⟩;replace bk:=bk bD0;clear bm;replace E:=And.intro (E.1.trans aq) au;clear au aq;refine H _ _ E ?_;clear H K
 refine jD ?_
 refine kY rfl (λK H=>?_);go_simp;refine (ku (n:=6) E.2 bD0).mono ?_;rintro e wS1 ⟨z,b1,bj,a7,rfl,au,aq⟩;replace bj:=bj bD0;clear a7;replace E:=And.intro (E.1.trans aq) au;clear au aq;have hw:IntKind.i64.wrap (1 + z)=1 + z:=Bf _ bD1;refine H _ _ E ?_;clear H K
 refine jD ?_
 refine kX ?_
 refine kX ?_
 refine jy ?_
 have hzs:=E.1.size
 obtain ⟨R5,o,am,az,ak,al,ax,be,ac,an,bd,bh⟩:=xH
 go_wp2
 refine bodyPost_ret (v:=.agg #[.slice a n c,Qn x,Qn y,.int .i64 (1 + z)]) gB rfl ⟨_,_,Y,x,y,1 + z,by rw [b7.out],?_,⟨by omega,bl.out⟩,by omega,by omega,by omega,am.touch sT4 bD1 wW,o.jP sT4 bD1⟩
 rw [<- b7.out]
 exact (((az.out.touch sT4 tF).own wM).wide fF)
def flatint:kD.int.kCy:=kD.yg
def flatbyte:kD.byte.kCy:=kD.kFg
def jAz {w:Al} {va:Ay} {x:Bg UInt8} (ha:(kD.slice 5 kD.byte).rd w [va] x):Bb prog 95 #[va] w (kBm (kD.slice 5 kD.byte) x w):=by
 obtain ⟨aa,am,rfl,la⟩:=kD.sl ha.1;have HA:=yD ha;have D:=λ(W:Al) (a:Option Addr) (n c:Nat)=>Lib.run_eql_slice_nil (P:=prog) W 22 5 a n c 0 0 underlying22;cases aa with
 | none =>
   have hx:x=[]:=by
     cases x with
     | nil=>rfl
     | cons y ys =>
       exact aD
   subst hx;clear ha;go_enter func95,ntmps95;go_wp2;go_ret;exact ⟨_,rfl,kD.jr,bR⟩
 | some a =>
   have hb:x.length<=16777216:=ha.2.1;clear ha;go_enter func95,ntmps95;have O0:kD.kU 5 kD.byte (w.alloc (.cells #[] 5)) (.slice (some ⟨w.heap.size,0,none⟩) 0 0) [] (λk=>k=w.heap.size):=kD.yO (cs:=[]) (xs:=[]) (T:=λ_=>False) bD2 bD2 rfl (λ_ h=>h.elim) rfl;go_wp2_with (at_builtin;refine kD.yU rfl _ _ 22 rfl (r:=kD.byte) (e:=5) underlying22 kEh rfl bD0 bD0 flatbyte (B:=w.heap.size) O0 bD3 bD3 (HA.out.alloc _) qV bD2 bC6 ?_);exact aF
def kMx:jN.kCy:=kD.kRv (kD.yg) (kD.kRv (kD.yg) (kD.yg))
def kPs {w:Al} {va:Ay} {x:Bg jA} (ha:(kD.slice 147 jN).rd w [va] x):Bb prog 162 #[va] w (kBm (kD.slice 147 jN) x w):=by
 obtain ⟨aa,am,rfl,la⟩:=kD.sl ha.1;have HA:=yD ha;have D:=λ(W:Al) (a:Option Addr) (n c:Nat)=>Lib.run_eql_slice_nil (P:=prog) W 143 147 a n c 0 0 underlying143;cases aa with
 | none =>
   have hx:x=[]:=by
     cases x with
     | nil=>rfl
     | cons y ys =>
       exact aD
   subst hx;clear ha;go_enter func162,ntmps162;go_wp2;go_ret;exact ⟨_,rfl,kD.jr,bR⟩
 | some a =>
   have hb:x.length<=16777216:=ha.2.1;clear ha;go_enter func162,ntmps162;have O0:kD.kU 147 jN (w.alloc (.cells #[] 147)) (.slice (some ⟨w.heap.size,0,none⟩) 0 0) [] (λk=>k=w.heap.size):=kD.yO (cs:=[]) (xs:=[]) (T:=λ_=>False) bD2 bD2 rfl (λ_ h=>h.elim) rfl;go_wp2_with (at_builtin;refine kD.yU rfl _ _ 143 rfl (r:=jN) (e:=147) underlying143 kBt rfl bD0 bD0 kMx (B:=w.heap.size) O0 bD3 bD3 (HA.out.alloc _) qV bD2 bC6 ?_);exact aF
def kRy {α:Type} (p:α->Bool) (x:Bg α):(idxOf p x=-1/\∀ j (h:j < x.length),p x[j]=false)\/∃ k,∃ h:k < x.length,idxOf p x=(k:Int)/\p x[k]=true/\∀ j (h:j < k) (h2:j < x.length),p x[j]=false:=by
 unfold idxOf;cases hf:x.findIdx? p with
 | none =>
   refine .inl ⟨rfl,λj h=>?_⟩;rw [List.findIdx?_eq_none_iff] at hf;exact hf _ (List.getElem_mem h)
 | some k =>
   obtain ⟨h1,h2,h3⟩:=Aa.1 hf;exact .inr ⟨k,h1,rfl,h2,λj h h4=>by simpa using h3 j h⟩
def kSb {α:Type} {p:α->Bool} {x:Bg α} (h:∀ j (h:j < x.length),p x[j]=false):x.filter (λy=>!p y)=x:=by
 rw [List.filter_eq_self];intro y hy;obtain ⟨j,I,rfl⟩:=Ba hy;simp [h j I]
def kMy {α:Type} {p:α->Bool} {x:Bg α} {k:Nat} (hk:k < x.length) (h:∀ j (h:j < k) (h2:j < x.length),p x[j]=false):(x.take k).filter (λy=>!p y)=x.take k:=by
 rw [List.filter_eq_self];intro y hy;obtain ⟨j,I,rfl⟩:=Ba hy;simp only [Bd] at I;simp only [List.getElem_take];simp [h j bD1 bD1]
def zero_one (z:Ay) (h:(z.cells.toList.all λu=>u.oneCell')=true):∀ u∈z.cells,u.oneCell'=true:=by
 intro u hu;exact List.all_eq_true.1 h u (by simpa using hu)
def kOd {w:Al} {v:Ay} {l:Bg kz} {g:FuncId} {cp:Array Ay} {S:Nat->Prop} (p:kz->Bool) (hg:jH prog g) (hl:kD.kU 131 kS w v l S) (hlen:l.length<=16777216)
    (J:∀ wr,Touch S w wr->∀ x cs,kS.raw wr cs x->Bb prog g (#[.agg cs.toArray]++cp) wr (λe w'=>e=.returned (.bool (p x))/\Qb wr w')) :
    Bb prog 117 #[v,.func (.func g) #[] cp] w λe w'=>∃ v',e=.returned v'/\kD.kU 131 kS w' v' (l.filter (λx=>!p x)) S/\Touch S w w':=by
 have av:=yD J;clear J
 have L:=yD hl
 unfold jH at hg
 have HI:Hid (∀ va,v=va->Bb prog 176 #[va,.func (.func g) #[] cp] w λe w'=>e=.returned (.int .i64 (idxOf p l))/\Qb w w'):=yD (λva hv=>by
   subst hv;exact kHf p hg (L.out.own hlen).raw (λwr hb i h cs hr=>av.out wr (Touch.of_below hb) _ cs hr))
 rcases kRy p l with ⟨hi,hno⟩|⟨i,hil,hi,hyes,hno⟩
 · obtain ⟨oa,on,oc,ho,bh⟩:=hl.parts;obtain rfl:=ho;rw [hi] at HI;have HF:=yD (kSb hno).symm;clear hno hi hl;go_enter func117,ntmps117;exact aO
 obtain ⟨b,cap,rfl,F⟩:=kD.kLt hl hil
 rw [hi] at HI
 rw [Ae hil] at F
 have V:=F.skip
 have cd:=yD (kMy hil hno)
 have bd:=yD (kEq (p:=λy=>!p y) hil (by simp [hyes]))
 have ab:=yD F.mem
 have Z:=F.len
 simp only [Bd,Am,List.length_drop] at Z
 have bw:l.length<=cap:=Z.2.1
 have bo:cap<=9223372036854775807:=pO
 clear hno hi hl F hyes L Z
 have aq:((i:Int)==-1)=false:=rJ
 go_enter func117,ntmps117
 go_wp2_with fail
 refine (HI.out _ rfl).mono ?_
 rintro e w1 ⟨rfl,O⟩
 have G1:=yD (V.below O)
 have E1:=yD (Touch.of_below (S:=S) O)
 clear V HI
 go_wp2
 go_loopw [5,6] (λq c wr=>∃ m kn:Nat,m<=l.length/\kn + 1<=m/\q=.int .i64 kn/\c=.int .i64 m/\Hid (kn=((l.take m).filter (λy=>!p y)).length)/\Hid (kD.gap 131 kS wr b cap l.length ((l.take m).filter (λy=>!p y)) (m - kn) (l.drop m) S)/\Hid (Touch S w wr)) (λ_ c _=>l.length - (intOf c).toNat)
 case atStart =>
  exact aP
 clear E1 G1 bd cd O
 obtain ⟨m,kn,hm,b6,rfl,rfl,N,G,E⟩:=hrel
 by_cases hlt:m < l.length
 · have X:=G.out;rw [Ae hlt] at X;have bv:=λq=>kGm (p:=λy=>!p y) hlt q;have b1:=λq=>kEq (p:=λy=>!p y) hlt q;obtain ⟨cs,hr,J,al,Y,H⟩:=X.next;have R:=X.skip;have ah:=X.frozen;generalize l[m]=x at *;have a1:=yD bv;have b4:=yD b1;clear bv b1 X;rw [<- N.out] at Y H;rw [show kn + (m - kn)=m by omega] at Y;obtain ⟨c0,c1,c2,rfl⟩:∃ c0 c1 c2,cs=[c0,c1,c2]:=by
    have ba:=kS.len hr
    match cs,ba with
    | [c0,c1,c2],_=>exact ⟨_,_,_,rfl⟩
   have A0:Qc wr b (m * 3) c0:=Y 0 c0 rfl;have A1:Qc wr b (m * 3 + 1) c1:=Y 1 c1 rfl;have A2:Qc wr b (m * 3 + 2) c2:=Y 2 c2 rfl;have o:∀ q,q < 3->kn * 3 + q < cap * 3:=by intro q hq;omega
   obtain ⟨o0,O0⟩:=Option.isSome_iff_exists.1 (G.out.cells (i:=kn * 3) (by have:=o 0 bD1;simp only [show kS.n=3 from rfl];omega));have Z0:=ah (kn * 3);obtain ⟨o1,O1⟩:=Option.isSome_iff_exists.1 (G.out.cells (i:=kn * 3 + 1) (by have:=o 1 bD1;simp only [show kS.n=3 from rfl];omega));have Z1:=ah (kn * 3 + 1);obtain ⟨o2,O2⟩:=Option.isSome_iff_exists.1 (G.out.cells (i:=kn * 3 + 2) (by have:=o 2 bD1;simp only [show kS.n=3 from rfl];omega));have Z2:=ah (kn * 3 + 2);have HR:=yD hr;obtain ⟨b7,ae,bl,ai,bf,bp⟩:=jJ hr;simp only [Aw,and_true] at ae;obtain ⟨rfl,rfl,rfl⟩:=ae;obtain ⟨am,W,rfl,an⟩:=kD.sl ai;clear bl ai bf bp hr J Y o ah;have ap:=yD H;have ey:=yD R;clear H R;have HB:=yD (G.out.lt);go_wp2_with fail;generalize D:World.alloc wr _=wC;have EC:Qb wr wC:=rU;have M0:Qd wC wr 0 (.slice am (x.1).length W):=tV;have M1:Qd wC wr 1 (.int .i64 x.2.1):=tV;have M2:Qd wC wr 2 (.int .i64 x.2.2):=tV;clear D;refine (av.out wC (E.out.trans (Touch.of_below EC)) _ _ (HR.out.below EC)).mono ?_;rintro e w5 ⟨rfl,bn⟩;have E5:=yD (tQ EC bn);replace M0:=cL bn M0;replace M1:=cL bn M1;replace M2:=cL bn M2;clear EC bn;cases hp:p x
   · have U:=yD (a1.out bC9);replace O0:=cL E5.out O0;replace Z0:=(E5.out.frozen (p:=⟨b,kn * 3,none⟩) HB.out).trans Z0;replace O1:=cL E5.out O1;replace Z1:=(E5.out.frozen (p:=⟨b,kn * 3 + 1,none⟩) HB.out).trans Z1;replace O2:=cL E5.out O2;replace Z2:=(E5.out.frozen (p:=⟨b,kn * 3 + 2,none⟩) HB.out).trans Z2;obtain ⟨ez,au⟩:=ap.out w5 E5.out bD1 _ rfl;simp only [show kS.n=3 from rfl] at ez au;exact aQ
   exact aR
 obtain rfl:m=l.length:=bD1
 have X:=G.out
 rw [List.drop_length,Be] at X
 rw [Be] at N
 have HG:=yD X;clear X G
 have af:(kn:Int)<=l.length:=bD1
 have ag:(kn:Int)<=cap:=bD1
 have ak:kn<=l.length:=bD1
 have aj:(l.length:Int)<=cap:=bD1
 have b0:0 < l.length - kn:=bD1
 obtain ⟨w6,ac,h6,t6⟩:=HG.out.kLk (P:=prog) (t:=30) (ty:=0) (c:=cap - kn) (p:=kn * 3) b0 underlying30 kCr rfl bD0 (zero_one _ bD0) (by simp only [show kS.n=3 from rfl];rw [<- N.out])
 exact aS
def yP (n:kr) (p:kI):Bool:=eqN p.1 n
def kIm {α:Type} {p:α->Bool} {x:Bg α} (h:¬ idxOf p x < 0):∃ k:Nat,k < x.length/\idxOf p x=k:=by
 unfold idxOf at *;cases e:x.findIdx? p with
 | none=>rw [e] at h;simp at h
 | some i=>exact ⟨i,(Aa.1 e).1,rfl⟩
def kHm {w:Al} {vl:Ay} {l:(Bg kI)} (hl:(kD.slice 145 kJ).raw w [vl] l) {cn:Bg Ay} {n:kr} (hn:kW.raw w cn n) :
    Bb prog 153 #[vl,.agg cn.toArray] w (bQ w (.int .i64 (idxOf (yP n) l))):=by
 obtain ⟨al,pl,rfl,ll⟩:=kD.sl hl
 have Y:=yD hn
 obtain ⟨L,rfl,H⟩:=ko hn
 obtain ⟨I,G,rfl,V⟩:=kD.sl H
 go_enter func153,ntmps153
 go_wp2
 generalize J:World.alloc w _=N
 obtain ⟨R,D⟩:=xZ
 clear J
 replace hl:=hl.below R
 go_loopw [5] (λi wr=>∃ k:Nat,k<=l.length/\i=.int .i64 k/\Hid (∀ j,(h:j < k)->(h2:j < l.length)->(yP n) l[j]=false)/\Qb N wr) (λi _=>l.length - (intOf i).toNat)
 case atStart=>exact ⟨0,Nat.zero_le _,rfl,yD (λ_ h=>by omega),bR⟩
 obtain ⟨k,hk,rfl,HN,o⟩:=hrel
 replace D:=cL o D
 by_cases hlt:k < l.length
 · obtain ⟨qb,qo,rfl,ae,af,ah,qr,ap,ar,ay⟩:=kD.zt (hl.below o) (i:=k) bD1 rfl;obtain ⟨au,Z⟩:=DJ;generalize l[k]=x at *;have HD:=yD au;have HX:=yD Z;clear au Z;obtain ⟨x0,x1,x2⟩:=x;obtain ⟨bd,b5,ac,ag,ak,ao,ax⟩:=jT qr;simp only [Aw,and_true] at ac;obtain ⟨rfl,rfl,rfl⟩:=ac;obtain ⟨ad,aw,rfl,bf⟩:=kD.sl ak;obtain ⟨ai,bj,rfl,cg⟩:=kD.sl ao;go_upto_region 4 with fail;have FX:=yD (λ(W:Al) (hW:Qb wr W)=>kGr hW D ap ar ay);refine kM (λW=>Qb wr W) [true,true,true,true,true,true,false] bC5 bC5 pY (bR.drew) ?_;intro wS E;iterate 6
    all_goals refine kX ?_
   all_goals first | refine wkB (zD (kD.raw.below ag E) (kD.raw.below Y.out ((tQ R (tQ o E))))) (λwS1 E=>?_) | refine kX ?_
   all_goals refine kR ?_
   all_goals cases c1:eqN x0 n
   all_goals have F:=(tQ o E)
   all_goals first
     | (have U:=yD (HD.out (show _=true by simp only [yP,Ag,Ab,Ah,Ai,Ac,Ad,Ar,Au,Aj,Ak,Av,c1]));clear HD HX;go_wp2;go_ret;exact ⟨jX U.out.symm,(tQ R F)⟩)
     | (have U:=yD (HX.out (show _=false by simp only [yP,Ag,Ab,Ah,Ai,Ac,Ad,Ar,Au,Aj,Ak,Av,c1]));clear HD HX;go_wp2;go_roundw;(case rel=>exact ⟨k + 1,by omega,by go_num,U,F⟩);(case measure=>simp [intOf];omega))
 exact iN
def kQj {w:Al} {cp:Bg Ay} {p:kI} (hp:kJ.raw w cp p) {n:kr} {cc:Ay} {X:Nat} (nr:kW.raw w [cc] n) (aj:Qc w X 0 cc) :
    Bb prog 186 (#[.agg cp.toArray]++#[.pointer (some ⟨X,0,none⟩)]) w (bQ w (.bool (yP n p))):=by
 have Hp:=yD hp
 obtain ⟨ad,ag,rfl,H,D,V,ai⟩:=jT hp
 obtain ⟨ac,o,rfl,ae⟩:=kD.sl D
 obtain ⟨I,Y,rfl,ah⟩:=kD.sl V
 obtain ⟨G,a1,a9⟩:=ko nr
 simp only [Aw,and_true] at a1
 obtain rfl:=a1
 obtain ⟨el,aa,rfl,ab⟩:=kD.sl a9
 show Bb prog 186 #[_,_] w _
 go_enter func186,ntmps186
 go_upto_region 1 with fail
 generalize J:World.alloc w _=N
 have R:Qb w N:=by rw [<- J];exact bG
 have L:Qd N w 0 (.slice ac (p.1).length o):=tT
 have Z:Qd N w 1 (.slice I (p.2.1).length Y):=tT
 have af:Qd N w 2 (.int .i64 p.2.2):=tT
 clear J
 replace aj:=cL R aj
 have FX:=yD (λ(W:Al) (hW:Qb N W)=>kGr hW L Z af aj)
 refine ky (λW=>Qb N W) [true,true,true,false,true] bR ?_
 intro wS E
 iterate 3
  all_goals refine kX ?_
 all_goals first | refine wkB (yA (kD.raw.below H (tQ R E)) (kD.raw.below nr (tQ R E))) (λwS1 E=>?_) | refine kX ?_
 all_goals (refine jd λb O=>?_;cases b <;> try simp only [jc] at O)
 all_goals refine kR ?_
 all_goals have F:=(tQ R E)
 all_goals first
   | (have U:=yD (show (yP n p)=false by simp only [yP,Ag,Ab,Ah,Ai,Ac,Ad,Ar,Au,Aj,Ak,Av,O]);go_wp2;go_ret;exact ⟨kK U.out.symm,F⟩)
   | (have U:=yD (show (yP n p)=true by simp only [yP,Ag,Ab,Ah,Ai,Ac,Ad,Ar,Au,Aj,Ak,Av,O]);go_wp2;go_ret;exact ⟨kK U.out.symm,F⟩)
def kGv:jH prog 186:=yR func186 bC5 bC5
def kSy {w:Al} {vl:Ay} {l:(Bg kI)} (hl:(kD.slice 145 kJ).raw w [vl] l) {cn:Bg Ay} {n:kr} (hn:kW.raw w cn n) :
    Bb prog 147 #[vl,.agg cn.toArray] w (bQ w (.int .i64 (idxOf (yP n) l))):=by
 obtain ⟨al,pl,rfl,ll⟩:=kD.sl hl
 have Y:=yD hn
 obtain ⟨L,rfl,H⟩:=ko hn
 obtain ⟨I,G,rfl,V⟩:=kD.sl H
 go_enter func147,ntmps147
 go_upto_region 1 with fail
 generalize J:World.alloc w _=N
 obtain ⟨R,D⟩:=xZ
 clear J
 go_wp2_with fail
 refine (kFz (yP n) kGv (kD.raw.below hl R) ?_).mono ?_
 · intro wr hb i h cs hr;exact kQj hr (kD.raw.below Y.out (tQ R hb)) (cL hb D)
 exact iO
end Go.Proofs.YtjhfdpopkkmigaaGreat

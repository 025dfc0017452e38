/-
  A requester put in its place.
-/
import Derived.Test.YthocbplmdjkifabGreatDrawM
set_option linter.unusedVariables false
set_option linter.defProp false
set_option linter.unusedSimpArgs false
set_option linter.unnecessarySimpa false
set_option maxRecDepth 100000
set_option maxHeartbeats 4000000
open Bool renaming true->Tt,false->Ff
open Option renaming isSome_iff_exists->Aa
open List renaming findIdx?_eq_some_iff_getElem->Ab,eq_nil_of_length_eq_zero->Ac,drop_eq_getElem_cons->Aj,length_filter_le->Aq,getElem_of_mem->Ar,findIdx?_cons->Au,foldl_append->Av
open Go.Proofs.Tryz renaming underlying79->Ad,underlying31->Al,underlying25->Am
open Bool renaming noConfusion->Ae
open _root_ renaming List->Ag
open Go renaming Value->Ah,Calls->Ai,World->Ak
open True renaming intro->Ap
open Go.IntWalk renaming i64_in->Aw
namespace Go.Proofs.YthocbplmdjkifabGreat
open Go.RowKit _root_.Go.Proofs.Tryz
variable {w:Ak} {S:Nat->Prop} {l:Ag kY} {α:Type} {v vl va:Ah} {x:Ag α} {cp:Array Ah} {k i:Nat} {g:FuncId} {cn:Ag Ah} {n:kU} {a:kY} {p:α->Bool}
def jIm {ps:kU} {n h t:Int} (k:Cg.own w [v] ps S) (hn:-1<=n/\n<=1000001) (hh:-1<=h/\h<=17) (ht:0<=t/\t<=21):zh.own w [v,Qn n,Qn h,Qn t] (ps,n,h,t) S :=
  kD.yR (r:=kQ) (cs:=[v]) (ds:=[.int .i64 n,.int .i64 h,.int .i64 t]) k (kD.yh (cs:=[.int .i64 n]) (kD.jB bJ5) (kD.yh (cs:=[.int .i64 h]) (kD.jB bJ5) (kD.jB bJ5)))
def kNi {w0:Ak} {p:Nat} (hc:yz w0 w p) :
    Ai prog 103 #[.pointer (Qa p)] w λe w'=>∃ a c ps n h t,e=.returned (.agg #[Qs a ps c,Qn n,Qn h,Qn t])/\kQ.own w' [Qs a ps c] ps (jW w w')/\(ps.length<=8/\zR ps)/\(-1<=n/\n<=8)/\(-1<=h/\h<=17)/\(0<=t/\t<=21)/\yz w0 w' p/\Touch (λk=>k=p) w w':=by
 go_enter func103,ntmps103;obtain ⟨bx,b5⟩:=hc.lt;go_upto_region 1 with fail;refine N7 λw1 R br hc TE=>?_;go_wp2_with fail;refine (kNj hc).mono ?_;rintro e w2 ⟨a,n,c,ps,rfl,hO,bg,O,N,D⟩;have b8:=D.size;refine NI λR TE hc=>?_;clear D N;have ch:=yD O;clear O;have F:=yD (hO.wide (T:=λj=>w1.heap.size<=j/\j < w2.heap.size) (λ_ h=>h));clear hO;go_upto_region 2 with fail;refine iC λw3 an B cv=>?_;refine RP an λR F hc TE=>?_;clear an;have ap:Qd w3 w2 0 (.slice a n c):=kE B rfl;obtain ⟨_,_,_,ay,bc⟩:=F.parts;simp only [Value.slice.injEq] at ay;have bl:=yD (ay.2.1.trans bc.out);clear ay bc;by_cases hz:n=0
 · subst hz;obtain rfl:ps=[]:=Ac bl.symm;clear ap;have ap:Qd w3 w2 0 (.slice a 0 c):=kE B rfl;refine CX λaq GB HB=>?_;go_upto_region 4 with fail;refine I5 λw4 ac cd de=>?_;clear GB HB F;refine aA R cd B λR B=>?_;refine eF cd TE λhc TE=>?_;clear ap aq cd;refine PR λF w5 cg B df=>?_;clear ac;refine eH cg R F λR F=>?_;refine oQ cg λhc TE=>?_;clear cg;go_upto_region 4 with fail;have FX:=yD (λ(W:Ak) (hW:Touch (λk=>k=p) w5 W/\yz w0 W p)=>kE (hW.1.kC B bJ5) (j:=0) (v:=.slice (Qa w3) 1 1) rfl);refine je (λW=>Touch (λk=>k=p) w5 W/\yz w0 W p) [(0,true),(1,true),(3,true),(5,true),(2,false),(4,false),(6,false),(7,true),(8,true)] bI9 bI9 sD (⟨Touch.of_below bR.drew,hc.below bR.drew⟩) ?_;intro wS I;simp only [jE,List.length_cons,List.length_nil,List.getElem?_cons_succ,List.getElem?_cons_zero,List.map_cons,List.map_nil,List.cons_append,List.nil_append,List.drop_succ_cons,List.drop_zero];iterate 4
    refine kZ ?_
   refine ku rfl (λK E=>?_);go_simp;refine (kw (n:=9) I.2 bJ4).mono ?_;rintro e wS1 ⟨x,bd,H,bu,rfl,al,ak⟩;replace H:=H bJ4;clear bu;replace I:=And.intro (I.1.trans ak) al;clear al ak;refine E _ _ I ?_;clear E K;refine jD ?_;refine ku rfl (λK E=>?_);go_simp;refine (kw (n:=5) I.2 bJ4).mono ?_;rintro e wS1 ⟨y,cw,ab,cz,rfl,al,ak⟩;replace ab:=ab bJ4;clear cz;replace I:=And.intro (I.1.trans ak) al;clear al ak;refine E _ _ I ?_;clear E K;refine jD ?_;refine ku rfl (λK E=>?_);go_simp;refine (kw (n:=6) I.2 bJ4).mono ?_;rintro e wS1 ⟨z,a7,a4,am,rfl,al,ak⟩;replace a4:=a4 bJ4;clear am;replace I:=And.intro (I.1.trans ak) al;clear al ak;have hw:IntKind.i64.wrap (1 + z)=1 + z:=Aw _ bJ5;refine E _ _ I ?_;clear E K;refine MW λhzs R5 L a9 ar au av be bi ae aw bh bj=>?_;refine bodyPost_ret (v:=.agg #[.slice (Qa w3) 1 1,Qn x,Qn y,.int .i64 (1 + z)]) mH rfl ⟨_,_,[({ data:=#[97] }:ByteArray)],x,y,1 + z,rfl,?_,⟨by decide,λp hp=>by rw [List.mem_singleton.1 hp];decide⟩,by omega,by omega,by omega,a9.touch sT4 bJ5 bF2,L.jO sT4 bJ5⟩;exact (((ar.touch sT4 bA1).own bJ4).wide gK)
 have cq:¬ (n:Int)=0:=bJ5;go_upto_region 4 with fail;clear ap;have FX:=yD (λ(W:Ak) (hW:Touch (λk=>k=p) w3 W/\yz w0 W p)=>kE (hW.1.kC B bJ5) (j:=0) (v:=.slice a n c) rfl);refine je (λW=>Touch (λk=>k=p) w3 W/\yz w0 W p) [(0,true),(1,true),(3,true),(5,true),(2,false),(4,false),(6,false),(7,true),(8,true)] bI9 bI9 sD (⟨Touch.of_below bR.drew,hc.below bR.drew⟩) ?_;refine uK λwS I=>?_;iterate 4
  refine kZ ?_
 refine ku rfl (λK E=>?_);go_simp;refine (kw (n:=9) I.2 bJ4).mono ?_;rintro e wS1 ⟨x,bd,H,bu,rfl,al,ak⟩;replace H:=H bJ4;clear bu;replace I:=And.intro (I.1.trans ak) al;clear al ak;refine E _ _ I ?_;clear E K;refine jD ?_;refine ku rfl (λK E=>?_);go_simp;refine (kw (n:=5) I.2 bJ4).mono ?_;rintro e wS1 ⟨y,cw,ab,cz,rfl,al,ak⟩;replace ab:=ab bJ4;clear cz;replace I:=And.intro (I.1.trans ak) al;clear al ak;refine E _ _ I ?_;clear E K;refine jD ?_;refine ku rfl (λK E=>?_);go_simp;refine (kw (n:=6) I.2 bJ4).mono ?_;rintro e wS1 ⟨z,a7,a4,am,rfl,al,ak⟩;replace a4:=a4 bJ4;clear am;replace I:=And.intro (I.1.trans ak) al;clear al ak;have hw:IntKind.i64.wrap (1 + z)=1 + z:=Aw _ bJ5;refine E _ _ I ?_;clear E K;refine iY λhzs R5 L a9 ar au av be bi ae aw bh bj=>?_;refine bodyPost_ret (v:=.agg #[.slice a n c,Qn x,Qn y,.int .i64 (1 + z)]) mH rfl ⟨_,_,ps,x,y,1 + z,by rw [bl.out],?_,⟨by omega,ch.out⟩,by omega,by omega,by omega,a9.touch sT4 bJ5 bF2,L.jO sT4 bJ5⟩;rw [<- bl.out];exact (((ar.touch sT4 bA1).own bE7).wide gV)
def flatint:kD.int.kEy:=kD.yL
def flatbyte:kD.byte.kEy:=kD.kEv
def jJb {x:Ag UInt8} (ha:Cc.rd w [va] x):Ai prog 92 #[va] w (kAj Cc x w):=by
 obtain ⟨aa,H,rfl,la⟩:=kD.sl ha.1;obtain ⟨HA,E⟩:=WQ;cases aa with
 | none =>
   have hx:x=[]:=by
     cases x with
     | nil=>rfl
     | cons y ys =>
       exact UK
   subst hx;clear ha;go_enter func92,ntmps92;go_wp2;go_ret;exact ⟨_,rfl,kD.jr,bR⟩
 | some a =>
   have hb:x.length<=16777216:=ha.2.1;clear ha;go_enter func92,ntmps92;have O0:kD.ko 5 kD.byte (w.alloc (.cells #[] 5)) (.slice (Qa w) 0 0) [] (λk=>k=w.heap.size):=kD.yf (cs:=[]) (xs:=[]) (T:=λ_=>False) bJ6 bJ6 rfl (λ_ h=>h.elim) rfl;go_wp2_with (at_builtin;refine kD.yH rfl _ _ 22 rfl (r:=kD.byte) (e:=5) underlying22 kDm rfl bJ4 bJ4 flatbyte (B:=w.heap.size) O0 bJ7 bJ7 (HA.alloc _) tO bJ6 bJ0 ?_);exact UL
def kIc:ky.kEy:=kD.kPr (kD.yL) (kD.kPr (kD.yL) (kD.yL))
def kVr {x:Ag kY} (ha:Ci.rd w [va] x):Ai prog 162 #[va] w (kAj Ci x w):=by
 obtain ⟨aa,H,rfl,la⟩:=kD.sl ha.1;obtain ⟨HA,E⟩:=WO;cases aa with
 | none =>
   have hx:x=[]:=by
     cases x with
     | nil=>rfl
     | cons y ys =>
       exact UK
   subst hx;clear ha;go_enter func162,ntmps162;go_wp2;go_ret;exact ⟨_,rfl,kD.jr,bR⟩
 | some a =>
   have hb:x.length<=16777216:=ha.2.1;clear ha;go_enter func162,ntmps162;have O0:kD.ko 83 ky (w.alloc (.cells #[] 83)) (.slice (Qa w) 0 0) [] (λk=>k=w.heap.size):=kD.yf (cs:=[]) (xs:=[]) (T:=λ_=>False) bJ6 bJ6 rfl (λ_ h=>h.elim) rfl;go_wp2_with (at_builtin;refine kD.yH rfl _ _ 79 rfl (r:=ky) (e:=83) Ad kAn rfl bJ4 bJ4 kIc (B:=w.heap.size) O0 bJ7 bJ7 (HA.alloc _) tO bJ6 bJ0 ?_);exact UL
def kPx (p:α->Bool) (x:Ag α):(idxOf p x=-1/\∀ j (h:j < x.length),p x[j]=false)\/∃ k,∃ h:k < x.length,idxOf p x=(k:Int)/\p x[k]=true/\∀ j (h:j < k) (h2:j < x.length),p x[j]=false:=by
 unfold idxOf;cases hf:x.findIdx? p with
 | none =>
   refine .inl ⟨rfl,λj h=>?_⟩;rw [List.findIdx?_eq_none_iff] at hf;exact hf _ (List.getElem_mem h)
 | some k =>
   obtain ⟨h1,h2,h3⟩:=Ab.1 hf;exact .inr ⟨k,h1,rfl,h2,λj h h4=>by simpa using h3 j h⟩
def kPz (h:∀ j (h:j < x.length),p x[j]=false):x.filter (λy=>!p y)=x:=by
 rw [List.filter_eq_self];intro y hy;obtain ⟨j,J,rfl⟩:=Ar hy;simp [h j J]
def kLv (hk:k < x.length) (h:∀ j (h:j < k) (h2:j < x.length),p x[j]=false):(x.take k).filter (λy=>!p y)=x.take k:=by
 rw [List.filter_eq_self];intro y hy;obtain ⟨j,J,rfl⟩:=Ar hy;simp only [List.length_take] at J;simp only [List.getElem_take];simp [h j bJ5 bJ5]
def kGq (z:Ah) (h:(z.cells.toList.all λu=>u.oneCell')=true):∀ u∈z.cells,u.oneCell'=true:=by
 intro u hu;exact List.all_eq_true.1 h u (by simpa using hu)
def kQd {l:Ag kM} (hl:kD.ko 142 kL w v l S) (hlen:l.length<=16777216) (hil:i < l.length) :
    Ai prog 101 #[v,.int .i64 i,.int .i64 ((i:Int) + 1)] w λe w'=>∃ v',e=.returned v'/\kD.ko 142 kL w' v' (l.take i++l.drop (i + 1)) S/\Touch S w w':=by
 obtain ⟨b,cap,rfl,H⟩:=kD.kCz hl hil;rw [Aj hil] at H;have G:Hid (kD.gap 142 kL w b cap l.length (l.take i) 1 (l.drop (i + 1)) S):=yD H.skip;refine PD λX ae a2 a5=>?_;clear H hl ae;refine lS λn1 a2 hlen hil HN HK HR hne Z U af aq V Y ac O=>?_;go_enter func101,ntmps101;go_upto_region 5 with fail;by_cases bq:cap=i + 1
 · have R:Hid ((l.drop (i + 1)).length=0):=yD (by rw [HR.out];omega);obtain rfl:i=n1:=bJ5;subst bq;refine AQ ?_;refine uC λwS I=>?_;all_goals refine jq ?_
   have G2:=yD (G.below I);obtain ⟨w6,D,av,aa⟩:=kD.kHq (P:=prog) (t:=31) (ty:=31) Al zY G2.out bJ4 (q:=0) (c:=0) (k:=i) (m:=0) (λhne=>absurd (Ac R.out) hne) HK.symm R.symm;rw [Nat.add_zero] at D;have E:Hid ((l.take i++l.drop (i + 1)).length=i):=yD qP;obtain ⟨w7,L,F,J⟩:=av.kCx (P:=prog) (t:=31) (ty:=0) (c:=1) (p:=i * 3) bJ4 Al zY rfl bJ4 (kGq _ bJ4) bG4;exact sJ
 refine uO λwS I=>?_;all_goals refine jq ?_
 have G2:=yD (G.below I);obtain ⟨w6,D,av,aa⟩:=kD.kHq (P:=prog) (t:=31) (ty:=31) Al zY G2.out bJ4 (q:=(i + 1) * 3) (c:=cap - (i + 1)) (k:=i) (m:=n1 - i) bB4 HK.symm HR.symm;refine IA λD av aa E=>?_;obtain ⟨w7,L,F,J⟩:=av.kCx (P:=prog) (t:=31) (ty:=0) (c:=cap - n1) (p:=n1 * 3) bJ4 Al zY rfl bJ4 (kGq _ bJ4) bG4;exact PS
def kRh {l:Ag kW} (hl:kD.ko 135 kz w v l S) (hlen:l.length<=16777216) (hil:i < l.length) :
    Ai prog 98 #[v,.int .i64 i,.int .i64 ((i:Int) + 1)] w λe w'=>∃ v',e=.returned v'/\kD.ko 135 kz w' v' (l.take i++l.drop (i + 1)) S/\Touch S w w':=by
 obtain ⟨b,cap,rfl,H⟩:=kD.kCz hl hil;rw [Aj hil] at H;have G:Hid (kD.gap 135 kz w b cap l.length (l.take i) 1 (l.drop (i + 1)) S):=yD H.skip;refine PD λX ae a2 a5=>?_;clear H hl ae;refine lS λn1 a2 hlen hil HN HK HR hne Z U af aq V Y ac O=>?_;go_enter func98,ntmps98;go_upto_region 5 with fail;by_cases bq:cap=i + 1
 · have R:Hid ((l.drop (i + 1)).length=0):=yD (by rw [HR.out];omega);obtain rfl:i=n1:=bJ5;subst bq;refine AQ ?_;refine uC λwS I=>?_;all_goals refine jq ?_
   have G2:=yD (G.below I);obtain ⟨w6,D,av,aa⟩:=kD.kHq (P:=prog) (t:=25) (ty:=25) Am zH G2.out bJ4 (q:=0) (c:=0) (k:=i) (m:=0) (λhne=>absurd (Ac R.out) hne) HK.symm R.symm;rw [Nat.add_zero] at D;have E:Hid ((l.take i++l.drop (i + 1)).length=i):=yD qP;obtain ⟨w7,L,F,J⟩:=av.kCx (P:=prog) (t:=25) (ty:=0) (c:=1) (p:=i * 6) bJ4 Am zH rfl bJ4 (kGq _ bJ4) bG4;exact sJ
 refine uO λwS I=>?_;all_goals refine jq ?_
 have G2:=yD (G.below I);obtain ⟨w6,D,av,aa⟩:=kD.kHq (P:=prog) (t:=25) (ty:=25) Am zH G2.out bJ4 (q:=(i + 1) * 6) (c:=cap - (i + 1)) (k:=i) (m:=n1 - i) bB4 HK.symm HR.symm;refine IA λD av aa E=>?_;obtain ⟨w7,L,F,J⟩:=av.kCx (P:=prog) (t:=25) (ty:=0) (c:=cap - n1) (p:=n1 * 6) bJ4 Am zH rfl bJ4 (kGq _ bJ4) bG4;exact PS
def kTm {l:Ag jH} (p:jH->Bool) (hg:jL prog g) (hl:kD.ko 139 jA w v l S) (hlen:l.length<=16777216)
    (ag:∀ wr,Touch S w wr->∀ x cs,jA.raw wr cs x->Ai prog g (#[.agg cs.toArray]++cp) wr (λe w'=>e=.returned (.bool (p x))/\Qb wr w')) :
    Ai prog 185 #[v,.func (.func g) #[] cp] w λe w'=>∃ v',e=.returned v'/\kD.ko 139 jA w' v' (l.filter (λx=>!p x)) S/\Touch S w w':=by
 have al:=yD ag;clear ag;have F:=yD hl;unfold jL at hg;have HI:Hid (∀ va,v=va->Ai prog 212 #[va,.func (.func g) #[] cp] w λe w'=>e=.returned (.int .i64 (idxOf p l))/\Qb w w'):=yD (λva hv=>by
   subst hv;exact kLf p hg (F.own hlen).raw (λwr hb i h cs hr=>al.out wr (Touch.of_below hb) _ cs hr))
 rcases kPx p l with ⟨hi,hno⟩|⟨i,hil,hi,hyes,hno⟩
 · refine aH hl λoa on oc ho ak=>?_;obtain rfl:=ho;rw [hi] at HI;have HF:=yD (kPz hno).symm;clear hno hi hl;go_enter func185,ntmps185;exact D9
 obtain ⟨b,cap,rfl,H⟩:=kD.kCz hl hil;refine pM λHI Y b0 eh X a2 a5 bu=>?_;clear H hl F hi hyes hno;go_enter func185,ntmps185;go_wp2_with fail;refine PI λw1 O G1 E1=>?_;clear HI Y;go_wp2;go_loopw [5,6] (λq c wr=>∃ m U:Nat,m<=l.length/\U + 1<=m/\q=.int .i64 U/\c=.int .i64 m/\Hid (U=((l.take m).filter (λy=>!p y)).length)/\Hid (kD.gap 139 jA wr b cap l.length ((l.take m).filter (λy=>!p y)) (m - U) (l.drop m) S)/\Hid (Touch S w wr)) (λ_ c _=>l.length - (intOf c).toNat);case atStart =>
  exact EZ
 clear E1 G1 eh b0 O;obtain ⟨m,U,hm,b4,rfl,rfl,I,G,E⟩:=hrel;by_cases hlt:m < l.length
 · refine A9 λhG br bn cs hr ag a3 ac V W ah=>?_;generalize l[m]=x at *;have an:=yD br;have aa:=yD bn;clear br bn hG;rw [<- I.out] at ac V;rw [show U + (m - U)=m by omega] at ac;obtain ⟨c0,c1,c2,rfl⟩:∃ c0 c1 c2,cs=[c0,c1,c2]:=by
    have bq:=jA.len hr
    match cs,bq with
    | [c0,c1,c2],_=>exact ⟨_,_,_,rfl⟩
   refine I7 λA0 A1 A2 D=>?_;obtain ⟨o0,O0⟩:=Aa.1 (G.cells (i:=U * 3) (by have:=D 0 bJ5;simp only [show jA.n=3 from rfl];omega));have Z0:=ah (U * 3);obtain ⟨o1,O1⟩:=Aa.1 (G.cells (i:=U * 3 + 1) (by have:=D 1 bJ5;simp only [show jA.n=3 from rfl];omega));have Z1:=ah (U * 3 + 1);obtain ⟨o2,O2⟩:=Aa.1 (G.cells (i:=U * 3 + 2) (by have:=D 2 bJ5;simp only [show jA.n=3 from rfl];omega));have Z2:=ah (U * 3 + 2);have HR:=yD hr;obtain ⟨rfl,rfl,ay,ap,bb,bt⟩:=yS hr;obtain ⟨ar,am,rfl,au⟩:=kD.sl ap;clear ay ap bb bt hr ag ac D ah;have bg:=yD V;have ab:=yD W;clear V W;have HB:=yD (G.lt);go_wp2_with fail;refine PG λwC w5 E5 M0 M1 M2=>?_;cases hp:p x
   · refine BL λL O0 Z0 O1 Z1 O2 Z2 Z ai=>?_;simp only [show jA.n=3 from rfl] at Z ai;exact rZ
   exact xC
 obtain rfl:m=l.length:=bJ5;refine CO λI hlt HG ao aq dh=>?_;clear G;obtain ⟨w6,af,h6,t6⟩:=HG.kCx (P:=prog) (t:=30) (ty:=0) (c:=cap - U) (p:=U * 3) dh underlying30 kIk rfl bJ4 (kGq _ bJ4) (by simp only [show jA.n=3 from rfl];rw [<- I.out]);refine aN h6 t6 λH6 T6=>?_;exact G7
def kNy (p:kY->Bool) (hg:jL prog g) (hl:kD.ko 83 ky w v l S) (hlen:l.length<=16777216)
    (ag:∀ wr,Touch S w wr->∀ x cs,ky.raw wr cs x->Ai prog g (#[.agg cs.toArray]++cp) wr (λe w'=>e=.returned (.bool (p x))/\Qb wr w')) :
    Ai prog 122 #[v,.func (.func g) #[] cp] w λe w'=>∃ v',e=.returned v'/\kD.ko 83 ky w' v' (l.filter (λx=>!p x)) S/\Touch S w w':=by
 have al:=yD ag;clear ag;have F:=yD hl;unfold jL at hg;have HI:Hid (∀ va,v=va->Ai prog 183 #[va,.func (.func g) #[] cp] w λe w'=>e=.returned (.int .i64 (idxOf p l))/\Qb w w'):=yD (λva hv=>by
   subst hv;exact kPc p hg (F.own hlen).raw (λwr hb i h cs hr=>al.out wr (Touch.of_below hb) _ cs hr))
 rcases kPx p l with ⟨hi,hno⟩|⟨i,hil,hi,hyes,hno⟩
 · refine aH hl λoa on oc ho ak=>?_;obtain rfl:=ho;rw [hi] at HI;have HF:=yD (kPz hno).symm;clear hno hi hl;go_enter func122,ntmps122;exact D9
 obtain ⟨b,cap,rfl,H⟩:=kD.kCz hl hil;refine pM λHI Y b0 eh X a2 a5 bu=>?_;clear H hl F hi hyes hno;go_enter func122,ntmps122;go_wp2_with fail;refine PI λw1 O G1 E1=>?_;clear HI Y;go_wp2;go_loopw [5,6] (λq c wr=>∃ m U:Nat,m<=l.length/\U + 1<=m/\q=.int .i64 U/\c=.int .i64 m/\Hid (U=((l.take m).filter (λy=>!p y)).length)/\Hid (kD.gap 83 ky wr b cap l.length ((l.take m).filter (λy=>!p y)) (m - U) (l.drop m) S)/\Hid (Touch S w wr)) (λ_ c _=>l.length - (intOf c).toNat);case atStart =>
  exact EZ
 clear E1 G1 eh b0 O;obtain ⟨m,U,hm,b4,rfl,rfl,I,G,E⟩:=hrel;by_cases hlt:m < l.length
 · refine A9 λhG br bn cs hr ag a3 ac V W ah=>?_;generalize l[m]=x at *;have an:=yD br;have aa:=yD bn;clear br bn hG;rw [<- I.out] at ac V;rw [show U + (m - U)=m by omega] at ac;obtain ⟨c0,c1,c2,rfl⟩:∃ c0 c1 c2,cs=[c0,c1,c2]:=by
    have bq:=ky.len hr
    match cs,bq with
    | [c0,c1,c2],_=>exact ⟨_,_,_,rfl⟩
   refine I7 λA0 A1 A2 D=>?_;obtain ⟨o0,O0⟩:=Aa.1 (G.cells (i:=U * 3) (by have:=D 0 bJ5;simp only [show ky.n=3 from rfl];omega));have Z0:=ah (U * 3);obtain ⟨o1,O1⟩:=Aa.1 (G.cells (i:=U * 3 + 1) (by have:=D 1 bJ5;simp only [show ky.n=3 from rfl];omega));have Z1:=ah (U * 3 + 1);obtain ⟨o2,O2⟩:=Aa.1 (G.cells (i:=U * 3 + 2) (by have:=D 2 bJ5;simp only [show ky.n=3 from rfl];omega));have Z2:=ah (U * 3 + 2);have HR:=yD hr;obtain ⟨rfl,rfl,rfl,ay,ap,bb⟩:=yJ hr;clear ay ap bb hr ag ac D ah;have bg:=yD V;have ab:=yD W;clear V W;have HB:=yD (G.lt);go_wp2_with fail;refine PG λwC w5 E5 M0 M1 M2=>?_;cases hp:p x
   · refine BL λL O0 Z0 O1 Z1 O2 Z2 Z ai=>?_;simp only [show ky.n=3 from rfl] at Z ai;exact rZ
   exact xC
 obtain rfl:m=l.length:=bJ5;refine CO λI hlt HG ao aq dh=>?_;clear G;obtain ⟨w6,af,h6,t6⟩:=HG.kCx (P:=prog) (t:=79) (ty:=0) (c:=cap - U) (p:=U * 3) dh Ad kAn rfl bJ4 (kGq _ bJ4) (by simp only [show ky.n=3 from rfl];rw [<- I.out]);refine aN h6 t6 λH6 T6=>?_;exact G7
def jR (n:kU) (p:kF):Bool:=eqN p.1 n
def kCo (h:¬ idxOf p x < 0):∃ k:Nat,k < x.length/\idxOf p x=k:=by
 exact KS
def kEd {l:Ag kF} (hl:Ce.raw w [vl] l) (hn:kQ.raw w cn n) :
    Ai prog 72 #[vl,.agg cn.toArray] w (bQ w (.int .i64 (idxOf (jR n) l))):=by
 obtain ⟨al,pl,rfl,ll⟩:=kD.sl hl;have Hn:=yD hn;obtain ⟨Y,rfl,H⟩:=kT hn;obtain ⟨N,E,rfl,Z⟩:=kD.sl H;go_enter func72,ntmps72;go_wp2;refine TC λX EB F=>?_;replace hl:=hl.below EB;go_loopw [5] (λi wr=>∃ k:Nat,k<=l.length/\i=.int .i64 k/\Hid (∀ j,(h:j < k)->(h2:j < l.length)->(jR n) l[j]=false)/\Qb X wr) (λi _=>l.length - (intOf i).toNat);case atStart=>exact ⟨0,Nat.zero_le _,rfl,yD (λ_ h=>by omega),bR⟩
 obtain ⟨k,hk,rfl,HN,D⟩:=hrel;replace F:=cL D F;by_cases hlt:k < l.length
 · obtain ⟨qb,qo,rfl,ah,aj,ao,qr,a2,a4,a5⟩:=kD.zx (hl.below D) (i:=k) bJ5 rfl;refine AU λR J=>?_;generalize l[k]=x at *;refine aN R J λHD HX=>?_;clear R J;obtain ⟨x0,x1,x2⟩:=x;obtain ⟨rfl,au,az,aw,bi⟩:=jV qr;obtain ⟨ai,a6,rfl,bb,ar,bd,rfl,b2⟩:=kD.sx az (kD.sl aw);go_upto_region 4 with fail;refine xS F a2 a4 a5 λFX=>?_;refine q9 λwS I=>?_;all_goals ((first | refine wkB (zb (kD.raw.below au I) (kD.raw.below Hn.out ((tQ EB (tQ D I))))) (λwS1 I=>?_) | refine kZ ?_);refine kR ?_)
   all_goals cases av:eqN x0 n
   all_goals have G:=(tQ D I)
   all_goals first|(have L:=yD (HD.out (show _=true by simp only [jR,Q0,av]));clear HD HX;go_wp2;go_ret;exact ⟨jS L.symm,(tQ EB G)⟩)|(have L:=yD (HX.out (show _=false by simp only [jR,Q0,av]));clear HD HX;refine Qg ?_;exact ⟨k + 1,by omega,by go_num,L,G⟩)
 exact QV
def kWq {cp:Ag Ah} {p:kF} (hp:kH.raw w cp p) {b7:Ah} {Bn:Nat} (nr:kQ.raw w [b7] n) (ae:Qc w Bn 0 b7) :
    Ai prog 139 (#[.agg cp.toArray]++#[.pointer (Qa Bn)]) w (bQ w (.bool (jR n p))):=by
 have Hp:=yD hp;obtain ⟨H,Y,rfl,E,D,F,aj⟩:=kAi hp;obtain ⟨ag,O,rfl,V,aa,af,rfl,ac⟩:=kD.sx D (kD.sl F);have ab:=kEx nr;obtain ⟨dz,R,rfl,ai⟩:=kD.sl ab;show Ai prog 139 #[_,_] w _;go_enter func139,ntmps139;go_upto_region 1 with fail;refine P7 ae λX EB ah J U ae FX=>?_;refine J7 ?_;refine uB λwS I=>?_;all_goals ((first | refine wkB (yI (kD.raw.below E (tQ EB I)) (kD.raw.below nr (tQ EB I))) (λwS1 I=>?_) | refine kZ ?_);refine jo λb Z=>?_;cases b <;> try simp only [jm] at Z)
 all_goals (refine kR ?_;have G:=(tQ EB I))
 all_goals (obtain ⟨vq,qv⟩:∃ qc,(jR n p)=qc:=⟨_,rfl⟩;have L:=yD qv;simp only [jR,Q0,Z] at qv;subst qv;go_wp2;go_ret;exact ⟨kJ L.symm,G⟩)
def kKk:jL prog 139:=yK func139 bI9 bI9
def kFy {l:Ag kF} (hl:Ce.raw w [vl] l) (hn:kQ.raw w cn n) :
    Ai prog 71 #[vl,.agg cn.toArray] w (bQ w (.int .i64 (idxOf (jR n) l))):=by
 obtain ⟨al,pl,rfl,ll⟩:=kD.sl hl;have Hn:=yD hn;obtain ⟨Y,rfl,H⟩:=kT hn;obtain ⟨N,E,rfl,Z⟩:=kD.sl H;go_enter func71,ntmps71;go_upto_region 1 with fail;refine TC λX EB F=>?_;go_wp2_with fail;refine (kJg (jR n) kKk (kD.raw.below hl EB) ?_).mono ?_
 · intro wr hb i h cs hr;exact kWq hr (kD.raw.below Hn.out (tQ EB hb)) (cL hb F)
 exact PO
def kAa (f:Int) (l:Ag kY):Ag kY:=l.filter (λr=>!(r.1==f))
def kUh (a:kY) (l:Ag kY):Ag kY :=
  match (kAa a.1 l).findIdx? (λr=>decide (a.1<=r.1)) with
  | none=>kAa a.1 l++[a]
  | some i=>(kAa a.1 l).take i++a :: (kAa a.1 l).drop i
def kGy (a:kY) (s:Ag kY × Bool) (r:kY):Ag kY × Bool :=
  let s1:=if !s.2 && decide (a.1 < r.1) then (s.1++[a],true) else s
  if r.1=a.1 then s1 else (s1.1++[r],s1.2)
def kOs (a:kY) (l:Ag kY) (k:Nat):Ag kY × Bool:=(l.take k).foldl (kGy a) ([],false)
def putK_next (h:k < l.length):kOs a l (k + 1)=kGy a (kOs a l k) l[k]:=by
 unfold kOs;rw [List.take_succ_eq_append_getElem h,Av];rfl
def putM (a:kY) (l:Ag kY):Ag kY × Bool :=
  match (kAa a.1 l).findIdx? (λr=>decide (a.1<=r.1)) with
  | none=>(kAa a.1 l,false)
  | some i=>((kAa a.1 l).take i++a :: (kAa a.1 l).drop i,true)
def putM_snoc (a:kY) (l:Ag kY) (r:kY):putM a (l++[r])=kGy a (putM a l) r:=by
 have hf:kAa a.1 (l++[r])=if r.1=a.1 then kAa a.1 l else kAa a.1 l++[r]:=by
  unfold kAa;rw [List.filter_append];by_cases h:r.1=a.1 <;> simp [h]
 unfold putM kGy;rw [hf];generalize kAa a.1 l=O;by_cases h:r.1=a.1
 · rw [if_pos h,if_pos h];have hlt:¬ a.1 < r.1:=bJ5;cases hq:O.findIdx? (λr=>decide (a.1<=r.1)) <;> simp [hlt]
 rw [if_neg h,if_neg h];rw [List.findIdx?_append];cases hq:O.findIdx? (λr=>decide (a.1<=r.1)) with
 | none =>
   by_cases hlt:a.1 < r.1
   · have ab:a.1<=r.1:=bJ5;simp [hlt,ab,Au]
   · have ab:¬ a.1<=r.1:=bJ5;simp [hlt,ab,Au]
 | some i =>
   obtain ⟨hi,_⟩:=Ab.1 hq;simp [List.take_append_of_le_length (Nat.le_of_lt hi),List.drop_append_of_le_length (Nat.le_of_lt hi)]
def jDo (a:kY) (l:Ag kY):l.foldl (kGy a) ([],false)=putM a l:=by
 have h:∀ n,∀ l:Ag kY,l.length=n->l.foldl (kGy a) ([],false)=putM a l:=by
  intro n;induction n with
  | zero=>intro l hl;rw [List.length_eq_zero_iff.1 hl];rfl
  | succ n ih =>
    intro l hl;obtain ⟨I,r,rfl⟩:∃ I r,l=I++[r]:=⟨l.dropLast,l.getLast (by intro q;rw [q] at hl;simp at hl),(List.dropLast_concat_getLast _).symm⟩;rw [Av,ih I bF9,putM_snoc];rfl
 exact h _ l rfl
def putK_all (h:¬ k < l.length):(if (kOs a l k).2 then (kOs a l k).1 else (kOs a l k).1++[a])=kUh a l:=by
 unfold kOs;rw [List.take_of_length_le bJ5,jDo];unfold putM kUh;cases (kAa a.1 l).findIdx? (λr=>decide (a.1<=r.1)) <;> simp
def putK_len (k:Nat):(kOs a l k).1.length<=l.length + 1:=by
 unfold kOs;rw [jDo];have h:(kAa a.1 (l.take k)).length<=l.length:=Nat.le_trans (Aq _ _) wF;unfold putM;cases hq:(kAa a.1 (l.take k)).findIdx? (λr=>decide (a.1<=r.1)) with
 | none=>simp;omega
 | some i=>simp;omega
def putR_len (a:kY) (l:Ag kY):(kUh a l).length<=l.length + 1:=by
 have h:(kAa a.1 l).length<=l.length:=Aq _ _;unfold kUh;cases hq:(kAa a.1 l).findIdx? (λr=>decide (a.1<=r.1)) with
 | none=>simp;omega
 | some i=>simp;omega
def putR_idx (a:kY) (l:Ag kY):∃ i,i<=(kAa a.1 l).length/\kUh a l=(kAa a.1 l).take i++a :: (kAa a.1 l).drop i/\((idxOf (λr=>decide (a.1<=r.1)) (kAa a.1 l)=-1/\i=(kAa a.1 l).length)\/idxOf (λr=>decide (a.1<=r.1)) (kAa a.1 l)=(i:Int)):=by
 unfold kUh idxOf;cases hq:(kAa a.1 l).findIdx? (λr=>decide (a.1<=r.1)) with
 | none=>exact ⟨_,Nat.le_refl _,by simp,.inl ⟨rfl,rfl⟩⟩
 | some i =>
   obtain ⟨hi,_⟩:=Ab.1 hq;exact ⟨i,Nat.le_of_lt hi,rfl,.inr rfl⟩
def jHz (hl:Ci.rd w [vl] l) {f n x:Int} (hf:Qi f) (hn:Qi n) (hx:Qi x) :
    Ai prog 256 #[vl,.agg #[Qn f,Qn n,Qn x]] w (kAo 83 ky (kUh (f,n,x) l) w):=by
 have HL:=yD hl;obtain ⟨la,lp,rfl,ll⟩:=kD.sl hl.1;refine oL λbm=>?_;have HA:Hid (∀ W,ky.own W [Qn f,Qn n,Qn x] (f,n,x) (λ_=>False)):=yD (λW=>kD.flat.own (kD.yh (kD.jB hf) (kD.yh (kD.jB hn) (kD.jB hx))));clear hl hf hn hx;go_enter func256,ntmps256;go_upto_region 3 with fail;refine fK λX U EB=>?_;have a1:Qd X w 0 (Qn f):=bA9;have b2:Qd X w 1 (Qn n):=bA9;have b5:Qd X w 2 (Qn x):=bA9;refine DZ λcc=>?_;have O0:Hid (kD.ko 83 ky X (.slice (Qa (w.heap.size + 1)) 0 0) [] (jW (w.heap.size + 1) X)):=yD kD.ko.void;clear U;go_wp2;go_loopw [5,6,7] (λv d i wr=>∃ k:Nat,k<=l.length/\i=.int .i64 k/\d=.bool (kOs (f,n,x) l k).2/\Hid (kD.ko 83 ky wr v (kOs (f,n,x) l k).1 (jW (w.heap.size + 1) wr))/\Below (w.heap.size + 1) X wr) (λ_ _ i _=>l.length - (intOf i).toNat);case atStart=>exact ⟨0,Nat.zero_le _,rfl,rfl,O0,bR⟩
 obtain ⟨k,hk,rfl,rfl,F,D⟩:=hrel;refine aH F λoa on oc ho ak=>?_;obtain rfl:=ho;have ab:=putK_len (a:=(f,n,x)) (l:=l) k;have dn:=D.size;by_cases hlt:k < l.length
 · obtain ⟨ba,ah,rfl,c0,c1,c2,hr,C0,C1,C2⟩:=kD.zx HL.1 hlt rfl;obtain ⟨rfl,rfl,rfl,ay,ap,bb⟩:=yJ hr;have HX:=yD (λW=>kD.flat.own (w:=W) (S:=λ_=>False) (kD.yh (kD.jB ay) (kD.yh (kD.jB ap) (kD.jB bb))));have L:=yD (putK_next (a:=(f,n,x)) hlt);clear hr ay ap bb;generalize l[k]=y at *;obtain ⟨y0,y1,y2⟩:=y;simp only at C0 C1 C2;generalize kOs (f,n,x) l k=s at *;obtain ⟨s1,s2⟩:=s;replace F:Hid (kD.ko 83 ky wr (.slice oa on oc) s1 (jW (w.heap.size + 1) wr)):=F;replace ab:s1.length<=l.length + 1:=ab;have bg:(0:Int)<=k:=bJ5;have bu:(k:Int) < l.length:=bJ5;cases s2
   · by_cases hg:f < y0
     · have hne:¬ (y0=f):=bJ5;have b1:Hid (kOs (f,n,x) l (k + 1)=(s1++[(f,n,x)]++[(y0,y1,y2)],true)):=yD sO;obtain ⟨A0,R,B0⟩:=WN;go_upto_region 6 with fail;refine kN (λW=>Qb wr W) [Tt,Tt,Tt,Tt,Tt,Tt,Tt,Tt,Tt,Tt,Tt,Tt] bI9 bI9 sD (bR.drew) ?_;intro wS1 aj;iterate 2
        all_goals first|(refine kI rfl aj ?_)|(refine jF (v:=?_) rfl (λW hW=>?_) ?_;rotate_left;(· go_simp;try with_reducible rfl))
        all_goals refine jD ?_
       all_goals first|(refine kI rfl aj ?_;have ai:=Ap)|(refine kHp (v:=?_) (b:=?_) rfl (λW hW=>?_) ?_ (λb ai=>?_);rotate_left;rotate_left;(· go_simp;try with_reducible rfl);(· with_reducible rfl);cases b;all_goals first|(exact Ae ai)|(simp only [zU,zV] at ai) | skip)
       all_goals ((iterate 4 refine jD ?_;(first|(refine kI rfl aj ?_)|(refine jF (v:=?_) rfl (λW hW=>?_) ?_;rotate_left;(· go_simp;try with_reducible rfl))));(iterate 2 refine jD ?_;(first|(refine kI rfl aj ?_)|(refine jF (v:=?_) rfl (λW hW=>?_) ?_;rotate_left;(· have I:=cL hW A0;have aa:=cL hW B0;clear hW;go_simp;try with_reducible rfl)));refine jD ?_;(first|(refine kI rfl aj ?_)|(refine jF (v:=?_) rfl (λW hW=>?_) ?_;rotate_left;(· go_simp;try with_reducible rfl))));refine jD ?_;(first|(refine kI rfl aj ?_)|(refine jF (v:=?_) rfl (λW hW=>?_) ?_;rotate_left;(· go_simp;try with_reducible rfl)));refine jD ?_;refine kR ?_)
       have b7:Hid _:=yD ((F.below aj).wide (T:=jW (w.heap.size + 1) wS1) (λj J=>⟨J.1,by have:=J.2;have:=aj.size;omega⟩));have af:=D.trans (aj.mono bD2);clear aj;have da:=af.size;clear A0 B0 R;have A0:=(af.cell (p:=⟨w,0,none⟩) wM).trans a1;have A1:=(af.cell (p:=⟨w,1,none⟩) wM).trans b2;have A2:=(af.cell (p:=⟨w,2,none⟩) wM).trans b5;go_wp2_with (at_builtin;refine kD.jN rfl _ _ 79 rfl (r:=ky) (e:=83) Ad kAn rfl bJ4 bJ4 (B:=w.heap.size + 1) b7.out bJ7 bJ7 rfl (HA.out _) rfl (λ_ _ h=>h) vD (λ_ h=>h.elim) bJ5 bJ5 ?_);intro v2 w2 Y V am;have ae:=yD Y;obtain ⟨dp,di,ch,bw,bk⟩:=Y.parts;obtain rfl:=bw;clear Y;have O:=af.trans V;clear V A0 A1 A2;have dh:(s1++[(f,n,x)]).length<=l.length + 2:=bJ0;have A0:=(O.cell (p:=⟨w,0,none⟩) wM).trans a1;have R:=EB.trans (O.mono bJ5);have B0:=cL R C0;go_upto_region 9 with fail;refine kN (λW=>Qb w2 W) [Tt,Tt,Tt,Tt,Tt,Tt,Tt,Tt] bI9 bI9 sD (bR.drew) ?_;refine NC λa4 ar=>?_;all_goals ((iterate 2 (first|(refine kI rfl ar ?_)|(refine jF (v:=?_) rfl (λW hW=>?_) ?_;rotate_left;(· have I:=cL hW A0;have aa:=cL hW B0;clear hW;go_simp;try with_reducible rfl)));refine jD ?_;(first|(refine kI rfl ar ?_)|(refine jF (v:=?_) rfl (λW hW=>?_) ?_;rotate_left;(· go_simp;try with_reducible rfl)));refine jD ?_);refine kR ?_)
       have b8:Hid _:=yD ((ae.below ar).wide (T:=jW (w.heap.size + 1) a4) (λj J=>⟨J.1,by have:=J.2;have:=ar.size;omega⟩));have a3:=O.trans (ar.mono (by have:=O.size;omega));clear ar;have c9:=a3.size;clear A0 B0 R;have R:=EB.trans (a3.mono bJ5);have B0:=cL R C0;have B1:=cL R C1;have B2:=cL R C2;go_wp2_with (at_builtin;refine kD.jN rfl _ _ 79 rfl (r:=ky) (e:=83) Ad kAn rfl bJ4 bJ4 (B:=w.heap.size + 1) b8.out bJ7 bJ7 rfl (HX.out _) rfl (λ_ _ h=>h) vD (λ_ h=>h.elim) bJ5 bJ5 ?_);intro v4 w4 a9 N cd;have aq:=yD a9;obtain ⟨dl,dj,dx,ck,dg⟩:=a9.parts;obtain rfl:=ck;clear a9;have bn:=a3.trans N;clear N B0 B1 B2 R;refine Qg ?_;exact ⟨k + 1,by omega,by go_num,by rw [b1.out],yD (by rw [b1.out];exact aq.cast bJ6),bn⟩
     by_cases hne:y0=f
     · have b1:Hid (kOs (f,n,x) l (k + 1)=(s1,false)):=yD sO;obtain ⟨A0,R,B0⟩:=WN;go_upto_region 6 with fail;refine kN (λW=>Qb wr W) [Tt,Tt,Tt,Tt,Tt,Tt,Tt,Tt,Tt,Tt,Tt,Tt] bI9 bI9 sD (bR.drew) ?_;intro a6 Z;iterate 2
        all_goals first|(refine kI rfl Z ?_)|(refine jF (v:=?_) rfl (λW hW=>?_) ?_;rotate_left;(· go_simp;try with_reducible rfl))
        all_goals refine jD ?_
       all_goals first|(refine kI rfl Z ?_;have ai:=Ap)|(refine kHp (v:=?_) (b:=?_) rfl (λW hW=>?_) ?_ (λb ai=>?_);rotate_left;rotate_left;(· go_simp;try with_reducible rfl);(· with_reducible rfl);cases b;all_goals first|(exact Ae ai)|(simp only [zU,zV] at ai) | skip)
       all_goals ((iterate 4 refine jD ?_;(first|(refine kI rfl Z ?_)|(refine jF (v:=?_) rfl (λW hW=>?_) ?_;rotate_left;(· go_simp;try with_reducible rfl))));(iterate 2 refine jD ?_;(first|(refine kI rfl Z ?_)|(refine jF (v:=?_) rfl (λW hW=>?_) ?_;rotate_left;(· have I:=cL hW A0;have aa:=cL hW B0;clear hW;go_simp;try with_reducible rfl)));refine jD ?_;(first|(refine kI rfl Z ?_)|(refine jF (v:=?_) rfl (λW hW=>?_) ?_;rotate_left;(· go_simp;try with_reducible rfl))));refine jD ?_;(first|(refine kI rfl Z ?_)|(refine jF (v:=?_) rfl (λW hW=>?_) ?_;rotate_left;(· go_simp;try with_reducible rfl)));refine jD ?_;refine kR ?_)
       have bd:Hid _:=yD ((F.below Z).wide (T:=jW (w.heap.size + 1) a6) qJ);have H:=D.trans (Z.mono bD2);clear Z;have cf:=H.size;clear A0 B0 R;have A0:=(H.cell (p:=⟨w,0,none⟩) wM).trans a1;have R:=EB.trans (H.mono bJ5);have B0:=cL R C0;go_upto_region 9 with fail;refine kN (λW=>Qb a6 W) [Tt,Tt,Tt,Tt,Tt,Tt,Tt,Tt] bI9 bI9 sD (bR.drew) ?_;exact mF bd H
     have b1:Hid (kOs (f,n,x) l (k + 1)=(s1++[(y0,y1,y2)],false)):=yD sO;obtain ⟨A0,R,B0⟩:=WN;go_upto_region 6 with fail;refine kN (λW=>Qb wr W) [Tt,Tt,Tt,Tt,Tt,Tt,Tt,Tt,Tt,Tt,Tt,Tt] bI9 bI9 sD (bR.drew) ?_;intro a6 Z;iterate 2
      all_goals first|(refine kI rfl Z ?_)|(refine jF (v:=?_) rfl (λW hW=>?_) ?_;rotate_left;(· go_simp;try with_reducible rfl))
      all_goals refine jD ?_
     all_goals first|(refine kI rfl Z ?_;have ai:=Ap)|(refine kHp (v:=?_) (b:=?_) rfl (λW hW=>?_) ?_ (λb ai=>?_);rotate_left;rotate_left;(· go_simp;try with_reducible rfl);(· with_reducible rfl);cases b;all_goals first|(exact Ae ai)|(simp only [zU,zV] at ai) | skip)
     all_goals ((iterate 4 refine jD ?_;(first|(refine kI rfl Z ?_)|(refine jF (v:=?_) rfl (λW hW=>?_) ?_;rotate_left;(· go_simp;try with_reducible rfl))));(iterate 2 refine jD ?_;(first|(refine kI rfl Z ?_)|(refine jF (v:=?_) rfl (λW hW=>?_) ?_;rotate_left;(· have I:=cL hW A0;have aa:=cL hW B0;clear hW;go_simp;try with_reducible rfl)));refine jD ?_;(first|(refine kI rfl Z ?_)|(refine jF (v:=?_) rfl (λW hW=>?_) ?_;rotate_left;(· go_simp;try with_reducible rfl))));refine jD ?_;(first|(refine kI rfl Z ?_)|(refine jF (v:=?_) rfl (λW hW=>?_) ?_;rotate_left;(· go_simp;try with_reducible rfl)));refine jD ?_;refine kR ?_)
     have bd:Hid _:=yD ((F.below Z).wide (T:=jW (w.heap.size + 1) a6) qJ);have H:=D.trans (Z.mono bD2);clear Z;have cf:=H.size;clear A0 B0 R;have A0:=(H.cell (p:=⟨w,0,none⟩) wM).trans a1;have R:=EB.trans (H.mono bJ5);have B0:=cL R C0;go_upto_region 9 with fail;refine kN (λW=>Qb a6 W) [Tt,Tt,Tt,Tt,Tt,Tt,Tt,Tt] bI9 bI9 sD (bR.drew) ?_;refine LQ λc3 ag=>?_;all_goals refine kR ?_
     have bt:Hid _:=yD ((bd.below ag).wide (T:=jW (w.heap.size + 1) c3) pU);have a2:=H.trans (ag.mono (by have:=H.size;omega));clear ag;have c6:=a2.size;clear A0 B0 R;have R:=EB.trans (a2.mono bJ5);have B0:=cL R C0;have B1:=cL R C1;have B2:=cL R C2;go_wp2_with (at_builtin;refine kD.jN rfl _ _ 79 rfl (r:=ky) (e:=83) Ad kAn rfl bJ4 bJ4 (B:=w.heap.size + 1) bt.out bJ7 bJ7 rfl (HX.out _) rfl (λ_ _ h=>h) vD (λ_ h=>h.elim) bJ5 bJ5 ?_);intro v8 w8 av ao bz;have G:=yD av;obtain ⟨cl,dk,cz,cg,c7⟩:=av.parts;obtain rfl:=cg;clear av;have ax:=a2.trans ao;clear ao B0 B1 B2 R;refine Qg ?_;exact ⟨k + 1,by omega,by go_num,by rw [b1.out],yD (by rw [b1.out];exact G.cast bJ6),ax⟩
   by_cases hne:y0=f
   · have b1:Hid (kOs (f,n,x) l (k + 1)=(s1,true)):=yD (by rw [L.out];unfold kGy;simp [hne]);go_upto_region 6 with fail;refine kN (λW=>Qb wr W) [Tt,Tt,Tt,Tt,Tt,Tt,Tt,Tt,Tt,Tt,Tt,Tt] bI9 bI9 sD (bR.drew) ?_;intro ac b9;iterate 2
      all_goals first|(refine kI rfl b9 ?_)|(refine jF (v:=?_) rfl (λW hW=>?_) ?_;rotate_left;(· go_simp;try with_reducible rfl))
      all_goals refine jD ?_
     all_goals first|(refine kI rfl b9 ?_;have ai:=Ap)|(refine kHp (v:=?_) (b:=?_) rfl (λW hW=>?_) ?_ (λb ai=>?_);rotate_left;rotate_left;(· go_simp;try with_reducible rfl);(· with_reducible rfl);cases b;all_goals first|(exact Ae ai)|(simp only [zU,zV] at ai) | skip)
     all_goals ((iterate 4 refine jD ?_;(first|(refine kI rfl b9 ?_)|(refine jF (v:=?_) rfl (λW hW=>?_) ?_;rotate_left;(· go_simp;try with_reducible rfl))));(iterate 2 refine jD ?_;(first|(refine kI rfl b9 ?_)|(refine jF (v:=?_) rfl (λW hW=>?_) ?_;rotate_left;(· have I:=cL hW A0;have aa:=cL hW B0;clear hW;go_simp;try with_reducible rfl)));refine jD ?_;(first|(refine kI rfl b9 ?_)|(refine jF (v:=?_) rfl (λW hW=>?_) ?_;rotate_left;(· go_simp;try with_reducible rfl))));refine jD ?_;(first|(refine kI rfl b9 ?_)|(refine jF (v:=?_) rfl (λW hW=>?_) ?_;rotate_left;(· go_simp;try with_reducible rfl)));refine jD ?_;refine kR ?_)
     have a7:Hid _:=yD ((F.below b9).wide (T:=jW (w.heap.size + 1) ac) pV);have E:=D.trans (b9.mono bD2);clear b9;have bx:=E.size;have A0:=(E.cell (p:=⟨w,0,none⟩) wM).trans a1;have R:=EB.trans (E.mono bJ5);have B0:=cL R C0;go_upto_region 9 with fail;refine kN (λW=>Qb ac W) [Tt,Tt,Tt,Tt,Tt,Tt,Tt,Tt] bI9 bI9 sD (bR.drew) ?_;exact mF a7 E
   have b1:Hid (kOs (f,n,x) l (k + 1)=(s1++[(y0,y1,y2)],true)):=yD (by rw [L.out];unfold kGy;simp [hne]);go_upto_region 6 with fail;refine kN (λW=>Qb wr W) [Tt,Tt,Tt,Tt,Tt,Tt,Tt,Tt,Tt,Tt,Tt,Tt] bI9 bI9 sD (bR.drew) ?_;intro ac b9;iterate 2
    all_goals first|(refine kI rfl b9 ?_)|(refine jF (v:=?_) rfl (λW hW=>?_) ?_;rotate_left;(· go_simp;try with_reducible rfl))
    all_goals refine jD ?_
   all_goals first|(refine kI rfl b9 ?_;have ai:=Ap)|(refine kHp (v:=?_) (b:=?_) rfl (λW hW=>?_) ?_ (λb ai=>?_);rotate_left;rotate_left;(· go_simp;try with_reducible rfl);(· with_reducible rfl);cases b;all_goals first|(exact Ae ai)|(simp only [zU,zV] at ai) | skip)
   all_goals ((iterate 4 refine jD ?_;(first|(refine kI rfl b9 ?_)|(refine jF (v:=?_) rfl (λW hW=>?_) ?_;rotate_left;(· go_simp;try with_reducible rfl))));(iterate 2 refine jD ?_;(first|(refine kI rfl b9 ?_)|(refine jF (v:=?_) rfl (λW hW=>?_) ?_;rotate_left;(· have I:=cL hW A0;have aa:=cL hW B0;clear hW;go_simp;try with_reducible rfl)));refine jD ?_;(first|(refine kI rfl b9 ?_)|(refine jF (v:=?_) rfl (λW hW=>?_) ?_;rotate_left;(· go_simp;try with_reducible rfl))));refine jD ?_;(first|(refine kI rfl b9 ?_)|(refine jF (v:=?_) rfl (λW hW=>?_) ?_;rotate_left;(· go_simp;try with_reducible rfl)));refine jD ?_;refine kR ?_)
   have a7:Hid _:=yD ((F.below b9).wide (T:=jW (w.heap.size + 1) ac) pV);have E:=D.trans (b9.mono bD2);clear b9;have bx:=E.size;have A0:=(E.cell (p:=⟨w,0,none⟩) wM).trans a1;have R:=EB.trans (E.mono bJ5);have B0:=cL R C0;go_upto_region 9 with fail;refine kN (λW=>Qb ac W) [Tt,Tt,Tt,Tt,Tt,Tt,Tt,Tt] bI9 bI9 sD (bR.drew) ?_;refine mX λb4 au=>?_;all_goals ((iterate 2 (first|(refine kI rfl au ?_)|(refine jF (v:=?_) rfl (λW hW=>?_) ?_;rotate_left;(· have I:=cL hW A0;have aa:=cL hW B0;clear hW;go_simp;try with_reducible rfl)));refine jD ?_;(first|(refine kI rfl au ?_)|(refine jF (v:=?_) rfl (λW hW=>?_) ?_;rotate_left;(· go_simp;try with_reducible rfl)));refine jD ?_);refine kR ?_)
   have bo:Hid _:=yD ((a7.below au).wide (T:=jW (w.heap.size + 1) b4) (λj J=>⟨J.1,by have:=J.2;have:=au.size;omega⟩));have az:=E.trans (au.mono (by have:=E.size;omega));clear au;have co:=az.size;clear A0 B0 R;have R:=EB.trans (az.mono bJ5);have B0:=cL R C0;have B1:=cL R C1;have B2:=cL R C2;go_wp2_with (at_builtin;refine kD.jN rfl _ _ 79 rfl (r:=ky) (e:=83) Ad kAn rfl bJ4 bJ4 (B:=w.heap.size + 1) bo.out bJ7 bJ7 rfl (HX.out _) rfl (λ_ _ h=>h) vD (λ_ h=>h.elim) bJ5 bJ5 ?_);intro al b6 bc bl dd;have b0:=yD bc;refine aH bc λdc c4 db b3 cw=>?_;obtain rfl:=b3;clear bc;have bh:=az.trans bl;clear bl B0 B1 B2 R;refine Qg ?_;exact ⟨k + 1,by omega,by go_num,by rw [b1.out],yD (by rw [b1.out];exact b0.cast bJ6),bh⟩
 have HF:=yD (putK_all (a:=(f,n,x)) hlt);generalize kOs (f,n,x) l k=s at *;obtain ⟨s1,s2⟩:=s;replace F:Hid (kD.ko 83 ky wr (.slice oa on oc) s1 (jW (w.heap.size + 1) wr)):=F;replace ab:s1.length<=l.length + 1:=ab;cases s2
 · have A0:=(D.cell (p:=⟨w,0,none⟩) wM).trans a1;have A1:=(D.cell (p:=⟨w,1,none⟩) wM).trans b2;have A2:=(D.cell (p:=⟨w,2,none⟩) wM).trans b5;go_wp2_with (at_builtin;refine kD.jN rfl _ _ 79 rfl (r:=ky) (e:=83) Ad kAn rfl bJ4 bJ4 (B:=w.heap.size + 1) F.out bJ7 bJ7 rfl (HA.out _) rfl (λ_ _ h=>h) vD (λ_ h=>h.elim) bJ5 bJ5 ?_);intro an d5 a8 bf c8;have bq:=yD a8;refine aH a8 λde df c5 bv cq=>?_;obtain rfl:=bv;clear a8;have bj:=D.trans bf;clear bf;go_wp2;go_ret;exact ⟨_,rfl,(bq.cast (by have:=HF.out;simpa using this)).wide vE,EB.trans (bj.mono bJ5)⟩
 go_wp2;go_ret;exact ⟨_,rfl,(F.cast (by have:=HF.out;simpa using this)).wide vE,EB.trans (D.mono bJ5)⟩
end Go.Proofs.YthocbplmdjkifabGreat

/-
  A requester put in its place.
-/
import Derived.Test.YtjhfdpopkkmigabGreatIns
set_option linter.unusedVariables false
set_option linter.defProp false
set_option linter.unusedSimpArgs false
set_option linter.unnecessarySimpa false
set_option maxRecDepth 100000
set_option maxHeartbeats 4000000
open Bool renaming true->Tt,false->Ff
open List renaming findIdx?_eq_some_iff_getElem->Aa,drop_eq_getElem_cons->Ab,take_length->Ag,length_take->Ar,length_filter_le->Az,getElem_of_mem->Bb,findIdx?_cons->Bd,foldl_append->Bf,length_cons->Bg,length_drop->Bh
open Bool renaming noConfusion->Ac,not_false->Ah,and_false->Ai,false_and->Aj,not_true->Ak,and_true->Al,true_and->Am,or_false->Ap,false_or->Aq,or_true->Au,true_or->Av,not_not->Aw
open List.cons renaming injEq->Ad
open _root_ renaming List->Ae
open True renaming intro->Ay
open Go renaming Value->Ba,Calls->Bc,World->Bi
open Go.RowKit renaming intOf->Be
namespace Go.Proofs.YtjhfdpopkkmigabGreat
open Go.RowKit _root_.Go.Proofs.Tryz
def kMr {α:Type} (p:α->Bool) (x:Ae α):(idxOf p x=-1/\∀ j (h:j < x.length),p x[j]=false)\/∃ k,∃ h:k < x.length,idxOf p x=(k:Int)/\p x[k]=true/\∀ j (h:j < k) (h2:j < x.length),p x[j]=false:=by
 unfold idxOf;cases hf:x.findIdx? p with
 | none =>
   refine .inl ⟨rfl,λj h=>?_⟩;rw [List.findIdx?_eq_none_iff] at hf;exact hf _ (List.getElem_mem h)
 | some k =>
   obtain ⟨h1,h2,h3⟩:=Aa.1 hf;exact .inr ⟨k,h1,rfl,h2,λj h h4=>by simpa using h3 j h⟩
def kMs {α:Type} {p:α->Bool} {x:Ae α} (h:∀ j (h:j < x.length),p x[j]=false):x.filter (λy=>!p y)=x:=by
 rw [List.filter_eq_self];intro y hy;obtain ⟨j,hj,rfl⟩:=Bb hy;simp [h j hj]
def kIv {α:Type} {p:α->Bool} {x:Ae α} {k:Nat} (hk:k < x.length) (h:∀ j (h:j < k) (h2:j < x.length),p x[j]=false):(x.take k).filter (λy=>!p y)=x.take k:=by
 rw [List.filter_eq_self];intro y hy;obtain ⟨j,hj,rfl⟩:=Bb hy;simp only [Ar] at hj;simp only [List.getElem_take];simp [h j bH3 bH3]
def kVh (z:Ba) (h:(z.cells.toList.all λu=>u.oneCell')=true):∀ u∈z.cells,u.oneCell'=true:=by
 intro u hu;exact List.all_eq_true.1 h u (by simpa using hu)
def kPt {w:Bi} {v:Ba} {l:Ae jA} {g:FuncId} {cp:Array Ba} {S:Nat->Prop} (p:jA->Bool) (hg:jK prog g) (hl:kD.kQ 144 kY w v l S) (hlen:l.length<=16777216)
    (F:∀ wr,Touch S w wr->∀ x cs,kY.raw wr cs x->Bc prog g (#[.agg cs.toArray]++cp) wr (λe w'=>e=.returned (.bool (p x))/\Qb wr w')) :
    Bc prog 119 #[v,.func (.func g) #[] cp] w λe w'=>∃ v',e=.returned v'/\kD.kQ 144 kY w' v' (l.filter (λx=>!p x)) S/\Touch S w w':=by
 have au:=yD F;clear F
 have I:=yD hl
 unfold jK at hg
 have HI:Hid (∀ va,v=va->Bc prog 169 #[va,.func (.func g) #[] cp] w λe w'=>e=.returned (.int .i64 (idxOf p l))/\Qb w w'):=yD (λva hv=>by
   subst hv;exact kRm p hg (I.out.own hlen).raw (λwr hb i h cs hr=>au.out wr (Touch.of_below hb) _ cs hr))
 rcases kMr p l with ⟨hi,hno⟩|⟨i,hil,hi,hyes,hno⟩
 · obtain ⟨oa,on,oc,ho,a1⟩:=hl.parts;obtain rfl:=ho;rw [hi] at HI;have HF:=yD (kMs hno).symm;clear hno hi hl;go_enter func119,ntmps119;exact aT
 obtain ⟨b,cap,rfl,R⟩:=kD.kJq hl hil
 rw [hi] at HI
 rw [Ab hil] at R
 obtain ⟨N,bx,ae,ad,b0⟩:=FO
 simp only [Ar,Bg,Bh] at b0
 have a4:l.length<=cap:=b0.2.1
 have U:cap<=9223372036854775807:=qH
 clear hno hi hl R hyes I b0
 have be:((i:Int)==-1)=false:=sV
 go_enter func119,ntmps119
 go_wp2_with fail
 refine (HI.out _ rfl).mono ?_
 rintro e w1 ⟨rfl,O⟩
 have G1:=yD (N.below O)
 have E1:=yD (Touch.of_below (S:=S) O)
 clear N HI
 go_wp2
 go_loopw [5,6] (λq c wr=>∃ m kn:Nat,m<=l.length/\kn + 1<=m/\q=.int .i64 kn/\c=.int .i64 m/\Hid (kn=((l.take m).filter (λy=>!p y)).length)/\Hid (kD.gap 144 kY wr b cap l.length ((l.take m).filter (λy=>!p y)) (m - kn) (l.drop m) S)/\Hid (Touch S w wr)) (λ_ c _=>l.length - (Be c).toNat)
 case atStart =>
  exact aU
 clear E1 G1 ae bx O
 obtain ⟨m,kn,hm,du,rfl,rfl,ei,G,E⟩:=hrel
 by_cases hlt:m < l.length
 · have V:=G.out;rw [Ab hlt] at V;obtain ⟨bo,br⟩:=IC;obtain ⟨cs,hr,F,X,Y,H⟩:=V.next;have J:=V.skip;have ah:=V.frozen;generalize l[m]=x at *;have ao:=yD bo;have ax:=yD br;clear bo br V;rw [<- ei.out] at Y H;rw [show kn + (m - kn)=m by omega] at Y;obtain ⟨c0,c1,c2,rfl⟩:∃ c0 c1 c2,cs=[c0,c1,c2]:=by
    have ba:=kY.len hr
    match cs,ba with
    | [c0,c1,c2],_=>exact ⟨_,_,_,rfl⟩
   obtain ⟨A0,A1,A2,o⟩:=H9;obtain ⟨o0,O0⟩:=Option.isSome_iff_exists.1 (G.out.cells (i:=kn * 3) (by have:=o 0 bH3;simp only [show kY.n=3 from rfl];omega));have Z0:=ah (kn * 3);obtain ⟨o1,O1⟩:=Option.isSome_iff_exists.1 (G.out.cells (i:=kn * 3 + 1) (by have:=o 1 bH3;simp only [show kY.n=3 from rfl];omega));have Z1:=ah (kn * 3 + 1);obtain ⟨o2,O2⟩:=Option.isSome_iff_exists.1 (G.out.cells (i:=kn * 3 + 2) (by have:=o 2 bH3;simp only [show kY.n=3 from rfl];omega));have Z2:=ah (kn * 3 + 2);have HR:=yD hr;obtain ⟨b1,aa,az,ai,ay,bl⟩:=jS hr;simp only [Ad,and_true] at aa;obtain ⟨rfl,rfl,rfl⟩:=aa;obtain ⟨ar,Z,rfl,av⟩:=kD.sl ai;clear az ai ay bl hr F Y o ah;have an:=yD H;have ac:=yD J;clear H J;have HB:=yD (G.out.lt);go_wp2_with fail;generalize D:World.alloc wr _=wC;have EC:Qb wr wC:=tL;have M0:Qd wC wr 0 (.slice ar (x.1).length Z):=wG;have M1:Qd wC wr 1 (.int .i64 x.2.1):=wG;have M2:Qd wC wr 2 (.int .i64 x.2.2):=wG;clear D;refine (au.out wC (E.out.trans (Touch.of_below EC)) _ _ (HR.out.below EC)).mono ?_;rintro e w5 ⟨rfl,bh⟩;have E5:=yD (tQ EC bh);replace M0:=cL bh M0;replace M1:=cL bh M1;replace M2:=cL bh M2;clear EC bh;cases hp:p x
   · have L:=yD (ao.out bG9);obtain ⟨O0,Z0,O1,Z1,O2,Z2⟩:=EH;obtain ⟨W,al⟩:=an.out w5 E5.out bH3 _ rfl;simp only [show kY.n=3 from rfl] at W al;exact aV
   exact aW
 obtain rfl:m=l.length:=bH3
 have V:=G.out
 rw [List.drop_length,Ag] at V
 rw [Ag] at ei
 have HG:=yD V;clear V G
 obtain ⟨ak,am,aq,ap,bz⟩:=DW
 obtain ⟨w6,af,h6,t6⟩:=HG.out.kJl (P:=prog) (t:=30) (ty:=0) (c:=cap - kn) (p:=kn * 3) bz underlying30 kDa rfl bH2 (kVh _ bH2) (by simp only [show kY.n=3 from rfl];rw [<- ei.out])
 exact aX
def kLa {w:Bi} {v:Ba} {l:Ae kU} {g:FuncId} {cp:Array Ba} {S:Nat->Prop} (p:kU->Bool) (hg:jK prog g) (hl:kD.kQ 91 kM w v l S) (hlen:l.length<=16777216)
    (F:∀ wr,Touch S w wr->∀ x cs,kM.raw wr cs x->Bc prog g (#[.agg cs.toArray]++cp) wr (λe w'=>e=.returned (.bool (p x))/\Qb wr w')) :
    Bc prog 85 #[v,.func (.func g) #[] cp] w λe w'=>∃ v',e=.returned v'/\kD.kQ 91 kM w' v' (l.filter (λx=>!p x)) S/\Touch S w w':=by
 have au:=yD F;clear F
 have I:=yD hl
 unfold jK at hg
 have HI:Hid (∀ va,v=va->Bc prog 87 #[va,.func (.func g) #[] cp] w λe w'=>e=.returned (.int .i64 (idxOf p l))/\Qb w w'):=yD (λva hv=>by
   subst hv;exact kCn p hg (I.out.own hlen).raw (λwr hb i h cs hr=>au.out wr (Touch.of_below hb) _ cs hr))
 rcases kMr p l with ⟨hi,hno⟩|⟨i,hil,hi,hyes,hno⟩
 · obtain ⟨oa,on,oc,ho,a1⟩:=hl.parts;obtain rfl:=ho;rw [hi] at HI;have HF:=yD (kMs hno).symm;clear hno hi hl;go_enter func85,ntmps85;exact aT
 obtain ⟨b,cap,rfl,R⟩:=kD.kJq hl hil
 rw [hi] at HI
 rw [Ab hil] at R
 obtain ⟨N,bx,ae,ad,b0⟩:=FO
 simp only [Ar,Bg,Bh] at b0
 have a4:l.length<=cap:=b0.2.1
 have U:cap<=9223372036854775807:=qH
 clear hno hi hl R hyes I b0
 have be:((i:Int)==-1)=false:=sV
 go_enter func85,ntmps85
 go_wp2_with fail
 refine (HI.out _ rfl).mono ?_
 rintro e w1 ⟨rfl,O⟩
 have G1:=yD (N.below O)
 have E1:=yD (Touch.of_below (S:=S) O)
 clear N HI
 go_wp2
 go_loopw [5,6] (λq c wr=>∃ m kn:Nat,m<=l.length/\kn + 1<=m/\q=.int .i64 kn/\c=.int .i64 m/\Hid (kn=((l.take m).filter (λy=>!p y)).length)/\Hid (kD.gap 91 kM wr b cap l.length ((l.take m).filter (λy=>!p y)) (m - kn) (l.drop m) S)/\Hid (Touch S w wr)) (λ_ c _=>l.length - (Be c).toNat)
 case atStart =>
  exact aU
 clear E1 G1 ae bx O
 obtain ⟨m,kn,hm,du,rfl,rfl,ei,G,E⟩:=hrel
 by_cases hlt:m < l.length
 · have V:=G.out;rw [Ab hlt] at V;obtain ⟨bo,br⟩:=IC;obtain ⟨cs,hr,F,X,Y,H⟩:=V.next;have J:=V.skip;have ah:=V.frozen;generalize l[m]=x at *;have ao:=yD bo;have ax:=yD br;clear bo br V;rw [<- ei.out] at Y H;rw [show kn + (m - kn)=m by omega] at Y;obtain ⟨c0,c1,c2,rfl⟩:∃ c0 c1 c2,cs=[c0,c1,c2]:=by
    have ba:=kM.len hr
    match cs,ba with
    | [c0,c1,c2],_=>exact ⟨_,_,_,rfl⟩
   obtain ⟨A0,A1,A2,o⟩:=H9;obtain ⟨o0,O0⟩:=Option.isSome_iff_exists.1 (G.out.cells (i:=kn * 3) (by have:=o 0 bH3;simp only [show kM.n=3 from rfl];omega));have Z0:=ah (kn * 3);obtain ⟨o1,O1⟩:=Option.isSome_iff_exists.1 (G.out.cells (i:=kn * 3 + 1) (by have:=o 1 bH3;simp only [show kM.n=3 from rfl];omega));have Z1:=ah (kn * 3 + 1);obtain ⟨o2,O2⟩:=Option.isSome_iff_exists.1 (G.out.cells (i:=kn * 3 + 2) (by have:=o 2 bH3;simp only [show kM.n=3 from rfl];omega));have Z2:=ah (kn * 3 + 2);have HR:=yD hr;obtain ⟨aa,az,ai,ay⟩:=yU hr;simp only [Ad,and_true] at aa;obtain ⟨rfl,rfl,rfl⟩:=aa;clear az ai ay hr F Y o ah;have an:=yD H;have ac:=yD J;clear H J;have HB:=yD (G.out.lt);go_wp2_with fail;generalize D:World.alloc wr _=wC;have EC:Qb wr wC:=tL;have M0:Qd wC wr 0 (.int .i64 x.1):=wG;have M1:Qd wC wr 1 (.int .i64 x.2.1):=wG;have M2:Qd wC wr 2 (.int .i64 x.2.2):=wG;clear D;refine (au.out wC (E.out.trans (Touch.of_below EC)) _ _ (HR.out.below EC)).mono ?_;rintro e w5 ⟨rfl,bh⟩;have E5:=yD (tQ EC bh);replace M0:=cL bh M0;replace M1:=cL bh M1;replace M2:=cL bh M2;clear EC bh;cases hp:p x
   · have L:=yD (ao.out bG9);obtain ⟨O0,Z0,O1,Z1,O2,Z2⟩:=EH;obtain ⟨W,al⟩:=an.out w5 E5.out bH3 _ rfl;simp only [show kM.n=3 from rfl] at W al;exact aV
   exact aW
 obtain rfl:m=l.length:=bH3
 have V:=G.out
 rw [List.drop_length,Ag] at V
 rw [Ag] at ei
 have HG:=yD V;clear V G
 obtain ⟨ak,am,aq,ap,bz⟩:=DW
 obtain ⟨w6,af,h6,t6⟩:=HG.out.kJl (P:=prog) (t:=89) (ty:=0) (c:=cap - kn) (p:=kn * 3) bz underlying89 yx rfl bH2 (kVh _ bH2) (by simp only [show kM.n=3 from rfl];rw [<- ei.out])
 exact aX
def jQ (n:kg) (p:kF):Bool:=eqN p.1 n
def kAz {α:Type} {p:α->Bool} {x:Ae α} (h:¬ idxOf p x < 0):∃ k:Nat,k < x.length/\idxOf p x=k:=by
 unfold idxOf at *;cases e:x.findIdx? p with
 | none=>rw [e] at h;simp at h
 | some i=>exact ⟨i,(Aa.1 e).1,rfl⟩
def kCi {w:Bi} {vl:Ba} {l:(Ae kF)} (hl:(kD.slice 93 kH).raw w [vl] l) {cn:Ae Ba} {n:kg} (hn:kN.raw w cn n) :
    Bc prog 110 #[vl,.agg cn.toArray] w (bQ w (.int .i64 (idxOf (jQ n) l))):=by
 obtain ⟨al,pl,rfl,ll⟩:=kD.sl hl
 have Hn:=yD hn
 obtain ⟨Z,rfl,V⟩:=kX hn
 obtain ⟨X,I,rfl,aa⟩:=kD.sl V
 go_enter func110,ntmps110
 go_wp2
 generalize J:World.alloc w _=N
 obtain ⟨EB,D⟩:=y8
 clear J
 replace hl:=hl.below EB
 go_loopw [5] (λi wr=>∃ k:Nat,k<=l.length/\i=.int .i64 k/\Hid (∀ j,(h:j < k)->(h2:j < l.length)->(jQ n) l[j]=false)/\Qb N wr) (λi _=>l.length - (Be i).toNat)
 case atStart=>exact ⟨0,Nat.zero_le _,rfl,yD (λ_ h=>by omega),bR⟩
 obtain ⟨k,hk,rfl,HN,o⟩:=hrel
 replace D:=cL o D
 by_cases hlt:k < l.length
 · obtain ⟨qb,qo,rfl,Y,ae,ah,qr,ap,aq,ay⟩:=kD.kAn (hl.below o) (i:=k) bH3 rfl;obtain ⟨R,H⟩:=D5;generalize l[k]=x at *;have HD:=yD R;have HX:=yD H;clear R H;obtain ⟨U,F,x2⟩:=x;obtain ⟨a6,bn,G,ag,ak,am,ar⟩:=jR qr;simp only [Ad,and_true] at G;obtain ⟨rfl,rfl,rfl⟩:=G;obtain ⟨ac,az,rfl,a8⟩:=kD.sl ak;obtain ⟨ai,bl,rfl,bt⟩:=kD.sl am;go_upto_region 4 with fail;have FX:=yD (λ(W:Bi) (hW:Qb wr W)=>kEe hW D ap aq ay);refine kK (λW=>Qb wr W) [Tt,Tt,Tt,Tt,Tt,Tt,Ff] bG6 bG6 qY (bR.drew) ?_;intro wS E;iterate 6
    all_goals refine ky ?_
   all_goals first | refine wkB (jq (kD.raw.below ag E) (kD.raw.below Hn.out ((tQ EB (tQ o E))))) (λwS1 E=>?_) | refine ky ?_
   all_goals refine kS ?_
   all_goals cases cm:eqN U n
   all_goals have EG:=(tQ o E)
   all_goals first
     | (have L:=yD (HD.out (show _=true by simp only [jQ,Ak,Ah,Al,Am,Ai,Aj,Au,Av,Ap,Aq,Aw,cm]));clear HD HX;go_wp2;go_ret;exact ⟨jV L.out.symm,(tQ EB EG)⟩)
     | (have L:=yD (HX.out (show _=false by simp only [jQ,Ak,Ah,Al,Am,Ai,Aj,Au,Av,Ap,Aq,Aw,cm]));clear HD HX;go_wp2;go_roundw;(case rel=>exact ⟨k + 1,by omega,by go_num,L,EG⟩);(case measure=>simp [Be];omega))
 exact iR
def kSh {w:Bi} {cp:Ae Ba} {p:kF} (hp:kH.raw w cp p) {n:kg} {c7:Ba} {Bn:Nat} (nr:kN.raw w [c7] n) (U:Qc w Bn 0 c7) :
    Bc prog 116 (#[.agg cp.toArray]++#[.pointer (some ⟨Bn,0,none⟩)]) w (bQ w (.bool (jQ n p))):=by
 have Hp:=yD hp
 obtain ⟨Z,ab,rfl,O,G,V,ad⟩:=jR hp
 obtain ⟨Y,D,rfl,aa⟩:=kD.sl G
 obtain ⟨R,X,rfl,ac⟩:=kD.sl V
 obtain ⟨H,av,a5⟩:=kX nr
 simp only [Ad,and_true] at av
 obtain rfl:=av
 obtain ⟨du,ae,rfl,af⟩:=kD.sl a5
 show Bc prog 116 #[_,_] w _
 go_enter func116,ntmps116
 go_upto_region 1 with fail
 generalize J:World.alloc w _=N
 have EB:Qb w N:=by rw [<- J];exact bI
 have I:Qd N w 0 (.slice Y (p.1).length D):=wF
 have o:Qd N w 1 (.slice R (p.2.1).length X):=wF
 have F:Qd N w 2 (.int .i64 p.2.2):=wF
 clear J
 replace U:=cL EB U
 have FX:=yD (λ(W:Bi) (hW:Qb N W)=>kEe hW I o F U)
 refine kr (λW=>Qb N W) [Tt,Tt,Tt,Ff,Tt] bR ?_
 intro wS E
 iterate 3
  all_goals refine ky ?_
 all_goals first | refine wkB (ze (kD.raw.below O (tQ EB E)) (kD.raw.below nr (tQ EB E))) (λwS1 E=>?_) | refine ky ?_
 all_goals (refine jy λb co=>?_;cases b <;> try simp only [jw] at co)
 all_goals refine kS ?_
 all_goals have EG:=(tQ EB E)
 all_goals first
   | (have L:=yD (show (jQ n p)=false by simp only [jQ,Ak,Ah,Al,Am,Ai,Aj,Au,Av,Ap,Aq,Aw,co]);go_wp2;go_ret;exact ⟨kW L.out.symm,EG⟩)
   | (have L:=yD (show (jQ n p)=true by simp only [jQ,Ak,Ah,Al,Am,Ai,Aj,Au,Av,Ap,Aq,Aw,co]);go_wp2;go_ret;exact ⟨kW L.out.symm,EG⟩)
def kHx:jK prog 116:=zP func116 bG6 bG6
def kCg {w:Bi} {vl:Ba} {l:(Ae kF)} (hl:(kD.slice 93 kH).raw w [vl] l) {cn:Ae Ba} {n:kg} (hn:kN.raw w cn n) :
    Bc prog 51 #[vl,.agg cn.toArray] w (bQ w (.int .i64 (idxOf (jQ n) l))):=by
 obtain ⟨al,pl,rfl,ll⟩:=kD.sl hl
 have Hn:=yD hn
 obtain ⟨Z,rfl,V⟩:=kX hn
 obtain ⟨X,I,rfl,aa⟩:=kD.sl V
 go_enter func51,ntmps51
 go_upto_region 1 with fail
 generalize J:World.alloc w _=N
 obtain ⟨EB,D⟩:=y8
 clear J
 go_wp2_with fail
 refine (kGw (jQ n) kHx (kD.raw.below hl EB) ?_).mono ?_
 · intro wr hb i h cs hr;exact kSh hr (kD.raw.below Hn.out (tQ EB hb)) (cL hb D)
 exact iT
def yt (f:Int) (l:Ae kU):Ae kU:=l.filter (λr=>!(r.1==f))
def kIt (a:kU) (l:Ae kU):Ae kU :=
  match (yt a.1 l).findIdx? (λr=>decide (a.1<=r.1)) with
  | none=>yt a.1 l++[a]
  | some i=>(yt a.1 l).take i++a :: (yt a.1 l).drop i
def kEu (a:kU) (s:Ae kU × Bool) (r:kU):Ae kU × Bool :=
  let s1:=if !s.2 && decide (a.1 < r.1) then (s.1++[a],true) else s
  if r.1=a.1 then s1 else (s1.1++[r],s1.2)
def kLl (a:kU) (l:Ae kU) (k:Nat):Ae kU × Bool:=(l.take k).foldl (kEu a) ([],false)
def putK_next {a:kU} {l:Ae kU} {k:Nat} (h:k < l.length):kLl a l (k + 1)=kEu a (kLl a l k) l[k]:=by
 unfold kLl;rw [List.take_succ_eq_append_getElem h,Bf];rfl
def putM (a:kU) (l:Ae kU):Ae kU × Bool :=
  match (yt a.1 l).findIdx? (λr=>decide (a.1<=r.1)) with
  | none=>(yt a.1 l,false)
  | some i=>((yt a.1 l).take i++a :: (yt a.1 l).drop i,true)
def putM_snoc (a:kU) (l:Ae kU) (r:kU):putM a (l++[r])=kEu a (putM a l) r:=by
 have hf:yt a.1 (l++[r])=if r.1=a.1 then yt a.1 l else yt a.1 l++[r]:=by
  unfold yt;rw [List.filter_append];by_cases h:r.1=a.1 <;> simp [h]
 unfold putM kEu;rw [hf];generalize yt a.1 l=O;by_cases h:r.1=a.1
 · rw [if_pos h,if_pos h];have hlt:¬ a.1 < r.1:=bH3;cases hq:O.findIdx? (λr=>decide (a.1<=r.1)) <;> simp [hlt]
 rw [if_neg h,if_neg h];rw [List.findIdx?_append];cases hq:O.findIdx? (λr=>decide (a.1<=r.1)) with
 | none =>
   by_cases hlt:a.1 < r.1
   · have a4:a.1<=r.1:=bH3;simp [hlt,a4,Bd]
   · have a4:¬ a.1<=r.1:=bH3;simp [hlt,a4,Bd]
 | some i =>
   obtain ⟨hi,_⟩:=Aa.1 hq;simp [List.take_append_of_le_length (Nat.le_of_lt hi),List.drop_append_of_le_length (Nat.le_of_lt hi)]
def kXk (a:kU) (l:Ae kU):l.foldl (kEu a) ([],false)=putM a l:=by
 have h:∀ n,∀ l:Ae kU,l.length=n->l.foldl (kEu a) ([],false)=putM a l:=by
  intro n;induction n with
  | zero=>intro l hl;rw [List.length_eq_zero_iff.1 hl];rfl
  | succ n ih =>
    intro l hl;obtain ⟨o,r,rfl⟩:∃ o r,l=o++[r]:=⟨l.dropLast,l.getLast (by intro q;rw [q] at hl;simp at hl),(List.dropLast_concat_getLast _).symm⟩;rw [Bf,ih o bD8,putM_snoc];rfl
 exact h _ l rfl
def putK_all {a:kU} {l:Ae kU} {k:Nat} (h:¬ k < l.length):(if (kLl a l k).2 then (kLl a l k).1 else (kLl a l k).1++[a])=kIt a l:=by
 unfold kLl;rw [List.take_of_length_le bH3,kXk];unfold putM kIt;cases (yt a.1 l).findIdx? (λr=>decide (a.1<=r.1)) <;> simp
def putK_len {a:kU} {l:Ae kU} (k:Nat):(kLl a l k).1.length<=l.length + 1:=by
 unfold kLl;rw [kXk];have h:(yt a.1 (l.take k)).length<=l.length:=Nat.le_trans (Az _ _) tZ;unfold putM;cases hq:(yt a.1 (l.take k)).findIdx? (λr=>decide (a.1<=r.1)) with
 | none=>simp;omega
 | some i=>simp;omega
def kMf (a:kU) (l:Ae kU):(kIt a l).length<=l.length + 1:=by
 have h:(yt a.1 l).length<=l.length:=Az _ _;unfold kIt;cases hq:(yt a.1 l).findIdx? (λr=>decide (a.1<=r.1)) with
 | none=>simp;omega
 | some i=>simp;omega
def kMg (a:kU) (l:Ae kU):∃ i,i<=(yt a.1 l).length/\kIt a l=(yt a.1 l).take i++a :: (yt a.1 l).drop i/\((idxOf (λr=>decide (a.1<=r.1)) (yt a.1 l)=-1/\i=(yt a.1 l).length)\/idxOf (λr=>decide (a.1<=r.1)) (yt a.1 l)=(i:Int)):=by
 unfold kIt idxOf;cases hq:(yt a.1 l).findIdx? (λr=>decide (a.1<=r.1)) with
 | none=>exact ⟨_,Nat.le_refl _,by simp,.inl ⟨rfl,rfl⟩⟩
 | some i =>
   obtain ⟨hi,_⟩:=Aa.1 hq;exact ⟨i,Nat.le_of_lt hi,rfl,.inr rfl⟩
def jBf {w:Bi} {vl:Ba} {l:Ae kU} (hl:(kD.slice 91 kM).rd w [vl] l) {f n x:Int} (hf:Qi f) (hn:Qi n) (hx:Qi x) :
    Bc prog 111 #[vl,.agg #[Qn f,Qn n,Qn x]] w (kBx 91 kM (kIt (f,n,x) l) w):=by
 have HL:=yD hl
 obtain ⟨la,lp,rfl,ll⟩:=kD.sl hl.1
 have bc:l.length<=16777216:=hl.2.1
 have HA:Hid (∀ W,kM.own W [Qn f,Qn n,Qn x] (f,n,x) (λ_=>False)):=yD (λW=>kD.flat.own (kD.jW (kD.ku hf) (kD.jW (kD.ku hn) (kD.ku hx))))
 clear hl hf hn hx
 go_enter func111,ntmps111
 go_upto_region 3 with fail
 generalize J:World.alloc (World.alloc w _) _=N
 have EB:Qb w N:=by rw [<- J];exact bI
 have am:Qd N w 0 (.int .i64 f):=wF
 have aj:Qd N w 1 (.int .i64 n):=wF
 have ak:Qd N w 2 (.int .i64 x):=wF
 have bk:N.heap.size=w.heap.size + 2:=bF5
 have O0:Hid (kD.kQ 91 kM N (.slice (some ⟨w.heap.size + 1,0,none⟩) 0 0) [] (jb (w.heap.size + 1) N.heap.size)):=yD kD.kQ.void
 clear J
 go_wp2
 go_loopw [5,6,7] (λv d i wr=>∃ k:Nat,k<=l.length/\i=.int .i64 k/\d=.bool (kLl (f,n,x) l k).2/\Hid (kD.kQ 91 kM wr v (kLl (f,n,x) l k).1 (jb (w.heap.size + 1) wr.heap.size))/\Below (w.heap.size + 1) N wr) (λ_ _ i _=>l.length - (Be i).toNat)
 case atStart=>exact ⟨0,Nat.zero_le _,rfl,rfl,O0,bR⟩
 obtain ⟨k,hk,rfl,rfl,I,o⟩:=hrel
 obtain ⟨oa,on,oc,ho,a1⟩:=I.out.parts;obtain rfl:=ho
 have a4:=putK_len (a:=(f,n,x)) (l:=l) k
 have da:=o.size
 by_cases hlt:k < l.length
 · obtain ⟨ba,G,rfl,c0,c1,c2,hr,C0,C1,C2⟩:=kD.kAn HL.out.1 hlt rfl;obtain ⟨he,az,ai,ay⟩:=yU hr;simp only [Ad,and_true] at he;obtain ⟨rfl,rfl,rfl⟩:=he;have HX:=yD (λW=>kD.flat.own (w:=W) (S:=λ_=>False) (kD.jW (kD.ku az) (kD.jW (kD.ku ai) (kD.ku ay))));have L:=yD (putK_next (a:=(f,n,x)) hlt);clear hr az ai ay;generalize l[k]=y at *;obtain ⟨y0,y1,y2⟩:=y;simp only at C0 C1 C2;generalize kLl (f,n,x) l k=s at *;obtain ⟨s1,s2⟩:=s;replace I:Hid (kD.kQ 91 kM wr (.slice oa on oc) s1 (jb (w.heap.size + 1) wr.heap.size)):=I;replace a1:Hid (on=s1.length):=a1;replace a4:s1.length<=l.length + 1:=a4;have b4:(0:Int)<=k:=bH3;have a2:(k:Int) < l.length:=bH3;cases s2
   · by_cases hg:f < y0
     · have hne:¬ (y0=f):=bH3;have aa:Hid (kLl (f,n,x) l (k + 1)=(s1++[(f,n,x)]++[(y0,y1,y2)],true)):=yD rG;obtain ⟨A0,A1,A2,EW,U,B1,X⟩:=xO;go_upto_region 6 with fail;refine kK (λW=>Qb wr W) [Tt,Tt,Tt,Tt,Tt,Tt,Tt,Tt,Tt,Tt,Tt,Tt] bG6 bG6 qY (bR.drew) ?_;intro wS1 ae;iterate 2
        all_goals first|(refine kJ rfl ae ?_)|(refine jE (v:=?_) rfl (λW hW=>?_) ?_;rotate_left;(· go_simp;try with_reducible rfl))
        all_goals refine jG ?_
       all_goals first|(refine kJ rfl ae ?_;have al:=Ay)|(refine kGx (v:=?_) (b:=?_) rfl (λW hW=>?_) ?_ (λb al=>?_);rotate_left;rotate_left;(· go_simp;try with_reducible rfl);(· with_reducible rfl);cases b;all_goals first|(exact Ac al)|(simp only [zU,zV] at al) | skip)
       iterate 4
        all_goals refine jG ?_
        all_goals first|(refine kJ rfl ae ?_)|(refine jE (v:=?_) rfl (λW hW=>?_) ?_;rotate_left;(· go_simp;try with_reducible rfl))
       iterate 2
        all_goals refine jG ?_
        all_goals first|(refine kJ rfl ae ?_)|(refine jE (v:=?_) rfl (λW hW=>?_) ?_;rotate_left;(· have an:=cL hW A0;have ao:=cL hW U;clear hW;go_simp;try with_reducible rfl))
        all_goals refine jG ?_
        all_goals first|(refine kJ rfl ae ?_)|(refine jE (v:=?_) rfl (λW hW=>?_) ?_;rotate_left;(· go_simp;try with_reducible rfl))
       all_goals refine jG ?_
       all_goals first|(refine kJ rfl ae ?_)|(refine jE (v:=?_) rfl (λW hW=>?_) ?_;rotate_left;(· go_simp;try with_reducible rfl))
       all_goals refine jG ?_
       all_goals refine kS ?_
       have b6:Hid _:=yD ((I.out.below ae).wide (T:=jb (w.heap.size + 1) wS1.heap.size) (λj hj=>⟨hj.1,by have:=hj.2;have:=ae.size;omega⟩));have ac:=o.trans (ae.mono bB5);clear ae;have dd:=ac.size;clear A0 A1 A2 U B1 X EW;have A0:=(ac.cell (p:=⟨w.heap.size,0,none⟩) vC).trans am;have A1:=(ac.cell (p:=⟨w.heap.size,1,none⟩) vC).trans aj;have A2:=(ac.cell (p:=⟨w.heap.size,2,none⟩) vC).trans ak;have EW:=EB.trans (ac.mono bH3);obtain ⟨U,B1,X⟩:=D9;go_wp2_with (at_builtin;refine kD.jP rfl _ _ 89 rfl (r:=kM) (e:=91) underlying89 yx rfl bH2 bH2 (B:=w.heap.size + 1) b6.out bH5 bH5 rfl (HA.out _) rfl (λ_ _ h=>h) rQ (λ_ h=>h.elim) bH3 bH3 ?_);intro v2 V H af a9;have R:=yD H;obtain ⟨co,dl,cd,ch,bb⟩:=H.parts;obtain rfl:=ch;clear H;have O:=ac.trans af;clear af;clear A0 A1 A2 U B1 X EW;have dk:(s1++[(f,n,x)]).length<=l.length + 2:=bG7;have A0:=(O.cell (p:=⟨w.heap.size,0,none⟩) vC).trans am;have A1:=(O.cell (p:=⟨w.heap.size,1,none⟩) vC).trans aj;have A2:=(O.cell (p:=⟨w.heap.size,2,none⟩) vC).trans ak;have EW:=EB.trans (O.mono bH3);obtain ⟨U,B1,X⟩:=D9;go_upto_region 9 with fail;refine kK (λW=>Qb V W) [Tt,Tt,Tt,Tt,Tt,Tt,Tt,Tt] bG6 bG6 qY (bR.drew) ?_;intro aw ag;iterate 4
        all_goals first|(refine kJ rfl ag ?_)|(refine jE (v:=?_) rfl (λW hW=>?_) ?_;rotate_left;(· go_simp;try with_reducible rfl))
        all_goals refine jG ?_
       iterate 2
        all_goals first|(refine kJ rfl ag ?_)|(refine jE (v:=?_) rfl (λW hW=>?_) ?_;rotate_left;(· have an:=cL hW A0;have ao:=cL hW U;clear hW;go_simp;try with_reducible rfl))
        all_goals refine jG ?_
        all_goals first|(refine kJ rfl ag ?_)|(refine jE (v:=?_) rfl (λW hW=>?_) ?_;rotate_left;(· go_simp;try with_reducible rfl))
        all_goals refine jG ?_
       all_goals refine kS ?_
       have b7:Hid _:=yD ((R.out.below ag).wide (T:=jb (w.heap.size + 1) aw.heap.size) (λj hj=>⟨hj.1,by have:=hj.2;have:=ag.size;omega⟩));have ah:=O.trans (ag.mono (by have:=O.size;omega));clear ag;have dc:=ah.size;clear A0 A1 A2 U B1 X EW;have A0:=(ah.cell (p:=⟨w.heap.size,0,none⟩) vC).trans am;have A1:=(ah.cell (p:=⟨w.heap.size,1,none⟩) vC).trans aj;have A2:=(ah.cell (p:=⟨w.heap.size,2,none⟩) vC).trans ak;have EW:=EB.trans (ah.mono bH3);obtain ⟨U,B1,X⟩:=D9;go_wp2_with (at_builtin;refine kD.jP rfl _ _ 89 rfl (r:=kM) (e:=91) underlying89 yx rfl bH2 bH2 (B:=w.heap.size + 1) b7.out bH5 bH5 rfl (HX.out _) rfl (λ_ _ h=>h) rQ (λ_ h=>h.elim) bH3 bH3 ?_);intro v4 w4 aq ad b1;have bl:=yD aq;obtain ⟨dq,dn,cz,cf,dj⟩:=aq.parts;obtain rfl:=cf;clear aq;have bp:=ah.trans ad;clear ad;clear A0 A1 A2 U B1 X EW;go_wp2;go_roundw;case rel=>exact ⟨k + 1,by omega,by go_num,by rw [aa.out],yD (by rw [aa.out];exact bl.out.cast bH4),bp⟩
       simp [Be];omega
     by_cases hne:y0=f
     · have aa:Hid (kLl (f,n,x) l (k + 1)=(s1,false)):=yD rG;obtain ⟨A0,A1,A2,EW,U,B1,X⟩:=xO;go_upto_region 6 with fail;refine kK (λW=>Qb wr W) [Tt,Tt,Tt,Tt,Tt,Tt,Tt,Tt,Tt,Tt,Tt,Tt] bG6 bG6 qY (bR.drew) ?_;intro a8 ab;iterate 2
        all_goals first|(refine kJ rfl ab ?_)|(refine jE (v:=?_) rfl (λW hW=>?_) ?_;rotate_left;(· go_simp;try with_reducible rfl))
        all_goals refine jG ?_
       all_goals first|(refine kJ rfl ab ?_;have al:=Ay)|(refine kGx (v:=?_) (b:=?_) rfl (λW hW=>?_) ?_ (λb al=>?_);rotate_left;rotate_left;(· go_simp;try with_reducible rfl);(· with_reducible rfl);cases b;all_goals first|(exact Ac al)|(simp only [zU,zV] at al) | skip)
       iterate 4
        all_goals refine jG ?_
        all_goals first|(refine kJ rfl ab ?_)|(refine jE (v:=?_) rfl (λW hW=>?_) ?_;rotate_left;(· go_simp;try with_reducible rfl))
       iterate 2
        all_goals refine jG ?_
        all_goals first|(refine kJ rfl ab ?_)|(refine jE (v:=?_) rfl (λW hW=>?_) ?_;rotate_left;(· have an:=cL hW A0;have ao:=cL hW U;clear hW;go_simp;try with_reducible rfl))
        all_goals refine jG ?_
        all_goals first|(refine kJ rfl ab ?_)|(refine jE (v:=?_) rfl (λW hW=>?_) ?_;rotate_left;(· go_simp;try with_reducible rfl))
       all_goals refine jG ?_
       all_goals first|(refine kJ rfl ab ?_)|(refine jE (v:=?_) rfl (λW hW=>?_) ?_;rotate_left;(· go_simp;try with_reducible rfl))
       all_goals refine jG ?_
       all_goals refine kS ?_
       have bh:Hid _:=yD ((I.out.below ab).wide (T:=jb (w.heap.size + 1) a8.heap.size) nG);have E:=o.trans (ab.mono bB5);clear ab;have cc:=E.size;clear A0 A1 A2 U B1 X EW;obtain ⟨A0,A1,A2,EW⟩:=GA;obtain ⟨U,B1,X⟩:=D9;go_upto_region 9 with fail;refine kK (λW=>Qb a8 W) [Tt,Tt,Tt,Tt,Tt,Tt,Tt,Tt] bG6 bG6 qY (bR.drew) ?_;intro cm a7;iterate 4
        all_goals first|(refine kJ rfl a7 ?_)|(refine jE (v:=?_) rfl (λW hW=>?_) ?_;rotate_left;(· go_simp;try with_reducible rfl))
        all_goals refine jG ?_
       iterate 2
        all_goals first|(refine kJ rfl a7 ?_)|(refine jE (v:=?_) rfl (λW hW=>?_) ?_;rotate_left;(· have an:=cL hW A0;have ao:=cL hW U;clear hW;go_simp;try with_reducible rfl))
        all_goals refine jG ?_
        all_goals first|(refine kJ rfl a7 ?_)|(refine jE (v:=?_) rfl (λW hW=>?_) ?_;rotate_left;(· go_simp;try with_reducible rfl))
        all_goals refine jG ?_
       all_goals refine kS ?_
       have b8:Hid _:=yD ((bh.out.below a7).wide (T:=jb (w.heap.size + 1) cm.heap.size) (λj hj=>⟨hj.1,by have:=hj.2;have:=a7.size;omega⟩));have bd:=E.trans (a7.mono (by have:=E.size;omega));clear a7;have db:=bd.size;clear A0 A1 A2 U B1 X EW;go_wp2;go_roundw;case rel=>exact ⟨k + 1,by omega,by go_num,by rw [aa.out],yD (by rw [aa.out];exact b8.out.cast bH4),bd⟩
       simp [Be];omega
     have aa:Hid (kLl (f,n,x) l (k + 1)=(s1++[(y0,y1,y2)],false)):=yD rG;obtain ⟨A0,A1,A2,EW,U,B1,X⟩:=xO;go_upto_region 6 with fail;refine kK (λW=>Qb wr W) [Tt,Tt,Tt,Tt,Tt,Tt,Tt,Tt,Tt,Tt,Tt,Tt] bG6 bG6 qY (bR.drew) ?_;intro a8 ab;iterate 2
      all_goals first|(refine kJ rfl ab ?_)|(refine jE (v:=?_) rfl (λW hW=>?_) ?_;rotate_left;(· go_simp;try with_reducible rfl))
      all_goals refine jG ?_
     all_goals first|(refine kJ rfl ab ?_;have al:=Ay)|(refine kGx (v:=?_) (b:=?_) rfl (λW hW=>?_) ?_ (λb al=>?_);rotate_left;rotate_left;(· go_simp;try with_reducible rfl);(· with_reducible rfl);cases b;all_goals first|(exact Ac al)|(simp only [zU,zV] at al) | skip)
     iterate 4
      all_goals refine jG ?_
      all_goals first|(refine kJ rfl ab ?_)|(refine jE (v:=?_) rfl (λW hW=>?_) ?_;rotate_left;(· go_simp;try with_reducible rfl))
     iterate 2
      all_goals refine jG ?_
      all_goals first|(refine kJ rfl ab ?_)|(refine jE (v:=?_) rfl (λW hW=>?_) ?_;rotate_left;(· have an:=cL hW A0;have ao:=cL hW U;clear hW;go_simp;try with_reducible rfl))
      all_goals refine jG ?_
      all_goals first|(refine kJ rfl ab ?_)|(refine jE (v:=?_) rfl (λW hW=>?_) ?_;rotate_left;(· go_simp;try with_reducible rfl))
     all_goals refine jG ?_
     all_goals first|(refine kJ rfl ab ?_)|(refine jE (v:=?_) rfl (λW hW=>?_) ?_;rotate_left;(· go_simp;try with_reducible rfl))
     all_goals refine jG ?_
     all_goals refine kS ?_
     have bh:Hid _:=yD ((I.out.below ab).wide (T:=jb (w.heap.size + 1) a8.heap.size) nG);have E:=o.trans (ab.mono bB5);clear ab;have cc:=E.size;clear A0 A1 A2 U B1 X EW;obtain ⟨A0,A1,A2,EW⟩:=GA;obtain ⟨U,B1,X⟩:=D9;go_upto_region 9 with fail;refine kK (λW=>Qb a8 W) [Tt,Tt,Tt,Tt,Tt,Tt,Tt,Tt] bG6 bG6 qY (bR.drew) ?_;intro c4 ap;iterate 4
      all_goals first|(refine kJ rfl ap ?_)|(refine jE (v:=?_) rfl (λW hW=>?_) ?_;rotate_left;(· go_simp;try with_reducible rfl))
      all_goals refine jG ?_
     iterate 2
      all_goals first|(refine kJ rfl ap ?_)|(refine jE (v:=?_) rfl (λW hW=>?_) ?_;rotate_left;(· have an:=cL hW A0;have ao:=cL hW U;clear hW;go_simp;try with_reducible rfl))
      all_goals refine jG ?_
      all_goals first|(refine kJ rfl ap ?_)|(refine jE (v:=?_) rfl (λW hW=>?_) ?_;rotate_left;(· go_simp;try with_reducible rfl))
      all_goals refine jG ?_
     all_goals refine kS ?_
     have bw:Hid _:=yD ((bh.out.below ap).wide (T:=jb (w.heap.size + 1) c4.heap.size) nH);have Z:=E.trans (ap.mono (by have:=E.size;omega));clear ap;have c7:=Z.size;clear A0 A1 A2 U B1 X EW;have A0:=(Z.cell (p:=⟨w.heap.size,0,none⟩) vC).trans am;have A1:=(Z.cell (p:=⟨w.heap.size,1,none⟩) vC).trans aj;have A2:=(Z.cell (p:=⟨w.heap.size,2,none⟩) vC).trans ak;have EW:=EB.trans (Z.mono bH3);obtain ⟨U,B1,X⟩:=D9;go_wp2_with (at_builtin;refine kD.jP rfl _ _ 89 rfl (r:=kM) (e:=91) underlying89 yx rfl bH2 bH2 (B:=w.heap.size + 1) bw.out bH5 bH5 rfl (HX.out _) rfl (λ_ _ h=>h) rQ (λ_ h=>h.elim) bH3 bH3 ?_);intro v8 w8 bn ar b9;have bx:=yD bn;obtain ⟨ck,dp,c3,ce,c8⟩:=bn.parts;obtain rfl:=ce;clear bn;have bo:=Z.trans ar;clear ar;clear A0 A1 A2 U B1 X EW;go_wp2;go_roundw;case rel=>exact ⟨k + 1,by omega,by go_num,by rw [aa.out],yD (by rw [aa.out];exact bx.out.cast bH4),bo⟩
     simp [Be];omega
   by_cases hne:y0=f
   · have aa:Hid (kLl (f,n,x) l (k + 1)=(s1,true)):=yD (by rw [L.out];unfold kEu;simp [hne]);obtain ⟨A0,A1,A2,EW,U,B1,X⟩:=xO;go_upto_region 6 with fail;refine kK (λW=>Qb wr W) [Tt,Tt,Tt,Tt,Tt,Tt,Tt,Tt,Tt,Tt,Tt,Tt] bG6 bG6 qY (bR.drew) ?_;intro Y br;iterate 2
      all_goals first|(refine kJ rfl br ?_)|(refine jE (v:=?_) rfl (λW hW=>?_) ?_;rotate_left;(· go_simp;try with_reducible rfl))
      all_goals refine jG ?_
     all_goals first|(refine kJ rfl br ?_;have al:=Ay)|(refine kGx (v:=?_) (b:=?_) rfl (λW hW=>?_) ?_ (λb al=>?_);rotate_left;rotate_left;(· go_simp;try with_reducible rfl);(· with_reducible rfl);cases b;all_goals first|(exact Ac al)|(simp only [zU,zV] at al) | skip)
     iterate 4
      all_goals refine jG ?_
      all_goals first|(refine kJ rfl br ?_)|(refine jE (v:=?_) rfl (λW hW=>?_) ?_;rotate_left;(· go_simp;try with_reducible rfl))
     iterate 2
      all_goals refine jG ?_
      all_goals first|(refine kJ rfl br ?_)|(refine jE (v:=?_) rfl (λW hW=>?_) ?_;rotate_left;(· have an:=cL hW A0;have ao:=cL hW U;clear hW;go_simp;try with_reducible rfl))
      all_goals refine jG ?_
      all_goals first|(refine kJ rfl br ?_)|(refine jE (v:=?_) rfl (λW hW=>?_) ?_;rotate_left;(· go_simp;try with_reducible rfl))
     all_goals refine jG ?_
     all_goals first|(refine kJ rfl br ?_)|(refine jE (v:=?_) rfl (λW hW=>?_) ?_;rotate_left;(· go_simp;try with_reducible rfl))
     all_goals refine jG ?_
     all_goals refine kS ?_
     have be:Hid _:=yD ((I.out.below br).wide (T:=jb (w.heap.size + 1) Y.heap.size) nI);have D:=o.trans (br.mono bB5);clear br;have b0:=D.size;clear A0 A1 A2 U B1 X EW;obtain ⟨A0,A1,A2,EW⟩:=GD;obtain ⟨U,B1,X⟩:=D9;go_upto_region 9 with fail;refine kK (λW=>Qb Y W) [Tt,Tt,Tt,Tt,Tt,Tt,Tt,Tt] bG6 bG6 qY (bR.drew) ?_;intro bv av;iterate 4
      all_goals first|(refine kJ rfl av ?_)|(refine jE (v:=?_) rfl (λW hW=>?_) ?_;rotate_left;(· go_simp;try with_reducible rfl))
      all_goals refine jG ?_
     iterate 2
      all_goals first|(refine kJ rfl av ?_)|(refine jE (v:=?_) rfl (λW hW=>?_) ?_;rotate_left;(· have an:=cL hW A0;have ao:=cL hW U;clear hW;go_simp;try with_reducible rfl))
      all_goals refine jG ?_
      all_goals first|(refine kJ rfl av ?_)|(refine jE (v:=?_) rfl (λW hW=>?_) ?_;rotate_left;(· go_simp;try with_reducible rfl))
      all_goals refine jG ?_
     all_goals refine kS ?_
     have bt:Hid _:=yD ((be.out.below av).wide (T:=jb (w.heap.size + 1) bv.heap.size) (λj hj=>⟨hj.1,by have:=hj.2;have:=av.size;omega⟩));have a6:=D.trans (av.mono (by have:=D.size;omega));clear av;have cv:=a6.size;clear A0 A1 A2 U B1 X EW;go_wp2;go_roundw;case rel=>exact ⟨k + 1,by omega,by go_num,by rw [aa.out],yD (by rw [aa.out];exact bt.out.cast bH4),a6⟩
     simp [Be];omega
   have aa:Hid (kLl (f,n,x) l (k + 1)=(s1++[(y0,y1,y2)],true)):=yD (by rw [L.out];unfold kEu;simp [hne]);obtain ⟨A0,A1,A2,EW,U,B1,X⟩:=xO;go_upto_region 6 with fail;refine kK (λW=>Qb wr W) [Tt,Tt,Tt,Tt,Tt,Tt,Tt,Tt,Tt,Tt,Tt,Tt] bG6 bG6 qY (bR.drew) ?_;intro Y br;iterate 2
    all_goals first|(refine kJ rfl br ?_)|(refine jE (v:=?_) rfl (λW hW=>?_) ?_;rotate_left;(· go_simp;try with_reducible rfl))
    all_goals refine jG ?_
   all_goals first|(refine kJ rfl br ?_;have al:=Ay)|(refine kGx (v:=?_) (b:=?_) rfl (λW hW=>?_) ?_ (λb al=>?_);rotate_left;rotate_left;(· go_simp;try with_reducible rfl);(· with_reducible rfl);cases b;all_goals first|(exact Ac al)|(simp only [zU,zV] at al) | skip)
   iterate 4
    all_goals refine jG ?_
    all_goals first|(refine kJ rfl br ?_)|(refine jE (v:=?_) rfl (λW hW=>?_) ?_;rotate_left;(· go_simp;try with_reducible rfl))
   iterate 2
    all_goals refine jG ?_
    all_goals first|(refine kJ rfl br ?_)|(refine jE (v:=?_) rfl (λW hW=>?_) ?_;rotate_left;(· have an:=cL hW A0;have ao:=cL hW U;clear hW;go_simp;try with_reducible rfl))
    all_goals refine jG ?_
    all_goals first|(refine kJ rfl br ?_)|(refine jE (v:=?_) rfl (λW hW=>?_) ?_;rotate_left;(· go_simp;try with_reducible rfl))
   all_goals refine jG ?_
   all_goals first|(refine kJ rfl br ?_)|(refine jE (v:=?_) rfl (λW hW=>?_) ?_;rotate_left;(· go_simp;try with_reducible rfl))
   all_goals refine jG ?_
   all_goals refine kS ?_
   have be:Hid _:=yD ((I.out.below br).wide (T:=jb (w.heap.size + 1) Y.heap.size) nI);have D:=o.trans (br.mono bB5);clear br;have b0:=D.size;clear A0 A1 A2 U B1 X EW;obtain ⟨A0,A1,A2,EW⟩:=GD;obtain ⟨U,B1,X⟩:=D9;go_upto_region 9 with fail;refine kK (λW=>Qb Y W) [Tt,Tt,Tt,Tt,Tt,Tt,Tt,Tt] bG6 bG6 qY (bR.drew) ?_;intro b5 au;iterate 4
    all_goals first|(refine kJ rfl au ?_)|(refine jE (v:=?_) rfl (λW hW=>?_) ?_;rotate_left;(· go_simp;try with_reducible rfl))
    all_goals refine jG ?_
   iterate 2
    all_goals first|(refine kJ rfl au ?_)|(refine jE (v:=?_) rfl (λW hW=>?_) ?_;rotate_left;(· have an:=cL hW A0;have ao:=cL hW U;clear hW;go_simp;try with_reducible rfl))
    all_goals refine jG ?_
    all_goals first|(refine kJ rfl au ?_)|(refine jE (v:=?_) rfl (λW hW=>?_) ?_;rotate_left;(· go_simp;try with_reducible rfl))
    all_goals refine jG ?_
   all_goals refine kS ?_
   have bq:Hid _:=yD ((be.out.below au).wide (T:=jb (w.heap.size + 1) b5.heap.size) (λj hj=>⟨hj.1,by have:=hj.2;have:=au.size;omega⟩));have F:=D.trans (au.mono (by have:=D.size;omega));clear au;have cg:=F.size;clear A0 A1 A2 U B1 X EW;have A0:=(F.cell (p:=⟨w.heap.size,0,none⟩) vC).trans am;have A1:=(F.cell (p:=⟨w.heap.size,1,none⟩) vC).trans aj;have A2:=(F.cell (p:=⟨w.heap.size,2,none⟩) vC).trans ak;have EW:=EB.trans (F.mono bH3);obtain ⟨U,B1,X⟩:=D9;go_wp2_with (at_builtin;refine kD.jP rfl _ _ 89 rfl (r:=kM) (e:=91) underlying89 yx rfl bH2 bH2 (B:=w.heap.size + 1) bq.out bH5 bH5 rfl (HX.out _) rfl (λ_ _ h=>h) rQ (λ_ h=>h.elim) bH3 bH3 ?_);intro a3 dm bg bm dg;have b2:=yD bg;obtain ⟨df,c5,de,b3,cw⟩:=bg.parts;obtain rfl:=b3;clear bg;have bi:=F.trans bm;clear bm;clear A0 A1 A2 U B1 X EW;go_wp2;go_roundw;case rel=>exact ⟨k + 1,by omega,by go_num,by rw [aa.out],yD (by rw [aa.out];exact b2.out.cast bH4),bi⟩
   simp [Be];omega
 have HF:=yD (putK_all (a:=(f,n,x)) hlt)
 generalize kLl (f,n,x) l k=s at *
 obtain ⟨s1,s2⟩:=s
 replace I:Hid (kD.kQ 91 kM wr (.slice oa on oc) s1 (jb (w.heap.size + 1) wr.heap.size)):=I
 replace a4:s1.length<=l.length + 1:=a4
 cases s2
 · have A0:=(o.cell (p:=⟨w.heap.size,0,none⟩) vC).trans am;have A1:=(o.cell (p:=⟨w.heap.size,1,none⟩) vC).trans aj;have A2:=(o.cell (p:=⟨w.heap.size,2,none⟩) vC).trans ak;have EW:=EB.trans (o.mono bH3);go_wp2_with (at_builtin;refine kD.jP rfl _ _ 89 rfl (r:=kM) (e:=91) underlying89 yx rfl bH2 bH2 (B:=w.heap.size + 1) I.out bH5 bH5 rfl (HA.out _) rfl (λ_ _ h=>h) rQ (λ_ h=>h.elim) bH3 bH3 ?_);intro a5 es bf ax c9;have bu:=yD bf;obtain ⟨dh,di,c6,bz,cl⟩:=bf.parts;obtain rfl:=bz;clear bf;have bj:=o.trans ax;clear ax;go_wp2;go_ret;exact ⟨_,rfl,(bu.out.cast (by have:=HF.out;simpa using this)).wide rR,EB.trans (bj.mono bH3)⟩
 go_wp2
 go_ret
 exact ⟨_,rfl,(I.out.cast (by have:=HF.out;simpa using this)).wide rR,EB.trans (o.mono bH3)⟩
end Go.Proofs.YtjhfdpopkkmigabGreat

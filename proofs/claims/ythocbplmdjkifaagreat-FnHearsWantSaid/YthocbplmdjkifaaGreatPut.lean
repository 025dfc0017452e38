/-
  A requester put in its place.
-/
import Derived.Test.YthocbplmdjkifaaGreatIns
set_option linter.unusedVariables false
set_option linter.defProp false
set_option linter.unusedSimpArgs false
set_option linter.unnecessarySimpa false
set_option maxRecDepth 100000
set_option maxHeartbeats 4000000
open Bool renaming true->Tt,false->Ff
open Option renaming isSome_iff_exists->Aa
open List renaming findIdx?_eq_some_iff_getElem->Ab,drop_eq_getElem_cons->Ac,take_length->Ah,length_take->Au,length_filter_le->Ba,getElem_of_mem->Bc,findIdx?_cons->Be,foldl_append->Bf,length_cons->Bg,length_drop->Bh
open Bool renaming noConfusion->Ad,not_false->Ai,and_false->Aj,false_and->Ak,not_true->Al,and_true->Am,true_and->Ap,or_false->Aq,false_or->Ar,or_true->Av,true_or->Aw,not_not->Ay
open Go.Proofs.Tryz renaming underlying103->Ae
open _root_ renaming List->Ag
open True renaming intro->Az
open Go renaming Value->Bb,Calls->Bd,World->Bi
namespace Go.Proofs.YthocbplmdjkifaaGreat
open Go.RowKit _root_.Go.Proofs.Tryz
def kOq {α:Type} (p:α->Bool) (x:Ag α):(idxOf p x=-1/\∀ j (h:j < x.length),p x[j]=false)\/∃ k,∃ h:k < x.length,idxOf p x=(k:Int)/\p x[k]=true/\∀ j (h:j < k) (h2:j < x.length),p x[j]=false:=by
 unfold idxOf;cases hf:x.findIdx? p with
 | none =>
   refine .inl ⟨rfl,λj h=>?_⟩;rw [List.findIdx?_eq_none_iff] at hf;exact hf _ (List.getElem_mem h)
 | some k =>
   obtain ⟨h1,h2,h3⟩:=Ab.1 hf;exact .inr ⟨k,h1,rfl,h2,λj h h4=>by simpa using h3 j h⟩
def kOt {α:Type} {p:α->Bool} {x:Ag α} (h:∀ j (h:j < x.length),p x[j]=false):x.filter (λy=>!p y)=x:=by
 rw [List.filter_eq_self];intro y hy;obtain ⟨j,I,rfl⟩:=Bc hy;simp [h j I]
def kKm {α:Type} {p:α->Bool} {x:Ag α} {k:Nat} (hk:k < x.length) (h:∀ j (h:j < k) (h2:j < x.length),p x[j]=false):(x.take k).filter (λy=>!p y)=x.take k:=by
 rw [List.filter_eq_self];intro y hy;obtain ⟨j,I,rfl⟩:=Bc hy;simp only [Au] at I;simp only [List.getElem_take];simp [h j bF2 bF2]
def kYl (z:Bb) (h:(z.cells.toList.all λu=>u.oneCell')=true):∀ u∈z.cells,u.oneCell'=true:=by
 intro u hu;exact List.all_eq_true.1 h u (by simpa using hu)
def kSp {w:Bi} {v:Bb} {l:Ag jI} {g:FuncId} {cp:Array Bb} {S:Nat->Prop} (p:jI->Bool) (hg:jL prog g) (hl:kD.kY 176 jA w v l S) (hlen:l.length<=16777216)
    (an:∀ wr,Touch S w wr->∀ x cs,jA.raw wr cs x->Bd prog g (#[.agg cs.toArray]++cp) wr (λe w'=>e=.returned (.bool (p x))/\Qb wr w')) :
    Bd prog 196 #[v,.func (.func g) #[] cp] w λe w'=>∃ v',e=.returned v'/\kD.kY 176 jA w' v' (l.filter (λx=>!p x)) S/\Touch S w w':=by
 have a5:=yD an
 clear an
 have J:=yD hl
 unfold jL at hg
 have HI:Hid (∀ va,v=va->Bd prog 227 #[va,.func (.func g) #[] cp] w λe w'=>e=.returned (.int .i64 (idxOf p l))/\Qb w w'):=yD (λva hv=>by
   subst hv;exact kJu p hg (J.out.own hlen).raw (λwr hb i h cs hr=>a5.out wr (Touch.of_below hb) _ cs hr))
 rcases kOq p l with ⟨hi,hno⟩|⟨i,hil,hi,hyes,hno⟩
 · obtain ⟨oa,on,oc,ho,ay⟩:=hl.parts;obtain rfl:=ho;rw [hi] at HI;have HF:=yD (kOt hno).symm;clear hno hi hl;go_enter func196,ntmps196;exact aU
 obtain ⟨b,cap,rfl,o⟩:=kD.kLm hl hil
 rw [hi] at HI
 rw [Ac hil] at o
 obtain ⟨V,a3,Y,ac,br⟩:=DF
 simp only [Au,Bg,Bh] at br
 have ar:l.length<=cap:=br.2.1
 have ap:cap<=9223372036854775807:=qF
 clear hno hi hl o hyes J br
 have bx:((i:Int)==-1)=false:=sQ
 go_enter func196,ntmps196
 go_wp2_with fail
 refine (HI.out _ rfl).mono ?_
 rintro e w1 ⟨rfl,N⟩
 have G1:=yD (V.below N)
 have E1:=yD (Touch.of_below (S:=S) N)
 clear V HI
 go_wp2
 go_loopw [5,6] (λq c wr=>∃ m kn:Nat,m<=l.length/\kn + 1<=m/\q=.int .i64 kn/\c=.int .i64 m/\Hid (kn=((l.take m).filter (λy=>!p y)).length)/\Hid (kD.gap 176 jA wr b cap l.length ((l.take m).filter (λy=>!p y)) (m - kn) (l.drop m) S)/\Hid (Touch S w wr)) (λ_ c _=>l.length - (intOf c).toNat)
 case atStart =>
  exact aV
 clear E1 G1 Y a3 N
 obtain ⟨m,kn,hm,dq,rfl,rfl,eq,G,E⟩:=hrel
 by_cases hlt:m < l.length
 · have W:=G.out;rw [Ac hlt] at W;obtain ⟨be,bh⟩:=EY;obtain ⟨cs,hr,an,av,U,H⟩:=W.next;have O:=W.skip;have af:=W.frozen;generalize l[m]=x at *;have a1:=yD be;have al:=yD bh;clear be bh W;rw [<- eq.out] at U H;rw [show kn + (m - kn)=m by omega] at U;obtain ⟨c0,c1,c2,rfl⟩:∃ c0 c1 c2,cs=[c0,c1,c2]:=by
    have bg:=jA.len hr
    match cs,bg with
    | [c0,c1,c2],_=>exact ⟨_,_,_,rfl⟩
   obtain ⟨A0,A1,A2,D⟩:=EK;obtain ⟨o0,O0⟩:=Aa.1 (G.out.cells (i:=kn * 3) (by have:=D 0 bF2;simp only [show jA.n=3 from rfl];omega));have Z0:=af (kn * 3);obtain ⟨o1,O1⟩:=Aa.1 (G.out.cells (i:=kn * 3 + 1) (by have:=D 1 bF2;simp only [show jA.n=3 from rfl];omega));have Z1:=af (kn * 3 + 1);obtain ⟨o2,O2⟩:=Aa.1 (G.out.cells (i:=kn * 3 + 2) (by have:=D 2 bF2;simp only [show jA.n=3 from rfl];omega));have Z2:=af (kn * 3 + 2);have HR:=yD hr;obtain ⟨rfl,rfl,bd,aq,a8,bk⟩:=yI hr;obtain ⟨aj,ah,rfl,ak⟩:=kD.sl aq;clear bd aq a8 bk hr an U D af;have R:=yD H;have Z:=yD O;clear H O;have HB:=yD (G.out.lt);go_wp2_with fail;refine allC ?_;intro wC EC F _;obtain ⟨M0,M1,M2⟩:=kBd F;clear F;refine (a5.out wC (E.out.trans (Touch.of_below EC)) _ _ (HR.out.below EC)).mono ?_;rintro e w5 ⟨rfl,X⟩;have E5:=yD (tQ EC X);replace M0:=cL X M0;replace M1:=cL X M1;replace M2:=cL X M2;clear EC X;cases hp:p x
   · have L:=yD (a1.out bE8);obtain ⟨O0,Z0,O1,Z1,O2,Z2⟩:=BV;obtain ⟨bm,au⟩:=R.out w5 E5.out bF2 _ rfl;simp only [show jA.n=3 from rfl] at bm au;exact aW
   exact aX
 obtain rfl:m=l.length:=bF2
 have W:=G.out
 rw [List.drop_length,Ah] at W
 rw [Ah] at eq
 have HG:=yD W
 clear W G
 obtain ⟨ae,ag,bi⟩:=FC
 obtain ⟨w6,ab,h6,t6⟩:=HG.out.kLa (P:=prog) (t:=30) (ty:=0) (c:=cap - kn) (p:=kn * 3) bi underlying30 kGx rfl bF1 (kYl _ bF1) (by simp only [show jA.n=3 from rfl];rw [<- eq.out])
 exact aY
def kMz {w:Bi} {v:Bb} {l:Ag kV} {g:FuncId} {cp:Array Bb} {S:Nat->Prop} (p:kV->Bool) (hg:jL prog g) (hl:kD.kY 105 kQ w v l S) (hlen:l.length<=16777216)
    (an:∀ wr,Touch S w wr->∀ x cs,kQ.raw wr cs x->Bd prog g (#[.agg cs.toArray]++cp) wr (λe w'=>e=.returned (.bool (p x))/\Qb wr w')) :
    Bd prog 109 #[v,.func (.func g) #[] cp] w λe w'=>∃ v',e=.returned v'/\kD.kY 105 kQ w' v' (l.filter (λx=>!p x)) S/\Touch S w w':=by
 have a5:=yD an
 clear an
 have J:=yD hl
 unfold jL at hg
 have HI:Hid (∀ va,v=va->Bd prog 111 #[va,.func (.func g) #[] cp] w λe w'=>e=.returned (.int .i64 (idxOf p l))/\Qb w w'):=yD (λva hv=>by
   subst hv;exact kDa p hg (J.out.own hlen).raw (λwr hb i h cs hr=>a5.out wr (Touch.of_below hb) _ cs hr))
 rcases kOq p l with ⟨hi,hno⟩|⟨i,hil,hi,hyes,hno⟩
 · obtain ⟨oa,on,oc,ho,ay⟩:=hl.parts;obtain rfl:=ho;rw [hi] at HI;have HF:=yD (kOt hno).symm;clear hno hi hl;go_enter func109,ntmps109;exact aU
 obtain ⟨b,cap,rfl,o⟩:=kD.kLm hl hil
 rw [hi] at HI
 rw [Ac hil] at o
 obtain ⟨V,a3,Y,ac,br⟩:=DF
 simp only [Au,Bg,Bh] at br
 have ar:l.length<=cap:=br.2.1
 have ap:cap<=9223372036854775807:=qF
 clear hno hi hl o hyes J br
 have bx:((i:Int)==-1)=false:=sQ
 go_enter func109,ntmps109
 go_wp2_with fail
 refine (HI.out _ rfl).mono ?_
 rintro e w1 ⟨rfl,N⟩
 have G1:=yD (V.below N)
 have E1:=yD (Touch.of_below (S:=S) N)
 clear V HI
 go_wp2
 go_loopw [5,6] (λq c wr=>∃ m kn:Nat,m<=l.length/\kn + 1<=m/\q=.int .i64 kn/\c=.int .i64 m/\Hid (kn=((l.take m).filter (λy=>!p y)).length)/\Hid (kD.gap 105 kQ wr b cap l.length ((l.take m).filter (λy=>!p y)) (m - kn) (l.drop m) S)/\Hid (Touch S w wr)) (λ_ c _=>l.length - (intOf c).toNat)
 case atStart =>
  exact aV
 clear E1 G1 Y a3 N
 obtain ⟨m,kn,hm,dq,rfl,rfl,eq,G,E⟩:=hrel
 by_cases hlt:m < l.length
 · have W:=G.out;rw [Ac hlt] at W;obtain ⟨be,bh⟩:=EY;obtain ⟨cs,hr,an,av,U,H⟩:=W.next;have O:=W.skip;have af:=W.frozen;generalize l[m]=x at *;have a1:=yD be;have al:=yD bh;clear be bh W;rw [<- eq.out] at U H;rw [show kn + (m - kn)=m by omega] at U;obtain ⟨c0,c1,c2,rfl⟩:∃ c0 c1 c2,cs=[c0,c1,c2]:=by
    have bg:=kQ.len hr
    match cs,bg with
    | [c0,c1,c2],_=>exact ⟨_,_,_,rfl⟩
   obtain ⟨A0,A1,A2,D⟩:=EK;obtain ⟨o0,O0⟩:=Aa.1 (G.out.cells (i:=kn * 3) (by have:=D 0 bF2;simp only [show kQ.n=3 from rfl];omega));have Z0:=af (kn * 3);obtain ⟨o1,O1⟩:=Aa.1 (G.out.cells (i:=kn * 3 + 1) (by have:=D 1 bF2;simp only [show kQ.n=3 from rfl];omega));have Z1:=af (kn * 3 + 1);obtain ⟨o2,O2⟩:=Aa.1 (G.out.cells (i:=kn * 3 + 2) (by have:=D 2 bF2;simp only [show kQ.n=3 from rfl];omega));have Z2:=af (kn * 3 + 2);have HR:=yD hr;obtain ⟨rfl,rfl,rfl,bd,aq,a8⟩:=yf hr;clear bd aq a8 hr an U D af;have R:=yD H;have Z:=yD O;clear H O;have HB:=yD (G.out.lt);go_wp2_with fail;refine allC ?_;intro wC EC F _;obtain ⟨M0,M1,M2⟩:=kBd F;clear F;refine (a5.out wC (E.out.trans (Touch.of_below EC)) _ _ (HR.out.below EC)).mono ?_;rintro e w5 ⟨rfl,X⟩;have E5:=yD (tQ EC X);replace M0:=cL X M0;replace M1:=cL X M1;replace M2:=cL X M2;clear EC X;cases hp:p x
   · have L:=yD (a1.out bE8);obtain ⟨O0,Z0,O1,Z1,O2,Z2⟩:=BV;obtain ⟨bm,au⟩:=R.out w5 E5.out bF2 _ rfl;simp only [show kQ.n=3 from rfl] at bm au;exact aW
   exact aX
 obtain rfl:m=l.length:=bF2
 have W:=G.out
 rw [List.drop_length,Ah] at W
 rw [Ah] at eq
 have HG:=yD W
 clear W G
 obtain ⟨ae,ag,bi⟩:=FC
 obtain ⟨w6,ab,h6,t6⟩:=HG.out.kLa (P:=prog) (t:=103) (ty:=0) (c:=cap - kn) (p:=kn * 3) bi Ae zK rfl bF1 (kYl _ bF1) (by simp only [show kQ.n=3 from rfl];rw [<- eq.out])
 exact aY
def jV (n:ko) (p:kF):Bool:=eqN p.1 n
def zn {α:Type} {p:α->Bool} {x:Ag α} (h:¬ idxOf p x < 0):∃ k:Nat,k < x.length/\idxOf p x=k:=by
 unfold idxOf at *;cases e:x.findIdx? p with
 | none=>rw [e] at h;simp at h
 | some i=>exact ⟨i,(Ab.1 e).1,rfl⟩
def kCt {w:Bi} {vl:Bb} {l:(Ag kF)} (hl:(kD.slice 107 kH).raw w [vl] l) {cn:Ag Bb} {n:ko} (hn:kR.raw w cn n) :
    Bd prog 68 #[vl,.agg cn.toArray] w (bQ w (.int .i64 (idxOf (jV n) l))):=by
 obtain ⟨al,pl,rfl,ll⟩:=kD.sl hl
 have Hn:=yD hn
 obtain ⟨X,rfl,J⟩:=kw hn
 obtain ⟨V,F,rfl,aa⟩:=kD.sl J
 go_enter func68,ntmps68
 go_wp2
 generalize R:World.alloc w _=U
 obtain ⟨Z,I⟩:=xN
 clear R
 replace hl:=hl.below Z
 go_loopw [5] (λi wr=>∃ k:Nat,k<=l.length/\i=.int .i64 k/\Hid (∀ j,(h:j < k)->(h2:j < l.length)->(jV n) l[j]=false)/\Qb U wr) (λi _=>l.length - (intOf i).toNat)
 case atStart=>exact ⟨0,Nat.zero_le _,rfl,yD (λ_ h=>by omega),bR⟩
 obtain ⟨k,hk,rfl,Y,o⟩:=hrel
 replace I:=cL o I
 by_cases hlt:k < l.length
 · obtain ⟨qb,qo,rfl,ac,ae,af,qr,ap,aq,au⟩:=kD.zL (hl.below o) (i:=k) bF2 rfl;obtain ⟨O,H⟩:=BG;generalize l[k]=x at *;have HD:=yD O;have HX:=yD H;clear O H;obtain ⟨x0,x1,x2⟩:=x;obtain ⟨rfl,ah,aj,ak,aw⟩:=jP qr;obtain ⟨ad,a4,rfl,a6,am,bk,rfl,bq⟩:=kD.sx aj (kD.sl ak);go_upto_region 4 with fail;have FX:=yD (λ(W:Bi) (hW:Qb wr W)=>kDk hW I ap aq au);refine kK (λW=>Qb wr W) [Tt,Tt,Tt,Tt,Tt,Tt,Ff] bE5 bE5 qW (bR.drew) ?_;intro wS E;all_goals ((iterate 6 refine kS ?_);(first | refine zi (jU (kD.raw.below ah E) (kD.raw.below Hn.out ((tQ Z (tQ o E))))) (λwS1 E=>?_) | refine kS ?_);refine kM ?_)
   all_goals cases cg:eqN x0 n
   all_goals have D:=(tQ o E)
   all_goals first
     | (have L:=yD (HD.out (show _=true by simp only [jV,Al,Ai,Am,Ap,Aj,Ak,Av,Aw,Aq,Ar,Ay,cg]));clear HD HX;go_wp2;go_ret;exact ⟨jZ L.out.symm,(tQ Z D)⟩)
     | (have L:=yD (HX.out (show _=false by simp only [jV,Al,Ai,Am,Ap,Aj,Ak,Av,Aw,Aq,Ar,Ay,cg]));clear HD HX;refine Qg ?_;exact ⟨k + 1,by omega,by go_num,L,D⟩)
 exact l8
def kVg {w:Bi} {cp:Ag Bb} {p:kF} (hp:kH.raw w cp p) {n:ko} {bn:Bb} {O:Nat} (nr:kR.raw w [bn] n) (J:Qc w O 0 bn) :
    Bd prog 147 (#[.agg cp.toArray]++#[.pointer (some ⟨O,0,none⟩)]) w (bQ w (.bool (jV n p))):=by
 have Hp:=yD hp
 obtain ⟨Y,ad,rfl,I,H,N,ai⟩:=kAq hp
 obtain ⟨ah,ab,rfl,ac,ae,ag,rfl,af⟩:=kD.sx H (kD.sl N)
 have az:=kJa nr
 obtain ⟨ce,V,rfl,aa⟩:=kD.sl az
 show Bd prog 147 #[_,_] w _
 go_enter func147,ntmps147
 go_upto_region 1 with fail
 refine ja ?_
 intro U Z F _
 obtain ⟨X,o,R⟩:=kBd F
 clear F
 replace J:=cL Z J
 have FX:=yD (λ(W:Bi) (hW:Qb U W)=>kDk hW X o R J)
 refine kL (λW=>Qb U W) [Tt,Tt,Tt,Ff,Tt] bR ?_
 intro wS E
 all_goals ((iterate 3 refine kS ?_);(first | refine zi (jw (kD.raw.below I (tQ Z E)) (kD.raw.below nr (tQ Z E))) (λwS1 E=>?_) | refine kS ?_);refine jT λb a1=>?_;cases b <;> try simp only [jS] at a1)
 all_goals (refine kM ?_;have D:=(tQ Z E))
 all_goals first
   | (have L:=yD (show (jV n p)=false by simp only [jV,Al,Ai,Am,Ap,Aj,Ak,Av,Aw,Aq,Ar,Ay,a1]);go_wp2;go_ret;exact ⟨kJ L.out.symm,D⟩)
   | (have L:=yD (show (jV n p)=true by simp only [jV,Al,Ai,Am,Ap,Aj,Ak,Av,Aw,Aq,Ar,Ay,a1]);go_wp2;go_ret;exact ⟨kJ L.out.symm,D⟩)
def kJd:jL prog 147:=yM func147 bE5 bE5
def kBn {w:Bi} {vl:Bb} {l:(Ag kF)} (hl:(kD.slice 107 kH).raw w [vl] l) {cn:Ag Bb} {n:ko} (hn:kR.raw w cn n) :
    Bd prog 65 #[vl,.agg cn.toArray] w (bQ w (.int .i64 (idxOf (jV n) l))):=by
 obtain ⟨al,pl,rfl,ll⟩:=kD.sl hl
 have Hn:=yD hn
 obtain ⟨X,rfl,J⟩:=kw hn
 obtain ⟨V,F,rfl,aa⟩:=kD.sl J
 go_enter func65,ntmps65
 go_upto_region 1 with fail
 generalize R:World.alloc w _=U
 obtain ⟨Z,I⟩:=xN
 clear R
 go_wp2_with fail
 refine (kHw (jV n) kJd (kD.raw.below hl Z) ?_).mono ?_
 · intro wr hb i h cs hr;exact kVg hr (kD.raw.below Hn.out (tQ Z hb)) (cL hb I)
 exact l9
def zT (f:Int) (l:Ag kV):Ag kV:=l.filter (λr=>!(r.1==f))
def kLc (a:kV) (l:Ag kV):Ag kV :=
  match (zT a.1 l).findIdx? (λr=>decide (a.1<=r.1)) with
  | none=>zT a.1 l++[a]
  | some i=>(zT a.1 l).take i++a :: (zT a.1 l).drop i
def kFh (a:kV) (s:Ag kV × Bool) (r:kV):Ag kV × Bool :=
  let s1:=if !s.2 && decide (a.1 < r.1) then (s.1++[a],true) else s
  if r.1=a.1 then s1 else (s1.1++[r],s1.2)
def kNo (a:kV) (l:Ag kV) (k:Nat):Ag kV × Bool:=(l.take k).foldl (kFh a) ([],false)
def putK_next {a:kV} {l:Ag kV} {k:Nat} (h:k < l.length):kNo a l (k + 1)=kFh a (kNo a l k) l[k]:=by
 unfold kNo;rw [List.take_succ_eq_append_getElem h,Bf];rfl
def putM (a:kV) (l:Ag kV):Ag kV × Bool :=
  match (zT a.1 l).findIdx? (λr=>decide (a.1<=r.1)) with
  | none=>(zT a.1 l,false)
  | some i=>((zT a.1 l).take i++a :: (zT a.1 l).drop i,true)
def putM_snoc (a:kV) (l:Ag kV) (r:kV):putM a (l++[r])=kFh a (putM a l) r:=by
 have hf:zT a.1 (l++[r])=if r.1=a.1 then zT a.1 l else zT a.1 l++[r]:=by
  unfold zT;rw [List.filter_append];by_cases h:r.1=a.1 <;> simp [h]
 unfold putM kFh;rw [hf];generalize zT a.1 l=O;by_cases h:r.1=a.1
 · rw [if_pos h,if_pos h];have hlt:¬ a.1 < r.1:=bF2;cases hq:O.findIdx? (λr=>decide (a.1<=r.1)) <;> simp [hlt]
 rw [if_neg h,if_neg h];rw [List.findIdx?_append];cases hq:O.findIdx? (λr=>decide (a.1<=r.1)) with
 | none =>
   by_cases hlt:a.1 < r.1
   · have aw:a.1<=r.1:=bF2;simp [hlt,aw,Be]
   · have aw:¬ a.1<=r.1:=bF2;simp [hlt,aw,Be]
 | some i =>
   obtain ⟨hi,_⟩:=Ab.1 hq;simp [List.take_append_of_le_length (Nat.le_of_lt hi),List.drop_append_of_le_length (Nat.le_of_lt hi)]
def jBh (a:kV) (l:Ag kV):l.foldl (kFh a) ([],false)=putM a l:=by
 have h:∀ n,∀ l:Ag kV,l.length=n->l.foldl (kFh a) ([],false)=putM a l:=by
  intro n;induction n with
  | zero=>intro l hl;rw [List.length_eq_zero_iff.1 hl];rfl
  | succ n ih =>
    intro l hl;obtain ⟨o,r,rfl⟩:∃ o r,l=o++[r]:=⟨l.dropLast,l.getLast (by intro q;rw [q] at hl;simp at hl),(List.dropLast_concat_getLast _).symm⟩;rw [Bf,ih o bC0,putM_snoc];rfl
 exact h _ l rfl
def putK_all {a:kV} {l:Ag kV} {k:Nat} (h:¬ k < l.length):(if (kNo a l k).2 then (kNo a l k).1 else (kNo a l k).1++[a])=kLc a l:=by
 unfold kNo;rw [List.take_of_length_le bF2,jBh];unfold putM kLc;cases (zT a.1 l).findIdx? (λr=>decide (a.1<=r.1)) <;> simp
def putK_len {a:kV} {l:Ag kV} (k:Nat):(kNo a l k).1.length<=l.length + 1:=by
 unfold kNo;rw [jBh];have h:(zT a.1 (l.take k)).length<=l.length:=Nat.le_trans (Ba _ _) tV;unfold putM;cases hq:(zT a.1 (l.take k)).findIdx? (λr=>decide (a.1<=r.1)) with
 | none=>simp;omega
 | some i=>simp;omega
def kOd (a:kV) (l:Ag kV):(kLc a l).length<=l.length + 1:=by
 have h:(zT a.1 l).length<=l.length:=Ba _ _;unfold kLc;cases hq:(zT a.1 l).findIdx? (λr=>decide (a.1<=r.1)) with
 | none=>simp;omega
 | some i=>simp;omega
def kTf (a:kV) (l:Ag kV):∃ i,i<=(zT a.1 l).length/\kLc a l=(zT a.1 l).take i++a :: (zT a.1 l).drop i/\((idxOf (λr=>decide (a.1<=r.1)) (zT a.1 l)=-1/\i=(zT a.1 l).length)\/idxOf (λr=>decide (a.1<=r.1)) (zT a.1 l)=(i:Int)):=by
 unfold kLc idxOf;cases hq:(zT a.1 l).findIdx? (λr=>decide (a.1<=r.1)) with
 | none=>exact ⟨_,Nat.le_refl _,by simp,.inl ⟨rfl,rfl⟩⟩
 | some i =>
   obtain ⟨hi,_⟩:=Ab.1 hq;exact ⟨i,Nat.le_of_lt hi,rfl,.inr rfl⟩
def jFl {w:Bi} {vl:Bb} {l:Ag kV} (hl:(kD.slice 105 kQ).rd w [vl] l) {f n x:Int} (hf:Qi f) (hn:Qi n) (hx:Qi x) :
    Bd prog 142 #[vl,.agg #[Qn f,Qn n,Qn x]] w (kBu 105 kQ (kLc (f,n,x) l) w):=by
 have HL:=yD hl
 obtain ⟨la,lp,rfl,ll⟩:=kD.sl hl.1
 have bc:l.length<=16777216:=hl.2.1
 have HA:Hid (∀ W,kQ.own W [Qn f,Qn n,Qn x] (f,n,x) (λ_=>False)):=yD (λW=>kD.flat.own (kD.jl (kD.ky hf) (kD.jl (kD.ky hn) (kD.ky hx))))
 clear hl hf hn hx
 go_enter func142,ntmps142
 go_upto_region 3 with fail
 generalize R:World.alloc (World.alloc w _) _=U
 have Z:Qb w U:=by rw [<- R];exact bI
 have az:Qd U w 0 (Qn f):=vS
 have b3:Qd U w 1 (Qn n):=vS
 have b7:Qd U w 2 (Qn x):=vS
 have bx:U.heap.size=w.heap.size + 2:=bD4
 have O0:Hid (kD.kY 105 kQ U (.slice (some ⟨w.heap.size + 1,0,none⟩) 0 0) [] (jg (w.heap.size + 1) U)):=yD kD.kY.void
 clear R
 go_wp2
 go_loopw [5,6,7] (λv d i wr=>∃ k:Nat,k<=l.length/\i=.int .i64 k/\d=.bool (kNo (f,n,x) l k).2/\Hid (kD.kY 105 kQ wr v (kNo (f,n,x) l k).1 (jg (w.heap.size + 1) wr))/\Below (w.heap.size + 1) U wr) (λ_ _ i _=>l.length - (intOf i).toNat)
 case atStart=>exact ⟨0,Nat.zero_le _,rfl,rfl,O0,bR⟩
 obtain ⟨k,hk,rfl,rfl,J,o⟩:=hrel
 obtain ⟨oa,on,oc,ho,ay⟩:=J.out.parts
 obtain rfl:=ho
 have aw:=putK_len (a:=(f,n,x)) (l:=l) k
 have ch:=o.size
 by_cases hlt:k < l.length
 · obtain ⟨ba,X,rfl,c0,c1,c2,hr,C0,C1,C2⟩:=kD.zL HL.out.1 hlt rfl;obtain ⟨rfl,rfl,rfl,bd,aq,a8⟩:=yf hr;have HX:=yD (λW=>kD.flat.own (w:=W) (S:=λ_=>False) (kD.jl (kD.ky bd) (kD.jl (kD.ky aq) (kD.ky a8))));have L:=yD (putK_next (a:=(f,n,x)) hlt);clear hr bd aq a8;generalize l[k]=y at *;obtain ⟨y0,y1,y2⟩:=y;simp only at C0 C1 C2;generalize kNo (f,n,x) l k=s at *;obtain ⟨s1,s2⟩:=s;replace J:Hid (kD.kY 105 kQ wr (.slice oa on oc) s1 (jg (w.heap.size + 1) wr)):=J;replace aw:s1.length<=l.length + 1:=aw;have be:(0:Int)<=k:=bF2;have a2:(k:Int) < l.length:=bF2;cases s2
   · by_cases hg:f < y0
     · have hne:¬ (y0=f):=bF2;have Y:Hid (kNo (f,n,x) l (k + 1)=(s1++[(f,n,x)]++[(y0,y1,y2)],true)):=yD rE;obtain ⟨A0,O,B0⟩:=EN;go_upto_region 6 with fail;refine kK (λW=>Qb wr W) [Tt,Tt,Tt,Tt,Tt,Tt,Tt,Tt,Tt,Tt,Tt,Tt] bE5 bE5 qW (bR.drew) ?_;intro wS1 aa;iterate 2
        all_goals first|(refine kI rfl aa ?_)|(refine jC (v:=?_) rfl (λW hW=>?_) ?_;rotate_left;(· go_simp;try with_reducible rfl))
        all_goals refine jH ?_
       all_goals first|(refine kI rfl aa ?_;have au:=Az)|(refine kGb (v:=?_) (b:=?_) rfl (λW hW=>?_) ?_ (λb au=>?_);rotate_left;rotate_left;(· go_simp;try with_reducible rfl);(· with_reducible rfl);cases b;all_goals first|(exact Ad au)|(simp only [zU,zV] at au) | skip)
       all_goals ((iterate 4 refine jH ?_;(first|(refine kI rfl aa ?_)|(refine jC (v:=?_) rfl (λW hW=>?_) ?_;rotate_left;(· go_simp;try with_reducible rfl))));(iterate 2 refine jH ?_;(first|(refine kI rfl aa ?_)|(refine jC (v:=?_) rfl (λW hW=>?_) ?_;rotate_left;(· have ac:=cL hW A0;have ad:=cL hW B0;clear hW;go_simp;try with_reducible rfl)));refine jH ?_;(first|(refine kI rfl aa ?_)|(refine jC (v:=?_) rfl (λW hW=>?_) ?_;rotate_left;(· go_simp;try with_reducible rfl))));refine jH ?_;(first|(refine kI rfl aa ?_)|(refine jC (v:=?_) rfl (λW hW=>?_) ?_;rotate_left;(· go_simp;try with_reducible rfl)));refine jH ?_;refine kM ?_)
       have b8:Hid _:=yD ((J.out.below aa).wide (T:=jg (w.heap.size + 1) wS1) (λj I=>⟨I.1,by have:=I.2;have:=aa.size;omega⟩));have af:=o.trans (aa.mono bA0);clear aa;have dc:=af.size;clear A0 B0 O;have A0:=(af.cell (p:=⟨w,0,none⟩) vC).trans az;have A1:=(af.cell (p:=⟨w,1,none⟩) vC).trans b3;have A2:=(af.cell (p:=⟨w,2,none⟩) vC).trans b7;go_wp2_with (at_builtin;refine kD.jR rfl _ _ 103 rfl (r:=kQ) (e:=105) Ae zK rfl bF1 bF1 (B:=w.heap.size + 1) b8.out bF4 bF4 rfl (HA.out _) rfl (λ_ _ h=>h) sI (λ_ h=>h.elim) bF2 bF2 ?_);intro v2 w2 H ag ax;have ab:=yD H;obtain ⟨cf,dl,bm,bw,c7⟩:=H.parts;obtain rfl:=bw;clear H;have N:=af.trans ag;clear ag A0 A1 A2;have dj:(s1++[(f,n,x)]).length<=l.length + 2:=bE6;have A0:=(N.cell (p:=⟨w,0,none⟩) vC).trans az;have O:=Z.trans (N.mono bF2);have B0:=cL O C0;go_upto_region 9 with fail;refine kK (λW=>Qb w2 W) [Tt,Tt,Tt,Tt,Tt,Tt,Tt,Tt] bE5 bE5 qW (bR.drew) ?_;intro a1 ae;all_goals ((iterate 4 (first|(refine kI rfl ae ?_)|(refine jC (v:=?_) rfl (λW hW=>?_) ?_;rotate_left;(· go_simp;try with_reducible rfl)));refine jH ?_);(iterate 2 (first|(refine kI rfl ae ?_)|(refine jC (v:=?_) rfl (λW hW=>?_) ?_;rotate_left;(· have ac:=cL hW A0;have ad:=cL hW B0;clear hW;go_simp;try with_reducible rfl)));refine jH ?_;(first|(refine kI rfl ae ?_)|(refine jC (v:=?_) rfl (λW hW=>?_) ?_;rotate_left;(· go_simp;try with_reducible rfl)));refine jH ?_);refine kM ?_)
       have cc:Hid _:=yD ((ab.out.below ae).wide (T:=jg (w.heap.size + 1) a1) (λj I=>⟨I.1,by have:=I.2;have:=ae.size;omega⟩));have a4:=N.trans (ae.mono (by have:=N.size;omega));clear ae;have db:=a4.size;clear A0 B0 O;have O:=Z.trans (a4.mono bF2);have B0:=cL O C0;have B1:=cL O C1;have B2:=cL O C2;go_wp2_with (at_builtin;refine kD.jR rfl _ _ 103 rfl (r:=kQ) (e:=105) Ae zK rfl bF1 bF1 (B:=w.heap.size + 1) cc.out bF4 bF4 rfl (HX.out _) rfl (λ_ _ h=>h) sI (λ_ h=>h.elim) bF2 bF2 ?_);intro v4 w4 ah F b5;have ao:=yD ah;obtain ⟨dp,dm,cm,cl,di⟩:=ah.parts;obtain rfl:=cl;clear ah;have bq:=a4.trans F;clear F B0 B1 B2 O;refine Qg ?_;exact ⟨k + 1,by omega,by go_num,by rw [Y.out],yD (by rw [Y.out];exact ao.out.cast bF3),bq⟩
     by_cases hne:y0=f
     · have Y:Hid (kNo (f,n,x) l (k + 1)=(s1,false)):=yD rE;obtain ⟨A0,O,B0⟩:=EN;go_upto_region 6 with fail;refine kK (λW=>Qb wr W) [Tt,Tt,Tt,Tt,Tt,Tt,Tt,Tt,Tt,Tt,Tt,Tt] bE5 bE5 qW (bR.drew) ?_;intro a7 V;iterate 2
        all_goals first|(refine kI rfl V ?_)|(refine jC (v:=?_) rfl (λW hW=>?_) ?_;rotate_left;(· go_simp;try with_reducible rfl))
        all_goals refine jH ?_
       all_goals first|(refine kI rfl V ?_;have au:=Az)|(refine kGb (v:=?_) (b:=?_) rfl (λW hW=>?_) ?_ (λb au=>?_);rotate_left;rotate_left;(· go_simp;try with_reducible rfl);(· with_reducible rfl);cases b;all_goals first|(exact Ad au)|(simp only [zU,zV] at au) | skip)
       all_goals ((iterate 4 refine jH ?_;(first|(refine kI rfl V ?_)|(refine jC (v:=?_) rfl (λW hW=>?_) ?_;rotate_left;(· go_simp;try with_reducible rfl))));(iterate 2 refine jH ?_;(first|(refine kI rfl V ?_)|(refine jC (v:=?_) rfl (λW hW=>?_) ?_;rotate_left;(· have ac:=cL hW A0;have ad:=cL hW B0;clear hW;go_simp;try with_reducible rfl)));refine jH ?_;(first|(refine kI rfl V ?_)|(refine jC (v:=?_) rfl (λW hW=>?_) ?_;rotate_left;(· go_simp;try with_reducible rfl))));refine jH ?_;(first|(refine kI rfl V ?_)|(refine jC (v:=?_) rfl (λW hW=>?_) ?_;rotate_left;(· go_simp;try with_reducible rfl)));refine jH ?_;refine kM ?_)
       have bg:Hid _:=yD ((J.out.below V).wide (T:=jg (w.heap.size + 1) a7) pO);have E:=o.trans (V.mono bA0);clear V;have cg:=E.size;clear A0 B0 O;have A0:=(E.cell (p:=⟨w,0,none⟩) vC).trans az;have O:=Z.trans (E.mono bF2);have B0:=cL O C0;go_upto_region 9 with fail;refine kK (λW=>Qb a7 W) [Tt,Tt,Tt,Tt,Tt,Tt,Tt,Tt] bE5 bE5 qW (bR.drew) ?_;intro cw a5;all_goals ((iterate 4 (first|(refine kI rfl a5 ?_)|(refine jC (v:=?_) rfl (λW hW=>?_) ?_;rotate_left;(· go_simp;try with_reducible rfl)));refine jH ?_);(iterate 2 (first|(refine kI rfl a5 ?_)|(refine jC (v:=?_) rfl (λW hW=>?_) ?_;rotate_left;(· have ac:=cL hW A0;have ad:=cL hW B0;clear hW;go_simp;try with_reducible rfl)));refine jH ?_;(first|(refine kI rfl a5 ?_)|(refine jC (v:=?_) rfl (λW hW=>?_) ?_;rotate_left;(· go_simp;try with_reducible rfl)));refine jH ?_);refine kM ?_)
       have ce:Hid _:=yD ((bg.out.below a5).wide (T:=jg (w.heap.size + 1) cw) (λj I=>⟨I.1,by have:=I.2;have:=a5.size;omega⟩));have bj:=E.trans (a5.mono (by have:=E.size;omega));clear a5 A0 B0 O;refine Qg ?_;exact ⟨k + 1,by omega,by go_num,by rw [Y.out],yD (by rw [Y.out];exact ce.out.cast bF3),bj⟩
     have Y:Hid (kNo (f,n,x) l (k + 1)=(s1++[(y0,y1,y2)],false)):=yD rE;obtain ⟨A0,O,B0⟩:=EN;go_upto_region 6 with fail;refine kK (λW=>Qb wr W) [Tt,Tt,Tt,Tt,Tt,Tt,Tt,Tt,Tt,Tt,Tt,Tt] bE5 bE5 qW (bR.drew) ?_;intro a7 V;iterate 2
      all_goals first|(refine kI rfl V ?_)|(refine jC (v:=?_) rfl (λW hW=>?_) ?_;rotate_left;(· go_simp;try with_reducible rfl))
      all_goals refine jH ?_
     all_goals first|(refine kI rfl V ?_;have au:=Az)|(refine kGb (v:=?_) (b:=?_) rfl (λW hW=>?_) ?_ (λb au=>?_);rotate_left;rotate_left;(· go_simp;try with_reducible rfl);(· with_reducible rfl);cases b;all_goals first|(exact Ad au)|(simp only [zU,zV] at au) | skip)
     all_goals ((iterate 4 refine jH ?_;(first|(refine kI rfl V ?_)|(refine jC (v:=?_) rfl (λW hW=>?_) ?_;rotate_left;(· go_simp;try with_reducible rfl))));(iterate 2 refine jH ?_;(first|(refine kI rfl V ?_)|(refine jC (v:=?_) rfl (λW hW=>?_) ?_;rotate_left;(· have ac:=cL hW A0;have ad:=cL hW B0;clear hW;go_simp;try with_reducible rfl)));refine jH ?_;(first|(refine kI rfl V ?_)|(refine jC (v:=?_) rfl (λW hW=>?_) ?_;rotate_left;(· go_simp;try with_reducible rfl))));refine jH ?_;(first|(refine kI rfl V ?_)|(refine jC (v:=?_) rfl (λW hW=>?_) ?_;rotate_left;(· go_simp;try with_reducible rfl)));refine jH ?_;refine kM ?_)
     have bg:Hid _:=yD ((J.out.below V).wide (T:=jg (w.heap.size + 1) a7) pO);have E:=o.trans (V.mono bA0);clear V;have cg:=E.size;clear A0 B0 O;have A0:=(E.cell (p:=⟨w,0,none⟩) vC).trans az;have O:=Z.trans (E.mono bF2);have B0:=cL O C0;go_upto_region 9 with fail;refine kK (λW=>Qb a7 W) [Tt,Tt,Tt,Tt,Tt,Tt,Tt,Tt] bE5 bE5 qW (bR.drew) ?_;intro c3 ai;all_goals ((iterate 4 (first|(refine kI rfl ai ?_)|(refine jC (v:=?_) rfl (λW hW=>?_) ?_;rotate_left;(· go_simp;try with_reducible rfl)));refine jH ?_);(iterate 2 (first|(refine kI rfl ai ?_)|(refine jC (v:=?_) rfl (λW hW=>?_) ?_;rotate_left;(· have ac:=cL hW A0;have ad:=cL hW B0;clear hW;go_simp;try with_reducible rfl)));refine jH ?_;(first|(refine kI rfl ai ?_)|(refine jC (v:=?_) rfl (λW hW=>?_) ?_;rotate_left;(· go_simp;try with_reducible rfl)));refine jH ?_);refine kM ?_)
     have bz:Hid _:=yD ((bg.out.below ai).wide (T:=jg (w.heap.size + 1) c3) (λj I=>⟨I.1,by have:=I.2;have:=ai.size;omega⟩));have a3:=E.trans (ai.mono (by have:=E.size;omega));clear ai;have c6:=a3.size;clear A0 B0 O;have O:=Z.trans (a3.mono bF2);have B0:=cL O C0;have B1:=cL O C1;have B2:=cL O C2;go_wp2_with (at_builtin;refine kD.jR rfl _ _ 103 rfl (r:=kQ) (e:=105) Ae zK rfl bF1 bF1 (B:=w.heap.size + 1) bz.out bF4 bF4 rfl (HX.out _) rfl (λ_ _ h=>h) sI (λ_ h=>h.elim) bF2 bF2 ?_);intro v8 w8 bn ak b9;have al:=yD bn;obtain ⟨cd,dn,da,ck,c8⟩:=bn.parts;obtain rfl:=ck;clear bn;have bo:=a3.trans ak;clear ak B0 B1 B2 O;refine Qg ?_;exact ⟨k + 1,by omega,by go_num,by rw [Y.out],yD (by rw [Y.out];exact al.out.cast bF3),bo⟩
   by_cases hne:y0=f
   · have Y:Hid (kNo (f,n,x) l (k + 1)=(s1,true)):=yD (by rw [L.out];unfold kFh;simp [hne]);go_upto_region 6 with fail;refine kK (λW=>Qb wr W) [Tt,Tt,Tt,Tt,Tt,Tt,Tt,Tt,Tt,Tt,Tt,Tt] bE5 bE5 qW (bR.drew) ?_;intro am bp;iterate 2
      all_goals first|(refine kI rfl bp ?_)|(refine jC (v:=?_) rfl (λW hW=>?_) ?_;rotate_left;(· go_simp;try with_reducible rfl))
      all_goals refine jH ?_
     all_goals first|(refine kI rfl bp ?_;have au:=Az)|(refine kGb (v:=?_) (b:=?_) rfl (λW hW=>?_) ?_ (λb au=>?_);rotate_left;rotate_left;(· go_simp;try with_reducible rfl);(· with_reducible rfl);cases b;all_goals first|(exact Ad au)|(simp only [zU,zV] at au) | skip)
     all_goals ((iterate 4 refine jH ?_;(first|(refine kI rfl bp ?_)|(refine jC (v:=?_) rfl (λW hW=>?_) ?_;rotate_left;(· go_simp;try with_reducible rfl))));(iterate 2 refine jH ?_;(first|(refine kI rfl bp ?_)|(refine jC (v:=?_) rfl (λW hW=>?_) ?_;rotate_left;(· have ac:=cL hW A0;have ad:=cL hW B0;clear hW;go_simp;try with_reducible rfl)));refine jH ?_;(first|(refine kI rfl bp ?_)|(refine jC (v:=?_) rfl (λW hW=>?_) ?_;rotate_left;(· go_simp;try with_reducible rfl))));refine jH ?_;(first|(refine kI rfl bp ?_)|(refine jC (v:=?_) rfl (λW hW=>?_) ?_;rotate_left;(· go_simp;try with_reducible rfl)));refine jH ?_;refine kM ?_)
     have a9:Hid _:=yD ((J.out.below bp).wide (T:=jg (w.heap.size + 1) am) nV);have D:=o.trans (bp.mono bA0);clear bp;have b1:=D.size;have A0:=(D.cell (p:=⟨w,0,none⟩) vC).trans az;have O:=Z.trans (D.mono bF2);have B0:=cL O C0;go_upto_region 9 with fail;refine kK (λW=>Qb am W) [Tt,Tt,Tt,Tt,Tt,Tt,Tt,Tt] bE5 bE5 qW (bR.drew) ?_;intro bv ar;all_goals ((iterate 4 (first|(refine kI rfl ar ?_)|(refine jC (v:=?_) rfl (λW hW=>?_) ?_;rotate_left;(· go_simp;try with_reducible rfl)));refine jH ?_);(iterate 2 (first|(refine kI rfl ar ?_)|(refine jC (v:=?_) rfl (λW hW=>?_) ?_;rotate_left;(· have ac:=cL hW A0;have ad:=cL hW B0;clear hW;go_simp;try with_reducible rfl)));refine jH ?_;(first|(refine kI rfl ar ?_)|(refine jC (v:=?_) rfl (λW hW=>?_) ?_;rotate_left;(· go_simp;try with_reducible rfl)));refine jH ?_);refine kM ?_)
     have bt:Hid _:=yD ((a9.out.below ar).wide (T:=jg (w.heap.size + 1) bv) (λj I=>⟨I.1,by have:=I.2;have:=ar.size;omega⟩));have bh:=D.trans (ar.mono (by have:=D.size;omega));clear ar A0 B0 O;refine Qg ?_;exact ⟨k + 1,by omega,by go_num,by rw [Y.out],yD (by rw [Y.out];exact bt.out.cast bF3),bh⟩
   have Y:Hid (kNo (f,n,x) l (k + 1)=(s1++[(y0,y1,y2)],true)):=yD (by rw [L.out];unfold kFh;simp [hne]);go_upto_region 6 with fail;refine kK (λW=>Qb wr W) [Tt,Tt,Tt,Tt,Tt,Tt,Tt,Tt,Tt,Tt,Tt,Tt] bE5 bE5 qW (bR.drew) ?_;intro am bp;iterate 2
    all_goals first|(refine kI rfl bp ?_)|(refine jC (v:=?_) rfl (λW hW=>?_) ?_;rotate_left;(· go_simp;try with_reducible rfl))
    all_goals refine jH ?_
   all_goals first|(refine kI rfl bp ?_;have au:=Az)|(refine kGb (v:=?_) (b:=?_) rfl (λW hW=>?_) ?_ (λb au=>?_);rotate_left;rotate_left;(· go_simp;try with_reducible rfl);(· with_reducible rfl);cases b;all_goals first|(exact Ad au)|(simp only [zU,zV] at au) | skip)
   all_goals ((iterate 4 refine jH ?_;(first|(refine kI rfl bp ?_)|(refine jC (v:=?_) rfl (λW hW=>?_) ?_;rotate_left;(· go_simp;try with_reducible rfl))));(iterate 2 refine jH ?_;(first|(refine kI rfl bp ?_)|(refine jC (v:=?_) rfl (λW hW=>?_) ?_;rotate_left;(· have ac:=cL hW A0;have ad:=cL hW B0;clear hW;go_simp;try with_reducible rfl)));refine jH ?_;(first|(refine kI rfl bp ?_)|(refine jC (v:=?_) rfl (λW hW=>?_) ?_;rotate_left;(· go_simp;try with_reducible rfl))));refine jH ?_;(first|(refine kI rfl bp ?_)|(refine jC (v:=?_) rfl (λW hW=>?_) ?_;rotate_left;(· go_simp;try with_reducible rfl)));refine jH ?_;refine kM ?_)
   have a9:Hid _:=yD ((J.out.below bp).wide (T:=jg (w.heap.size + 1) am) nV);have D:=o.trans (bp.mono bA0);clear bp;have b1:=D.size;have A0:=(D.cell (p:=⟨w,0,none⟩) vC).trans az;have O:=Z.trans (D.mono bF2);have B0:=cL O C0;go_upto_region 9 with fail;refine kK (λW=>Qb am W) [Tt,Tt,Tt,Tt,Tt,Tt,Tt,Tt] bE5 bE5 qW (bR.drew) ?_;intro b6 ap;all_goals ((iterate 4 (first|(refine kI rfl ap ?_)|(refine jC (v:=?_) rfl (λW hW=>?_) ?_;rotate_left;(· go_simp;try with_reducible rfl)));refine jH ?_);(iterate 2 (first|(refine kI rfl ap ?_)|(refine jC (v:=?_) rfl (λW hW=>?_) ?_;rotate_left;(· have ac:=cL hW A0;have ad:=cL hW B0;clear hW;go_simp;try with_reducible rfl)));refine jH ?_;(first|(refine kI rfl ap ?_)|(refine jC (v:=?_) rfl (λW hW=>?_) ?_;rotate_left;(· go_simp;try with_reducible rfl)));refine jH ?_);refine kM ?_)
   have br:Hid _:=yD ((a9.out.below ap).wide (T:=jg (w.heap.size + 1) b6) (λj I=>⟨I.1,by have:=I.2;have:=ap.size;omega⟩));have av:=D.trans (ap.mono (by have:=D.size;omega));clear ap;have co:=av.size;clear A0 B0 O;have O:=Z.trans (av.mono bF2);have B0:=cL O C0;have B1:=cL O C1;have B2:=cL O C2;go_wp2_with (at_builtin;refine kD.jR rfl _ _ 103 rfl (r:=kQ) (e:=105) Ae zK rfl bF1 bF1 (B:=w.heap.size + 1) br.out bF4 bF4 rfl (HX.out _) rfl (λ_ _ h=>h) sI (λ_ h=>h.elim) bF2 bF2 ?_);intro aj dk bf bl df;have b2:=yD bf;obtain ⟨de,c4,dd,b4,cz⟩:=bf.parts;obtain rfl:=b4;clear bf;have bi:=av.trans bl;clear bl B0 B1 B2 O;refine Qg ?_;exact ⟨k + 1,by omega,by go_num,by rw [Y.out],yD (by rw [Y.out];exact b2.out.cast bF3),bi⟩
 have HF:=yD (putK_all (a:=(f,n,x)) hlt)
 generalize kNo (f,n,x) l k=s at *
 obtain ⟨s1,s2⟩:=s
 replace J:Hid (kD.kY 105 kQ wr (.slice oa on oc) s1 (jg (w.heap.size + 1) wr)):=J
 replace aw:s1.length<=l.length + 1:=aw
 cases s2
 · have A0:=(o.cell (p:=⟨w,0,none⟩) vC).trans az;have A1:=(o.cell (p:=⟨w,1,none⟩) vC).trans b3;have A2:=(o.cell (p:=⟨w,2,none⟩) vC).trans b7;go_wp2_with (at_builtin;refine kD.jR rfl _ _ 103 rfl (r:=kQ) (e:=105) Ae zK rfl bF1 bF1 (B:=w.heap.size + 1) J.out bF4 bF4 rfl (HA.out _) rfl (λ_ _ h=>h) sI (λ_ h=>h.elim) bF2 bF2 ?_);intro an f3 bb a6 c9;have bu:=yD bb;obtain ⟨dg,dh,c5,b0,cv⟩:=bb.parts;obtain rfl:=b0;clear bb;have bk:=o.trans a6;clear a6;go_wp2;go_ret;exact ⟨_,rfl,(bu.out.cast (by have:=HF.out;simpa using this)).wide sJ,Z.trans (bk.mono bF2)⟩
 go_wp2
 go_ret
 exact ⟨_,rfl,(J.out.cast (by have:=HF.out;simpa using this)).wide sJ,Z.trans (o.mono bF2)⟩
end Go.Proofs.YthocbplmdjkifaaGreat

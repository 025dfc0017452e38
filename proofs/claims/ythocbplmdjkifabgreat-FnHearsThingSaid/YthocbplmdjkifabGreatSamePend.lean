/-
  Pending interests compared by the laws.
-/
import Derived.Test.YthocbplmdjkifabGreatDrawG
import Derived.Test.YthocbplmdjkifabGreatDrawA
set_option linter.unusedVariables false
set_option linter.defProp false
set_option linter.unusedSimpArgs false
set_option linter.unnecessarySimpa false
set_option maxRecDepth 100000
set_option maxHeartbeats 4000000
open Bool renaming true->Tt,false->Ff
open Bool renaming eq_iff_iff->Aa,and_eq_true->Ab,or_eq_false_iff->Ah,not_eq_false'->Aj,not_eq_true'->Ak
open List renaming pairwise_iff_getElem->Ac,mem_take_iff_getElem->Ad,getElem_mem->Ap,getElem_of_mem->Au
open Go renaming Value->Ae,World->Ai,Calls->Aq
open _root_ renaming List->Ag,decide_eq_true_eq->Al,decide_eq_false_iff_not->Am
open Int renaming ofNat_lt->Ar,natCast_nonneg->Av
open Go.Act renaming put->Aw
namespace Go.Proofs.YthocbplmdjkifabGreat
open Go.RowKit _root_.Go.Proofs.Tryz
variable {w:Ai} {cx cy:Ag Ae} {l:Ag kM} {k:Nat} {x:kr} {va N:Ae} {f:Int} {n:kU} {m y:kM}
def kSv (m:kM):kU × Int:=(m.1,m.2.1)
def jDc:yg n f m=true↔kSv m=(n,f):=by
 unfold yg kSv eqN;simp [Prod.ext_iff,and_comm]
def okM (m:kM):Prop:=zX m.1=true/\1<=m.2.1/\m.2.1<=6/\1<=m.2.2/\m.2.2<=50
def jCl:kGd l k m=true↔okM m/\∀ y∈l.take k,kSv y≠kSv m:=by
 have h:(decide (idxOf (yg m.1 m.2.1) (l.take k) ≥ 0)=false)↔∀ y∈l.take k,kSv y≠kSv m:=by
  rw [Am,show (¬ idxOf (yg m.1 m.2.1) (l.take k) ≥ 0)↔idxOf (yg m.1 m.2.1) (l.take k) < 0 by omega,kMu];constructor
  · intro h y hy q;have:=h y hy;rw [jDc.2 q] at this;cases this
  intro h y hy;cases e:yg m.1 m.2.1 y with
  | false=>rfl
  | true=>exact absurd (jDc.1 e) (h y hy)
 unfold kGd okM inR;simp only [Ak,Ah,Aj,h,Ab,Al];constructor;rintro ⟨a,⟨b,c⟩,⟨d,e⟩,f⟩;exact ⟨⟨a,b,c,d,e⟩,f⟩;rintro ⟨⟨a,b,c,d,e⟩,f⟩;exact ⟨a,⟨b,c⟩,⟨d,e⟩,f⟩
def kSg:kHn l=true↔l.length<=24/\(∀ m∈l,okM m)/\(l.map kSv).Nodup:=by
 unfold kHn;rw [Ab,kVj,Al];have e:(∀ j,j < l.length->kGd l j (l.getD j ([],0,0))=true)↔(∀ m∈l,okM m)/\(l.map kSv).Nodup:=by
  constructor
  · intro h;have G:∀ j (J:j < l.length),okM l[j]/\∀ y∈l.take j,kSv y≠kSv l[j]:=λj J=>jCl.1 (by have:=h j J;rwa [jY J] at this);refine ⟨λm hm=>?_,?_⟩
    · obtain ⟨j,J,rfl⟩:=Au hm;exact (G j J).1
    rw [List.Nodup,Ac];intro i j hi J E;simp only [List.length_map] at hi J;simp only [List.getElem_map];exact (G j J).2 _ (Ad.2 ⟨i,by omega,rfl⟩)
  rintro ⟨h1,h2⟩ j J;rw [jY J];refine jCl.2 ⟨h1 _ (Ap J),λy hy=>?_⟩;obtain ⟨i,hi,rfl⟩:=Ad.1 hy;rw [List.Nodup,Ac] at h2;have:=h2 i j bJ0 bH9 bJ5;simpa using this
 rw [e];constructor;rintro ⟨a,b⟩;exact ⟨b,a⟩;rintro ⟨a,b⟩;exact ⟨b,a⟩
def map_set_key (hk:k < l.length) (h:kSv y=kSv l[k]):(l.set k y).map kSv=l.map kSv:=by
 rw [List.map_set,h];apply List.ext_getElem bJ6;intro i h1 h2;by_cases e:k=i;subst e;simp;simp [List.getElem_set_ne e]
def mem_set_ok (h:∀ m∈l,okM m) (hy:okM y):∀ m∈l.set k y,okM m:=by
 intro m hm;rcases List.mem_or_eq_of_mem_set hm with q | q;exact h m q;rw [q];exact hy
def recS_valid (h:kHn l=true):kHn (kLn n f l)=true:=by
 obtain ⟨h1,h2,h3⟩:=kSg.1 h;by_cases hi:idxOf (yg n f) l < 0;rw [kWi hi];exact h;obtain ⟨k,hk,al⟩:=kFe hi;have hm:=h2 _ (Ap hk);by_cases h5:l[k].2.2 < 2
 · rw [jBz al hk h5];have hs:(l.take k++l.drop (k + 1)).Sublist l:=by
    conv=>rhs;rw [<- List.take_append_drop k l]
    exact (List.Sublist.refl _).append (by rw [List.drop_eq_getElem_cons hk];exact List.sublist_cons_self _ _)
   exact kSg.2 ⟨Nat.le_trans hs.length_le h1,λm q=>h2 m (hs.subset q),(hs.map kSv).nodup h3⟩
 rw [kWj al hk h5];exact kSg.2 ⟨by simpa using h1,mem_set_ok h2 ⟨hm.1,hm.2.1,hm.2.2.1,by show 1<=l[k].2.2 / 2;have:=hm.2.2.2.1;omega,by show l[k].2.2 / 2<=50;have:=hm.2.2.2.2;omega⟩,by rw [map_set_key (y:=ym l[k] (l[k].2.2 / 2)) hk rfl];exact h3⟩
def jGn {α κ:Type} {P:α->Prop} {key:α->κ} {ok:Ag α->Nat->α->Bool} {d:α}
    (bu:∀ l k x,ok l k x=true↔P x/\∀ y∈l.take k,key y≠key x) {l:Ag α} :
    zf (λj=>ok l j (l.getD j d)) l.length=true↔(∀ p∈l,P p)/\l.Pairwise (λa b=>key a≠key b):=by
 rw [kVj];constructor
 · intro h;have hk:∀ k (hk:k < l.length),P l[k]/\∀ y∈l.take k,key y≠key l[k]:=by
    intro k hk;have q:=h k hk;rw [jY hk] at q;exact (bu _ _ _).1 q
   refine ⟨λp hp=>?_,Ac.2 (λi j hi J E=>?_)⟩
   · obtain ⟨k,Z,rfl⟩:=Au hp;exact (hk k Z).1
   exact (hk j J).2 _ (Ad.2 ⟨i,by omega,rfl⟩)
 rintro ⟨h1,h2⟩ k hk;rw [jY hk];refine (bu _ _ _).2 ⟨h1 _ (Ap hk),λy hy=>?_⟩;exact VA
def idx_take {α:Type} {p:α->Bool} {l:Ag α}:(decide (idxOf p l ≥ 0)=false)↔∀ y∈l,p y=false:=by
 rw [Am,show (¬ idxOf p l ≥ 0)↔idxOf p l < 0 by omega,kMu]
def okCe_iff {l:Ag kW} {x:kW}:kSt l k x=true↔kBr x.1=true/\∀ y∈l.take k,y.1.1≠x.1.1:=by
 unfold kSt;rw [Ak,Ah,idx_take,Aj];simp [isC,eqN]
def okLoc_iff {l:Ag jK} {x:jK}:kKs l k x=true↔kBr x=true/\∀ y∈l.take k,y.1≠x.1:=by
 unfold kKs;rw [Ak,Ah,idx_take,Aj];simp [isD,eqN]
def jAn:kCv x=true↔((∀ e∈x.2,kBr e.1=true)/\x.2.Pairwise (λa b=>a.1.1≠b.1.1))/\inR x.1 0 8=true/\(x.2.length:Int)<=x.1:=by
 unfold kCv;rw [Ab,jGn (P:=λe:kW=>kBr e.1=true) (key:=λe:kW=>e.1.1) (λl k x=>okCe_iff),Ab,decide_eq_true_iff]
def kJw {x:ja}:kBs x=true↔((∀ d∈x.1,kBr d=true)/\x.1.Pairwise (λa b=>a.1≠b.1))/\x.1.length<=8/\kCv x.2.1=true/\kEq x.2.2.1=true/\kCt x.2.2.2.2.1=true/\kHn x.2.2.2.2.2.1=true/\x.2.2.2.1.length<=24/\0<=x.2.2.2.2.2.2:=by
 unfold kBs kYe;rw [Ab,jGn (P:=λd:jK=>kBr d=true) (key:=λd:jK=>d.1) (λl k x=>okLoc_iff)];simp only [Ab,Al];constructor;rintro ⟨a,⟨⟨⟨⟨⟨b,c⟩,d⟩,e⟩,f⟩,g⟩,h⟩;exact ⟨a,by omega,c,d,e,f,by omega,h⟩;rintro ⟨a,b,c,d,e,f,g,h⟩;exact ⟨a,⟨⟨⟨⟨⟨by omega,c⟩,d⟩,e⟩,f⟩,by omega⟩,h⟩
def kFm.kPn {x:ja} (h:kFm x):kPn 1048576 x:=by
 obtain ⟨a,b,c,d,e,f,_⟩:=h;exact lenN_mk bJ5 bJ5 (by have:=c.1;omega) (λy hy=>by have:=(c.2 y hy).1;omega) (by have:=d.1;omega) bJ5 bJ5
def vDatS (x y:jK):Bool:=!(!decide (x.1=y.1) || (!decide (x.2.1=y.2.1) || (!decide (x.2.2.1=y.2.2.1) || (!decide (x.2.2.2.1=y.2.2.2.1) || !decide (x.2.2.2.2=y.2.2.2.2)))))
def vDatS_eq (x y:jK):vDatS x y=decide (x=y):=by
 obtain ⟨x0,x1,x2,x3,x4⟩:=x;obtain ⟨y0,y1,y2,y3,y4⟩:=y;rw [Aa];simp [vDatS]
def jHm (x y:jI):Bool:=!((x.2 != y.2) || !eqN x.1 y.1)
def vSeenS_eq (x y:jI):jHm x y=decide (x=y):=by
 obtain ⟨x0,x1⟩:=x;obtain ⟨y0,y1⟩:=y;rw [Aa];simp [jHm,eqN];constructor;rintro ⟨h1,h2⟩;exact ⟨h2,h1⟩;rintro ⟨h1,h2⟩;exact ⟨h2,h1⟩
def jAp (x y:jI):Bool:=eqN x.1 y.1 && (x.2==y.2)
def vSeen_eq (x y:jI):jAp x y=decide (x=y):=by
 obtain ⟨x0,x1⟩:=x;obtain ⟨y0,y1⟩:=y;rw [Aa];simp [jAp,eqN]
def vCeS (x y:kW):Bool:=!((x.2 != y.2) || !decide (x.1=y.1))
def vCeS_eq (x y:kW):vCeS x y=decide (x=y):=by
 obtain ⟨x0,x1⟩:=x;obtain ⟨y0,y1⟩:=y;rw [Aa];simp [vCeS];constructor;rintro ⟨h1,h2⟩;exact ⟨h2,h1⟩;rintro ⟨h1,h2⟩;exact ⟨h2,h1⟩
def vCe (x y:kW):Bool:=decide (x.1=y.1) && (x.2==y.2)
def vCe_eq (x y:kW):vCe x y=decide (x=y):=by
 obtain ⟨x0,x1⟩:=x;obtain ⟨y0,y1⟩:=y;rw [Aa];simp [vCe]
def vSt (x y:kr):Bool:=(x.1==y.1) && decide (x.2=y.2)
def vSt_eq (x y:kr):vSt x y=decide (x=y):=by
 obtain ⟨x0,x1⟩:=x;obtain ⟨y0,y1⟩:=y;rw [Aa];simp [vSt]
def kTe:jL prog 141:=yK func141 bI9 bI9
def kUy {x:jI} (hx:jG.raw w cx x) {y:jI} (hy:jG.raw w cy y) :
    Aq prog 145 #[.agg cx.toArray,.agg cy.toArray] w (bQ w (.bool (jAp x y))):=by
 have Hx:=yD hx;obtain ⟨ay,rfl,Y,O,ag⟩:=kKf hx;obtain ⟨az,ar,rfl,aq⟩:=kD.sl O;have Hy:=yD hy;obtain ⟨a3,rfl,ae,ai,al⟩:=kKf hy;obtain ⟨aw,av,rfl,a6⟩:=kD.sl ai;go_enter func145,ntmps145;go_upto_region 1 with fail;refine kBz ?_;intro X EB N Z _;obtain ⟨ah,J⟩:=yA N;obtain ⟨F,V⟩:=yA Z;clear N Z;have FX:=yD (λ(W:Ai) (hW:Qb X W)=>kIm hW ah J F V);refine kX (λW=>Qb X W) [Tt,Tt,Tt,Tt,Ff,Tt,Tt,Tt,Tt,Tt,Tt,Tt,Tt] bR ?_;refine q8 λwS I=>?_;all_goals ((first | refine wkB (yI (kD.raw.below Y (tQ EB I)) (kD.raw.below ae (tQ EB I))) (λwS1 I=>?_) | refine kZ ?_);refine jo λb D=>?_;cases b <;> try simp only [jm] at D)
 all_goals ((iterate 6 refine kZ ?_);refine jo λb ab=>?_;cases b <;> try simp only [jm] at ab)
 all_goals (refine kR ?_;have G:=(tQ EB I))
 all_goals (obtain ⟨vq,qv⟩:∃ qc,(jAp x y)=qc:=⟨_,rfl⟩;have L:=yD qv;simp only [jAp,Q0,D,ab] at qv;subst qv;go_wp2;go_ret;exact ⟨kJ L.symm,G⟩)
def kKd:jL prog 145:=yK func145 bI9 bI9
def kKi {x:kW} (hx:kz.raw w cx x) {y:kW} (hy:kz.raw w cy y) :
    Aq prog 203 #[.agg cx.toArray,.agg cy.toArray] w (bQ w (.bool (vCe x y))):=by
 have Hx:=yD hx;obtain ⟨ay,bl,bd,rfl,Y,O,ag,am,an,ax,a2,bb,bw⟩:=kAs hx;obtain ⟨az,ar,rfl,aq,bi,bh,rfl,bk,bg,be,rfl,bf⟩:=kD.sx ag (kD.sx am (kD.sl ax));have Hy:=yD hy;obtain ⟨a3,bn,bo,rfl,ae,ai,al,ao,ap,au,a1,a7,bc⟩:=kAs hy;obtain ⟨aw,av,rfl,a6,bq,br,rfl,bp,a9,ba,rfl,bm⟩:=kD.sx al (kD.sx ao (kD.sl au));go_enter func203,ntmps203;go_upto_region 1 with fail;refine kBz ?_;intro X EB N Z _;obtain ⟨ah,J,U,aa,ac,a4⟩:=kYd N;obtain ⟨F,V,aj,a5,a8,bj⟩:=kYd Z;clear N Z;have FX:=yD (λ(W:Ai) (hW:Qb X W)=>cLs12 hW ah J U aa ac a4 F V aj a5 a8 bj);refine kX (λW=>Qb X W) [Tt,Tt,Tt,Tt,Ff,Tt,Tt,Tt,Tt,Tt,Tt,Tt,Tt] bR ?_;refine q8 λwS I=>?_;all_goals ((first | refine wkB (kOn (kD.raw.below Y (tQ EB I)) (kD.raw.below ae (tQ EB I))) (λwS1 I=>?_) | refine kZ ?_);refine jo λb D=>?_;cases b <;> try simp only [jm] at D)
 all_goals ((iterate 6 refine kZ ?_);refine jo λb ab=>?_;cases b <;> try simp only [jm] at ab)
 all_goals (refine kR ?_;have G:=(tQ EB I))
 all_goals (obtain ⟨vq,qv⟩:∃ qc,(vCe x y)=qc:=⟨_,rfl⟩;have L:=yD qv;simp only [vCe,Q0,D,ab] at qv;subst qv;go_wp2;go_ret;exact ⟨kJ L.symm,G⟩)
def kGi:jL prog 203:=yK func203 bI9 bI9
def kLt (hx:kS.raw w cx x) {y:kr} (hy:kS.raw w cy y) :
    Aq prog 142 #[.agg cx.toArray,.agg cy.toArray] w (bQ w (.bool (vSt x y))):=by
 have Hx:=yD hx;obtain ⟨bl,rfl,Y,O⟩:=jM hx;obtain ⟨bi,bh,rfl,bk⟩:=kD.sl O;have Hy:=yD hy;obtain ⟨bn,rfl,ae,ai⟩:=jM hy;obtain ⟨bq,br,rfl,bp⟩:=kD.sl ai;go_enter func142,ntmps142;go_upto_region 1 with fail;refine kBz ?_;intro X EB N Z _;obtain ⟨ah,J⟩:=yA N;obtain ⟨F,V⟩:=yA Z;clear N Z;have FX:=yD (λ(W:Ai) (hW:Qb X W)=>kIm hW ah J F V);refine kX (λW=>Qb X W) [Tt,Tt,Tt,Tt,Tt,Tt,Tt,Tt,Tt,Tt,Ff,Tt,Tt] bR ?_;refine PM λwS I=>?_;all_goals (refine jo λb D=>?_;cases b <;> try simp only [jm] at D)
 all_goals ((iterate 4 refine kZ ?_);(first|(refine kI rfl I ?_)|(refine ku rfl (λK E=>?_);go_simp;refine (kNx kGi (kD.raw.below O (tQ EB I)) (kD.raw.below ai (tQ EB I)) (λwr hb cs ds x y hx hy=>by have h:=kKi hx hy;rw [vCe_eq] at h;exact h)).mono ?_;rintro e wS1 ⟨rfl,af⟩;replace I:=(tQ I af);refine E _ _ I ?_;clear E K af));refine jD ?_;refine kZ ?_;refine jo λb ab=>?_;cases b <;> try simp only [jm] at ab)
 all_goals (refine kR ?_;have G:=(tQ EB I))
 all_goals (obtain ⟨vq,qv⟩:∃ qc,(vSt x y)=qc:=⟨_,rfl⟩;have L:=yD qv;simp only [vSt,Q0,D,ab] at qv;subst qv;go_wp2;go_ret;exact ⟨kJ L.symm,G⟩)
def kLu (hx:kS.raw w cx x) {y:kr} (hy:kS.raw w cy y) :
    Aq prog 142 #[.agg cx.toArray,.agg cy.toArray] w (bQ w (.bool (decide (x=y)))):=by
 have h:=kLt hx hy;rw [vSt_eq] at h;exact h
def vReq (x y:kY):Bool:=(x.1==y.1) && ((x.2.1==y.2.1) && (x.2.2==y.2.2))
def jHn (x y:kY):vReq x y=decide (x=y):=by
 obtain ⟨x0,x1,x2⟩:=x;obtain ⟨y0,y1,y2⟩:=y;rw [Aa];simp [vReq]
def kVn {a b:(Ag kY)} (ac:Ci.raw w [va] a) (a3:Ci.raw w [N] b) :
    Aq prog 206 #[va,N] w (bQ w (.bool (decide (a=b)))):=by
 obtain ⟨aa,H,rfl,la,ab,R,rfl,lb⟩:=kD.sx ac (kD.sl a3);go_enter func206,ntmps206;by_cases hl:a.length=b.length;case neg =>
  exact fF
 refine lJ λhz HL=>?_;clear hl;go_wp2;go_loopw [13] (λi wr=>∃ k:Nat,k<=a.length/\i=.int .i64 k/\Hid (a.take k=b.take k)/\Qb w wr) (λi _=>a.length - (intOf i).toNat);case atStart=>exact ⟨0,Nat.zero_le _,rfl,yD rfl,bR⟩
 obtain ⟨k,hk,rfl,HN,D⟩:=hrel;by_cases hlt:k < a.length
 · have af:k < b.length:=bD1;obtain ⟨pb,po,rfl,bl,ce,ch,pr,ak,a9,ba⟩:=kD.zx (ac.below D) (i:=k) bJ5 rfl;obtain ⟨qb,qo,rfl,ah,aj,ao,qr,a2,a4,a5⟩:=kD.zx (a3.below D) (i:=k) bJ5 rfl;refine lG λhne E=>?_;generalize a[k]=x at *;generalize b[k]=y at *;refine oC λHD HX=>?_;have F:=yD (jHn x y);clear hne E;obtain ⟨x0,x1,x2⟩:=x;obtain ⟨y0,y1,y2⟩:=y;obtain ⟨rfl,rfl,rfl,ay,ap,a8⟩:=yJ pr;obtain ⟨rfl,rfl,rfl,au,az,aw⟩:=yJ qr;have X:(x0=y0/\x1=y1/\x2=y2)\/(x0≠y0)\/(x0=y0/\x1≠y1)\/(x0=y0/\x1=y1/\x2≠y2):=bJ5;rcases X with ⟨rfl,rfl,rfl⟩ | e|⟨rfl,e⟩|⟨rfl,rfl,e⟩;all_goals go_wp2_with fail
   all_goals refine kN (λW=>Qb wr W) [Tt,Tt,Tt,Tt,Tt,Tt,Tt,Tt,Tt] bI9 bI9 sD (bR.drew) ?_
   all_goals intro wS I
   iterate 3
    all_goals first|(refine kI rfl I ?_)|(refine jF (v:=?_) rfl (λW hW=>?_) ?_;rotate_left;(· go_simp;try with_reducible rfl))
    all_goals try simp only [Aw,zA,zB,zC]
   all_goals first|(refine kI rfl I ?_)|(refine jF (v:=?_) rfl (λW hW=>?_) ?_;rotate_left;(· have U:=cL hW ak;have J:=cL hW a9;have Y:=cL hW ba;have V:=cL hW a2;have Z:=cL hW a4;have O:=cL hW a5;clear hW;go_simp;try with_reducible rfl))
   iterate 3
    all_goals try simp only [Aw,zA,zB,zC]
    all_goals first|(refine kI rfl I ?_)|(refine jF (v:=?_) rfl (λW hW=>?_) ?_;rotate_left;(· go_simp;try with_reducible rfl))
   all_goals try simp only [Aw,zA,zB,zC]
   all_goals first|(refine kI rfl I ?_)|(refine jF (v:=?_) rfl (λW hW=>?_) ?_;rotate_left;(· have U:=cL hW ak;have J:=cL hW a9;have Y:=cL hW ba;have V:=cL hW a2;have Z:=cL hW a4;have O:=cL hW a5;clear hW;go_simp;try with_reducible rfl))
   all_goals try simp only [Aw,zA,zB,zC]
   all_goals first|(refine kI rfl I ?_;have an:=True.intro)|(refine kHp (v:=?_) (b:=?_) rfl (λW hW=>?_) ?_ (λb an=>?_);rotate_left;rotate_left;(· go_simp;try with_reducible rfl);(· with_reducible rfl);cases b;all_goals first|(exact Bool.noConfusion an)|(simp only [zU,zV] at an) | skip)
   all_goals try simp only [Aw,zA,zB,zC]
   all_goals (refine kR ?_;have G:=(tQ D I))
   all_goals first|(have HV:=F.symm.trans (show _=false by first|(simp [vReq,e];done)|(simp [vReq];done));have L:=yD (HD.out HV);clear HV F HD HX;go_wp2;go_ret;exact ⟨kJ L.symm,G⟩)|(have HV:=F.symm.trans (show _=true by first|(simp [vReq,e];done)|(simp [vReq];done));have L:=yD (HX.out HV);clear HV F HD HX;refine Qg ?_;exact ⟨k + 1,by omega,by go_num,L,G⟩)
 exact NZ
def kLj (x y:kF):Bool:=!((x.2.2 != y.2.2) || (!eqN x.1 y.1 || ((x.2.1.length:Int) != y.2.1.length)))
def vPendS_no {x y:kF} (h:kLj x y=false):x≠y:=by
 rintro rfl;simp [kLj,eqN] at h
def jAt {x y:kF} (h:kLj x y=true):x.2.1.length=y.2.1.length/\(x.2.1=y.2.1->x=y):=by
 obtain ⟨x0,x1,x2⟩:=x;obtain ⟨y0,y1,y2⟩:=y;simp [kLj,eqN] at h;obtain ⟨h0,h1,h2⟩:=h;subst h0 h1;exact ⟨by show x1.length=y1.length;omega,λq=>by simp at q;rw [q]⟩
def jAu (x y:kF):Bool:=(eqN x.1 y.1 && decide (x.2.1=y.2.1)) && (x.2.2==y.2.2)
def vPend_eq (x y:kF):jAu x y=decide (x=y):=by
 obtain ⟨x0,x1,x2⟩:=x;obtain ⟨y0,y1,y2⟩:=y;rw [Aa];simp [jAu,eqN,and_assoc]
def kRb {x:kF} (hx:kH.raw w cx x) {y:kF} (hy:kH.raw w cy y) :
    Aq prog 205 #[.agg cx.toArray,.agg cy.toArray] w (bQ w (.bool (jAu x y))):=by
 have Hx:=yD hx;obtain ⟨ay,bl,rfl,Y,O,ag,am⟩:=kAi hx;obtain ⟨az,ar,rfl,aq,bi,bh,rfl,bk⟩:=kD.sx O (kD.sl ag);have Hy:=yD hy;obtain ⟨a3,bn,rfl,ae,ai,al,ao⟩:=kAi hy;obtain ⟨aw,av,rfl,a6,bq,br,rfl,bp⟩:=kD.sx ai (kD.sl al);go_enter func205,ntmps205;go_upto_region 1 with fail;refine xL λX EB ah J U F V aj FX=>?_;refine kX (λW=>Qb X W) [Tt,Tt,Tt,Tt,Ff,Tt,Tt,Tt,Tt,Tt,Ff,Tt,Tt,Tt,Tt,Tt,Tt,Tt,Tt,Tt] bR ?_;refine q8 λwS I=>?_;all_goals ((first | refine wkB (yI (kD.raw.below Y (tQ EB I)) (kD.raw.below ae (tQ EB I))) (λwS1 I=>?_) | refine kZ ?_);refine jo λb D=>?_;cases b <;> try simp only [jm] at D)
 all_goals ((iterate 4 refine kZ ?_);(first | refine wkB (kVn (kD.raw.below ag (tQ EB I)) (kD.raw.below al (tQ EB I))) (λwS1 I=>?_) | refine kZ ?_);refine kZ ?_;refine jo λb ab=>?_;cases b <;> try simp only [jm] at ab)
 all_goals ((iterate 6 refine kZ ?_);refine jo λb ak=>?_;cases b <;> try simp only [jm] at ak)
 all_goals (refine kR ?_;have G:=(tQ EB I))
 all_goals (obtain ⟨vq,qv⟩:∃ qc,(jAu x y)=qc:=⟨_,rfl⟩;have L:=yD qv;simp only [jAu,Q0,D,ab,ak] at qv;subst qv;go_wp2;go_ret;exact ⟨kJ L.symm,G⟩)
def kIs:jL prog 205:=yK func205 bI9 bI9
def kSz {a b:Ag kF} (ac:Ce.raw w [va] a) (a3:Ce.raw w [N] b) :
    Aq prog 143 #[va,N] w (bQ w (.bool (decide (a=b)))):=by
 go_enter func143,ntmps143;go_wp2_with fail;refine (kJh kIs ac a3 ?_).mono ?_
 · intro wr hb cs ds x y hx hy;have:=kRb hx hy;rw [vPend_eq] at this;exact this
 exact QS
def kNz (x y:ja):Bool:=(((((decide (x.1=y.1) && decide (x.2.1=y.2.1)) && decide (x.2.2.1=y.2.2.1)) && decide (x.2.2.2.1=y.2.2.2.1)) && decide (x.2.2.2.2.1=y.2.2.2.2.1)) && decide (x.2.2.2.2.2.1=y.2.2.2.2.2.1)) && (x.2.2.2.2.2.2==y.2.2.2.2.2.2)
def vNode_eq (x y:ja):kNz x y=decide (x=y):=by
 obtain ⟨x0,x1,x2,x3,x4,x5,x6⟩:=x;obtain ⟨y0,y1,y2,y3,y4,D,y6⟩:=y;rw [Aa];simp [kNz,and_assoc]
def kXa {x:ja} (hx:jc.raw w cx x) {y:ja} (hy:jc.raw w cy y) :
    Aq prog 73 #[.agg cx.toArray,.agg cy.toArray] w (bQ w (.bool (kNz x y))):=by
 have Hx:=yD hx;obtain ⟨ay,bd,cz,c2,ck,cd,rfl,Y,O,ag,am,an,ax,a2,bb,bw⟩:=yF hx;obtain ⟨az,ar,rfl,aq,bg,be,rfl,bf,cv,b0,rfl,cg,ch,cf,rfl,cw,cq,co,rfl,c1,cc,ce,rfl,cl⟩:=kD.sx Y (kD.sx am (kD.sx an (kD.sx ax (kD.sx a2 (kD.sl bb)))));have Hy:=yD hy;obtain ⟨a3,bo,b7,b2,b5,b9,rfl,ae,ai,al,ao,ap,au,a1,a7,bc⟩:=yF hy;obtain ⟨aw,av,rfl,a6,a9,ba,rfl,bm,bt,bi,rfl,b1,bk,bq,rfl,b4,br,bu,rfl,b8,bl,bp,rfl,b6⟩:=kD.sx ae (kD.sx ao (kD.sx ap (kD.sx au (kD.sx a1 (kD.sl a7)))));go_enter func73,ntmps73;go_upto_region 1 with fail;refine uX λX EB ah J U aa ac a4 bv bn F V aj a5 a8 bj bz bx FX=>?_;refine q8 λwS I=>?_;all_goals ((first|(refine kI rfl I ?_)|(refine ku rfl (λK E=>?_);go_simp;refine (kXl kTe (kD.raw.below Y (tQ EB I)) (kD.raw.below ae (tQ EB I)) (λwr hb cs ds x y hx hy=>by have h:=kOn hx hy;exact h)).mono ?_;rintro e wS1 ⟨rfl,af⟩;replace I:=(tQ I af);refine E _ _ I ?_;clear E K af));refine jD ?_;refine jo λb D=>?_;cases b <;> try simp only [jm] at D)
 all_goals ((iterate 4 refine kZ ?_);(first | refine wkB (kLu (kD.raw.below O (tQ EB I)) (kD.raw.below ai (tQ EB I))) (λwS1 I=>?_) | refine kZ ?_);refine kZ ?_;refine jo λb ab=>?_;cases b <;> try simp only [jm] at ab)
 all_goals ((iterate 4 refine kZ ?_);(first | refine wkB (kSz (kD.raw.below an (tQ EB I)) (kD.raw.below ap (tQ EB I))) (λwS1 I=>?_) | refine kZ ?_);refine kZ ?_;refine jo λb ak=>?_;cases b <;> try simp only [jm] at ak)
 all_goals ((iterate 4 refine kZ ?_);(first|(refine kI rfl I ?_)|(refine ku rfl (λK E=>?_);go_simp;refine (kPd kKd (kD.raw.below ax (tQ EB I)) (kD.raw.below au (tQ EB I)) (λwr hb cs ds x y hx hy=>by have h:=kUy hx hy;rw [vSeen_eq] at h;exact h)).mono ?_;rintro e wS1 ⟨rfl,af⟩;replace I:=(tQ I af);refine E _ _ I ?_;clear E K af));refine jD ?_;refine kZ ?_;refine jo λb H=>?_;cases b <;> try simp only [jm] at H)
 all_goals ((iterate 4 refine kZ ?_);(first | refine wkB (kUx (kD.raw.below a2 (tQ EB I)) (kD.raw.below a1 (tQ EB I))) (λwS1 I=>?_) | refine kZ ?_);refine kZ ?_;refine jo λb R=>?_;cases b <;> try simp only [jm] at R)
 all_goals ((iterate 4 refine kZ ?_);(first | refine wkB (kMt (kD.raw.below bb (tQ EB I)) (kD.raw.below a7 (tQ EB I))) (λwS1 I=>?_) | refine kZ ?_);refine kZ ?_;refine jo λb b3=>?_;cases b <;> try simp only [jm] at b3)
 all_goals ((iterate 6 refine kZ ?_);refine jo λb bh=>?_;cases b <;> try simp only [jm] at bh)
 all_goals (refine kR ?_;have G:=(tQ EB I))
 all_goals (obtain ⟨vq,qv⟩:∃ qc,(kNz x y)=qc:=⟨_,rfl⟩;have L:=yD qv;simp only [kNz,Q0,D,ab,ak,H,R,b3,bh] at qv;subst qv;go_wp2;go_ret;exact ⟨kJ L.symm,G⟩)
def kWz {x:ja} (hx:jc.raw w cx x) {y:ja} (hy:jc.raw w cy y) :
    Aq prog 73 #[.agg cx.toArray,.agg cy.toArray] w (bQ w (.bool (decide (x=y)))):=by
 have h:=kXa hx hy;rw [vNode_eq] at h;exact h
def kZc {a b:Ag ByteArray} (ac:Cg.raw w [va] a) (a3:Cg.raw w [N] b) :
    Aq prog 148 #[va,N] w (bQ w (.bool (eqN a b))):=by
 obtain ⟨aa,H,rfl,la,ab,R,rfl,lb⟩:=kD.sx ac (kD.sl a3);go_enter func148,ntmps148;by_cases hl:a.length=b.length;case neg =>
  have L:=yD (show eqN a b=false by unfold eqN;simp;rintro rfl;exact hl rfl);exact iW
 refine lJ λhz HL=>?_;clear hl;go_wp2;go_loopw [5] (λi wr=>∃ k:Nat,k<=a.length/\i=.int .i64 k/\Hid (a.take k=b.take k)/\Qb w wr) (λi _=>a.length - (intOf i).toNat);case atStart=>exact ⟨0,Nat.zero_le _,rfl,yD rfl,bR⟩
 exact LW
def kCd {ca:Ag Ae} {a:kU} (ha:kQ.raw w ca a) {cb:Ag Ae} {b:kU} (hb:kQ.raw w cb b) :
    Aq prog 74 #[.agg ca.toArray,.agg cb.toArray] w (bQ w (.bool (eqN a b))):=by
 obtain ⟨av,rfl,ac⟩:=kT ha;obtain ⟨bv,rfl,a3⟩:=kT hb;obtain ⟨aa,H,rfl,la,ab,R,rfl,lb⟩:=kD.sx ac (kD.sl a3);go_enter func74,ntmps74;go_wp2_with fail;refine (kZc (ac.below bK) (a3.below bK)).mono ?_;refine fO λw1 O=>?_;have EF:Qb w w1:=Below.trans bK (O.mono bJ0);clear O;exact xW EF
def kWm {a b:(Ag jH)} (ac:Ch.raw w [va] a) (a3:Ch.raw w [N] b) :
    Aq prog 61 #[va,N] w (bQ w (.bool (decide (a=b)))):=by
 obtain ⟨aa,H,rfl,la,ab,R,rfl,lb⟩:=kD.sx ac (kD.sl a3);go_enter func61,ntmps61;by_cases hl:a.length=b.length;case neg =>
  exact fF
 refine lJ λhz HL=>?_;clear hl;go_wp2;go_loopw [5] (λi wr=>∃ k:Nat,k<=a.length/\i=.int .i64 k/\Hid (a.take k=b.take k)/\Qb w wr) (λi _=>a.length - (intOf i).toNat);case atStart=>exact ⟨0,Nat.zero_le _,rfl,yD rfl,bR⟩
 obtain ⟨k,hk,rfl,HN,D⟩:=hrel;by_cases hlt:k < a.length
 · have af:k < b.length:=bD1;obtain ⟨pb,po,rfl,bl,ce,ch,pr,ak,a9,ba⟩:=kD.zx (ac.below D) (i:=k) bJ5 rfl;obtain ⟨qb,qo,rfl,ah,aj,ao,qr,a2,a4,a5⟩:=kD.zx (a3.below D) (i:=k) bJ5 rfl;refine lG λhne E=>?_;generalize a[k]=x at *;generalize b[k]=y at *;refine oC λHD HX=>?_;have F:=yD (vRouteS_eq x y);clear hne E;obtain ⟨x0,x1,x2⟩:=x;obtain ⟨y0,y1,y2⟩:=y;obtain ⟨rfl,rfl,ay,ap,a8,bc⟩:=yS pr;obtain ⟨bx,bz,rfl,bf⟩:=kD.sl ap;obtain ⟨rfl,rfl,au,az,aw,bi⟩:=yS qr;obtain ⟨ai,a6,rfl,bb⟩:=kD.sl az;go_wp2_with fail;refine AZ λFX wS I=>?_;all_goals (refine jo λb am=>?_;cases b <;> try simp only [jm] at am)
   all_goals ((iterate 12 refine kZ ?_);refine jo λb J=>?_;cases b <;> try simp only [jm] at J)
   all_goals ((iterate 10 refine kZ ?_);(first | refine wkB (kCd (kD.raw.below ay I) (kD.raw.below au I)) (λwS1 I=>?_) | refine kZ ?_);refine kZ ?_;refine jo λb O=>?_;cases b <;> try simp only [jm] at O)
   all_goals (refine kR ?_;have G:=(tQ D I))
   all_goals first|(have HV:=F.symm.trans (show _=false by simp only [kZw,Q0,am,J,O]);have L:=yD (HD.out HV);clear HV F HD HX;go_wp2;go_ret;exact ⟨kJ L.symm,G⟩)|(have HV:=F.symm.trans (show _=true by simp only [kZw,Q0,am,J,O]);have L:=yD (HX.out HV);clear HV F HD HX;refine Qg ?_;exact ⟨k + 1,by omega,by go_num,L,G⟩)
 exact NZ
def jCy {a b:(Ag kM)} (ac:Cf.raw w [va] a) (a3:Cf.raw w [N] b) :
    Aq prog 62 #[va,N] w (bQ w (.bool (decide (a=b)))):=by
 obtain ⟨aa,H,rfl,la,ab,R,rfl,lb⟩:=kD.sx ac (kD.sl a3);go_enter func62,ntmps62;by_cases hl:a.length=b.length;case neg =>
  exact fF
 refine lJ λhz HL=>?_;clear hl;go_wp2;go_loopw [5] (λi wr=>∃ k:Nat,k<=a.length/\i=.int .i64 k/\Hid (a.take k=b.take k)/\Qb w wr) (λi _=>a.length - (intOf i).toNat);case atStart=>exact ⟨0,Nat.zero_le _,rfl,yD rfl,bR⟩
 obtain ⟨k,hk,rfl,HN,D⟩:=hrel;by_cases hlt:k < a.length
 · have af:k < b.length:=bD1;obtain ⟨pb,po,rfl,bl,ce,ch,pr,ak,a9,ba⟩:=kD.zx (ac.below D) (i:=k) bJ5 rfl;obtain ⟨qb,qo,rfl,ah,aj,ao,qr,a2,a4,a5⟩:=kD.zx (a3.below D) (i:=k) bJ5 rfl;refine lG λhne E=>?_;generalize a[k]=x at *;generalize b[k]=y at *;refine oC λHD HX=>?_;have F:=yD (vMeasS_eq x y);clear hne E;obtain ⟨x0,x1,x2⟩:=x;obtain ⟨y0,y1,y2⟩:=y;obtain ⟨rfl,rfl,ay,ap,a8,bc⟩:=jy pr;obtain ⟨bx,bz,rfl,bf⟩:=kD.sl ap;obtain ⟨rfl,rfl,au,az,aw,bi⟩:=jy qr;obtain ⟨ai,a6,rfl,bb⟩:=kD.sl az;go_wp2_with fail;refine AZ λFX wS I=>?_;all_goals (refine jo λb am=>?_;cases b <;> try simp only [jm] at am)
   all_goals ((iterate 12 refine kZ ?_);refine jo λb J=>?_;cases b <;> try simp only [jm] at J)
   all_goals ((iterate 10 refine kZ ?_);(first | refine wkB (kCd (kD.raw.below ay I) (kD.raw.below au I)) (λwS1 I=>?_) | refine kZ ?_);refine kZ ?_;refine jo λb O=>?_;cases b <;> try simp only [jm] at O)
   all_goals (refine kR ?_;have G:=(tQ D I))
   all_goals first|(have HV:=F.symm.trans (show _=false by simp only [jHo,Q0,am,J,O]);have L:=yD (HD.out HV);clear HV F HD HX;go_wp2;go_ret;exact ⟨kJ L.symm,G⟩)|(have HV:=F.symm.trans (show _=true by simp only [jHo,Q0,am,J,O]);have L:=yD (HX.out HV);clear HV F HD HX;refine Qg ?_;exact ⟨k + 1,by omega,by go_num,L,G⟩)
 exact NZ
def kZd {a b:Ag kF} (ac:Ce.raw w [va] a) (a3:Ce.raw w [N] b) :
    Aq prog 59 #[va,N] w (bQ w (.bool (decide (a=b)))):=by
 obtain ⟨aa,H,rfl,la,ab,R,rfl,lb⟩:=kD.sx ac (kD.sl a3);go_enter func59,ntmps59;by_cases hl:a.length=b.length;case neg =>
  exact fF
 refine lJ λhz HL=>?_;clear hl;go_wp2;go_loopw [5] (λi wr=>∃ k:Nat,k<=a.length/\i=.int .i64 k/\Hid (a.take k=b.take k)/\Qb w wr) (λi _=>a.length - (intOf i).toNat);case atStart=>exact ⟨0,Nat.zero_le _,rfl,yD rfl,bR⟩
 obtain ⟨k,hk,rfl,HN,D⟩:=hrel;by_cases hlt:k < a.length
 · have af:k < b.length:=bD1;obtain ⟨pb,po,rfl,bl,ce,ch,pr,ak,a9,ba⟩:=kD.zx (ac.below D) (i:=k) bJ5 rfl;obtain ⟨qb,qo,rfl,ah,aj,ao,qr,a2,a4,a5⟩:=kD.zx (a3.below D) (i:=k) bJ5 rfl;refine lG λhne E=>?_;have bg:=Ar.2 hlt;have bw:=Ar.2 af;have dt:=Av k;generalize a[k]=x at *;generalize b[k]=y at *;have HD:Hid (kLj x y=false->decide (a=b)=false):=yD (λq=>by simpa using hne (vPendS_no q));have HE:Hid (¬ x.2.1=y.2.1->decide (a=b)=false):=yD (λq=>by simpa using hne (λe=>q (by rw [e])));have HX:Hid (kLj x y=true->x.2.1.length=y.2.1.length/\(x.2.1=y.2.1->a.take (k + 1)=b.take (k + 1))):=yD (λq=>⟨(jAt q).1,λe=>E ((jAt q).2 e)⟩);clear hne E;obtain ⟨rfl,ay,ap,a8,bc⟩:=jV pr;obtain ⟨bx,bz,rfl,bf,dr,dy,rfl,bh⟩:=kD.sx ap (kD.sl a8);obtain ⟨rfl,au,az,aw,bi⟩:=jV qr;obtain ⟨ai,a6,rfl,bb,ar,bd,rfl,b2⟩:=kD.sx az (kD.sl aw);go_upto_region 6 with fail;have FX:=yD (λ(W:Ai) (hW:Qb wr W)=>kPa hW ak a9 ba a2 a4 a5);refine kN (λW=>Qb wr W) [Tt,Tt,Tt,Tt,Tt,Tt,Tt,Tt,Tt,Tt,Tt,Tt,Tt,Tt,Tt,Tt,Tt,Tt,Tt,Tt,Tt,Tt,Ff,Tt,Tt,Tt,Tt,Tt,Tt,Tt,Tt,Tt,Tt,Tt,Tt,Tt,Tt,Tt,Tt,Tt] bI9 bI9 sD (bR.drew) ?_;intro wS I;all_goals ((iterate 11 refine kZ ?_);refine jo λb am=>?_;cases b <;> try simp only [jm] at am)
   all_goals ((iterate 10 refine kZ ?_);(first | refine wkB (kCd (kD.raw.below ay I) (kD.raw.below au I)) (λwS1 I=>?_) | refine kZ ?_);refine kZ ?_;refine kZ ?_;refine jo λb U=>?_;cases b <;> try simp only [jm] at U)
   all_goals ((iterate 13 refine kZ ?_);refine jo λb F=>?_;cases b <;> try simp only [jm] at F)
   all_goals (refine kR ?_;have G:=(tQ D I))
   all_goals first
     | (have L:=yD (HD.out (show kLj x y=false by simp only [kLj,Q0,am,U,F]));clear HD HE HX;go_wp2;go_ret;exact ⟨kJ L.symm,G⟩)
     | have L:=yD (HX.out (show kLj x y=true by simp only [kLj,Q0,am,U,F]))
   all_goals try clear HD HX
   have bu:=a9;have bt:=a4;have pn:=a8;have qn:=aw;have Z:=yD L.1;clear am U F;have eh:=yD L.2;clear L;generalize x.2.1=P at *;generalize y.2.1=Q at *;clear HN;go_wp2;go_loopw [6] (λi wq=>∃ j:Nat,j<=P.length/\i=.int .i64 j/\Hid (P.take j=Q.take j)/\Qb wr wq) (λi _=>P.length - (intOf i).toNat);case atStart=>exact ⟨0,Nat.zero_le _,rfl,yD rfl,I⟩
   obtain ⟨j,J,rfl,HM,hq⟩:=hrel;have B3:=cL hq bu;have D3:=cL hq bt;by_cases aq:j < P.length
   · have a7:j < Q.length:=by have:=Z.out;omega
     obtain ⟨O,no,rfl,b7,ep,es,nr,ae,bj,bo⟩:=kD.zx (pn.below hq) aq rfl;obtain ⟨mb,mo,rfl,ea,fv,fk,mr,Y,bk,br⟩:=kD.zx (qn.below hq) a7 rfl;obtain ⟨bm,_⟩:=kHf nr;obtain ⟨bn,_⟩:=kHf mr;simp only [List.cons.injEq,and_true] at bm bn;obtain ⟨rfl,rfl,rfl⟩:=bm;obtain ⟨rfl,rfl,rfl⟩:=bn;clear nr mr;have dc:=Ar.2 aq;have bv:=Ar.2 a7;have dh:=Av j;have hne:=λq=>zg aq a7 q;have E:=λq=>yO HM.out aq a7 q;generalize P[j]=u at *;generalize Q[j]=v at *;have av:Hid (vReq u v=false->decide (a=b)=false):=yD (λq=>HE.out (hne (by rw [jHn] at q;simpa using q)));have b6:Hid (vReq u v=true->P.take (j + 1)=Q.take (j + 1)):=yD (λq=>E (by rw [jHn] at q;simpa using q));clear hne E;obtain ⟨u0,u1,u2⟩:=u;obtain ⟨v0,v1,v2⟩:=v;have X:(u0=v0/\u1=v1/\u2=v2)\/(u0≠v0)\/(u0=v0/\u1≠v1)\/(u0=v0/\u1=v1/\u2≠v2):=bJ5;rcases X with ⟨rfl,rfl,rfl⟩ | e|⟨rfl,e⟩|⟨rfl,rfl,e⟩;all_goals go_upto_region 11 with fail
     all_goals refine kN (λW=>Qb wr W) [Tt,Tt,Tt,Tt,Tt,Tt,Tt,Tt,Tt,Tt,Tt,Tt,Tt,Tt,Tt,Tt,Tt] bI9 bI9 sD (bR.drew) ?_
     all_goals intro wS I
     all_goals ((iterate 4 refine kZ ?_);(iterate 2 (first|(refine kI rfl I ?_)|(refine jF (v:=?_) rfl (λW hW=>?_) ?_;rotate_left;(· have bp:=cL hW B3;have bq:=cL hW D3;have al:=cL hW ae;have ag:=cL hW bj;have be:=cL hW bo;have an:=cL hW Y;have ax:=cL hW bk;have a1:=cL hW br;clear hW;go_simp;try with_reducible rfl)));refine jD ?_;refine kZ ?_;refine kZ ?_);(iterate 2 refine kZ ?_;refine kZ ?_;(first|(refine kI rfl I ?_)|(refine jF (v:=?_) rfl (λW hW=>?_) ?_;rotate_left;(· have bp:=cL hW B3;have bq:=cL hW D3;have al:=cL hW ae;have ag:=cL hW bj;have be:=cL hW bo;have an:=cL hW Y;have ax:=cL hW bk;have a1:=cL hW br;clear hW;go_simp;try with_reducible rfl)));refine jD ?_);refine jo λb V=>?_;cases b <;> try simp only [jm] at V)
     all_goals (refine kR ?_;have EQ:=(tQ hq I))
     all_goals first|(have L:=yD (av.out (by first|(simp [vReq,e];done)|(simp [vReq];done)));clear av b6;have G:=(tQ D EQ);go_wp2;go_ret;exact ⟨kJ L.symm,G⟩)|(have L:=yD (b6.out (by first|(simp [vReq];done)));clear av b6;refine Qg ?_;exact ⟨j + 1,by omega,by go_num,L,EQ⟩)
   have L:=yD (eh.out (zN HM.out aq Z.out));have G:=(tQ D hq);exact iI L G
 exact NZ
end Go.Proofs.YthocbplmdjkifabGreat

/-
  What an interest brings about: impl.
-/
import Derived.Test.YthocbplmdjkifaaGreatSilent
set_option linter.unusedVariables false
set_option linter.defProp false
set_option linter.unusedSimpArgs false
set_option linter.unnecessarySimpa false
set_option maxRecDepth 100000
set_option maxHeartbeats 8000000
open Bool renaming true->Tt,false->Ff
open Bool renaming not_false->Aa,and_false->Ab,false_and->Ac,not_true->Ad,and_true->Ae,true_and->Ag,or_false->Ah,false_or->Ai,or_true->Aj,true_or->Ak,not_not->Al,eq_iff_iff->Ar
open List renaming getElem_mem->Am,length_set->Ap,mem_singleton->Aw
open _root_ renaming List->Aq
open Go renaming Value->Au,World->Av
namespace Go.Proofs.YthocbplmdjkifaaGreat
open Go.RowKit _root_.Go.Proofs.Tryz
def jDv {α κ:Type} {key:α->κ} {l o:Aq α} (h:o.map key=l.map key) (p:l.Pairwise (λa b=>key a≠key b)):o.Pairwise (λa b=>key a≠key b) :=
  List.pairwise_map.1 (h ▸ List.pairwise_map.2 p:(o.map key).Pairwise (λa b=>a≠b))
def kMl {α κ:Type} {key:α->κ} {l:Aq α} {k:Nat} (hk:k < l.length) {y:α} (h:key y=key l[k]):(l.set k y).map key=l.map key:=by
 apply List.ext_getElem bF3;intro i h1 h2;simp only [List.getElem_map,List.getElem_set];split
 · next e=>subst e;exact h
 rfl
def kJn {α:Type} {P:α->Prop} {l:Aq α} {k:Nat} {y:α} (h:∀ m∈l,P m) (hy:P y):∀ m∈l.set k y,P m:=by
 intro m hm;rcases List.mem_or_eq_of_mem_set hm with hm | rfl
 · exact h m hm
 exact hy
def jFb {n:ko} {t:Int} {x:kg} (h:kCi x=true):kCi (kDs n t x)=true:=by
 obtain ⟨c,l⟩:=x;by_cases hi:idxOf (isC n) l < 0
 · rw [kPe hi];exact h
 obtain ⟨k,hk,e⟩:=zn hi;rw [kLz e hk];obtain ⟨⟨a,b⟩,c1,d⟩:=kYr.1 h;refine kYr.2 ⟨⟨kJn (P:=λe:kr=>kBk e.1=true) a (show kBk l[k].1=true from a _ (Am hk)),jDv (key:=λe:kr=>e.1.1) (kMl hk rfl) b⟩,c1,?_⟩;show ((l.set k _).length:Int)<=c;rw [Ap];exact d
def sentP_valid {n:ko} {t:Int} {l:Aq kF} (ht:0<=t/\t<=100000) (h:kDf l=true):kDf (kHm n t l)=true:=by
 by_cases hi:idxOf (jV n) l < 0
 · rw [kKz hi];exact h
 obtain ⟨k,hk,e⟩:=zn hi;rw [kHy e hk];obtain ⟨a,b,c⟩:=kIf.1 h;obtain ⟨b1,b2,L,N⟩:=b _ (Am hk);refine kIf.2 ⟨by rw [Ap];exact a,kJn b ⟨b1,b2,L,?_⟩,jDv (key:=λe:kF=>e.1) (kMl hk rfl) c⟩;show inR t 0 100000=true;unfold inR;simp;omega
def sentP_loop {n:ko} {t:Int} {q:jE} {l:Aq kF} {s:Aq jK}:kHo q (kHm n t l) s=kHo q l s:=by
 unfold kHo;congr 1;by_cases hi:idxOf (jV n) l < 0
 · rw [kKz hi]
 obtain ⟨k,hk,e⟩:=zn hi;rw [kHy e hk];have h1:∀ m:Aq kF,m.any (kEt q)=(m.map (kEt q)).any id:=by intro m;rw [List.any_map];rfl
 rw [h1,h1,kMl (key:=kEt q) (y:=zk l[k] t) hk rfl]
def seen_loop {q:jE} {l:Aq kF} {s:Aq jK}:kHo q l (zX s q.1 q.2.1)=true:=by
 have:(zX s q.1 q.2.1).any (kIq q)=true:=by
  refine List.any_eq_true.2 ⟨(q.1,q.2.1),?_,by simp [kIq,eqN]⟩;unfold zX;split
  · next h =>
    have:1<=s.length:=by simp at h;omega
    rw [List.drop_append_of_le_length this];simp
  simp
 unfold kHo;rw [this];simp
def kHa (x:jX):kFy x=(x.1,x.2.1,x.2.2.1,x.2.2.2.1,x.2.2.2.2.1,x.2.2.2.2.2.1,wrap64 (x.2.2.2.2.2.2 + 1)):=by
 obtain ⟨x0,x1,x2,x3,x4,x5,x6⟩:=x;exact kLn
def kWx {x:jX} (h:kAy x=true) (hd:x.2.2.2.2.2.2<=1000):kAy (kFy x)=true:=by
 obtain ⟨a,b,c,d,e,f,g,k⟩:=kGh.1 h;rw [kHa];refine kGh.2 ⟨a,b,c,d,e,f,g,?_⟩;show 0<=wrap64 _;unfold wrap64;omega
def proc_valid {x:jX} {f t:Int} {q:jE} (h:kAy x=true) (hd:x.2.2.2.2.2.2<=1000) (ht:0<=t/\t<=100000):kAy (kCp x f q t).1=true:=by
 obtain ⟨a,b,c,d,e,m,g,k⟩:=kGh.1 h;cases h1:kBc x f q
 · cases h2:kNp q.1 t x
   · cases h3:yY q f x.2.2.1
     · rw [kGd h1 h2 h3];exact kWx h hd
     cases h4:zb x f q t
     · rw [kIa h1 h2 h3 h4];exact kGh.2 ⟨a,b,c,sentP_valid ht (jBt h3 d),e,m,g,k⟩
     rw [kGc h1 h2 h3 h4];exact kGh.2 ⟨a,b,c,jBt h3 d,e,m,g,k⟩
   rw [kGe h1 h2];refine kGh.2 ⟨a,b,jFb c,d,e,m,?_,k⟩;show (zX x.2.2.2.1 q.1 q.2.1).length<=24;unfold zX;split <;> simp at * <;> omega
 rw [kGt h1];exact kWx h hd
def proc_again {x:jX} {f t:Int} {q:jE}:kCp (kCp x f q t).1 f q t=(kFy (kCp x f q t).1,[]):=by
 have o:∀ (y:jX),kHo q y.2.2.1 y.2.2.2.1=true->kCp y f q t=(kFy y,[]):=by
  intro y hy;refine kGt ?_;unfold kBc;rw [hy];simp
 cases h1:kBc x f q
 · cases h2:kNp q.1 t x
   · cases h3:yY q f x.2.2.1
     · rw [kGd h1 h2 h3];refine kGd ?_ ?_ ?_ <;> rw [kHa] <;> assumption
     cases h4:zb x f q t
     · rw [kIa h1 h2 h3 h4];exact o _ (by rw [sentP_loop];exact jEw h3 _)
     rw [kGc h1 h2 h3 h4];exact o _ (jEw h3 _)
   rw [kGe h1 h2];exact o _ seen_loop
 rw [kGt h1];refine kGt ?_;rw [kHa];exact h1
def drop_silent (y:jX):silent (kFy y,[]) y=true:=by
 unfold silent kSe;rw [kHa];simp
def fdD_name {n:ko} {t:Int} {x:jX} (h:kNp n t x=true):(fdD n t x).1=n:=by
 by_cases hi:idxOf (isD n) x.1 < 0
 · obtain ⟨p,q⟩:=fd_no (t:=t) hi;rw [p] at h;rw [q];by_cases I:idxOf (kMq n t) x.2.1.2 < 0
   · unfold lkOk at h;simp at h;omega
   obtain ⟨k,hk,e⟩:=zn I;rw [(lk_yes hk e).2];have:=(kEu e).2.1;simp [kMq,eqN] at this;exact this.1
 obtain ⟨k,hk,e⟩:=zn hi;rw [(fd_yes (t:=t) hk e).2];have:=(kEu e).2.1;simpa [isD,eqN] using this
def outF_mem {x:jX} {n:ko} {ex g:Int} (h:g∈kIp x n ex):g≠ex:=by
 by_cases hm:mOk n x.2.2.2.2.1=true
 · rw [jEc hm] at h;have:=(List.mem_filter.1 h).2;simpa using this
 rw [jFu (by simpa using hm)] at h;simp at h
def goesOut (f:Int) (q:jE) (o:ji):Prop :=
  (o.2.1=true->o.1≠f/\o.2.2.1=(q.1,q.2.1,q.2.2.1 - 1,q.2.2.2))/\(o.2.1=false->o.1=f/\o.2.2.2.1=q.1)
def proc_out {x:jX} {f t:Int} {q:jE} {o:ji} (h:o∈(kCp x f q t).2):goesOut f q o:=by
 cases h1:kBc x f q
 · cases h2:kNp q.1 t x
   · cases h3:yY q f x.2.2.1
     · rw [kGd h1 h2 h3] at h;simp at h
     cases h4:zb x f q t
     · rw [kIa h1 h2 h3 h4] at h;obtain ⟨g,hg,rfl⟩:=List.mem_map.1 h;refine ⟨λ_=>⟨?_,?_⟩,λh=>by simp [kJj] at h⟩
       · have:g∈kIp x q.1 f:=by
          unfold kGf at hg;split at hg
          · exact hg
          exact List.mem_of_mem_take hg
         exact outF_mem this
       unfold zb kJq at h4;simp at h4;obtain ⟨q0,q1,q2,q3⟩:=q;show kQj (q0,q1,q2,q3)=_;unfold kQj;rw [if_neg (by have:=h4.1.2;simp at this ⊢;omega)];rfl
     rw [kGc h1 h2 h3 h4] at h;simp at h
   rw [kGe h1 h2] at h;rw [Aw.1 h];exact ⟨λh=>by simp at h,λ_=>⟨rfl,fdD_name h2⟩⟩
 rw [kGt h1] at h;simp at h
def jEf {x:jX} {m:Nat} (h:kOi m x):kOi m (kFy x):=by
 rw [kHa];exact h
def jDy {x:jX} {f t:Int} {q:jE} (c:kAo x.2.2.1 14):(kDv q f t x.2.2.1).length<=100/\∀ y∈kDv q f t x.2.2.1,y.2.1.length<=100:=by
 have c1:=c.1;cases hk:yY q f x.2.2.1
 · rw [(kPs hk).1];exact ⟨by omega,λy hy=>by have:=(c.2 y hy).1;omega⟩
 rcases kVr (t:=t) hk with ⟨hi,e⟩|⟨k,hkl,hi,hn,e⟩
 · rw [e];refine ⟨by simp;omega,λy hy=>?_⟩;rcases List.mem_append.1 hy with hy | hy
   · have:=(c.2 y hy).1;omega
   rw [Aw.1 hy];show 1<=100;omega
 rw [e];refine ⟨by rw [Ap];omega,kJn (P:=λy:kF=>y.2.1.length<=100) rM ?_⟩;have h1:=kOd (kHn q f t) x.2.2.1[k].2.1;have h2:=(c.2 _ (Am hkl)).1;show (kLc _ _).length<=100;omega
def sent_100 {n:ko} {t:Int} {l:Aq kF} (hl:l.length<=100/\∀ y∈l,y.2.1.length<=100):(kHm n t l).length<=100/\∀ y∈kHm n t l,y.2.1.length<=100:=by
 by_cases hi:idxOf (jV n) l < 0
 · rw [kKz hi];exact hl
 obtain ⟨k,hk,e⟩:=zn hi;rw [kHy e hk];exact ⟨by rw [Ap];exact hl.1,kJn (P:=λy:kF=>y.2.1.length<=100) hl.2 (show l[k].2.1.length<=100 from hl.2 _ (Am hk))⟩
def jEe {x:jX} (h:kHl x) {l:Aq kF} (hl:l.length<=100/\∀ y∈l,y.2.1.length<=100):kOi 1048576 (x.1,x.2.1,l,x.2.2.2):=by
 obtain ⟨a,b,c,d,e,g,_⟩:=h;exact jFz (x:=(x.1,x.2.1,l,x.2.2.2)) (by show x.1.length<=_;omega) (by show x.2.1.2.length<=_;omega) (Nat.le_trans hl.1 bF1) (λy hy=>Nat.le_trans (hl.2 y hy) bF1) (by have:=d.1;show x.2.2.2.1.length<=_;omega) (by show x.2.2.2.2.1.length<=_;omega) (by show x.2.2.2.2.2.1.length<=_;omega)
def jCa (n:ko) (t:Int) (x:kg):(kDs n t x).2.length=x.2.length:=by
 by_cases hi:idxOf (isC n) x.2 < 0
 · obtain ⟨c,l⟩:=x;rw [kPe hi]
 obtain ⟨k,hk,e⟩:=zn hi;obtain ⟨c,l⟩:=x;rw [kLz e hk];simp
def lenN_proc {x:jX} {f t:Int} {q:jE} (h:kHl x):kOi 1048576 (kCp x f q t).1:=by
 cases h1:kBc x f q
 · cases h2:kNp q.1 t x
   · cases h3:yY q f x.2.2.1
     · rw [kGd h1 h2 h3];exact jEf h.kOi
     cases h4:zb x f q t
     · rw [kIa h1 h2 h3 h4];exact jEe h (sent_100 (jDy h.2.2.1))
     rw [kGc h1 h2 h3 h4];exact jEe h (jDy h.2.2.1)
   rw [kGe h1 h2];obtain ⟨a,b,c,d,e,g,_⟩:=h;have hs:(zX x.2.2.2.1 q.1 q.2.1).length<=24:=by have:=kRk (l:=x.2.2.2.1) (n:=q.1) (x:=q.2.1);have:=d.1;omega
   exact jFz (x:=(x.1,kDs q.1 t x.2.1,x.2.2.1,zX x.2.2.2.1 q.1 q.2.1,x.2.2.2.2)) (by show x.1.length<=_;omega) (by show (kDs q.1 t x.2.1).2.length<=_;rw [jCa];omega) (by have:=c.1;show x.2.2.1.length<=_;omega) rM (by show (zX x.2.2.2.1 q.1 q.2.1).length<=_;omega) (by show x.2.2.2.2.1.length<=_;omega) (by show x.2.2.2.2.2.1.length<=_;omega)
 rw [kGt h1];exact jEf h.kOi
def want_plan {x:jX} {f:Int} {q:jE} (h:kHl x) (_:-1<=q.2.2.1) (_:q.2.2.1<=17):∃ J os nb,kCp x f q 50=(J,os)/\kCp J f q 50=(nb,[])/\silent (nb,[]) J=true/\kOi 1048576 J/\(kAy x=true->kAy J=true)/\∀ o∈os,goesOut f q o:=by
 refine ⟨(kCp x f q 50).1,(kCp x f q 50).2,kFy (kCp x f q 50).1,rfl,proc_again,drop_silent _,lenN_proc h,λhv=>proc_valid hv (by have:=h.2.2.2.2.2.2.2;omega) bF2,λo ho=>proc_out ho⟩
def vOutS (x y:ji):Bool:=!((x.1 != y.1) || ((!(x.2.1==y.2.1)) || ((!decide (x.2.2.1=y.2.2.1)) || !decide (x.2.2.2=y.2.2.2))))
def vOutS_eq (x y:ji):vOutS x y=decide (x=y):=by
 obtain ⟨x0,x1,x2,x3⟩:=x;obtain ⟨y0,y1,y2,y3⟩:=y;rw [Ar];simp [vOutS]
def vOut (x y:ji):Bool:=(((x.1==y.1) && (x.2.1==y.2.1)) && decide (x.2.2.1=y.2.2.1)) && decide (x.2.2.2=y.2.2.2)
def vOut_eq (x y:ji):vOut x y=decide (x=y):=by
 obtain ⟨x0,x1,x2,x3⟩:=x;obtain ⟨y0,y1,y2,y3⟩:=y;rw [Ar];simp [vOut,and_assoc]
def kOm {w:Av} {cx:Aq Au} {x:ji} (hx:jO.raw w cx x) {cy:Aq Au} {y:ji} (hy:jO.raw w cy y) :
    Calls prog 76 #[.agg cx.toArray,.agg cy.toArray] w (bQ w (.bool (vOut x y))):=by
 have Hx:=yD hx
 obtain ⟨bd,cc,b7,c9,rfl,Y,N,ae,ag,aj,au,a6,a1,b0,br,H,bo,ap,bk,ba⟩:=kCw hx
 obtain ⟨bj,be,rfl,bi,b9,cd,rfl,ce,b4,b3,rfl,b8,c8,da,rfl,c4⟩:=kD.sx ag (kD.sx br (kD.sx H (kD.sl ap)))
 have Hy:=yD hy
 obtain ⟨bu,b2,bp,c5,rfl,aa,ad,ah,ak,al,ao,aw,ax,bh,c3,V,a8,aq,bl,bn⟩:=kCw hy
 obtain ⟨a7,a9,rfl,bt,bc,bf,rfl,b1,b5,b6,rfl,bq,c6,c7,rfl,db⟩:=kD.sx ak (kD.sx c3 (kD.sx V (kD.sl aq)))
 go_enter func76,ntmps76
 go_upto_region 1 with fail
 refine kAe ?_
 intro U Z F an _
 obtain ⟨X,o,R,am,av,bb,bw,bv,ai,a5,ay⟩:=kKf F
 obtain ⟨I,ac,af,ar,az,bm,bz,bx,bg,a4,a2⟩:=kKf an
 clear F an
 have FX:=yD (λ(W:Av) (hW:Qb U W)=>And.intro (cL hW X) (And.intro (cL hW o) (And.intro (cL hW R) (And.intro (cL hW am) (And.intro (cL hW av) (And.intro (cL hW bb) (And.intro (cL hW bw) (And.intro (cL hW bv) (And.intro (cL hW ai) (And.intro (cL hW a5) (And.intro (cL hW ay) (And.intro (cL hW I) (And.intro (cL hW ac) (And.intro (cL hW af) (And.intro (cL hW ar) (And.intro (cL hW az) (And.intro (cL hW bm) (And.intro (cL hW bz) (And.intro (cL hW bx) (And.intro (cL hW bg) (And.intro (cL hW a4) (cL hW a2))))))))))))))))))))))
 refine kL (λW=>Qb U W) [Tt,Tt,Tt,Tt,Tt,Tt,Tt,Tt,Tt,Tt,Tt,Tt,Tt,Tt,Tt,Tt,Tt,Ff,Tt,Tt,Tt,Tt,Tt,Tt,Ff,Tt,Tt] bR ?_
 intro wS E
 all_goals ((iterate 5 refine kS ?_);refine jT λb a3=>?_;cases b <;> try simp only [jS] at a3)
 all_goals ((iterate 6 refine kS ?_);refine jT λb ab=>?_;cases b <;> try simp only [jS] at ab)
 all_goals ((iterate 4 refine kS ?_);(first | refine zi (kOo (kD.raw.below N (tQ Z E)) (kD.raw.below ad (tQ Z E))) (λwS1 E=>?_) | refine kS ?_);refine kS ?_;refine jT λb O=>?_;cases b <;> try simp only [jS] at O)
 all_goals ((iterate 4 refine kS ?_);(first | refine zi (kHh (kD.raw.below a1 (tQ Z E)) (kD.raw.below ax (tQ Z E))) (λwS1 E=>?_) | refine kS ?_);refine kS ?_;refine jT λb J=>?_;cases b <;> try simp only [jS] at J)
 all_goals (refine kM ?_;have D:=(tQ Z E))
 all_goals first
   | (have L:=yD (show (vOut x y)=false by simp only [vOut,Ad,Aa,Ae,Ag,Ab,Ac,Aj,Ak,Ah,Ai,Al,a3,ab,O,J]);go_wp2;go_ret;exact ⟨kJ L.out.symm,D⟩)
   | (have L:=yD (show (vOut x y)=true by simp only [vOut,Ad,Aa,Ae,Ag,Ab,Ac,Aj,Ak,Ah,Ai,Al,a3,ab,O,J]);go_wp2;go_ret;exact ⟨kJ L.out.symm,D⟩)
def kHb:jL prog 76:=yM func76 bE5 bE5
def kQf {w:Av} {va O:Au} {a b:Aq ji} (V:(kD.slice 62 jO).raw w [va] a) (ag:(kD.slice 62 jO).raw w [O] b) :
    Calls prog 20 #[va,O] w (bQ w (.bool (decide (a=b)))):=by
 go_enter func20,ntmps20
 go_wp2_with fail
 refine (kPa kHb V ag ?_).mono ?_
 · intro wr hb cs ds x y hx hy;have:=kOm hx hy;rw [vOut_eq] at this;exact this
 exact iT
def vAct (x y:kBx):Bool:=decide (x.1=y.1) && decide (x.2=y.2)
def vAct_eq (x y:kBx):vAct x y=decide (x=y):=by
 obtain ⟨x0,x1⟩:=x;obtain ⟨y0,y1⟩:=y;rw [Ar];simp [vAct]
def jAp {w:Av} {cx:Aq Au} {x:jE} (hx:jM.raw w cx x) {cy:Aq Au} {y:jE} (hy:jM.raw w cy y) :
    Calls prog 71 #[.agg cx.toArray,.agg cy.toArray] w (bQ w (.bool (vInt x y))):=by
 have Hx:=yD hx
 obtain ⟨a4,rfl,Y,N,ae,ag,aj⟩:=jY hx
 obtain ⟨a5,a2,rfl,ay⟩:=kD.sl N
 have Hy:=yD hy
 obtain ⟨a8,rfl,aa,ad,ah,ak,al⟩:=jY hy
 obtain ⟨aq,ap,rfl,ba⟩:=kD.sl ad
 go_enter func71,ntmps71
 go_upto_region 1 with fail
 refine kAe ?_
 intro U Z F an _
 obtain ⟨X,o,R,am⟩:=jW F
 obtain ⟨I,ac,af,ar⟩:=jW an
 clear F an
 have FX:=yD (λ(W:Av) (hW:Qb U W)=>cLs8 hW X o R am I ac af ar)
 refine kL (λW=>Qb U W) [Tt,Tt,Tt,Tt,Ff,Tt,Tt,Tt,Tt,Tt,Tt,Tt,Tt,Tt,Tt,Tt,Tt,Tt,Tt,Tt,Tt,Tt,Tt,Tt,Tt,Tt,Tt] bR ?_
 intro wS E
 all_goals ((iterate 4 refine kS ?_);(first | refine zi (zz (kD.raw.below Y (tQ Z E)) (kD.raw.below aa (tQ Z E))) (λwS1 E=>?_) | refine kS ?_);refine jT λb a3=>?_;cases b <;> try simp only [jS] at a3)
 all_goals ((iterate 6 refine kS ?_);refine jT λb ab=>?_;cases b <;> try simp only [jS] at ab)
 all_goals ((iterate 6 refine kS ?_);refine jT λb O=>?_;cases b <;> try simp only [jS] at O)
 all_goals ((iterate 6 refine kS ?_);refine jT λb J=>?_;cases b <;> try simp only [jS] at J)
 all_goals (refine kM ?_;have D:=(tQ Z E))
 all_goals first
   | (have L:=yD (show (vInt x y)=false by simp only [vInt,Ad,Aa,Ae,Ag,Ab,Ac,Aj,Ak,Ah,Ai,Al,a3,ab,O,J]);go_wp2;go_ret;exact ⟨kJ L.out.symm,D⟩)
   | (have L:=yD (show (vInt x y)=true by simp only [vInt,Ad,Aa,Ae,Ag,Ab,Ac,Aj,Ak,Ah,Ai,Al,a3,ab,O,J]);go_wp2;go_ret;exact ⟨kJ L.out.symm,D⟩)
def jAq {w:Av} {cx:Aq Au} {x:jE} (hx:jM.raw w cx x) {cy:Aq Au} {y:jE} (hy:jM.raw w cy y) :
    Calls prog 71 #[.agg cx.toArray,.agg cy.toArray] w (bQ w (.bool (decide (x=y)))):=by
 have h:=jAp hx hy
 rw [vInt_eq] at h
 exact h
def kIr {w:Av} {va O:Au} {a b:(Aq ji)} (V:(kD.slice 62 jO).raw w [va] a) (ag:(kD.slice 62 jO).raw w [O] b) :
    Calls prog 17 #[va,O] w (bQ w (.bool (decide (a=b)))):=by
 obtain ⟨aa,al,rfl,la,ab,ar,rfl,lb⟩:=kD.sx V (kD.sl ag)
 go_enter func17,ntmps17
 by_cases hl:a.length=b.length
 case neg =>
  exact iQ
 obtain ⟨hz,HL⟩:=uX
 clear hl
 go_wp2
 go_loopw [5] (λi wr=>∃ k:Nat,k<=a.length/\i=.int .i64 k/\Hid (a.take k=b.take k)/\Qb w wr) (λi _=>a.length - (intOf i).toNat)
 case atStart=>exact ⟨0,Nat.zero_le _,rfl,yD rfl,bR⟩
 obtain ⟨k,hk,rfl,Y,o⟩:=hrel
 by_cases hlt:k < a.length
 · have ai:k < b.length:=wZ;obtain ⟨pb,po,rfl,bg,bl,bm,c1,cm,de,dl,dk,da,di,av,pr,ax,a3,bc,be,bb,b4,bq,a1,db,dd,ad⟩:=kD.kWw (V.below o) (i:=k) bF2 rfl;obtain ⟨qb,qo,rfl,ac,ae,af,bt,bu,b3,c9,ce,cg,cw,bv,qr,ap,aq,au,a7,ba,bi,b8,b1,b9,cc,a8⟩:=kD.kWw (ag.below o) (i:=k) bF2 rfl;obtain ⟨hne,H⟩:=vN;generalize a[k]=x at *;generalize b[k]=y at *;obtain ⟨HD,HX⟩:=uV;have I:=yD (vOutS_eq x y);clear hne H;obtain ⟨x0,x1,x2,x3⟩:=x;obtain ⟨y0,y1,y2,y3⟩:=y;obtain ⟨rfl,rfl,rfl,rfl,rfl,rfl,rfl,a2,az,a9,ay,bh,bn,b5,b7,c3,am,F,c4,U,dc,br⟩:=kAr pr;obtain ⟨cf,c2,rfl,b6,dq,dm,rfl,dj,dh,dg,rfl,df,cd,dp,rfl,dn⟩:=kD.sx ay (kD.sx am (kD.sx F (kD.sl U)));obtain ⟨rfl,rfl,rfl,rfl,rfl,rfl,rfl,ah,aj,ak,aw,bj,bd,bp,bz,b2,a6,a4,bo,Z,bk,bf⟩:=kAr qr;obtain ⟨ao,bx,rfl,bw,cz,c7,rfl,cl,c6,cv,rfl,co,c8,c5,rfl,ch⟩:=kD.sx aw (kD.sx a6 (kD.sx a4 (kD.sl Z)));go_wp2_with fail;have FX:=yD (λ(W:Av) (hW:Qb wr W)=>And.intro (cL hW ax) (And.intro (cL hW a3) (And.intro (cL hW bc) (And.intro (cL hW be) (And.intro (cL hW bb) (And.intro (cL hW b4) (And.intro (cL hW bq) (And.intro (cL hW a1) (And.intro (cL hW db) (And.intro (cL hW dd) (And.intro (cL hW ad) (And.intro (cL hW ap) (And.intro (cL hW aq) (And.intro (cL hW au) (And.intro (cL hW a7) (And.intro (cL hW ba) (And.intro (cL hW bi) (And.intro (cL hW b8) (And.intro (cL hW b1) (And.intro (cL hW b9) (And.intro (cL hW cc) (cL hW a8))))))))))))))))))))));refine kK (λW=>Qb wr W) [Tt,Tt,Tt,Tt,Tt,Tt,Tt,Tt,Tt,Tt,Tt,Tt,Tt,Tt,Tt,Tt,Tt,Tt,Tt,Tt,Tt,Tt,Tt,Tt,Tt,Tt,Tt,Tt,Tt,Tt,Tt,Tt,Tt,Tt,Tt,Ff,Tt,Tt,Tt,Tt,Tt,Tt,Tt,Tt,Tt,Tt,Tt,Tt,Tt,Ff,Tt,Tt] bE5 bE5 qW (bR.drew) ?_;intro wS E;all_goals ((iterate 11 refine kS ?_);refine jT λb an=>?_;cases b <;> try simp only [jS] at an)
   all_goals ((iterate 12 refine kS ?_);refine jT λb J=>?_;cases b <;> try simp only [jS] at J)
   all_goals ((iterate 10 refine kS ?_);(first | refine zi (jAq (kD.raw.below az E) (kD.raw.below aj E)) (λwS1 E=>?_) | refine kS ?_);refine kS ?_;refine kS ?_;refine jT λb ck=>?_;cases b <;> try simp only [jS] at ck)
   all_goals ((iterate 10 refine kS ?_);(first | refine zi (kHf (kD.raw.below b7 E) (kD.raw.below bz E)) (λwS1 E=>?_) | refine kS ?_);refine kS ?_;refine jT λb N=>?_;cases b <;> try simp only [jS] at N)
   all_goals (refine kM ?_;have D:=(tQ o E))
   all_goals first
     | (have X:=I.out.symm.trans (show _=false by simp only [vOutS,Ad,Aa,Ae,Ag,Ab,Ac,Aj,Ak,Ah,Ai,Al,an,J,ck,N]);have L:=yD (HD.out X);clear X I HD HX;go_wp2;go_ret;exact ⟨kJ L.out.symm,D⟩)
     | (have X:=I.out.symm.trans (show _=true by simp only [vOutS,Ad,Aa,Ae,Ag,Ab,Ac,Aj,Ak,Ah,Ai,Al,an,J,ck,N]);have L:=yD (HX.out X);clear X I HD HX;refine Qg ?_;exact ⟨k + 1,by omega,by go_num,L,D⟩)
 exact iV
def jCn {w:Av} {cx:Aq Au} {x:kBx} (hx:kDe.raw w cx x) {cy:Aq Au} {y:kBx} (hy:kDe.raw w cy y) :
    Calls prog 11 #[.agg cx.toArray,.agg cy.toArray] w (bQ w (.bool (vAct x y))):=by
 have Hx:=yD hx
 obtain ⟨a4,bd,cz,c2,cl,cc,c9,rfl,Y,N,ae,ag,aj,au,a6,a1,b0,br,H⟩:=kEv hx
 obtain ⟨a5,a2,rfl,ay,bj,be,rfl,bi,cv,cf,rfl,ch,ck,cg,rfl,cw,co,cm,rfl,c1,b9,cd,rfl,ce,c8,da,rfl,c4⟩:=kD.sx N (kD.sx aj (kD.sx au (kD.sx a6 (kD.sx a1 (kD.sx b0 (kD.sl H))))))
 have Hy:=yD hy
 obtain ⟨a8,bu,b7,b4,b6,b2,c5,rfl,aa,ad,ah,ak,al,ao,aw,ax,bh,c3,V⟩:=kEv hy
 obtain ⟨aq,ap,rfl,ba,a7,a9,rfl,bt,bp,bk,rfl,b3,bl,bn,rfl,b5,bo,bq,rfl,b8,bc,bf,rfl,b1,c6,c7,rfl,db⟩:=kD.sx ad (kD.sx al (kD.sx ao (kD.sx aw (kD.sx ax (kD.sx bh (kD.sl V))))))
 go_enter func11,ntmps11
 go_upto_region 1 with fail
 refine kAe ?_
 intro U Z F an _
 obtain ⟨X,o,R,am,av,bb,bw,bv,ai⟩:=zM F
 obtain ⟨I,ac,af,ar,az,bm,bz,bx,bg⟩:=zM an
 clear F an
 have FX:=yD (λ(W:Av) (hW:Qb U W)=>cLs18 hW X o R am av bb bw bv ai I ac af ar az bm bz bx bg)
 refine kL (λW=>Qb U W) [Tt,Tt,Tt,Tt,Ff,Tt,Tt,Tt,Tt,Tt,Ff,Tt,Tt] bR ?_
 intro wS E
 all_goals ((iterate 4 refine kS ?_);(first | refine zi (jAt (kD.raw.below Y (tQ Z E)) (kD.raw.below aa (tQ Z E))) (λwS1 E=>?_) | refine kS ?_);refine jT λb a3=>?_;cases b <;> try simp only [jS] at a3)
 all_goals ((iterate 4 refine kS ?_);(first | refine zi (kIr (kD.raw.below H (tQ Z E)) (kD.raw.below V (tQ Z E))) (λwS1 E=>?_) | refine kS ?_);refine kS ?_;refine jT λb ab=>?_;cases b <;> try simp only [jS] at ab)
 all_goals (refine kM ?_;have D:=(tQ Z E))
 all_goals first
   | (have L:=yD (show (vAct x y)=false by simp only [vAct,Ad,Aa,Ae,Ag,Ab,Ac,Aj,Ak,Ah,Ai,Al,a3,ab]);go_wp2;go_ret;exact ⟨kJ L.out.symm,D⟩)
   | (have L:=yD (show (vAct x y)=true by simp only [vAct,Ad,Aa,Ae,Ag,Ab,Ac,Aj,Ak,Ah,Ai,Al,a3,ab]);go_wp2;go_ret;exact ⟨kJ L.out.symm,D⟩)
def jCo {w:Av} {cx:Aq Au} {x:kBx} (hx:kDe.raw w cx x) {cy:Aq Au} {y:kBx} (hy:kDe.raw w cy y) :
    Calls prog 11 #[.agg cx.toArray,.agg cy.toArray] w (bQ w (.bool (decide (x=y)))):=by
 have h:=jCn hx hy
 rw [vAct_eq] at h
 exact h
def kFx {w:World} {cx:List Value} {x:jX} (hx:jo.rd w cx x) {f:Int} (hf:Qi f) {cq:List Value} {q:jE} (hq:jM.rd w cq q) {t:Int} (ht:Qi t) (hB:kOi 1048576 x) :
    Calls prog 6 #[.agg cx.toArray,.int .i64 f,.agg cq.toArray,.int .i64 t] w (kAb kDe (kCp x f q t) w):=by
 obtain ⟨x0,⟨xc,xe⟩,x2,x3,x4,x5,x6⟩:=x
 have HX:=yD hx
 obtain ⟨q0,q1,q2,q3⟩:=q
 have HI:=yD hq
 have HF:=yD hf
 have ew:=yD ht
 obtain ⟨f6,f4,gp,gm,gj,gb,rfl,V,a9,bl,bi,bg,bo,b1,cf,du⟩:=yO hx.1
 obtain ⟨em,d7,rfl,gi,dx,dw,rfl,gf,e9,e6,rfl,gx,e7,e4,rfl,gz,e0,ey,rfl,g3,en,ej,rfl,gv⟩:=kD.sx V (kD.sx bi (kD.sx bg (kD.sx bo (kD.sx b1 (kD.sl cf)))))
 obtain ⟨jp,rfl,ag,el,fn,gu,g6⟩:=jY hq.1
 obtain ⟨dv,ek,rfl,j6⟩:=kD.sl el
 obtain ⟨gq,h7,iz,fw,iy,cd,f8,il⟩:=xV
 clear hx hq hf ht hB ag el fn gu g6 V a9 bl bi bg bo b1 cf du
 go_enter func6,ntmps6
 go_upto_region 1 with fail
 generalize o:World.alloc (World.alloc (World.alloc w _) _) _=w1
 obtain ⟨U,BX,BQ,BR,bj⟩:=xW
 clear o
 obtain ⟨aa,ac,ae,ad,af,am,ao,ap⟩:=yu BX
 go_wp2_with fail
 refine (jBe (HX.out.below U)).mono ?_
 rintro e w2 ⟨cs,rfl,O,hb⟩
 have bw:=hb.size
 replace BX:=kC BX hb
 replace BQ:=kC BQ hb
 obtain ⟨BR,U⟩:=CQ
 clear aa ac ae ad af am ao ap hb
 obtain ⟨hv,ib,it,iq,io,ik,rfl,fl,e8,fy,fk,e1,fz,f0,f5,gt⟩:=yO O.raw
 obtain ⟨bt,bu,rfl,hu,c5,de,rfl,ih,dz,d6,rfl,ip,dh,dg,rfl,iu,ch,ck,rfl,im,cl,cm,rfl,ij⟩:=kD.sx fl (kD.sx fk (kD.sx e1 (kD.sx fz (kD.sx f0 (kD.sl f5)))))
 clear fl e8 fy fk e1 fz f0 f5 gt
 go_upto_region 2 with fail
 have J:=yD O
 clear O
 replace J:=yD (J.out.wide (T:=(λj=>w.heap.size + 3<=j/\j < w2.heap.size/\j≠w2.heap.size)) gH)
 refine ja ?_
 intro w3 ah BO bz
 replace BX:=kC BX ah
 replace BQ:=kC BQ ah
 obtain ⟨BR,J,U⟩:=xZ
 clear ah
 obtain ⟨aa,ac,ae,ad,af,am,ao,ap⟩:=yu BX
 obtain ⟨aq,av,ax,aw⟩:=jW BQ
 go_upto_region 2 with fail
 have FX:=yD (λ(W:World) (hW:Qb w3 W)=>kJf hW ad af aq av ax aw)
 refine kL (λW=>Qb w3 W) [Tt,Ff,Tt,Tt,Tt,Ff,Tt,Tt,Tt,Tt,Tt,Tt,Tt,Tt,Ff,Tt] bR ?_
 intro wS E
 all_goals (refine kS ?_;(first | refine zi (kDu (HI.out.1.below (tQ U E))) (λwS1 E=>?_) | refine kS ?_);refine kS ?_;refine jT λb bh=>?_;cases b <;> try simp only [jS] at bh)
 all_goals (refine kS ?_;(first | refine wkC (yC) ?_ | refine kS ?_);refine kS ?_;refine kS ?_;refine jT λb b6=>?_;cases b <;> try simp only [jS] at b6)
 all_goals ((iterate 5 refine kS ?_);(first | refine zi (jGd (gq.out.below (tQ U E)) (h7.out.below (tQ U E)) (HI.out.below (tQ U E))) (λwS1 E=>?_) | refine kS ?_);refine jT λb co=>?_;cases b <;> try simp only [jS] at co)
 all_goals refine kM ?_
 all_goals rename World=>w4
 all_goals (have b5:=E.size;replace BX:=kC BX E;replace BQ:=kC BQ E;replace BR:=kC BR E;replace BO:=kC BO E;replace J:=yD (J.out.below E);replace U:=(tQ U E);clear aa ac ae ad af am ao ap aq av ax aw;clear E)
 all_goals first
   | (have L := yD (kGt (t := t) (show kBc (x0, (xc, xe), x2, x3, x4, x5, x6) f (q0, q1, q2, q3) = true by simp only [kBc, Bool.not_true, Bool.not_false, Bool.and_true, Bool.true_and, Bool.and_false, Bool.false_and, Bool.or_true, Bool.true_or, Bool.or_false, Bool.false_or, Bool.not_not, bh, b6, co]))
      obtain ⟨X,N,Z,R,ak,a6,an,a7,a8⟩:=zM BO
      obtain ⟨I,a2,ba,bc,bk,bq,bp,bn,bv⟩:=kCb BO
      go_upto_region 4 with fail
      generalize ft:wrap64 (x6 + 1)=y6
      obtain ⟨g7,cc⟩:=FD
      clear ft
      generalize o:World.setCell w4 _ _=w5
      have cg:Touch (λk=>k=w2.heap.size) w4 w5:=wY
      replace BO:Qr w5 w2 #[Qs bt x0 bu,Qn xc,Qs c5 xe de,Qs dz x2 d6,Qs dh x3 dg,Qs ch x4 ck,Qs cl x5 cm,Qn y6,.slice none 0 0] 43:=vY
      have b4:=cg.size
      clear o
      replace BX:=cg.kC BX bF2
      replace BQ:=cg.kC BQ bF2
      replace BR:=cg.kC BR bF2
      replace J:=yD (J.out.touch cg qV)
      replace U:=U.trans (cg.below U.size bB6)
      clear X N Z R ak a6 an a7 a8 I a2 ba bc bk bq bp bn bv cg
      replace J:=yD (kMk J.out g7.out)
      obtain ⟨X,N,Z,R,ak,a6,an,a7,a8⟩:=zM BO
      obtain ⟨ay,az,bf,be,b2,c8,c7,dc,c9⟩:=zM BR
      obtain ⟨al,aj,bb,bd,bx,cz,c3,c1,c4⟩:=kCb BR
      go_wp2
      refine bodyPost_ret (v:=.agg #[Qs bt x0 bu,Qn xc,Qs c5 xe de,Qs dz x2 d6,Qs dh x3 dg,Qs ch x4 ck,Qs cl x5 cm,Qn y6,.slice none 0 0]) dG rfl ⟨[Qs bt x0 bu,Qn xc,Qs c5 xe de,Qs dz x2 d6,Qs dh x3 dg,Qs ch x4 ck,Qs cl x5 cm,Qn y6,.slice none 0 0],rfl,?_,?_⟩
      · rw [L.out,cc.out];exact kMv (B:=λ_=>False) (J.out.touch sT9 sW) kD.yF fI (λ_ h=>h.elim) (λ_ _ h=>h)
      · exact U.trans (Touch.below sT9 U.size bB6))
   | skip
 have fh:=yD (show kBc (x0,(xc,xe),x2,x3,x4,x5,x6) f (q0,q1,q2,q3)=false by simp only [kBc,Bool.not_true,Bool.not_false,Bool.and_true,Bool.true_and,Bool.and_false,Bool.false_and,Bool.or_true,Bool.true_or,Bool.or_false,Bool.false_or,Bool.not_not,bh,b6,co])
 clear bh b6 co
 obtain ⟨aa,ac,ae,ad,af,am,ao,ap⟩:=yu BX
 obtain ⟨aq,av,ax,aw⟩:=jW BQ
 go_wp2_with fail
 refine (jBd (HX.out.below U) (cn:=[.slice dv q0.length ek]) (fw.out.below U) ew.out).mono ?_
 rintro e w5 ⟨ds,rfl,Od,hb⟩
 have b4:=hb.size
 obtain ⟨BX,BQ,BR,BO⟩:=uU
 obtain ⟨J,U⟩:=wP
 clear aa ac ae ad af am ao ap aq av ax aw hb
 obtain ⟨D,hD⟩:∃ D,fdD q0 t (x0,(xc,xe),x2,x3,x4,x5,x6)=D:=⟨_,rfl⟩
 rw [hD] at Od
 have HD:=yD hD
 clear hD
 obtain ⟨d0,d1,d2,d3,d4⟩:=D
 obtain ⟨js,jj,jk,rfl,fp,ef,ee,fv,eg,fu,fq⟩:=jf Od.raw
 obtain ⟨g4,h8,rfl,i9,hj,ia,rfl,ju,hd,ic,rfl,jt⟩:=kD.sx ef (kD.sx ee (kD.sl eg))
 clear fp ef ee fv eg fu fq
 have ez:=yD (Od)
 clear Od
 go_upto_region 6 with fail
 refine ja ?_
 intro w6 au BF df
 replace BX:=kC BX au
 replace BQ:=kC BQ au
 replace BR:=kC BR au
 replace BO:=kC BO au
 replace J:=yD (J.out.below au)
 replace ez:=yD (ez.out.below au)
 replace U:=(tQ U au)
 clear au
 cases gy:kNp q0 t (x0,(xc,xe),x2,x3,x4,x5,x6)
 · clear ez BF;obtain ⟨aa,ac,ae,ad,af,am,ao,ap⟩:=yu BX;obtain ⟨aq,av,ax,aw⟩:=jW BQ;go_wp2_with fail;refine (kSd (gq.out.below U) cd.out (HI.out.below U) HF.out ew.out).mono ?_;rintro e w7 ⟨v4,rfl,O4,hb⟩;have eo:=hb.size;obtain ⟨BX,BQ,BR,BO⟩:=uU;obtain ⟨J,U⟩:=wP;clear aa ac ae ad af am ao ap aq av ax aw hb;obtain ⟨P,hP⟩:∃ P,kDv (q0,q1,q2,q3) f t x2=P:=⟨_,rfl⟩;rw [hP] at O4;have HP:=yD hP;clear hP;obtain ⟨pa,pc,rfl,_⟩:=kD.sl O4.raw;cases hz:yY (q0,q1,q2,q3) f x2
   · have L:=yD (kGd (t:=t) fh.out gy hz);obtain ⟨X,N,Z,R,ak,a6,an,a7,a8⟩:=zM BO;obtain ⟨I,a2,ba,bc,bk,bq,bp,bn,bv⟩:=kCb BO;go_upto_region 14 with fail;generalize ft:wrap64 (x6 + 1)=y6;obtain ⟨g7,cc⟩:=FD;clear ft;generalize o:World.setCell w7 _ _=w8;have a4:Touch (λk=>k=w2.heap.size) w7 w8:=wY;replace BO:Qr w8 w2 #[Qs bt x0 bu,Qn xc,Qs c5 xe de,Qs dz x2 d6,Qs dh x3 dg,Qs ch x4 ck,Qs cl x5 cm,Qn y6,.slice none 0 0] 43:=vY;have d9:=a4.size;clear o;obtain ⟨BX,BQ,BR⟩:=CL;replace J:=yD (J.out.touch a4 qV);replace U:=U.trans (a4.below U.size bB6);clear X N Z R ak a6 an a7 a8 I a2 ba bc bk bq bp bn bv a4;replace J:=yD (kMk J.out g7.out);obtain ⟨X,N,Z,R,ak,a6,an,a7,a8⟩:=zM BO;obtain ⟨ay,az,bf,be,b2,c8,c7,dc,c9⟩:=zM BR;obtain ⟨al,aj,bb,bd,bx,cz,c3,c1,c4⟩:=kCb BR;go_wp2;refine bodyPost_ret (v:=.agg #[Qs bt x0 bu,Qn xc,Qs c5 xe de,Qs dz x2 d6,Qs dh x3 dg,Qs ch x4 ck,Qs cl x5 cm,Qn y6,.slice none 0 0]) dG rfl ⟨[Qs bt x0 bu,Qn xc,Qs c5 xe de,Qs dz x2 d6,Qs dh x3 dg,Qs ch x4 ck,Qs cl x5 cm,Qn y6,.slice none 0 0],rfl,?_,?_⟩
     · rw [L.out,cc.out];exact kMv (B:=λ_=>False) (J.out.touch sT9 sW) kD.yF fI (λ_ h=>h.elim) (λ_ _ h=>h)
     exact U.trans (Touch.below sT9 U.size bB6)
   have ab:=yD ((kFk J.out O4 pU).wide (T:=(λj=>w.heap.size + 3<=j/\j < w7.heap.size/\j≠w2.heap.size)) dB);clear J O4;obtain ⟨X,N,Z,R,ak,a6,an,a7,a8⟩:=zM BO;obtain ⟨I,a2,ba,bc,bk,bq,bp,bn,bv⟩:=kCb BO;go_upto_region 16 with fail;generalize o:World.setCell w7 _ _=w8;have a4:Touch (λk=>k=w2.heap.size) w7 w8:=wY;replace BO:Qr w8 w2 #[Qs bt x0 bu,Qn xc,Qs c5 xe de,Qs pa P pc,Qs dh x3 dg,Qs ch x4 ck,Qs cl x5 cm,Qn x6,.slice none 0 0] 43:=vW;have d9:=a4.size;clear o;obtain ⟨BX,BQ,BR⟩:=CL;obtain ⟨ab,U⟩:=FQ;clear X N Z R ak a6 an a7 a8 I a2 ba bc bk bq bp bn bv a4;have J:=yD (ab.out.wide (T:=(λj=>w.heap.size + 3<=j/\j < w8.heap.size/\j≠w2.heap.size)) vE);clear ab;obtain ⟨aq,av,ax,aw⟩:=jW BQ;go_wp2_with fail;refine (kQg (HI.out.below U)).mono ?_;rintro e w9 ⟨yc,rfl,Oy,hb⟩;have et:=hb.size;obtain ⟨BX,BQ,BR,BO⟩:=uU;obtain ⟨J,U⟩:=wP;clear aq av ax aw hb;obtain ⟨Y,hY⟩:∃ Y,kQj (q0,q1,q2,q3)=Y:=⟨_,rfl⟩;rw [hY] at Oy;have i6:=yD hY;clear hY;obtain ⟨y0,y1,y2,y3⟩:=Y;obtain ⟨jn,rfl,fe,er,fj,f1,h3⟩:=jY Oy.raw;obtain ⟨f7,f9,rfl,i5⟩:=kD.sl er;clear fe er fj f1 h3;have HY:=yD (Oy);clear Oy;go_upto_region 17 with fail;refine ja ?_;intro cw ce BY d8;replace BX:=kC BX ce;replace BQ:=kC BQ ce;replace BR:=kC BR ce;replace BO:=kC BO ce;replace J:=yD (J.out.below ce);replace HY:=yD (HY.out.below ce);replace U:=(tQ U ce);clear ce;obtain ⟨aa,ac,ae,ad,af,am,ao,ap⟩:=yu BX;obtain ⟨aq,av,ax,aw⟩:=jW BQ;go_wp2_with fail;refine (kQd (HX.out.below U) (cn:=[.slice dv q0.length ek]) (fw.out.below U) HF.out il).mono ?_;rintro e c6 ⟨vf,rfl,Of,hb⟩;have e5:=hb.size;obtain ⟨BX,BQ,BR,BO⟩:=uU;obtain ⟨BY,J,HY⟩:=CZ;replace U:=(tQ U hb);clear aa ac ae ad af am ao ap aq av ax aw hb;have gg:=outF_len (x:=(x0,(xc,xe),x2,x3,x4,x5,x6)) (n:=q0) (ex:=f);obtain ⟨fs,hm⟩:∃ fs,kIp (x0,(xc,xe),x2,x3,x4,x5,x6) q0 f=fs:=⟨_,rfl⟩;rw [hm] at Of gg;have es:=yD hm;clear hm;replace gg:fs.length<=x4.length:=gg;obtain ⟨fa,fc,rfl,_⟩:=kD.sl Of.raw;have eu:=yD (Of);clear Of;obtain ⟨aa,ac,ae,ad,af,am,ao,ap⟩:=yu BX;obtain ⟨aq,av,ax,aw⟩:=jW BQ;generalize fi:kJq (q0,q1,q2,q3)=ok;have g9:=yD fi;clear fi;go_upto_region 18 with fail;have FX:=yD (λ(W:World) (hW:Qb c6 W)=>kQm hW ad aq);refine kL (λW=>Qb c6 W) [Tt,Tt,Tt,Tt,Ff,Tt,Tt,Tt,Tt,Tt,Tt,Ff,Tt,Tt,Tt,Tt,Tt,Tt,Tt,Tt,Tt,Tt,Tt] bR ?_;intro wS E;all_goals ((iterate 4 refine kS ?_);(first | refine zi (kVl (gq.out.1.below (tQ U E)) (cn:=[.slice dv q0.length ek]) (fw.out.1.below (tQ U E))) (λwS1 E=>?_) | refine kS ?_);refine jT λb a3=>?_;cases b <;> try simp only [jS] at a3)
   all_goals ((iterate 5 refine kS ?_);(first | refine zi (kVk (gq.out.1.below (tQ U E)) (cn:=[.slice dv q0.length ek]) (fw.out.1.below (tQ U E))) (λwS1 E=>?_) | refine kS ?_);refine kS ?_;refine kS ?_;refine jT λb dp=>?_;cases b <;> try simp only [jS] at dp)
   all_goals ((iterate 3 refine kS ?_);refine jT λb dr=>?_;cases b <;> try simp only [jS] at dr)
   all_goals ((iterate 3 refine kS ?_);refine jT λb d5=>?_;cases b <;> try simp only [jS] at d5)
   all_goals refine kM ?_
   all_goals rename World=>dk
   all_goals (have fg:=E.size;replace BX:=kC BX E;replace BQ:=kC BQ E;replace BR:=kC BR E;replace BO:=kC BO E;replace BY:=kC BY E;replace J:=yD (J.out.below E);replace HY:=yD (HY.out.below E);replace eu:=yD (eu.out.below E);replace U:=(tQ U E);clear aa ac ae ad af am ao ap aq av ax aw;clear E)
   all_goals first
     | (have L := yD (kGc fh.out gy hz (show zb (x0, (xc, xe), x2, x3, x4, x5, x6) f (q0, q1, q2, q3) t = true by simp only [zb, g9.out, es.out, Bool.not_true, Bool.not_false, Bool.and_true, Bool.true_and, Bool.and_false, Bool.false_and, Bool.or_true, Bool.true_or, Bool.or_false, Bool.false_or, Bool.not_not, a3, dp, dr, d5]))
        obtain ⟨X,N,Z,R,ak,a6,an,a7,a8⟩:=zM BO
        obtain ⟨ay,az,bf,be,b2,c8,c7,dc,c9⟩:=zM BR
        obtain ⟨al,aj,bb,bd,bx,cz,c3,c1,c4⟩:=kCb BR
        go_wp2
        refine bodyPost_ret (v:=.agg #[Qs bt x0 bu,Qn xc,Qs c5 xe de,Qs pa P pc,Qs dh x3 dg,Qs ch x4 ck,Qs cl x5 cm,Qn x6,.slice none 0 0]) dG rfl ⟨[Qs bt x0 bu,Qn xc,Qs c5 xe de,Qs pa P pc,Qs dh x3 dg,Qs ch x4 ck,Qs cl x5 cm,Qn x6,.slice none 0 0],rfl,?_,?_⟩
        · rw [L.out];simp only [HP.out];exact kMv (B:=λ_=>False) (J.out.touch sT9 sW) kD.yF fI (λ_ h=>h.elim) (λ_ _ h=>h)
        · exact U.trans (Touch.below sT9 U.size bB6))
     | skip
   all_goals
     (have hn:=yD (show zb (x0,(xc,xe),x2,x3,x4,x5,x6) f (q0,q1,q2,q3) t=false by simp only [zb,g9.out,es.out,Bool.not_true,Bool.not_false,Bool.and_true,Bool.true_and,Bool.and_false,Bool.false_and,Bool.or_true,Bool.true_or,Bool.or_false,Bool.false_or,Bool.not_not,a3,dp,dr,d5])
      have L:=yD (kIa fh.out gy hz hn.out)
      clear a3 dp dr d5
      obtain ⟨aq,av,ax,aw⟩:=jW BQ
      go_wp2_with fail
      refine (jBc (jAl J.out.rd) (cn:=[.slice dv q0.length ek]) (fw.out.below U) ew.out).mono ?_
      rintro e f3 ⟨v6,rfl,O6,hb⟩
      have gd:=hb.size
      obtain ⟨BX,BQ,BR,BO⟩:=uU
      obtain ⟨BY,J,HY⟩:=CZ
      replace eu:=yD (eu.out.below hb)
      replace U:=(tQ U hb)
      clear aq av ax aw hb
      obtain ⟨P2,h4⟩:∃ P2,kHm q0 t P=P2:=⟨_,rfl⟩
      rw [h4] at O6
      have hs:=yD h4
      clear h4
      obtain ⟨ra,rc,rfl,_⟩:=kD.sl O6.raw
      have ab:=yD ((kFk J.out O6 pU).wide (T:=(λj=>w.heap.size + 3<=j/\j < f3.heap.size/\j≠w2.heap.size)) dB)
      clear J O6
      obtain ⟨X,N,Z,R,ak,a6,an,a7,a8⟩:=zM BO
      obtain ⟨I,a2,ba,bc,bk,bq,bp,bn,bv⟩:=kCb BO
      go_upto_region 21 with fail
      generalize o:World.setCell f3 _ _=di
      have ar:Touch (λk=>k=w2.heap.size) f3 di:=wY
      replace BO:Qr di w2 #[Qs bt x0 bu,Qn xc,Qs c5 xe de,Qs ra P2 rc,Qs dh x3 dg,Qs ch x4 ck,Qs cl x5 cm,Qn x6,.slice none 0 0] 43:=vW
      have h5:=ar.size
      clear o
      replace BX:=ar.kC BX bF2
      replace BQ:=ar.kC BQ bF2
      replace BR:=ar.kC BR bF2
      replace BY:=ar.kC BY bF2
      replace HY:=yD (HY.out.touch ar qV)
      replace eu:=yD (eu.out.touch ar qV)
      replace ab:=yD (ab.out.touch ar qV)
      replace U:=U.trans (ar.below U.size bB6)
      clear X N Z R ak a6 an a7 a8 I a2 ba bc bk bq bp bn bv ar
      have J:=yD (ab.out.wide (T:=(λj=>w.heap.size + 3<=j/\j < di.heap.size/\j≠w2.heap.size)) vE)
      clear ab
      obtain ⟨aa,ac,ae,ad,af,am,ao,ap⟩:=yu BX
      obtain ⟨aq,av,ax,aw⟩:=jW BQ
      go_wp2_with fail
      refine (kMo (gq.out.below U) (cn:=[.slice dv q0.length ek]) (fw.out.below U) HF.out).mono ?_
      rintro e eb ⟨rfl,hb⟩
      have hl:=hb.size
      obtain ⟨BX,BQ,BR,BO⟩:=uU
      replace BY:=kC BY hb
      replace HY:=yD (HY.out.below hb)
      replace eu:=yD (eu.out.below hb)
      obtain ⟨J,U⟩:=wP
      clear aa ac ae ad af am ao ap aq av ax aw hb
      obtain ⟨kn,dq⟩:∃ b,kTe x2 q0 f=b:=⟨_,rfl⟩
      rw [dq]
      have eq:=yD dq
      clear dq
      have hc:0 < fs.length:=cO
      obtain ⟨F,hF⟩:∃ F,kGf (x0,(xc,xe),x2,x3,x4,x5,x6) f (q0,q1,q2,q3)=F:=⟨_,rfl⟩
      have i0:=yD hF
      have gw:Hid (F=if kn then fs else fs.take 1):=yD bE
      clear hF
      have br:=(kD.kBj eu.out.raw).1
      have dj:1<=fc:=bF2
      have eh:(1:Int)<=fc:=bF2
      have ho:¬ fc < 1:=bF2
      have i2:¬ fc=0:=bF2
      clear br
      obtain ⟨fm,ig⟩:=jEo gw.out hc eu.out.raw
      have i7:=yD ig
      clear ig
      have j7:=jEq gw.out
      obtain ⟨_,fb,fo,rfl,gh,j0⟩:=kD.kGu eu.out hc
      have jx:=gh.1
      have jz:=gh.2
      clear gh
      replace J:=yD (J.out.wide (T:=(λj=>w.heap.size + 3<=j/\j < eb.heap.size/\j≠w2.heap.size)) qP)
      replace HY:=yD (HY.out.wide (T:=(λj=>w.heap.size + 3<=j/\j < eb.heap.size/\j≠w2.heap.size)) gJ)
      clear eu BX BQ
      cases kn
      all_goals
        (go_wp2
         go_loopw [149] (λi wr=>∃ (k:Nat) (ga:Option Addr) (gn gc:Nat),i=.int .i64 k/\k<=F.length/\Hid (kD.kY 62 jO wr (.slice ga gn gc) ((F.take k).map (kJj (y0,y1,y2,y3))) (λj=>eb.heap.size<=j/\j < wr.heap.size))/\Hid (jo.own wr [Qs bt x0 bu,Qn xc,Qs c5 xe de,Qs ra P2 rc,Qs dh x3 dg,Qs ch x4 ck,Qs cl x5 cm,Qn x6] (x0,(xc,xe),P2,x3,x4,x5,x6) (λj=>w.heap.size + 3<=j/\j < eb.heap.size/\j≠w2.heap.size))/\Hid (jM.own wr [Qs f7 y0 f9,Qn y1,Qn y2,Qn y3] (y0,y1,y2,y3) (λj=>w.heap.size + 3<=j/\j < eb.heap.size/\j≠w2.heap.size))/\Qr wr (w.heap.size + 2) #[.slice none 0 0,Qn 0,.slice none 0 0,.slice none 0 0,.slice none 0 0,.slice none 0 0,.slice none 0 0,Qn 0,.slice none 0 0] 43/\Qr wr w2 #[Qs bt x0 bu,Qn xc,Qs c5 xe de,Qs ra P2 rc,Qs dh x3 dg,Qs ch x4 ck,Qs cl x5 cm,Qn x6,.slice ga gn gc] 43/\Qr wr w9 (Qk f7 y0 f9 y1 y2 y3) 38/\Touch (λj=>j=w2.heap.size\/eb.heap.size<=j) eb wr/\Qb w wr) (λi _=>F.length - (intOf i).toNat)
         case atStart=>exact ⟨0,none,0,0,rfl,Nat.zero_le _,yD kD.kY.void,J,HY,BR,BO,BY,Touch.of_below bR,U⟩
         case round =>
           rename World=>wq;clear J HY BR BO BY U;obtain ⟨k,ga,gn,gc,rfl,hk,HQ,J,HY,BR,BO,BY,TL,U⟩:=hrel;have b9:=Int.natCast_nonneg k;have ir:=TL.size;have f2:((F.take k).map (kJj (y0,y1,y2,y3))).length<=k:=bE6;by_cases hlt:k < F.length
           · obtain ⟨j8,j3,g5,g0,gr,G0⟩:=kD.kCk i7.out hlt rfl;simp only [Option.some.injEq,Addr.mk.injEq,and_true] at g5;obtain ⟨rfl,rfl⟩:=g5;obtain ⟨ge,ii⟩:=kD.yX gr;obtain rfl:g0=_:=by simpa using ge
             have b3:=List.take_succ_eq_append_getElem hlt;generalize F[k]=g at *;have bm:=yD b3;have iv:Hid (Qi g):=yD ii;clear b3 ii ge gr;have G1:=TL.kJr G0 bF2;clear G0;have dt:(k:Int) < fs.length:=bF2;try have fd:(k:Int) < 1:=by have:=jEp gw.out hc;omega
             obtain ⟨X,N,Z,R,ak,a6,an,a7,a8⟩:=zM BO;obtain ⟨cv,dm,dl,dn⟩:=jW BY;go_upto_region 26 with fail;have FX:=yD (λ(W:World) (hW:Qb wq W)=>kTx hW a8 cv dm dl dn);refine zZ (λW=>Qb wq W) [Tt,Tt,Tt,Tt,Ff,Tt,Ff] bE5 bE5 qW (bR.drew) ?_;intro wS E;all_goals ((iterate 4 refine kS ?_);(first|(refine kI rfl E ?_)|(refine ku rfl (λK H=>?_);go_simp;refine (kEn (HY.out.rd.below E)).mono ?_;rintro e wT ⟨tc,rfl,O,ai⟩;obtain ⟨fr,rfl,b7,dy,ed,e3,ei⟩:=jY O.raw;obtain ⟨b0,dd,rfl,g8⟩:=kD.sl dy;clear b7 dy ed e3 ei;have HC:=yD O;have i8:=ai.size;have fx:=E.size;replace E:=(tQ E ai);refine H _ _ E ?_;clear H K ai O));refine jH ?_;refine kS ?_;(first|(refine kI rfl E ?_)|(refine ku rfl (λK H=>?_);go_simp;refine H _ _ (E.alloc E.size _) ?_;clear H K));refine jH ?_;refine yt ?_)
             go_wp2_with (at_builtin;refine kD.kCh rfl _ _ 41 rfl (r:=jO) (e:=62) underlying41 kCg rfl bF1 bF1 (w:=wT) (HQ.out.below E) bF4 bF4 rfl (jAg iv.out HC.out) rfl qH bF2 ?_);intro v2 gs hQ db;have hT:Touch (λj=>eb.heap.size<=j) wq gs:=(Touch.of_below (E.alloc E.size _)).trans (db.wide (λj q=>by have:=q.2;omega));have i1:=hT.size;have gl:=db.size;have h6:wT.heap.size + 1<=gs.heap.size:=bD1;clear db gl G1 E;obtain ⟨g2,n2,c2,rfl⟩:∃ a n c,v2=.slice a n c:=pQ;clear HQ;have HQ:=yD ((kD.kY.cast hQ (show _=(F.take (k + 1)).map (kJj (y0,y1,y2,y3)) by rw [bm.out,List.map_append,List.map_take];rfl)).wide (T:=λj=>eb.heap.size<=j/\j < gs.heap.size) gK);clear hQ;obtain ⟨TL,BR,BO,BY,J,HY,U⟩:=EI;clear X N Z R ak a6 an a7 a8 cv dm dl dn hT HC;obtain ⟨X,N,Z,R,ak,a6,an,a7,a8⟩:=zM BO;obtain ⟨I,a2,ba,bc,bk,bq,bp,bn,bv⟩:=kCb BO;go_wp2;generalize o:World.setCell gs _ _=g1;have a1:Touch (λk=>k=w2.heap.size) gs g1:=wY;replace BO:Qr g1 w2 #[Qs bt x0 bu,Qn xc,Qs c5 xe de,Qs ra P2 rc,Qs dh x3 dg,Qs ch x4 ck,Qs cl x5 cm,Qn x6,.slice g2 n2 c2] 43:=vX;have i4:=a1.size;clear o;replace TL:=TL.trans (a1.wide (λj q=>.inl q));replace BR:=a1.kC BR bF2;replace BY:=a1.kC BY bF2;replace J:=yD (J.out.touch a1 qV);replace HY:=yD (HY.out.touch a1 qV);replace HQ:=yD (HQ.out.touch a1 qV);replace U:=U.trans (a1.below U.size bB6);clear X N Z R ak a6 an a7 a8 I a2 ba bc bk bq bp bn bv a1;replace HQ:=yD (HQ.out.wide (T:=λj=>eb.heap.size<=j/\j < g1.heap.size) (λj q=>⟨q.1,by omega⟩));refine Qg ?_;exact ⟨k + 1,g2,n2,c2,by go_num,by omega,HQ,J,HY,BR,BO,BY,TL,U⟩
           · obtain rfl:k=F.length:=bF2;replace HQ:=yD (kD.kY.cast HQ.out (show _=F.map (kJj (y0,y1,y2,y3)) by rw [List.take_length]));first|(have fd:¬ ((F.length:Int) < 1):=by have:=jEp gw.out hc;omega)|(have fd:¬ ((F.length:Int) < fs.length):=by rw [show F=fs from gw.out];omega)
             obtain ⟨X,N,Z,R,ak,a6,an,a7,a8⟩:=zM BO;obtain ⟨ay,az,bf,be,b2,c8,c7,dc,c9⟩:=zM BR;obtain ⟨al,aj,bb,bd,bx,cz,c3,c1,c4⟩:=kCb BR;go_wp2;refine bodyPost_ret (v:=.agg #[Qs bt x0 bu,Qn xc,Qs c5 xe de,Qs ra P2 rc,Qs dh x3 dg,Qs ch x4 ck,Qs cl x5 cm,Qn x6,.slice ga gn gc]) dG rfl ⟨[Qs bt x0 bu,Qn xc,Qs c5 xe de,Qs ra P2 rc,Qs dh x3 dg,Qs ch x4 ck,Qs cl x5 cm,Qn x6,.slice ga gn gc],rfl,?_,?_⟩
             · rw [L.out];simp only [HP.out,hs.out,i0.out,i6.out];exact kMv (J.out.touch sT9 sW) ((HQ.out.touch sT9 sW).own wI) fI fU qU
             · exact U.trans (Touch.below sT9 U.size bB6)))
 have L:=yD (kGe (t:=t) fh.out gy)
 have j5:Hid (w4.heap.size<=w6.heap.size):=yD bF2
 obtain ⟨aa,ac,ae,ad,af,am,ao,ap⟩:=yu BX
 obtain ⟨aq,av,ax,aw⟩:=jW BQ
 go_wp2_with fail
 refine (implTouch_c (iz.out.below U) (cn:=[.slice dv q0.length ek]) (fw.out.below U) ew.out).mono ?_
 rintro e w7 ⟨ec,rfl,Oe,hb⟩
 have eo:=hb.size
 obtain ⟨BX,BQ,BR,BO⟩:=uU
 replace BF:=kC BF hb
 replace J:=yD (J.out.below hb)
 replace ez:=yD (ez.out.below hb)
 replace U:=(tQ U hb)
 clear aa ac ae ad af am ao ap aq av ax aw hb
 obtain ⟨ev,he⟩:∃ ev,kDs q0 t (xc,xe)=(xc,ev):=⟨_,rfl⟩
 rw [he] at Oe
 have HE:=yD he
 clear he
 obtain ⟨sv,rfl,ff,ie⟩:=jN Oe.raw
 obtain ⟨ea,ep,rfl,_⟩:=kD.sl ie
 clear ff ie
 have ab:=yD ((kKh J.out Oe pU).wide (T:=(λj=>w.heap.size + 3<=j/\j < w7.heap.size/\j≠w2.heap.size/\¬ (w4.heap.size<=j/\j < w5.heap.size))) bK)
 clear J Oe
 obtain ⟨X,N,Z,R,ak,a6,an,a7,a8⟩:=zM BO
 obtain ⟨I,a2,ba,bc,bk,bq,bp,bn,bv⟩:=kCb BO
 go_upto_region 8 with fail
 generalize o:World.setCell (World.setCell w7 _ _) _ _=w8
 have a4:Touch (λk=>k=w2.heap.size) w7 w8:=bA3
 replace BO:Qr w8 w2 #[Qs bt x0 bu,Qn xc,Qs ea ev ep,Qs dz x2 d6,Qs dh x3 dg,Qs ch x4 ck,Qs cl x5 cm,Qn x6,.slice none 0 0] 43:=by rw [<- o];exact kG (kG (BO) 1) 2
 have d9:=a4.size
 clear o
 obtain ⟨BX,BQ,BR⟩:=CL
 replace BF:=a4.kC BF bF2
 replace ez:=yD (ez.out.touch a4 qV)
 obtain ⟨ab,U⟩:=FQ
 clear X N Z R ak a6 an a7 a8 I a2 ba bc bk bq bp bn bv a4
 have J:=yD (ab.out.wide (T:=(λj=>w.heap.size + 3<=j/\j < w8.heap.size/\j≠w2.heap.size/\¬ (w4.heap.size<=j/\j < w5.heap.size))) vE)
 clear ab
 obtain ⟨aa,ac,ae,ad,af,am,ao,ap⟩:=yu BX
 obtain ⟨aq,av,ax,aw⟩:=jW BQ
 go_wp2_with fail
 refine (kSc (h7.out.below U) f8 (cn:=[.slice dv q0.length ek]) (fw.out.below U) iy.out).mono ?_
 rintro e w9 ⟨v9,rfl,O9,hb⟩
 have et:=hb.size
 obtain ⟨BX,BQ,BR,BO⟩:=uU
 replace BF:=kC BF hb
 replace ez:=yD (ez.out.below hb)
 obtain ⟨J,U⟩:=wP
 clear aa ac ae ad af am ao ap aq av ax aw hb
 obtain ⟨sn,b3⟩:∃ s,zX x3 q0 q1=s:=⟨_,rfl⟩
 rw [b3] at O9
 have bm:=yD b3
 clear b3
 obtain ⟨sa,sc,rfl,_⟩:=kD.sl O9.raw
 have ab:=yD ((kMj J.out O9 pU).wide (T:=(λj=>w.heap.size + 3<=j/\j < w9.heap.size/\j≠w2.heap.size/\¬ (w4.heap.size<=j/\j < w5.heap.size))) bS)
 clear J O9
 obtain ⟨X,N,Z,R,ak,a6,an,a7,a8⟩:=zM BO
 obtain ⟨I,a2,ba,bc,bk,bq,bp,bn,bv⟩:=kCb BO
 go_upto_region 9 with fail
 generalize o:World.setCell w9 _ _=cw
 have a5:Touch (λk=>k=w2.heap.size) w9 cw:=wY
 replace BO:Qr cw w2 #[Qs bt x0 bu,Qn xc,Qs ea ev ep,Qs dz x2 d6,Qs sa sn sc,Qs ch x4 ck,Qs cl x5 cm,Qn x6,.slice none 0 0] 43:=vZ
 have d8:=a5.size
 clear o
 replace BX:=a5.kC BX bF2
 replace BQ:=a5.kC BQ bF2
 replace BR:=a5.kC BR bF2
 replace BF:=a5.kC BF bF2
 replace ez:=yD (ez.out.touch a5 qV)
 replace ab:=yD (ab.out.touch a5 qV)
 replace U:=U.trans (a5.below U.size bB6)
 clear X N Z R ak a6 an a7 a8 I a2 ba bc bk bq bp bn bv a5
 have J:=yD (ab.out.wide (T:=(λj=>w.heap.size + 3<=j/\j < cw.heap.size/\j≠w2.heap.size/\¬ (w4.heap.size<=j/\j < w5.heap.size))) vE)
 clear ab
 obtain ⟨X,N,Z,R,ak,a6,an,a7,a8⟩:=zM BO
 obtain ⟨hp,hr,h0,hh,hw⟩:=yZ BF
 obtain ⟨I,a2,ba,bc,bk,bq,bp,bn,bv⟩:=kCb BO
 have h9:(World.alloc cw (.cells #[.int .i64 f,.bool false,.slice none 0 0,.int .i64 0,.int .i64 0,.int .i64 0,.slice g4 d0.length h8,.slice hj d1.length ia,.slice hd d2.length ic,.int .i64 d3,.int .i64 d4] 62)).frozen? ⟨w2,8,none⟩=false:=(frozen?_alloc_cells _ _ _ _).trans bv
 have ha:(World.alloc cw (.cells #[.int .i64 f,.bool false,.slice none 0 0,.int .i64 0,.int .i64 0,.int .i64 0,.slice g4 d0.length h8,.slice hj d1.length ia,.slice hd d2.length ic,.int .i64 d3,.int .i64 d4] 62)).cell? ⟨w2,8,none⟩=some (.slice none 0 0):=kE (kC BO (bR.alloc nL _)) rfl
 go_upto_region 10 with fail
 generalize G:World.alloc cw _=c6
 have b8:Qb cw c6:=by rw [<- G];exact bR.alloc nL _
 have BS:Qr c6 cw #[.int .i64 f,.bool false,.slice none 0 0,.int .i64 0,.int .i64 0,.int .i64 0,.slice g4 d0.length h8,.slice hj d1.length ia,.slice hd d2.length ic,.int .i64 d3,.int .i64 d4] 62:=by rw [<- G];exact jD rfl
 have e5:cw.heap.size + 1<=c6.heap.size:=by rw [<- G];simp
 clear G
 replace BX:=kC BX b8
 replace BQ:=kC BQ b8
 replace BR:=kC BR b8
 replace BO:=kC BO b8
 replace BF:=kC BF b8
 replace ez:=yD (ez.out.below b8)
 replace J:=yD (J.out.below b8)
 replace U:=(tQ U b8)
 clear X N Z R ak a6 an a7 a8 hp hr h0 hh hw I a2 ba bc bk bq bp bn bv h9 ha b8
 generalize o:World.setCell c6 _ _=dk
 have da:Touch (λk=>k=w2.heap.size) c6 dk:=wY
 replace BO:Qr dk w2 #[Qs bt x0 bu,Qn xc,Qs ea ev ep,Qs dz x2 d6,Qs sa sn sc,Qs ch x4 ck,Qs cl x5 cm,Qn x6,.slice (some ⟨cw,0,none⟩) 1 1] 43:=vX
 have fg:=da.size
 clear o
 replace BX:=da.kC BX bF2
 replace BQ:=da.kC BQ bF2
 replace BR:=da.kC BR bF2
 replace BF:=da.kC BF bF2
 replace BS:=da.kC BS bF2
 replace ez:=yD (ez.out.touch da qV)
 replace J:=yD (J.out.touch da qV)
 replace U:=U.trans (da.below U.size bB6)
 clear da
 have HQ:=yD ((own0_box BS (jAh HF.out ez.out) (λq=>by have:=q.1;have:=q.2;omega)).wide (T:=λj=>(w4.heap.size<=j/\j < w5.heap.size)\/j=cw.heap.size) (λj q=>q.imp (λq=>⟨q.1,q.2⟩) id))
 obtain ⟨X,N,Z,R,ak,a6,an,a7,a8⟩:=zM BO
 obtain ⟨ay,az,bf,be,b2,c8,c7,dc,c9⟩:=zM BR
 obtain ⟨al,aj,bb,bd,bx,cz,c3,c1,c4⟩:=kCb BR
 go_wp2
 refine bodyPost_ret (v:=.agg #[Qs bt x0 bu,Qn xc,Qs ea ev ep,Qs dz x2 d6,Qs sa sn sc,Qs ch x4 ck,Qs cl x5 cm,Qn x6,.slice (some ⟨cw,0,none⟩) 1 1]) dG rfl ⟨[Qs bt x0 bu,Qn xc,Qs ea ev ep,Qs dz x2 d6,Qs sa sn sc,Qs ch x4 ck,Qs cl x5 cm,Qn x6,.slice (some ⟨cw,0,none⟩) 1 1],rfl,?_,?_⟩
 · rw [L.out];simp only [HE.out,bm.out,HD.out];exact kMv (J.out.touch sT9 sW) ((HQ.out.touch sT9 (λj h1 h2=>by omega)).own (show 1<=Big by unfold Big;omega)) fI nJ gW
 exact U.trans (Touch.below sT9 U.size bB6)
end Go.Proofs.YthocbplmdjkifaaGreat

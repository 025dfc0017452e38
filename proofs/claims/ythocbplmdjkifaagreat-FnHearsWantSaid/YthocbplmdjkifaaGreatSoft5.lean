/-
  Regions in two phases whose later operations may wait for the head alone. No program in sight.
-/
import Derived.Test.YthocbplmdjkifaaGreatMeas
set_option linter.unusedVariables false
set_option linter.defProp false
set_option linter.unusedSimpArgs false
set_option linter.unnecessarySimpa false
set_option maxRecDepth 100000
set_option maxHeartbeats 4000000
open Bool renaming true->Tt,false->Ff
open Bool renaming and_eq_true->Aa,not_false->Ag,true_and->Ai,false_or->Aj,and_false->Ap,false_and->Aq,not_true->Aw,and_true->Ay,or_false->Az,or_true->Be,true_or->Bf,not_not->Bg,not_eq_true'->Bq
open _root_ renaming List->Ab,decide_eq_true_eq->Ae,Array->Bw
open Int renaming eq_ofNat_of_zero_le->Ac,toNat_natCast->Ah
open Go renaming World->Ad,Calls->Ba,Value->Bi,HeadInv->Bv
open Array renaming replicate->Ak,getElem?_eq_getElem->Ar
open Go.Proofs.Tryz renaming underlying31->Al,underlying30->Bo
open Go.Region renaming ready->Am,Mode->Av,waitsFor_spec->Bl,waitsFor->Bt,noSelect->Bu
open Go.Value.slice renaming injEq->Au
open List renaming getElem?_cons_succ->Bb,getElem?_cons_zero->Bc,all_eq_true->Bd,mem_append->Bh,mem_singleton->Bn
open Go.IntWalk renaming i64_in->Bj
open Go.IntKind renaming i64->Br
namespace Go.Proofs.YthocbplmdjkifaaGreat
open Go.RowKit _root_.Go.Proofs.Tryz
def kPc (x y:jI):Bool:=!((x.2.1 != y.2.1) || ((x.2.2 != y.2.2) || !eqN x.1 y.1))
def kYu (x y:jI):kPc x y=decide (x=y):=by
 obtain ⟨x0,x1,x2⟩:=x;obtain ⟨y0,y1,y2⟩:=y;rw [Bool.eq_iff_iff];simp [kPc,eqN];exact nO
def kSy {w:Ad} {va O:Bi} {a b:(Ab jI)} (V:(kD.slice 176 jA).raw w [va] a) (ag:(kD.slice 176 jA).raw w [O] b) :
    Ba prog 159 #[va,O] w (bQ w (.bool (decide (a=b)))):=by
 obtain ⟨aa,al,rfl,la,ab,ar,rfl,lb⟩:=kD.sx V (kD.sl ag)
 go_enter func159,ntmps159
 by_cases hl:a.length=b.length
 case neg =>
  exact iQ
 obtain ⟨hz,HL⟩:=uX
 clear hl
 go_wp2
 go_loopw [5] (λi wr=>∃ k:Nat,k<=a.length/\i=.int .i64 k/\Hid (a.take k=b.take k)/\Qb w wr) (λi _=>a.length - (intOf i).toNat)
 case atStart=>exact ⟨0,Nat.zero_le _,rfl,yD rfl,bR⟩
 obtain ⟨k,hk,rfl,Y,o⟩:=hrel
 by_cases hlt:k < a.length
 · have ai:k < b.length:=wZ;obtain ⟨pb,po,rfl,bg,bl,bm,pr,ax,a3,bc⟩:=kD.zL (V.below o) (i:=k) bF2 rfl;obtain ⟨qb,qo,rfl,ac,ae,af,qr,ap,aq,au⟩:=kD.zL (ag.below o) (i:=k) bF2 rfl;obtain ⟨hne,H⟩:=vN;generalize a[k]=x at *;generalize b[k]=y at *;obtain ⟨HD,HX⟩:=uV;have I:=yD (kYu x y);clear hne H;obtain ⟨x0,x1,x2⟩:=x;obtain ⟨y0,y1,y2⟩:=y;obtain ⟨rfl,rfl,a2,az,a9,ay⟩:=yI pr;obtain ⟨a8,bf,rfl,bo⟩:=kD.sl az;obtain ⟨rfl,rfl,ah,aj,ak,aw⟩:=yI qr;obtain ⟨ad,a4,rfl,a6⟩:=kD.sl aj;go_wp2_with fail;have FX:=yD (λ(W:Ad) (hW:Qb wr W)=>kJf hW ax a3 bc ap aq au);refine kK (λW=>Qb wr W) [Tt,Tt,Tt,Tt,Tt,Tt,Tt,Tt,Tt,Tt,Tt,Tt,Tt,Tt,Tt,Tt,Tt,Tt,Tt,Tt,Tt,Tt,Tt,Tt,Tt,Tt,Tt,Tt,Tt,Tt,Tt,Tt,Tt,Tt,Tt,Ff,Tt,Tt] bE5 bE5 qW (bR.drew) ?_;intro wS E;all_goals ((iterate 11 refine kS ?_);refine jT λb an=>?_;cases b <;> try simp only [jS] at an)
   all_goals ((iterate 12 refine kS ?_);refine jT λb J=>?_;cases b <;> try simp only [jS] at J)
   all_goals ((iterate 10 refine kS ?_);(first | refine zi (jU (kD.raw.below a2 E) (kD.raw.below ah E)) (λwS1 E=>?_) | refine kS ?_);refine kS ?_;refine jT λb F=>?_;cases b <;> try simp only [jS] at F)
   all_goals (refine kM ?_;have D:=(tQ o E))
   all_goals first
     | (have X:=I.out.symm.trans (show _=false by simp only [kPc,Aw,Ag,Ay,Ai,Ap,Aq,Be,Bf,Az,Aj,Bg,an,J,F]);have L:=yD (HD.out X);clear X I HD HX;go_wp2;go_ret;exact ⟨kJ L.out.symm,D⟩)
     | (have X:=I.out.symm.trans (show _=true by simp only [kPc,Aw,Ag,Ay,Ai,Ap,Aq,Be,Bf,Az,Aj,Bg,an,J,F]);have L:=yD (HX.out X);clear X I HD HX;refine Qg ?_;exact ⟨k + 1,by omega,by go_num,L,D⟩)
 exact iV
def kRl (x y:jI):Bool:=(eqN x.1 y.1 && (x.2.1==y.2.1)) && (x.2.2==y.2.2)
def vRoute_eq (x y:jI):kRl x y=decide (x=y):=by
 obtain ⟨x0,x1,x2⟩:=x;obtain ⟨y0,y1,y2⟩:=y;rw [Bool.eq_iff_iff];simp [kRl,eqN,and_assoc]
def kSa {w:Ad} {cx:Ab Bi} {x:jI} (hx:jA.raw w cx x) {cy:Ab Bi} {y:jI} (hy:jA.raw w cy y) :
    Ba prog 222 #[.agg cx.toArray,.agg cy.toArray] w (bQ w (.bool (kRl x y))):=by
 have Hx:=yD hx
 obtain ⟨a4,rfl,Y,N,ae,ag⟩:=kCl hx
 obtain ⟨a5,a2,rfl,ay⟩:=kD.sl N
 have Hy:=yD hy
 obtain ⟨a8,rfl,aa,ad,ah,ak⟩:=kCl hy
 obtain ⟨aq,ap,rfl,ba⟩:=kD.sl ad
 go_enter func222,ntmps222
 go_upto_region 1 with fail
 refine kAe ?_
 intro U Z F an _
 obtain ⟨X,o,R⟩:=kBd F
 obtain ⟨I,ac,af⟩:=kBd an
 clear F an
 have FX:=yD (λ(W:Ad) (hW:Qb U W)=>kJf hW X o R I ac af)
 refine kL (λW=>Qb U W) [Tt,Tt,Tt,Tt,Ff,Tt,Tt,Tt,Tt,Tt,Tt,Tt,Tt,Tt,Tt,Tt,Tt,Tt,Tt,Tt] bR ?_
 intro wS E
 all_goals ((iterate 4 refine kS ?_);(first | refine zi (jw (kD.raw.below Y (tQ Z E)) (kD.raw.below aa (tQ Z E))) (λwS1 E=>?_) | refine kS ?_);refine jT λb a3=>?_;cases b <;> try simp only [jS] at a3)
 all_goals ((iterate 6 refine kS ?_);refine jT λb ab=>?_;cases b <;> try simp only [jS] at ab)
 all_goals ((iterate 6 refine kS ?_);refine jT λb O=>?_;cases b <;> try simp only [jS] at O)
 all_goals (refine kM ?_;have D:=(tQ Z E))
 all_goals first
   | (have L:=yD (show (kRl x y)=false by simp only [kRl,Aw,Ag,Ay,Ai,Ap,Aq,Be,Bf,Az,Aj,Bg,a3,ab,O]);go_wp2;go_ret;exact ⟨kJ L.out.symm,D⟩)
   | (have L:=yD (show (kRl x y)=true by simp only [kRl,Aw,Ag,Ay,Ai,Ap,Aq,Be,Bf,Az,Aj,Bg,a3,ab,O]);go_wp2;go_ret;exact ⟨kJ L.out.symm,D⟩)
def kHu:jL prog 222:=yM func222 bE5 bE5
def kTo {w:Ad} {va O:Bi} {a b:Ab jI} (V:(kD.slice 176 jA).raw w [va] a) (ag:(kD.slice 176 jA).raw w [O] b) :
    Ba prog 153 #[va,O] w (bQ w (.bool (decide (a=b)))):=by
 go_enter func153,ntmps153
 go_wp2_with fail
 refine (kUf kHu V ag ?_).mono ?_
 · intro wr hb cs ds x y hx hy;have:=kSa hx hy;rw [vRoute_eq] at this;exact this
 exact iT
def kJs (r:jI) (l:Ab jI):Ab jI :=
  if idxOf (kAm r.1 r.2.1) l < 0 then l++[r] else l.set (idxOf (kAm r.1 r.2.1) l).toNat (kMg (l.getD (idxOf (kAm r.1 r.2.1) l).toNat ([],0,0)) r.2.2)
def jBv (r:jI) (l:Ab jI):Bool:=kBw (kJs r l)
def addR (r:jI) (l:Ab jI):Ab jI:=if jBv r l then kJs r l else l
def jEv {r:jI} {l:List jI} (h:idxOf (kAm r.1 r.2.1) l < 0):kJs r l=l++[r]:=by unfold kJs;rw [if_pos h]
def jEu {r:jI} {l:Ab jI} {k:Nat} (h:idxOf (kAm r.1 r.2.1) l=k) (hk:k < l.length):kJs r l=l.set k (kMg l[k] r.2.2):=by
 unfold kJs;simp only [h,Ah,jb hk];rw [if_neg bF2]
def jGl {r:jI} {l:List jI} (h:kBw (kJs r l)=false):addR r l=l/\jBv r l=false:=by unfold addR jBv;rw [h];exact ⟨rfl,rfl⟩
def jBs {r:jI} {l:List jI} (h:kBw (kJs r l)=true):addR r l=kJs r l/\jBv r l=true:=by unfold addR jBv;rw [h];exact ⟨rfl,rfl⟩
def kWc {l:List jI} (h:kBw l=true):l.length<=24:=by unfold kBw at h;simp at h;exact h.2
def kZo {w:Ad} {vl:Bi} {l:Ab jI} (hl:(kD.slice 176 jA).rd w [vl] l) {cr:Ab Bi} {r:jI} (hr:jA.rd w cr r) :
    Ba prog 238 #[vl,.agg cr.toArray] w λe w'=>∃ v,e=.returned (.tuple #[v,.bool (jBv r l)])/\(kD.slice 176 jA).own w' [v] (addR r l) (jg w w')/\Qb w w':=by
 have HL:=yD hl
 have bc:l.length<=16777216:=hl.2.1
 obtain ⟨nv,rfl,bd,aq,a8,bk⟩:=kCl hr.1
 obtain ⟨n,f,c⟩:=r
 have Y:Hid (kR.rd w [nv] n):=yD ⟨bd,hr.2.1⟩
 obtain ⟨na,np,rfl,_,va,vp,rfl,bl⟩:=kD.sx aq (kD.sl hl.1)
 have HF:=yD a8
 have HC:=yD bk
 clear bd aq a8 bk hl hr
 go_enter func238,ntmps238
 go_wp2_with fail
 generalize R:World.alloc w _=U
 have Z:Qb w U:=tH
 have K0:Qd U w 0 (Qs na n np):=vS
 have K1:Qd U w 1 (Qn f):=vS
 have K2:Qd U w 2 (Qn c):=vS
 have bx:U.heap.size=w.heap.size + 1:=bD4
 clear R
 refine (kDw (HL.out.below Z)).mono ?_
 rintro e w1 ⟨v1,rfl,O1,N⟩
 obtain ⟨K0,K1,K2⟩:=DD
 have E1:=(tQ Z N)
 have bn:=N.size
 have J:=yD (O1.wide (T:=jg w w1) sJ)
 obtain ⟨oa,on,oc,ho,ay⟩:=O1.parts
 obtain rfl:=ho
 clear O1 N Z
 go_wp2_with fail
 refine (kQy (HL.out.1.below E1) (Y.out.1.below E1)).mono ?_
 rintro e w4 ⟨rfl,F⟩
 replace K0:=cL F K0
 replace K1:=cL F K1
 replace K2:=cL F K2
 have E4:=(tQ E1 F)
 have b5:=F.size
 replace J:=yD ((J.out.below F).wide (T:=jg w w4) sI)
 clear F E1
 by_cases hk:idxOf (kAm n f) l < 0
 · have L:=yD (jEv (r:=(n,f,c)) hk);have dt:¬ (0<=idxOf (kAm n f) l):=bF2;generalize hq:idxOf (kAm n f) l=q at *;clear hq hk;go_wp2_with fail;refine (zg (Y.out.below E4)).mono ?_;rintro e wT ⟨tc,rfl,OT,ai⟩;obtain ⟨fr,rfl,b7⟩:=kw OT.raw;obtain ⟨b0,dd,rfl,_⟩:=kD.sl b7;clear b7;go_upto_region 6 with fail;generalize O:World.alloc wT _=wC;have EC:Qb wT wC:=tC;have W:Qd wC wT 0 (Qs b0 n dd):=vT;clear O;have ER:=(tQ ai EC);have fx:=ai.size;have bg:=EC.size;have H:=OT.below EC;replace K1:=cL ER K1;replace K2:=cL ER K2;replace J:=yD (J.out.below ER);go_wp2_with (at_builtin;refine kD.jR rfl _ _ 30 rfl (r:=jA) (e:=176) Bo kGx rfl bF1 bF1 (B:=w.heap.size) J.out bF4 bF4 rfl (kD.own.wide (T:=jg w4 wT) (kD.yQ (r:=kR) (q:=kD.pair kD.int kD.int) (cs:=[.slice b0 n.length dd]) (ds:=[.int .i64 f,.int .i64 c]) (x:=n) (y:=(f,c)) (H) (kD.jl (kD.ky HF.out) (kD.ky HC.out))) (λj I=>I)) rfl nT sI nK bF2 bA2 ?_);intro v5 w5 o D b4;have am:=yD (o.cast L.out.symm);have E5:=(tQ E4 ER).trans D;clear o D J;go_wp2_with fail;refine (kFa am.out.kKg).mono ?_;rintro e w7 ⟨rfl,ae⟩;have E:=(tQ E5 ae);have cv:=ae.size;have X:=yD (am.out.below ae);clear ae;cases hv:kBw (kJs (n,f,c) l)
   · exact aG
   have HQ:=yD (jBs hv);have b8:=yD (kWc hv);clear hv;go_wp2;go_ret2;exact ⟨v5,by rw [HQ.out.2];rfl,((X.out.cast HQ.out.1.symm).own pF).wide nK,E⟩
 obtain ⟨k,hkl,ad⟩:=kIc hk
 have av:=yD ad
 rw [ad]
 clear hk ad
 obtain ⟨b,cap,hv,V,au,ar,ap⟩:=kD.zm J.out hkl
 simp only [Au] at hv
 obtain ⟨rfl,ab,rfl⟩:=hv
 have be:(0:Int)<=k:=bF2
 have a2:(k:Int) < on:=bF2
 have a6:=yD (J.out.own bc)
 obtain ⟨c0,c1,c2,hr,A0,A1,A2⟩:=kD.at3 a6.out.raw hkl rfl
 clear hr
 have af:=kD.kGv J.out bF2 (k * 3 + 2)
 have L:=yD (jEu (r:=(n,f,c)) av.out hkl)
 obtain ⟨s1,s2⟩:=kD.kFi (i:=k) (j:=2) (p:=k * 3 + 2) (u:=.int .i64 c) J.out bc hkl bF1 (λh=>RRoute_set2 _ HC.out h) (show jA.bdd Big (kMg l[k] c) from kD.yx a6.out.rd hkl) rfl
 have aa:=yD (s1.cast L.out.symm)
 have E5:Below w w (w4.setCell ⟨b,k * 3 + 2,none⟩ (Qn c)):=E4.setCell V.1 _
 have b4:(w4.setCell ⟨b,k * 3 + 2,none⟩ (Qn c)).heap.size=w4.heap.size:=by simp [World.setCell]
 clear s1 s2 ab a6
 go_upto_region 7 with fail
 generalize a1:w4.setCell ⟨b,k * 3 + 2,none⟩ (Qn c)=w5 at *
 clear a1
 go_wp2_with fail
 refine (kFa aa.out.kKg).mono ?_
 rintro e w7 ⟨rfl,ae⟩
 have E:=(tQ E5 ae)
 have cv:=ae.size
 have X:=yD (aa.out.below ae)
 clear ae
 cases hv:kBw (kJs (n,f,c) l)
 · exact aG
 have HQ:=yD (jBs hv)
 have b8:=yD (kWc hv)
 clear hv
 go_wp2
 go_ret2
 exact ⟨.slice (some ⟨b,0,none⟩) on oc,by rw [HQ.out.2];rfl,((X.out.cast HQ.out.1.symm).own pF).wide nK,E⟩
def sumL {α:Type} (f:α->Nat) (l:Ab α):Nat:=(l.map f).sum
def wN (n:ko):Nat:=n.length + sumL ByteArray.size n
def kBi (m:Nat) (l:Ab jI):Prop:=l.length<=m/\∀ r∈l,zO r.1/\r.1.length<=64
def kBi.addR {m:Nat} {l:Ab jI} {r:jI} (h:kBi m l) (hr:zO r.1/\r.1.length<=64):kBi (m + 1) (addR r l):=by
 have hm:=h.1;have key:(kJs r l).length<=m + 1/\∀ x∈kJs r l,zO x.1/\x.1.length<=64:=by
  by_cases q:idxOf (kAm r.1 r.2.1) l < 0
  · rw [jEv q];refine ⟨by simp;omega,λx hx=>?_⟩;rcases Bh.1 hx with hx | hx
    · exact h.2 x hx
    rw [Bn.1 hx];exact hr
  obtain ⟨k,hk,e⟩:=kIc q;rw [jEu e hk];refine ⟨by simp;omega,λx hx=>?_⟩;rcases List.mem_or_eq_of_mem_set hx with hx | hx
  · exact h.2 x hx
  rw [hx];exact h.2 l[k] (List.getElem_mem hk)
 cases q:kBw (kJs r l)
 · rw [(jGl q).1];exact ⟨by omega,h.2⟩
 rw [(jBs q).1];exact key
def kBi.snoc {m:Nat} {l:Ab jI} {r:jI} (h:kBi m l) (hr:zO r.1/\r.1.length<=64):kBi (m + 1) (l++[r]):=by
 refine ⟨by have:=h.1;simp;omega,λx hx=>?_⟩;rcases Bh.1 hx with hx | hx
 · exact h.2 x hx
 rw [Bn.1 hx];exact hr
def kBi.twice {m:Nat} {l:Ab jI} (h:kBi m l):kBi (m + m) (l++l):=by
 refine ⟨by have:=h.1;simp;omega,λx hx=>?_⟩;rcases Bh.1 hx with hx | hx <;> exact h.2 x hx
def kBi.mono {m k:Nat} {l:Ab jI} (h:kBi m l) (hk:m<=k):kBi k l:=⟨Nat.le_trans h.1 hk,h.2⟩
def kBi.nil {m:Nat}:kBi m []:=⟨by simp,λr hr=>by simp at hr⟩
def jDs {w:Ad} {v:Bi} {ps:ko} {f c:Int} {S:Nat->Prop} (k:kR.own w [v] ps S) (hf:Qi f) (hc:Qi c):jA.own w [v,Qn f,Qn c] (ps,f,c) S :=
  kD.yQ (r:=kR) (cs:=[v]) (ds:=[.int .i64 f,.int .i64 c]) k (kD.jl (cs:=[.int .i64 f]) (kD.ky hf) (kD.ky hc))
def jFj {w0 w:Ad} {p:Nat} (hc:ym w0 w p) :
    Ba prog 239 #[.pointer (some ⟨p,0,none⟩)] w λe w'=>∃ a c ps f V,e=.returned (.agg #[Qs a ps c,Qn f,Qn V])/\kR.own w' [Qs a ps c] ps (jg w w')/\zO ps/\ps.length<=64/\(1<=f/\f<=4)/\(0<=V/\V<=4)/\ym w0 w' p/\Touch (λk=>k=p) w w':=by
 go_enter func239,ntmps239
 obtain ⟨bh,br⟩:=hc.lt
 go_upto_region 1 with fail
 refine ja ?_
 intro w1 ar R bj
 obtain ⟨hc,O⟩:=uZ
 clear ar
 go_wp2_with fail
 refine (kAn (hc.below (bR.alloc nL _)) (kD.kBs _ [{ data:=#[47] },{ data:=#[47,97] },{ data:=#[47,98] },{ data:=#[47,97,47,110,101,119,115] },{ data:=#[47,110,101,119,115] }] bF1 bF1) bF2 bF1 bF1).mono ?_
 rintro e w2 ⟨y,bd,bv,rfl,F,D⟩
 replace D:=(Touch.of_below (S:=λk=>k=p) (bR.alloc nL _)).trans D
 obtain ⟨bw,R,O⟩:=y8
 clear hc D
 have hc:=F
 clear F
 go_wp2_with fail
 refine (yz (kD.kDd bF1 bd)).mono ?_
 rintro e w3 ⟨a,c,ps,rfl,hr,hl,a1,hb⟩
 replace R:=kC R hb
 obtain ⟨hc,O⟩:=uT
 clear hb
 have HR:=yD (hr)
 clear hr
 go_wp2_with fail
 refine (kZ (n:=4) hc bF1).mono ?_
 rintro e w4 ⟨x,ai,L,bf,rfl,F,D⟩
 have b5:=D.size
 replace R:=D.kC R bF2
 replace HR:=yD (HR.out.touch D qV)
 replace O:=O.trans D
 clear hc D
 have hc:=F
 clear F
 replace L:=L bF1
 clear bf
 have hw:Br.wrap (1 + x)=1 + x:=Bj _ bF2
 go_wp2_with fail
 refine (kZ (n:=5) hc bF1).mono ?_
 rintro e w5 ⟨y,ao,a4,b7,rfl,F,D⟩
 have b4:=D.size
 replace R:=D.kC R bF2
 replace HR:=yD (HR.out.touch D qV)
 replace O:=O.trans D
 clear hc D
 have hc:=F
 clear F
 replace a4:=a4 bF1
 clear b7
 obtain ⟨aj,an,az⟩:=kBd R
 obtain ⟨ak,al,ay⟩:=rowF3 R
 go_wp2
 refine bodyPost_ret (v:=.agg #[Qs a ps c,.int .i64 (1 + x),Qn y]) (by simp [results,results239,go_sem,aj,an,az,ak,al,ay]) rfl ⟨_,_,ps,1 + x,y,rfl,?_,a1,hl,by omega,by omega,hc.touch sT3 bF2 bB6,O.jJ sT3 bF2⟩
 exact (HR.out.touch sT3 vB).wide fT
def kQz {w0 w:Ad} {p:Nat} (hc:ym w0 w p) :
    Ba prog 175 #[.pointer (some ⟨p,0,none⟩)] w λe w'=>∃ a c l,e=.returned (.slice a l.length c)/\(kD.slice 176 jA).own w' [Qs a l c] l (jg w w')/\kBi 7 l/\ym w0 w' p/\Touch (λk=>k=p) w w':=by
 go_enter func175,ntmps175
 obtain ⟨bh,br⟩:=hc.lt
 go_upto_region 2 with fail
 refine ja ?_
 intro w1 ar _ bj
 obtain ⟨hc,O⟩:=uZ
 clear ar
 go_wp2_with fail
 refine (kZ (n:=8) hc bF1).mono ?_
 rintro e w2 ⟨m,bc,bk,bq,rfl,F,D⟩
 have bw:=D.size
 replace O:=O.trans D
 clear hc D
 have hc:=F
 clear F
 replace bk:=bk bF1
 clear bq
 obtain ⟨m,rfl⟩:=Ac bc
 go_wp2
 go_loopw [3,4] (λv i wr=>∃ (j:Nat) (a:Option Addr) (n c:Nat) (l:Ab jI),v=.slice a n c/\i=.int .i64 j/\Hid (kBi (7 - j) l)/\Hid (n=l.length)/\j < 8/\Hid ((kD.slice 176 jA).own wr [.slice a n c] l (jg w wr))/\w2.heap.size<=wr.heap.size/\ym w0 wr p/\Touch (λk=>k=p) w wr) (λ_ i _=>(intOf i).toNat)
 case atStart=>exact ⟨m,_,0,0,[],rfl,rfl,yD kBi.nil,yD rfl,by omega,yD kD.yF,Nat.le_refl _,hc,O⟩
 clear hc O
 obtain ⟨j,a,n,c,l,rfl,rfl,cd,Y,I,J,ch,hc,O⟩:=hrel
 cases j with
 | zero =>
   go_wp2;go_ret;have hn:=Y.out;subst hn;exact ⟨_,_,l,rfl,J.out,cd.out,hc,O⟩
 | succ j =>
   have c9:(0:Int) < (j:Int) + 1:=bF2;go_wp2_with fail;refine (jFj hc).mono ?_;rintro e w4 ⟨na,nc,ps,f,V,rfl,hr,a1,ee,hf,o,F,D⟩;have b5:=D.size;obtain ⟨J,O⟩:=uS;clear hc D;have hc:=F;clear F;have HR:=yD (jDs hr (f:=f) (c:=V) bF2 bF2);clear hr;go_wp2_with fail;refine (kZo J.out.rd HR.out.rd).mono ?_;rintro e w5 ⟨v2,rfl,bu,hb⟩;have b4:=hb.size;obtain ⟨hc,O⟩:=uT;clear hb;have N:=yD ((cd.out.addR (r:=(ps,f,V)) ⟨a1,ee⟩).mono (k:=7 - j) bF2);generalize addR (ps,f,V) l=l2 at *;generalize jBv (ps,f,V) l=ok at *;obtain ⟨a2,c2,rfl,_⟩:=kD.sl bu.raw;have ab:=yD (bu.wide (T:=jg w w5) rQ);clear bu J HR;go_wp2;go_roundw;case rel=>exact ⟨j,a2,l2.length,c2,l2,rfl,by go_num,N,yD rfl,by omega,ab,by omega,hc,O⟩
   case measure=>simp [intOf]
def jFk {w0 w:Ad} {p:Nat} (hc:ym w0 w p) :
    Ba prog 87 #[.pointer (some ⟨p,0,none⟩)] w λe w'=>∃ a c l,e=.returned (.slice a l.length c)/\(kD.slice 176 jA).own w' [Qs a l c] l (jg w w')/\kBi 14 l/\ym w0 w' p/\Touch (λk=>k=p) w w':=by
 go_enter func87,ntmps87
 obtain ⟨bh,br⟩:=hc.lt
 go_wp2_with fail
 refine (kQz hc).mono ?_
 rintro e w1 ⟨a,c,l,rfl,hO,a1,F,D⟩
 have bj:=D.size
 have O:=D
 clear hc D
 have hc:=F
 clear F
 have J:=yD (hO)
 clear hO
 have W:=a1.1
 have cd:=yD a1
 clear a1
 go_wp2_with fail
 refine (kZ (n:=10) hc bF1).mono ?_
 rintro e w2 ⟨m,bc,bk,bq,rfl,F,D⟩
 have bw:=D.size
 obtain ⟨J,O⟩:=uS
 clear hc D
 have hc:=F
 clear F
 replace bk:=bk bF1
 clear bq
 obtain ⟨m,rfl⟩:=Ac bc
 by_cases cl:m=0
 · subst cl;go_wp2_with fail;refine (kGr hc).mono ?_;rintro e w3 ⟨na,nc,nm,rfl,hr,bi,R,F,D⟩;have bz:=D.size;obtain ⟨J,O⟩:=uS;clear hc D;have hc:=F;clear F;have HR:=yD (hr);clear hr;go_wp2_with fail;refine (kAd (hc.below (bR.alloc nL _)) (kD.kEh _ [0,1,6,7] bF1 bF1) bF2 bF1 bF1).mono ?_;rintro e w4 ⟨f,N,X,rfl,F,D⟩;obtain ⟨D,b5⟩:=FB;obtain ⟨J,HR,O⟩:=z8;clear hc D;have hc:=F;clear F;have hf:=kD.kJo (lo:=0) (hi:=7) bF1 N;clear N;go_wp2_with fail;refine (kAd (hc.below (bR.alloc nL _)) (kD.kEh _ [-1,0,1000,1001] bF1 bF1) bF2 bF1 bF1).mono ?_;rintro e w5 ⟨y,bd,bv,rfl,F,D⟩;obtain ⟨D,b4⟩:=xO;obtain ⟨J,HR,O⟩:=z8;clear hc D;have hc:=F;clear F;have hy:=kD.kJo (lo:=-1) (hi:=1001) bF1 bd;clear bd;go_wp2_with (at_builtin;refine kD.zQ rfl _ _ 30 rfl (r:=jA) (e:=176) Bo kGx rfl bF1 bF1 J.out bR (jDs HR.out bF2 bF2) bF4 bF4 qC bF2 ?_);intro v9 w9 ah V;have H:=V.size;have bp:=yD ((cd.out.snoc (r:=(nm,f,y)) ⟨R,by show nm.length<=64;omega⟩).mono (k:=14) bF2);generalize l++[(nm,f,y)]=q at *;obtain ⟨a9,c9,bx,_⟩:=kD.kAw ah.raw;obtain rfl:v9=_:=by simpa using bx
   have bm:=yD (ah.wide (T:=jg w w9) bL);have E:=hc.touch V vO vH;have o:=O.kBr V (λk q=>q.1.1);clear ah V bx;go_wp2;go_ret;exact ⟨_,_,q,rfl,bm.out,bp.out,E,o⟩
 have L:¬ (m:Int)=0:=bF2
 by_cases dy:m=1
 · subst dy;go_wp2_with fail;refine (kDw J.out.rd).mono ?_;rintro e w3 ⟨vc,rfl,hr,hb⟩;have bz:=hb.size;replace J:=yD (J.out.below hb);obtain ⟨hc,O⟩:=uT;clear hb;have HR:=yD (hr);clear hr;obtain ⟨ya,Y,yc,hv,U⟩:=HR.out.parts;obtain rfl:=hv;go_wp2_with (at_builtin;refine kD.kQo rfl _ _ 30 rfl (r:=jA) (e:=176) Bo kGx rfl bF1 bF1 J.out HR.out bF4 bF4 qC bF2 ?_);intro v9 w9 ah V;have H:=V.size;have bp:=yD (cd.out.twice);generalize l++l=q at *;obtain ⟨a9,c9,bx,_⟩:=kD.kAw ah.raw;obtain rfl:v9=_:=by simpa using bx
   have bm:=yD (ah.wide (T:=jg w w9) bL);have E:=hc.touch V vU vL;have o:=O.kBr V (λk q=>q.1);clear ah V bx;go_wp2;go_ret;exact ⟨_,_,q,rfl,bm.out,bp.out,E,o⟩
 have I:¬ (m:Int)=1:=bF2
 go_wp2
 go_ret
 exact ⟨_,_,l,rfl,J.out.wide sP,cd.out.mono bF2,hc,O⟩
def jDj {w:Ad} {a b:Int}:Ba prog 264 #[.int .i64 a,.int .i64 b] w λe w'=>e=.returned (.int .i64 (min a b))/\w'=w:=by
 go_enter func264,ntmps264;by_cases h:b < a
 · have hd:decide (b < a)=true:=bD5;have L:=yD (show min a b=b by omega);exact o5
 have hd:decide (b < a)=false:=bD5;have L:=yD (show min a b=a by omega);exact o5
def specMax_c {w:Ad} {a b:Int}:Ba prog 273 #[.int .i64 a,.int .i64 b] w λe w'=>e=.returned (.int .i64 (max a b))/\w'=w:=by
 go_enter func273,ntmps273;by_cases h:b > a
 · have hd:decide (b > a)=true:=bD5;have L:=yD (show max a b=b by omega);exact o5
 have hd:decide (b > a)=false:=bD5;have L:=yD (show max a b=a by omega);exact o5
def upF (x:Int):Int:=min 50 (wrap64 (x + 1))
def upF_rng {x:Int}:-9223372036854775808<=upF x/\upF x<=9223372036854775807:=by
 unfold upF;unfold wrap64;omega
def recF (n:ko) (f:Int) (l:Ab kW):Ab kW :=
  if zx n && inR f 1 6 then
    (if idxOf (zD n f) l < 0 then (if l.length < 24 then l++[(n,f,1)] else l)
     else l.set (idxOf (zD n f) l).toNat (kAg (l.getD (idxOf (zD n f) l).toNat ([],0,0)) (upF (l.getD (idxOf (zD n f) l).toNat ([],0,0)).2.2)))
  else l
def recF_no {n:ko} {f:Int} {l:List kW} (h:(zx n && inR f 1 6)=false):recF n f l=l:=by unfold recF;rw [h];rfl
def recF_new {n:ko} {f:Int} {l:List kW} (h:(zx n && inR f 1 6)=true) (h2:idxOf (zD n f) l < 0) (h3:l.length < 24):recF n f l=l++[(n,f,1)]:=by unfold recF;rw [if_pos h,if_pos h2,if_pos h3]
def recF_full {n:ko} {f:Int} {l:List kW} (h:(zx n && inR f 1 6)=true) (h2:idxOf (zD n f) l < 0) (h3:¬ l.length < 24):recF n f l=l:=by unfold recF;rw [if_pos h,if_pos h2,if_neg h3]
def recF_up {n:ko} {f:Int} {l:Ab kW} {k:Nat} (h:(zx n && inR f 1 6)=true) (h2:idxOf (zD n f) l=k) (hk:k < l.length):recF n f l=l.set k (kAg l[k] (upF l[k].2.2)):=by
 unfold recF;simp only [h,h2,Ah,jb hk];rw [if_pos trivial,if_neg bF2]
def kPy {w:Ad} {vl:Bi} {l:Ab kW} (hl:(kD.slice 179 kN).rd w [vl] l) {cn:Ab Bi} {n:ko} (hn:kR.rd w cn n) {f:Int} (hf:Qi f) :
    Ba prog 241 #[vl,.agg cn.toArray,.int .i64 f] w (kBh (kD.slice 179 kN) (recF n f l) w):=by
 obtain ⟨HL,Y,bc⟩:=CE
 obtain ⟨nv,rfl,az⟩:=kw hn.1
 obtain ⟨na,np,rfl,_,va,vp,rfl,bl⟩:=kD.sx az (kD.sl hl.1)
 clear az hl hn
 go_enter func241,ntmps241
 go_wp2_with fail
 generalize R:World.alloc w _=U
 obtain ⟨Z,K0,bx⟩:=CG
 clear R
 refine (kGk (HL.out.below Z)).mono ?_
 rintro e w1 ⟨v1,rfl,O1,N⟩
 replace K0:=cL N K0
 have E1:=(tQ Z N)
 have bn:=N.size
 have J:=yD (O1.wide (T:=jg w w1) sJ)
 obtain ⟨oa,on,oc,ho,ay⟩:=O1.parts
 obtain rfl:=ho
 clear O1 N Z
 have HF:=yD hf
 clear hf
 go_wp2_with fail
 refine (zF (Y.out.1.below E1)).mono ?_
 rintro e w2 ⟨rfl,ag⟩
 replace K0:=cL ag K0
 have E2:=(tQ E1 ag)
 have ax:=ag.size
 replace J:=yD ((J.out.below ag).wide (T:=jg w w2) sI)
 clear ag E1
 cases hv:zx n
 · have L:=yD (recF_no (f:=f) (l:=l) (by rw [hv];rfl));go_wp2;go_ret;exact ⟨_,rfl,(J.out.cast L.out.symm).own wW,E2⟩
 go_wp2_with fail
 refine yL.mono ?_
 rintro e w3 ⟨rfl,ao⟩
 obtain rfl:=ao.symm
 clear ao
 cases hi:inR f 1 6
 · have L:=yD (recF_no (f:=f) (l:=l) (by rw [hv,hi];rfl));go_wp2;go_ret;exact ⟨_,rfl,(J.out.cast L.out.symm).own wW,E2⟩
 have HB:Hid ((zx n && inR f 1 6)=true):=yD (by rw [hv,hi];rfl)
 clear hv hi
 go_wp2_with fail
 refine (kGj (HL.out.1.below E2) (Y.out.1.below E2)).mono ?_
 rintro e w4 ⟨rfl,F⟩
 replace K0:=cL F K0
 have E4:=(tQ E2 F)
 have b5:=F.size
 replace J:=yD ((J.out.below F).wide (T:=jg w w4) sI)
 clear F E2
 by_cases hk:idxOf (zD n f) l < 0
 · have dt:¬ (0<=idxOf (zD n f) l):=bF2;generalize hq:idxOf (zD n f) l=q at *;have HQ:=yD hq;clear hq;by_cases ae:l.length < 24
   · have ac:(l.length:Int) < 24:=bF2;have L:=yD (recF_new HB.out (by rw [HQ.out];exact hk) ae);go_wp2_with fail;refine (zg (Y.out.below E4)).mono ?_;rintro e wT ⟨tc,rfl,OT,ai⟩;obtain ⟨fr,rfl,b7⟩:=kw OT.raw;obtain ⟨b0,dd,rfl,_⟩:=kD.sl b7;clear b7;go_upto_region 9 with fail;generalize O:World.alloc wT _=wC;have EC:Qb wT wC:=tC;have W:Qd wC wT 0 (Qs b0 n dd):=vT;clear O;have ER:=(tQ ai EC);have fx:=ai.size;have bg:=EC.size;have H:=OT.below EC;replace J:=yD (J.out.below ER);have f2:on<=24:=bA2;go_wp2_with (at_builtin;refine kD.jR rfl _ _ 31 rfl (r:=kN) (e:=179) Al kBf rfl bF1 bF1 (B:=w.heap.size) J.out bF4 bF4 rfl (kD.own.wide (T:=jg w4 wT) (kD.yQ (r:=kR) (q:=kD.pair kD.int kD.int) (cs:=[.slice b0 n.length dd]) (ds:=[.int .i64 f,.int .i64 1]) (x:=n) (y:=(f,1)) (H) (kD.jl (kD.ky HF.out) (kD.ky (n:=1) bF2))) (λj I=>I)) rfl nT sI nK bF2 bA2 ?_);intro v5 w5 o D b4;have am:=yD (o.cast L.out.symm);have E5:=(tQ E4 ER).trans D;clear o D;go_wp2;go_ret;exact ⟨_,rfl,am.out.own (by rw [L.out,List.length_append];unfold Big;simp;omega),E5⟩
   have ac:¬ (l.length:Int) < 24:=bF2;have L:=yD (recF_full HB.out (by rw [HQ.out];exact hk) ae);go_wp2;go_ret;exact ⟨_,rfl,(J.out.cast L.out.symm).own wW,E4⟩
 obtain ⟨k,hkl,ad⟩:=kIc hk
 have av:=yD ad
 rw [ad]
 clear hk ad
 obtain ⟨b,cap,hv,V,au,ar,ap⟩:=kD.zm J.out hkl
 simp only [Au] at hv
 obtain ⟨rfl,ab,rfl⟩:=hv
 have be:(0:Int)<=k:=bF2
 have a2:(k:Int) < on:=bF2
 have a6:=yD (J.out.own bc)
 obtain ⟨c0,c1,c2,hr,A0,A1,A2⟩:=kD.at3 a6.out.raw hkl rfl
 obtain ⟨rfl,rfl,bd,aq,a8,bk⟩:=yG hr
 have af:=kD.kGv J.out bF2 (k * 3 + 2)
 have L:=yD (recF_up HB.out av.out hkl)
 obtain ⟨s1,s2⟩:=kD.kFi (i:=k) (j:=2) (p:=k * 3 + 2) (u:=.int .i64 (upF l[k].2.2)) J.out bc hkl bF1 (λh=>kJt _ upF_rng h) (show kN.bdd Big (kAg l[k] (upF l[k].2.2)) from kD.yx a6.out.rd hkl) rfl
 have aa:=yD (λv (hv:v=upF l[k].2.2)=>(show kD.kY 179 kN (w4.setCell ⟨b,k * 3 + 2,none⟩ (Qn v)) _ _ _ from hv ▸ s1.cast L.out.symm))
 clear s1 s2 ab hr bd aq a8
 go_wp2_with fail
 refine jDj.mono ?_
 rintro e w6 ⟨rfl,bw⟩
 obtain rfl:=bw.symm
 clear bw
 go_wp2
 all_goals go_ret
 all_goals exact ⟨_,rfl,((aa.out _ (by unfold upF;omega)).own rV).wide nE,E4.setCell V.1 _⟩
def recS (n:ko) (f:Int) (l:Ab kW):Ab kW :=
  if idxOf (zD n f) l < 0 then l
  else if (l.getD (idxOf (zD n f) l).toNat ([],0,0)).2.2 < 2 then l.take (idxOf (zD n f) l).toNat++l.drop ((idxOf (zD n f) l).toNat + 1)
  else l.set (idxOf (zD n f) l).toNat (kAg (l.getD (idxOf (zD n f) l).toNat ([],0,0)) ((l.getD (idxOf (zD n f) l).toNat ([],0,0)).2.2 / 2))
def recS_none {n:ko} {f:Int} {l:List kW} (h:idxOf (zD n f) l < 0):recS n f l=l:=by unfold recS;rw [if_pos h]
def recS_cut {n:ko} {f:Int} {l:Ab kW} {k:Nat} (h:idxOf (zD n f) l=k) (hk:k < l.length) (h2:l[k].2.2 < 2):recS n f l=l.take k++l.drop (k + 1):=by
 unfold recS;simp only [h,Ah,jb hk];rw [if_neg bF2,if_pos h2]
def recS_half {n:ko} {f:Int} {l:Ab kW} {k:Nat} (h:idxOf (zD n f) l=k) (hk:k < l.length) (h2:¬ l[k].2.2 < 2):recS n f l=l.set k (kAg l[k] (l[k].2.2 / 2)):=by
 unfold recS;simp only [h,Ah,jb hk];rw [if_neg bF2,if_neg h2]
def kPx {w:Ad} {vl:Bi} {l:Ab kW} (hl:(kD.slice 179 kN).rd w [vl] l) {cn:Ab Bi} {n:ko} (hn:kR.rd w cn n) {f:Int} (hf:Qi f) :
    Ba prog 242 #[vl,.agg cn.toArray,.int .i64 f] w (kBh (kD.slice 179 kN) (recS n f l) w):=by
 obtain ⟨HL,Y,bc⟩:=CE
 obtain ⟨nv,rfl,az⟩:=kw hn.1
 obtain ⟨na,np,rfl,_⟩:=kD.sl az
 clear az hl hn hf
 go_enter func242,ntmps242
 go_wp2_with fail
 generalize R:World.alloc w _=U
 obtain ⟨Z,K0,bx⟩:=CG
 clear R
 refine (kGk (HL.out.below Z)).mono ?_
 rintro e w1 ⟨v1,rfl,O1,N⟩
 replace K0:=cL N K0
 have E1:=(tQ Z N)
 have J:=yD O1
 obtain ⟨oa,on,oc,ho,ay⟩:=O1.parts
 obtain rfl:=ho
 clear O1 N
 go_wp2_with fail
 refine (kGj (HL.out.1.below E1) (Y.out.1.below E1)).mono ?_
 rintro e w2 ⟨rfl,ag⟩
 have E2:=(tQ E1 ag)
 have bn:=E1.size
 have ax:=ag.size
 replace J:=yD ((J.out.below ag).wide (T:=jg w w2) nK)
 clear ag E1 Z
 by_cases hk:idxOf (zD n f) l < 0
 · have L:=yD (recS_none hk);go_wp2;go_ret;exact ⟨_,rfl,(J.out.cast L.out.symm).own (by rw [L.out];unfold Big;omega),E2⟩
 obtain ⟨k,hkl,ad⟩:=kIc hk
 have av:=yD ad
 rw [ad]
 clear hk ad
 obtain ⟨b,cap,hv,o⟩:=kD.kLm J.out hkl
 simp only [Au] at hv
 obtain ⟨rfl,ab,rfl⟩:=hv
 have ak:k < on:=bF2
 rw [List.drop_eq_getElem_cons hkl] at o
 have br:=o.len
 simp only [List.length_take,List.length_cons,List.length_drop] at br
 have ar:on<=oc:=by have:=br.2.1;omega
 have ap:oc<=9223372036854775807:=qF
 have V:=o.mem
 have af:=o.frozen (k * 3 + 2)
 have G:Hid (kD.gap 179 kN w2 b oc l.length (l.take k) 1 (l.drop (k + 1)) (jg w w2)):=yD o.skip
 clear o br
 have a6:=yD (J.out.own bc)
 obtain ⟨c0,c1,c2,hr,A0,A1,A2⟩:=kD.at3 a6.out.raw hkl rfl
 obtain ⟨rfl,rfl,bd,aq,a8,bk⟩:=yG hr
 have ai:=yD (recS_cut av.out hkl)
 have O:=yD (recS_half av.out hkl)
 have aj:=yD (λ(v:Int) (hv:Qi v)=>kD.kFi (i:=k) (j:=2) (p:=k * 3 + 2) (u:=.int .i64 v) J.out bc hkl bF1 (λh=>kJt v hv h) (show kN.bdd Big (kAg l[k] v) from kD.yx a6.out.rd hkl) rfl)
 have ay:=yD ab
 clear ab hr bd aq a8
 have be:(0:Int)<=k:=bF2
 have a2:(k:Int) < on:=bF2
 have b3:k<=oc:=bF2
 have ao:=Go.IntWalk.i64_in ((k:Int) + 1) bF2
 by_cases h2:l[k].2.2 < 2
 · have L:=yD (ai.out h2);clear ai O aj;have HK:Hid ((l.take k).length=k):=yD bE6;have ce:k + 1<=oc:=bF2;have dt:k + 1<=on:=bF2;have fd:(k:Int) + 1<=on:=bF2;have am:(0:Int)<=(k:Int) + 1:=bF2;by_cases bg:oc=k + 1
   · have HR:Hid ((l.drop (k + 1)).length=0):=yD (by have:=ay.out;simp;omega);obtain rfl:on=k + 1:=bF2;subst bg;have an:(k:Int)<=(k:Int) + 1:=bF2;go_upto_region 6 with fail;refine yT (λW=>Qb w2 W) [(1,true),(2,true),(3,true),(5,true),(6,true),(7,true),(8,true),(0,false),(4,false),(9,false),(10,true)] bE5 bE5 qW (bR.drew) ?_;intro wS E;simp only [jG,Bb,Bc,List.map_cons,List.map_nil];all_goals ((iterate 7 refine kS ?_);(first|(refine kI rfl E ?_)|(refine ku rfl (λK H=>?_);go_simp;generalize al:World.alloc wS _=wU;replace E:Qb w2 wU:=(by rw [<- al];exact E.alloc E.size _);clear al;refine H _ _ E ?_;clear H K));refine jH ?_;(first|(refine kI rfl E ?_)|(refine ku rfl (λK H=>?_);obtain ⟨v3,u3,a7,ac,v4,u4,X,ah,F⟩:=kD.kJl (P:=prog) (t:=31) Al kBf rfl bF1 bF1 G.out E (a0:=some ⟨wS,0,none⟩) bF2 (k + 1) 0 31 31 (q:=0) (kl:=k) (rl:=0) (λhne=>absurd (List.eq_nil_of_length_eq_zero HR.out) hne) HK.out.symm HR.out.symm;have ae:=(tQ E ac);refine kD.kX _ _ _ rfl bF4 bF4 a7 ?_;refine H _ _ ae ?_;clear H K));refine jH ?_;(first|(refine kI rfl E ?_)|(refine ku rfl (λK H=>?_);have D:=(tQ E F);refine kD.kX _ _ _ rfl bF4 bF4 X ?_;refine H _ _ D ?_;clear H K));refine jH ?_;refine kS ?_;refine kM ?_)
     go_wp2;go_ret;exact oI
   have HR:Hid ((l.drop (k + 1)).length=on - (k + 1)):=yD (by have:=ay.out;simp;omega);go_upto_region 6 with fail;refine yT (λW=>Qb w2 W) [(1,true),(2,true),(3,true),(5,true),(6,true),(7,true),(8,true),(0,false),(4,false),(9,false),(10,true)] bE5 bE5 qW (bR.drew) ?_;intro wS E;simp only [jG,Bb,Bc,List.map_cons,List.map_nil];all_goals ((iterate 7 refine kS ?_);(first|(refine kI rfl E ?_)|(refine ku rfl (λK H=>?_);go_simp;generalize al:World.alloc wS _=wU;replace E:Qb w2 wU:=(by rw [<- al];exact E.alloc E.size _);clear al;refine H _ _ E ?_;clear H K));refine jH ?_;(first|(refine kI rfl E ?_)|(refine ku rfl (λK H=>?_);obtain ⟨v3,u3,a7,ac,v4,u4,X,ah,F⟩:=kD.kJl (P:=prog) (t:=31) Al kBf rfl bF1 bF1 G.out E (a0:=some ⟨wS,0,none⟩) bF2 oc (oc - (k + 1)) 31 31 (q:=((k + 1) * 3)) (kl:=k) (rl:=(on - (k + 1))) (λ_=>by rw [HK.out];rfl) HK.out.symm HR.out.symm;have ae:=(tQ E ac);refine kD.kX _ _ _ rfl bF4 bF4 a7 ?_;refine H _ _ ae ?_;clear H K));refine jH ?_;(first|(refine kI rfl E ?_)|(refine ku rfl (λK H=>?_);have D:=(tQ E F);refine kD.kX _ _ _ rfl bF4 bF4 X ?_;refine H _ _ D ?_;clear H K));refine jH ?_;refine kS ?_;refine kM ?_)
   go_wp2;go_ret;have b5:=F.size;exact oI
 have L:=yD (O.out bF2)
 obtain ⟨s1,s2⟩:=aj.out (l[k].2.2 / 2) bF2
 have aa:=yD s1
 clear ai O aj s1 s2 G
 go_wp2
 go_ret
 exact ⟨_,rfl,((aa.out.cast L.out.symm).own rV).wide nE,E2.setCell V.1 _⟩
def recF_len {n:ko} {f:Int} {l:Ab kW} (h:l.length<=24):(recF n f l).length<=24:=by
 unfold recF;split
 · split
   · split
     · simp;omega
     exact h
   simp;exact h
 exact h
def recS_len {n:ko} {f:Int} {l:Ab kW} (h:l.length<=24):(recS n f l).length<=24:=by
 unfold recS;split
 · exact h
 split
 · simp;omega
 simp;exact h
def jCf {w0 w:Ad} {p:Nat} (hc:ym w0 w p) :
    Ba prog 240 #[.pointer (some ⟨p,0,none⟩)] w λe w'=>∃ a c ps,e=.returned (.agg #[Qs a ps c])/\kR.own w' [Qs a ps c] ps (jg w w')/\ps.length<=64/\ym w0 w' p/\Touch (λk=>k=p) w w':=by
 go_enter func240,ntmps240
 obtain ⟨bh,br⟩:=hc.lt
 go_upto_region 1 with fail
 refine ja ?_
 intro w1 ar R bj
 obtain ⟨hc,O⟩:=uZ
 clear ar
 go_wp2_with fail
 refine (kAn (hc.below (bR.alloc nL _)) (kD.kBs _ [{ data:=#[47] },{ data:=#[47,97] },{ data:=#[47,98] },{ data:=#[47,97,47,110,101,119,115] }] bF1 bF1) bF2 bF1 bF1).mono ?_
 rintro e w2 ⟨y,bd,bv,rfl,F,D⟩
 replace D:=(Touch.of_below (S:=λk=>k=p) (bR.alloc nL _)).trans D
 obtain ⟨bw,R,O⟩:=y8
 clear hc D
 have hc:=F
 clear F
 go_wp2_with fail
 refine (kZi (kD.kDd bF1 bd)).mono ?_
 rintro e w3 ⟨a,c,ps,rfl,hr,hl,hb⟩
 replace R:=kC R hb
 obtain ⟨hc,O⟩:=uT
 clear hb
 have HR:=yD (hr)
 clear hr
 have aj:Qd w3 w 0 (.slice none 0 0):=kE R rfl
 have ak:w3.frozen? ⟨w,0,none⟩=false:=frozen_of_row w3 (w.heap.size) 0 _ _ R
 go_wp2
 refine bodyPost_ret (v:=.agg #[Qs a ps c]) (by simp [results,results240,go_sem,aj,ak]) rfl ⟨_,_,ps,rfl,?_,hl,hc.touch (jm w3 w 0 _) bF2 bB6,O.jJ (jm w3 w 0 _) bF2⟩
 exact (HR.out.touch (jm w3 w 0 _) vB).wide fT
def kQx {w0 w:Ad} {p:Nat} (hc:ym w0 w p) :
    Ba prog 176 #[.pointer (some ⟨p,0,none⟩)] w λe w'=>∃ a c l,e=.returned (.slice a l.length c)/\(kD.slice 179 kN).own w' [Qs a l c] l (jg w w')/\l.length<=24/\ym w0 w' p/\Touch (λk=>k=p) w w':=by
 go_enter func176,ntmps176
 obtain ⟨bh,br⟩:=hc.lt
 go_upto_region 2 with fail
 refine ja ?_
 intro w1 ar _ bj
 obtain ⟨hc,O⟩:=uZ
 clear ar
 go_wp2_with fail
 refine (kZ (n:=14) hc bF1).mono ?_
 rintro e w2 ⟨m,bc,bk,bq,rfl,F,D⟩
 have bw:=D.size
 replace O:=O.trans D
 clear hc D
 have hc:=F
 clear F
 replace bk:=bk bF1
 clear bq
 obtain ⟨m,rfl⟩:=Ac bc
 go_wp2
 go_loopw [3,4] (λv i wr=>∃ (j:Nat) (a:Option Addr) (n c:Nat) (l:Ab kW),v=.slice a n c/\i=.int .i64 j/\l.length<=24/\Hid (n=l.length)/\j < 14/\Hid ((kD.slice 179 kN).own wr [.slice a n c] l (jg w wr))/\w2.heap.size<=wr.heap.size/\ym w0 wr p/\Touch (λk=>k=p) w wr) (λ_ i _=>(intOf i).toNat)
 case atStart=>exact ⟨m,_,0,0,[],rfl,rfl,by simp,yD rfl,by omega,yD kD.yF,Nat.le_refl _,hc,O⟩
 clear hc O
 obtain ⟨j,a,n,c,l,rfl,rfl,hl,Y,I,J,ch,hc,O⟩:=hrel
 cases j with
 | zero =>
   go_wp2;go_ret;have hn:=Y.out;subst hn;exact ⟨_,_,l,rfl,J.out,hl,hc,O⟩
 | succ j =>
   have c9:(0:Int) < (j:Int) + 1:=bF2;go_upto_region 5 with fail;go_wp2_with fail;refine (jCf hc).mono ?_;rintro e w4 ⟨na,nc,nm,rfl,hr,bi,F,D⟩;have b5:=D.size;obtain ⟨J,O⟩:=uS;clear hc D;have hc:=F;clear F;have HR:=yD (hr);clear hr;go_upto_region 6 with fail;refine ja ?_;intro w5 ag B b4;replace J:=yD (J.out.below ag);replace HR:=yD (HR.out.below ag);replace hc:=hc.below ag;replace O:=O.trans (Touch.of_below ag);clear ag;have FX:=yD (λ(W:Ad) (hW:Touch (λk=>k=p) w5 W/\ym w0 W p)=>kE (hW.1.kC B bF2) (j:=0) (v:=Qs na nm nc) rfl);refine kK (λW=>Touch (λk=>k=p) w5 W/\ym w0 W p) [Tt,Tt,Tt,Ff,Tt,Ff,Tt] bE5 bE5 qW (⟨Touch.of_below bR.drew,hc.below bR.drew⟩) ?_;intro wS E;refine kS ?_;refine kS ?_;refine kS ?_;refine ku rfl (λK H=>?_);go_simp;refine (kZ (n:=3) E.2 bF1).mono ?_;rintro e wS1 ⟨x,ai,L,bf,rfl,av,ap⟩;replace L:=L bF1;clear bf;replace E:=And.intro (E.1.trans ap) av;clear av ap;have hw:Br.wrap (1 + x)=1 + x:=Bj _ bF2;refine H _ _ E ?_;clear H K;refine jH ?_;refine kS ?_;refine ku rfl (λK H=>?_);go_simp;have d1:=E.1.size;refine (kPy ((J.out.touch E.1 qV).rd) (cn:=[.slice na nm.length nc]) (HR.out.touch E.1 qV).rd bF2).mono ?_;rintro e be ⟨v2,rfl,bu,V⟩;have a5:=V.size;obtain ⟨a2,c2,rfl,_⟩:=kD.sl bu.raw;replace E:=And.intro (E.1.trans (Touch.of_below V)) (E.2.below V);refine H _ _ E ?_;clear H K;refine jH ?_;refine kS ?_;refine kM ?_;have ad:=E.1.size;have bg:=recF_len (n:=nm) (f:=1 + x) hl;generalize recF nm (1 + x) l=l2 at *;have ab:=yD (bu.wide (T:=jg w be) rQ);have b0:=O.trans E.1;have eh:=E.2;have B2:=E.1.kC B bF2;have R:=yD (HR.out.touch E.1 qV);clear bu J O hc B HR V E hw;go_wp2_with fail;refine (yw (n:=4) eh bF1).mono ?_;rintro e w8 ⟨b,rfl,aa,o⟩;have b9:=o.size;have al:=yD (ab.out.touch o qV);have X:=yD (R.out.touch o qV);have B8:=o.kC B2 bF2;have U:=b0.trans o;clear ab R B2 b0 eh o;cases b
   · go_wp2;go_roundw;case rel=>exact ⟨j,a2,l2.length,c2,l2,rfl,by go_num,bg,yD rfl,by omega,yD (al.out.wide (λk hk=>⟨hk.1,by have:=hk.2;omega⟩)),by omega,aa,U⟩
     case measure=>simp [intOf]
   · rename ym w0 w8 p=>hc;have J:=al;have HR:=X;have B:=B8;have O:=U;clear al X B8 U;go_upto_region 8 with fail;have FX:=yD (λ(W:Ad) (hW:Touch (λk=>k=p) w8 W/\ym w0 W p)=>kE (hW.1.kC B bF2) (j:=0) (v:=Qs na nm nc) rfl);refine kK (λW=>Touch (λk=>k=p) w8 W/\ym w0 W p) [Tt,Tt,Tt,Ff,Tt,Ff,Tt] bE5 bE5 qW (⟨Touch.of_below bR.drew,hc.below bR.drew⟩) ?_;intro wS E;refine kS ?_;refine kS ?_;refine kS ?_;refine ku rfl (λK H=>?_);go_simp;refine (kZ (n:=3) E.2 bF1).mono ?_;rintro e wS1 ⟨y,ao,a4,b7,rfl,av,ap⟩;replace a4:=a4 bF1;clear b7;replace E:=And.intro (E.1.trans ap) av;clear av ap;have hw:Br.wrap (1 + y)=1 + y:=Bj _ bF2;refine H _ _ E ?_;clear H K;refine jH ?_;refine kS ?_;refine ku rfl (λK H=>?_);go_simp;have bx:=E.1.size;refine (kPx ((J.out.touch E.1 qV).rd) (cn:=[.slice na nm.length nc]) (HR.out.touch E.1 qV).rd bF2).mono ?_;rintro e a1 ⟨v3,rfl,N,V⟩;have i8:=V.size;obtain ⟨a3,c3,rfl,_⟩:=kD.sl N.raw;replace E:=And.intro (E.1.trans (Touch.of_below V)) (E.2.below V);refine H _ _ E ?_;clear H K;refine jH ?_;refine kS ?_;refine kM ?_;have ac:=E.1.size;have f8:=recS_len (n:=nm) (f:=1 + y) bg;generalize recS nm (1 + y) l2=l3 at *;have aq:=yD (N.wide (T:=jg w a1) rQ);have Z:=O.trans E.1;have ho:=E.2;clear N J O hc B HR V E hw;go_wp2;go_roundw;case rel=>exact ⟨j,a3,l3.length,c3,l3,rfl,by go_num,f8,yD rfl,by omega,aq,by omega,ho,Z⟩
     case measure=>simp [intOf]
def jFh {w0 w:Ad} {p:Nat} (hc:ym w0 w p) :
    Ba prog 88 #[.pointer (some ⟨p,0,none⟩)] w λe w'=>∃ a c l,e=.returned (.slice a l.length c)/\(kD.slice 179 kN).own w' [Qs a l c] l (jg w w')/\l.length<=48/\ym w0 w' p/\Touch (λk=>k=p) w w':=by
 go_enter func88,ntmps88
 obtain ⟨bh,br⟩:=hc.lt
 go_wp2_with fail
 refine (kQx hc).mono ?_
 rintro e w1 ⟨a,c,l,rfl,hO,hl,F,D⟩
 have bj:=D.size
 have O:=D
 clear hc D
 have hc:=F
 clear F
 have J:=yD (hO)
 clear hO
 go_wp2_with fail
 refine (kZ (n:=10) hc bF1).mono ?_
 rintro e w2 ⟨m,bc,bk,bq,rfl,F,D⟩
 have bw:=D.size
 obtain ⟨J,O⟩:=uS
 clear hc D
 have hc:=F
 clear F
 replace bk:=bk bF1
 clear bq
 obtain ⟨m,rfl⟩:=Ac bc
 by_cases cl:m=0
 · subst cl;go_wp2_with fail;refine (kWn hc).mono ?_;rintro e w3 ⟨na,nc,nm,rfl,hr,bi,F,D⟩;have bz:=D.size;obtain ⟨J,O⟩:=uS;clear hc D;have hc:=F;clear F;have HR:=yD (hr);clear hr;go_wp2_with fail;refine (kZ (n:=8) hc bF1).mono ?_;rintro e w4 ⟨f,ei,dr,eg,rfl,F,D⟩;have b5:=D.size;obtain ⟨J,HR,O⟩:=z8;clear hc D;have hc:=F;clear F;replace dr:=dr bF1;clear eg;go_wp2_with fail;refine (kAd (hc.below (bR.alloc nL _)) (kD.kEh _ [0,1,50,51,-1] bF1 bF1) bF2 bF1 bF1).mono ?_;rintro e w5 ⟨y,bd,bv,rfl,F,D⟩;obtain ⟨D,b4⟩:=xO;obtain ⟨J,HR,O⟩:=z8;clear hc D;have hc:=F;clear F;have hy:=kD.kJo (lo:=-1) (hi:=51) bF1 bd;go_wp2_with (at_builtin;refine kD.zQ rfl _ _ 31 rfl (r:=kN) (e:=179) Al kBf rfl bF1 bF1 J.out bR (kD.yQ HR.out (kD.jl (kD.ky bF2) (kD.ky bF2))) bF4 bF4 qC bF2 ?_);intro v9 w9 ah V;have H:=V.size;have N:(l++[(nm,f,y)]).length<=25:=bE6;generalize l++[(nm,f,y)]=q at *;obtain ⟨a9,c9,bx,_⟩:=kD.kAw ah.raw;obtain rfl:v9=_:=by simpa using bx
   have bm:=yD (ah.wide (T:=jg w w9) bL);have E:=hc.touch V vO vH;have o:=O.kBr V (λk q=>q.1.1);clear ah V bx;go_wp2;go_ret;exact ⟨_,_,q,rfl,bm.out,by omega,E,o⟩
 have L:¬ (m:Int)=0:=bF2
 by_cases dy:m=1
 · subst dy;go_wp2_with fail;refine (kGk J.out.rd).mono ?_;rintro e w3 ⟨vc,rfl,hr,hb⟩;have bz:=hb.size;replace J:=yD (J.out.below hb);obtain ⟨hc,O⟩:=uT;clear hb;have HR:=yD (hr);clear hr;obtain ⟨ya,Y,yc,hv,U⟩:=HR.out.parts;obtain rfl:=hv;go_wp2_with (at_builtin;refine kD.kQo rfl _ _ 31 rfl (r:=kN) (e:=179) Al kBf rfl bF1 bF1 J.out HR.out bF4 bF4 qC bF2 ?_);intro v9 w9 ah V;have H:=V.size;have N:(l++l).length<=48:=bE6;generalize l++l=q at *;obtain ⟨a9,c9,bx,_⟩:=kD.kAw ah.raw;obtain rfl:v9=_:=by simpa using bx
   have bm:=yD (ah.wide (T:=jg w w9) bL);have E:=hc.touch V vU vL;have o:=O.kBr V (λk q=>q.1);clear ah V bx;go_wp2;go_ret;exact ⟨_,_,q,rfl,bm.out,by omega,E,o⟩
 have I:¬ (m:Int)=1:=bF2
 go_wp2
 go_ret
 exact ⟨_,_,l,rfl,J.out.wide sP,by omega,hc,O⟩
end Go.Proofs.YthocbplmdjkifaaGreat
namespace Go.Proofs.YthocbplmdjkifaaGreat
open Go _root_.Go.Proofs.Tryz
section
variable {P:Program} {ops:Bw Oper} {S S2:Ad->Prop} {Q:Exit->Act->Ad->Prop}
def treeC (md:Av) (ops:Bw Oper) (n:Nat):Bool :=
  (List.range ops.size).all λt=>decide (t<=n) || (((List.range t).any λj=>decide (n<=j) && Bt md ops t j) || (decide (0 < n) && (Bt md ops t (n - 1) && kJi md ops (n - 1) [])))
def sink_open {md:Av} {n m:Nat} {listed:Bw Bool} (hs:kJi md ops m []=true) (hm:m < ops.size) (inv:Bv md ops n listed):∀ (d i:Nat),m - i=d->i<=m->listed.getD i true=false->listed.getD m true=false:=by
 intro d;induction d using Nat.strongRecOn with
 | _ d ih =>
   intro i hd hi F;by_cases o:i=m
   · subst o;exact F
   · have h1:=Bd.1 hs i (List.mem_range.2 bF2);simp only [List.contains_nil,Aj,Ag,Ai] at h1;obtain ⟨j,I,bb⟩:=List.any_eq_true.1 h1;simp only [Aa,Ae] at bb;have bu:j<=m:=sV;obtain ⟨oj,N,e,he,hb,ab⟩:=Bl bb.2;cases hl:listed.getD j false with
     | true =>
       have h2:=inv.closed j oj N hl e he hb;rw [ab,getD_both F] at h2;cases h2
     | false =>
       have H:j < listed.size:=wX;exact ih (m - j) bF2 j rfl bu (getD_in H hl)
def kWk {md:Av} {n:Nat} {D:Ab Nat} {listed:Bw Bool} (hs:kJi md ops n D=true) (hc:treeC md ops n=true) (hn:n < ops.size) (inv:Bv md ops n listed) :
    ∀ (d i:Nat),n - i=d->i < n->D.contains i=false->listed.getD i true=false->∀ t,n<=t->t ∉ Am md ops listed:=by
 intro d
 induction d using Nat.strongRecOn with
 | _ d ih =>
   intro i hd hi Z F t ht hr;obtain ⟨_,U,o,O⟩:=mem_ready.1 hr;have E:t < ops.size:=(Array.getElem?_eq_some_iff.1 o).1;by_cases af:t=n
   · exact oU
   · have h1:=Bd.1 hc t (List.mem_range.2 E);simp only [Bool.or_eq_true,Aa,Ae] at h1;rcases h1 with h1 | h1 | h1
     · omega
     · exact oV
     · obtain ⟨V,hw,X⟩:=h1;have Y:=sink_open X bF2 inv _ i rfl bF2 F;obtain ⟨R,J,e,he,hb,ab⟩:=Bl hw;have:R=U:=Option.some.inj (J.symm.trans o);subst this;have h2:=O e he hb;rw [ab,getD_both Y] at h2;cases h2
def kYo {md:Av} {n i:Nat} {D:Ab Nat} {W:Oper} {v:Bi} {L:Bw Bool->Act->Ad->Prop} (hi:ops[i]?=some W) (E:∀ (j:Nat) (o:Oper) cs b,ops[j]?=some o->o.op≠.select cs b)
    (hQ:∀ c a w,Q (.panic c) (a.put W.dst v) w->Q (.panic c) a w) (hs:kJi md ops n D=true) (hc:treeC md ops n=true) (hn:n < ops.size) (U:i < n) (Z:D.contains i=false)
    (Y:∀ listed a w,L listed a w->∀ j∈Am md ops listed,n<=j) :
    ∀ (f:Nat) (listed:Bw Bool) (a:Act) (w:Ad),Bv md ops n listed ->
      (∀ j oj,ops[j]?=some oj->j≠i->listed.getD j true=false->(∀ e∈oj.after,Region.binds md e=true->e.on≠i)->W.apart ops oj=true) ->
      i∈Am md ops listed->YieldsIf P ops S W v a->S w ->
      kBv P md ops Q S n L f (listed.setIfInBounds i true) (a.put W.dst v) w->kBv P md ops Q S n L (f + 1) listed a w:=by
 intro f
 induction f with
 | zero =>
   intro listed a w inv _ hr hy hS H;have F:=(mem_ready.1 hr).1;refine ⟨λh=>wB,λj I=>?_⟩;have aa:j < n:=by
     rcases Nat.lt_or_ge j n with h | h
     · exact h
     · exact absurd I (kWk hs hc hn inv _ i rfl U Z F j h)
   exact oM
 | succ f ih =>
   intro listed a w inv R hr hy hS H;have F:=(mem_ready.1 hr).1;refine ⟨λh=>wB,λj I=>?_⟩;have aa:j < n:=by
     rcases Nat.lt_or_ge j n with h | h
     · exact h
     · exact absurd I (kWk hs hc hn inv _ i rfl U Z F j h)
   exact oN
def soft2OkC (md:Av) (ops:Bw Oper) (D:Ab Nat) (q q2:Ab (Nat × Bool)):Bool :=
  Bu ops && (decide (D.length + q.length < ops.size) && (D.all (λx=>decide (x < D.length + q.length)) && (q.all (λx=>decide (x.1 < D.length + q.length) && !D.contains x.1) && (kJi md ops (D.length + q.length) D && (treeC md ops (D.length + q.length) &&
    (preB md ops D (Ak ops.size false) && (q2.all (λx=>decide (x.1 < ops.size)) && (decide (D.length + q.length + q2.length=ops.size) && kEf md ops (D.length + q.length) q2 q (kLd D (Ak ops.size false))))))))))
def kIe {l:Ab Oper} {n:Nat} {D:Ab Nat} {q2:Ab (Nat × Bool)} (E:Bu l.toArray=true) (hQ:∀ c a d v w,Q (.panic c) (Act.put a d v) w->Q (.panic c) a w)
    (hs:kJi .any l.toArray n D=true) (hc:treeC .any l.toArray n=true) (hn:n < l.toArray.size):∀ (q:Ab (Nat × Bool)) (k:Nat) (listed:Bw Bool) (a:Act) (w:Ad),
    q.all (λx=>decide (x.1 < n) && !D.contains x.1)=true->Bv .any l.toArray n listed->kEf .any l.toArray n q2 q listed=true->S w->kOb P l.toArray S S2 Q (jG l q2) (q2.map (·.2)) k (jG l q) (q.map (·.2)) a w ->
    kBv P .any l.toArray Q S n (λlisted a w=>(Am .any l.toArray listed).all (λj=>decide (n<=j))=true/\kFf .any l.toArray q2 listed=true/\S2 w/\∃ k,kDc P l.toArray S2 Q k (jG l q2) (q2.map (·.2)) a w) q.length listed a w
  | [],k,listed,a,w,_,inv,hB,hS,h=>by
    exact oW
  | (i,true) :: q,k,listed,a,w,hi,inv,hB,hS,h=>by
    simp only [List.all_cons,Aa,Ae,Bq] at hi;have hil:i < l.toArray.size:=Nat.lt_trans hi.1.1 hn;have h0:l.toArray[i]?=some l.toArray[i]:=Ar hil;have hp:jG l ((i,true) :: q)=l.toArray[i] :: jG l q:=by
      exact oO
    rw [hp] at h;obtain ⟨v,hy,h⟩:=h;simp only [kEf,Aa] at hB;obtain ⟨hr,hi2⟩:=CO
    exact kYo h0 (Region.noSelect_spec E) (λc a w=>hQ c a _ _ w) hs hc hn hi.1.1 hi.1.2 (λH a' w' hL j I=>by simpa using Bd.1 hL.1 j I) q.length listed a w inv (Region.free_spec h0 hB.1.2) hr hy hS
      (kIe E hQ hs hc hn q (k + 1) _ _ _ hi2 (inv.set hr hi.1.1) hB.2 hS h)
  | (i,false) :: q,k,listed,a,w,hi,inv,hB,hS,h=>by
    simp only [List.all_cons,Aa,Ae,Bq] at hi;obtain ⟨hi2,hil⟩:=CP;have h0:l.toArray[i]?=some l.toArray[i]:=Ar hil;have hp:jG l ((i,false) :: q)=l.toArray[i] :: jG l q:=by
      exact oO
    rw [hp] at h;simp only [kEf,Aa,beq_iff_eq] at hB;have hr:i∈Am .any l.toArray listed:=bC9;refine ⟨by rw [hB.1];simp,λj I=>?_⟩;rw [hB.1] at I;obtain rfl:j=i:=bD7;refine ⟨hi.1.1,?_⟩;refine wpOp_mono (λa' w' F=>⟨F.1,kIe E hQ hs hc hn q (k + 1) _ _ _ hi2 (inv.set hr hi.1.1) hB.2 F.1 F.2⟩) (K:=λa' w'=>S w'/\kOb P l.toArray S S2 Q (jG l q2) (q2.map (·.2)) (k + 1) (jG l q) (q.map (·.2)) a' w') ?_;exact oQ
def kKq {id:Nat} {a:Act} {w:Ad} {l:Ab Oper} (S S2:Ad->Prop) (D:Ab Nat) (q q2:Ab (Nat × Bool)) (hm:P.follows .mixedOrders=true) (hB:soft2OkC .any l.toArray D q q2=true)
    (hQ:∀ c a d v w,Q (.panic c) (Act.put a d v) w->Q (.panic c) a w) (hS:S { w with drawn:=w.drawn + 1 })
    (h:∀ w',S w'->pre P l.toArray (λa'=>kKy P l.toArray S S2 Q (jG l q2) (q2.map (·.2)) 0 (jG l q) (q.map (·.2)) a' w') (kAu l D) a):(Code.region id l.toArray true).wp P Q a w:=by
 simp only [soft2OkC,Aa,Ae] at hB
 have h:=h _ hS
 unfold pre at h
 unfold kKy at h
 have E:Bv .any l.toArray (D.length + q.length) (Ak l.toArray.size false) :=
   ⟨by simp,λj oj _ hl=>qE,λt _ ht=>getD_in bC7 (getD_replicate_false _ _)⟩
 refine wp_region_any hm ?_
 obtain ⟨b1,b2,L,N,O,U,V,J,W,I⟩:=hB
 have R:q.all (λx=>decide (x.1 < D.length + q.length) && !D.contains x.1)=true:=fB
 have key:=kPb (f:=q.length + q2.length) b1 hQ b2 D (Ak l.toArray.size false) a (by simpa using L) E V (kPj (λa' hk=>by
   intro F;have H:=kIe (S2:=S2) b1 hQ O U b2 q 0 _ a' _ R F I hS hk;exact kBy (Q:=Q) (g:=q2.length) (λlisted a' w' hL=>by
     obtain ⟨_,hb,bq,k,hw⟩:=hL;exact wpAny_of_held (S:=S2) _ _ _ _ (kEy b1 hQ q2 k _ listed a' w' J nL hb bq hw)) _ _ _ _ H) _ _ h)
 rw [show D.length + (q.length + q2.length)=l.toArray.size by omega] at key
 exact key
end
end Go.Proofs.YthocbplmdjkifaaGreat

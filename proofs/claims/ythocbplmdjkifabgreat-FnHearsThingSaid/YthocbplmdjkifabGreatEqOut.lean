/-
  What goes out: compared.
-/
import Derived.Test.YthocbplmdjkifabGreatChain
set_option linter.unusedVariables false
set_option linter.defProp false
set_option linter.unusedSimpArgs false
set_option linter.unnecessarySimpa false
set_option maxRecDepth 100000
set_option maxHeartbeats 4000000
open _root_ renaming List->Aa
open List renaming length_append->Ab,mem_singleton->Ac
open Go renaming Value->Ad,World->Ae
namespace Go.Proofs.YthocbplmdjkifabGreat
open Go.RowKit _root_.Go.Proofs.Tryz
variable {x:ja} {y:jK} {n:kU} {f t:Int} {p:jQ} {w:Ae} {k:Nat} {D:Aa kY} {x0:List jK} {x4:List jH} {x5:List kM} {a:kDu} {cx cn:Aa Ad} {l:Aa jw} {x1:kr} {vl:Ad}
def kBu (f:Int) (y:jK) (D:Aa kY):Aa jw:=(D.filter (λr=>!decide (r.1=f))).map (λr=>(r.1,false,zI,y))
def kQt (f:Int) (y:jK) (D:Aa kY):(kBu f y D).length<=D.length:=by
 unfold kBu;rw [List.length_map];exact List.length_filter_le _ _
def jHd (h:k < D.length) (hf:¬ D[k].1=f):kBu f y (D.take (k + 1))=kBu f y (D.take k)++[(D[k].1,false,zI,y)]:=by
 exact V7
def dataQ_no (h:k < D.length) (hf:D[k].1=f):kBu f y (D.take (k + 1))=kBu f y (D.take k):=by
 exact V7
def kDe (n:kU) (s:Aa jI) (D:Aa kY):Aa jI:=D.foldl (λs r=>yT s n r.2.1) s
def jBw {s:Aa jI} {j:Nat} (h:j < D.length):kDe n s (D.take (j + 1))=yT (kDe n s (D.take j)) n D[j].2.1:=kLm h
def kQi (n:kU) (s:Aa jI) (D:Aa kY):(kDe n s D).length<=max s.length 24:=kNn D s
def kDa (y:jK) (t:Int) (x0:Aa jK) (x1:kr):kr:=if idxOf (isD y.1) x0 < 0 then kAv y t x1 else x1
def kIq (f:Int) (n:kU) (x4:Aa jH) (x5:Aa kM):Aa kM:=if mOk n x4 then kLn (kAd n x4) f x5 else x5
def kIh (x:ja) (p:jQ) (f:Int) (y:jK) (t:Int):kDu :=
  if ze x p y t then
    ((x.1,kDa y t x.1 x.2.1,kJc y.1 x.2.2.1,kDe y.1 x.2.2.2.1 (kEo y.1 x.2.2.1),x.2.2.2.2.1,kIq f y.1 x.2.2.2.2.1 x.2.2.2.2.2.1,x.2.2.2.2.2.2),kBu f y (kEo y.1 x.2.2.1))
  else (kLc x,[])
def kJu (h:ze x p y t=false):kIh x p f y t=(kLc x,[]):=by unfold kIh;rw [h];rfl
def kCa (h:ze x p y t=true):kIh x p f y t =
    ((x.1,kDa y t x.1 x.2.1,kJc y.1 x.2.2.1,kDe y.1 x.2.2.2.1 (kEo y.1 x.2.2.1),x.2.2.2.2.1,kIq f y.1 x.2.2.2.2.1 x.2.2.2.2.2.1,x.2.2.2.2.2.2),kBu f y (kEo y.1 x.2.2.1)):=by unfold kIh;rw [h];rfl
def kYr (y:jK) (t:Int) (c:Int) (l:Aa kW):∃ k,kAv y t (c,l)=(c,k):=by
 unfold kAv;split;exact ⟨_,rfl⟩;exact ⟨_,rfl⟩
def jEb (h:idxOf (isD y.1) x0 < 0):kDa y t x0 x1=kAv y t x1:=by unfold kDa;rw [if_pos h]
def jHg (h:¬ idxOf (isD y.1) x0 < 0):kDa y t x0 x1=x1:=by unfold kDa;rw [if_neg h]
def kUf (h:mOk n x4=true):kIq f n x4 x5=kLn (kAd n x4) f x5:=by unfold kIq;rw [h];rfl
def kZy (h:mOk n x4=false):kIq f n x4 x5=x5:=by unfold kIq;rw [h];rfl
def toFace (f:Int) (x:jw):Bool:=x.1==f
def kIj (x:jw):Bool:=!x.2.1 && (x.1==0)
def kOo (hl:Cq.rd w [vl] l) :
    Calls prog 17 #[vl] w (kAo 43 jC ((l.filter kIj).map (λx:jw=>x.2.2.2)) w):=by
 have HL:=yD hl;obtain ⟨la,lp,rfl,ll⟩:=kD.sl hl.1;refine oL λbm=>?_;clear hl;go_enter func17,ntmps17;go_wp2;go_loopw [3,4] (λv i wr=>∃ k:Nat,k<=l.length/\i=.int .i64 k/\Hid (kD.ko 43 jC wr v (((l.take k).filter kIj).map (λx:jw=>x.2.2.2)) (jW w wr))/\Qb w wr) (λ_ i _=>l.length - (intOf i).toNat);case atStart=>exact ⟨0,Nat.zero_le _,rfl,yD kD.ko.void,bR.alloc nL _⟩
 obtain ⟨k,hk,rfl,F,D⟩:=hrel;refine aH F λoa on oc ho ak=>?_;obtain rfl:=ho;have ag:(((l.take k).filter kIj).map (λx:jw=>x.2.2.2)).length<=k:=by exact fm_le hk
 have X:=D.size;by_cases hlt:k < l.length
 · obtain ⟨qb,qo,rfl,ah,aj,ao,cc,cf,b9,cw,bx,bz,b6,a6,qr,a2,a4,a5,be,bo,aq,bd,bb,bf,bv,al⟩:=kD.get11 (HL.1.below D) hlt rfl;refine JH λa3 br bn=>?_;generalize l[k]=x at *;refine aN br bn λan aa=>?_;clear br bn;obtain ⟨x0,x1,x2,x3⟩:=x;obtain ⟨rfl,rfl,rfl,rfl,rfl,rfl,rfl,au,az,aw,bi,bk,bq,b5,bj,bt,ai,Z,a1,Y,av,ar⟩:=kHg qr;obtain ⟨ax,b3,rfl,b8,cd,cq,rfl,b1,ck,b4,rfl,b2,cv,cg,rfl,b0⟩:=kD.sx bi (kD.sx ai (kD.sx Z (kD.sl Y)));have px:jC.rd wr _ x3:=⟨bj,a3.2.2.2⟩;cases x1
   · cases hq:(x0==0);exact KV D;have ch:=yD (an.out bI4);clear an aa;go_wp2_with fail;refine (kBv px).mono ?_;refine LV λwT ba a7 b7 ez bg c2 ew a8 cl eu OT ee=>?_;go_upto_region 7 with fail;exact UM
   exact KL D
 exact FY
def kOw (hl:Cq.rd w [vl] l) :
    Calls prog 16 #[vl] w (kAo 43 jC ((l.filter kIj).map (λx:jw=>x.2.2.2)) w):=by
 have HL:=yD hl;obtain ⟨la,lp,rfl,ll⟩:=kD.sl hl.1;refine oL λbm=>?_;clear hl;go_enter func16,ntmps16;go_wp2;go_loopw [3,9] (λv i wr=>∃ k:Nat,k<=l.length/\i=.int .i64 k/\Hid (kD.ko 43 jC wr v (((l.take k).filter kIj).map (λx:jw=>x.2.2.2)) (jW w wr))/\Qb w wr) (λ_ i _=>l.length - (intOf i).toNat);case atStart=>exact ⟨0,Nat.zero_le _,rfl,yD kD.ko.void,bR.alloc nL _⟩
 obtain ⟨k,hk,rfl,F,D⟩:=hrel;refine aH F λoa on oc ho ak=>?_;obtain rfl:=ho;have ag:(((l.take k).filter kIj).map (λx:jw=>x.2.2.2)).length<=k:=by exact fm_le hk
 have X:=D.size;by_cases hlt:k < l.length
 · obtain ⟨qb,qo,rfl,ah,aj,ao,cc,cf,b9,cw,bx,bz,b6,a6,qr,a2,a4,a5,be,bo,aq,bd,bb,bf,bv,al⟩:=kD.get11 (HL.1.below D) hlt rfl;refine JH λa3 br bn=>?_;generalize l[k]=x at *;refine aN br bn λan aa=>?_;clear br bn;obtain ⟨x0,x1,x2,x3⟩:=x;obtain ⟨rfl,rfl,rfl,rfl,rfl,rfl,rfl,au,az,aw,bi,bk,bq,b5,bj,bt,ai,Z,a1,Y,av,ar⟩:=kHg qr;obtain ⟨ax,b3,rfl,b8,cd,cq,rfl,b1,ck,b4,rfl,b2,cv,cg,rfl,b0⟩:=kD.sx bi (kD.sx ai (kD.sx Z (kD.sl Y)));have px:jC.rd wr _ x3:=⟨bj,a3.2.2.2⟩;go_upto_region 5 with fail;refine oM λwC EC N=>?_;have bl:=EC.size;obtain ⟨M0,M1,M2,M3,M4,M5,M6,M7,R,I,E⟩:=jBy N;clear N;replace F:=yD ((F.below EC).wide (T:=jW w wC) vD);have H:=(tQ D EC);cases x1
   · cases hq:(x0==0);exact KV H;have ch:=yD (an.out bI4);clear an aa;exact TH
   exact KL H
 exact FY
def kDq (l:Aa kY):Aa Int:=l.map (·.1)
def kJz (n:kU) (x:ja):Aa Int:=if idxOf (jR n) x.2.2.1 < 0 then [] else kDq (x.2.2.1.getD (idxOf (jR n) x.2.2.1).toNat ([],[],0)).2.1
def jGz (h:idxOf (jR n) x.2.2.1 < 0):kJz n x=[]:=by unfold kJz;rw [if_pos h]
def jDr (h:idxOf (jR n) x.2.2.1=k) (hk:k < x.2.2.1.length):kJz n x=kDq x.2.2.1[k].2.1:=by
 unfold kJz;exact UG
def kVc {l:Aa kY} (h:k < l.length):kDq (l.take (k + 1))=kDq (l.take k)++[l[k].1]:=by
 unfold kDq;rw [List.take_succ_eq_append_getElem h,List.map_append];rfl
def kKz (l:List kY):(kDq l).length=l.length:=by simp [kDq]
def kSl (hx:jc.rd w cx x) (hn:kQ.rd w cn n) :
    Calls prog 23 #[.agg cx.toArray,.agg cn.toArray] w (kAj Ck (kJz n x) w):=by
 obtain ⟨nv,rfl,ab⟩:=kT hn.1;obtain ⟨na,np,rfl,_⟩:=kD.sl ab;have HN:=yD hn;have cw:=yD hx.2.2.2.1;obtain ⟨el,e1,f3,f1,fw,fu,rfl,ac,bc,bl,bj,bf,bp,bt,c6,dp⟩:=yF hx.1;obtain ⟨dg,dd,rfl,en,dj,di,rfl,e4,d4,dz,rfl,fx,eb,d9,rfl,fz,d3,dy,rfl,f5,dx,dr,rfl,fy⟩:=kD.sx ac (kD.sx bj (kD.sx bf (kD.sx bp (kD.sx bt (kD.sl c6)))));have HP:=yD bf;have E:x.2.2.1.length<=16777216:=cw.1;clear ab hn hx ac bc bl bj bp bt c6 dp bf;go_enter func23,ntmps23;go_upto_region 1 with fail;refine fK λX U EB=>?_;have KP:Qd X w 3 (Qs d4 x.2.2.1 dz):=bA9;refine IR λKN=>?_;refine DZ λcc=>?_;clear U;have ED:=EB;go_wp2_with fail;refine (kEd (HP.below ED) (HN.1.below ED)).mono ?_;refine fO λw2 V=>?_;have E2:=(tQ ED V);have am:=V.size;replace KP:=cL V KP;clear KN V ED EB;by_cases hk:idxOf (jR n) x.2.2.1 < 0
 · have L:=yD (jGz hk);have em:¬ (0<=idxOf (jR n) x.2.2.1):=bJ5;generalize hq:idxOf (jR n) x.2.2.1=q at *;clear hq;go_wp2;go_loopw [6,7] (λv i wr=>v=.slice (Qa w2) 0 0/\i=.int .i64 0/\Qb w wr) (λ_ _ _=>0);case atStart=>exact ⟨rfl,rfl,E2.alloc E2.size _⟩
   obtain ⟨rfl,rfl,D⟩:=hrel;go_wp2;go_ret;exact ⟨_,rfl,by rw [L.out];exact kD.jr,D⟩
 refine BG λk Z bd L bg bu O qb qo qE c0 sa sp W aw HB=>?_;clear hk;generalize x.2.2.1[k]=y at *;have e5:y.2.1.length<=16777216:=HB.2.1.1;subst qE;go_wp2;go_loopw [6,7] (λv i wr=>∃ j:Nat,j<=y.2.1.length/\i=.int .i64 j/\Hid (kD.ko 3 kD.int wr v (kDq (y.2.1.take j)) (jW w2 wr))/\Qb w2 wr) (λ_ i _=>y.2.1.length - (intOf i).toNat);case atStart=>exact ⟨0,Nat.zero_le _,rfl,yD kD.ko.void,bR.alloc nL _⟩
 obtain ⟨j,J,rfl,F,D⟩:=hrel;have dc:(0:Int)<=j:=bJ5;have Y:(j:Int)<=y.2.1.length:=bJ5;have dn:=D.size;replace KP:=cL D KP;replace W:=cL D W;refine aH F λoa on oc ho ak=>?_;obtain rfl:=ho;have ag:(kDq (y.2.1.take j)).length<=j:=by rw [kKz];simp;omega
 have af:w.heap.size<=w2.heap.size:=E2.size;by_cases hlt:j < y.2.1.length
 · have ce:(j:Int) < y.2.1.length:=bJ5;have ch:=yD (kVc hlt);obtain ⟨rb,ro,rfl,d0,I,N,rr,R0,R1,R2⟩:=kD.zx (aw.below D) hlt rfl;obtain ⟨rfl,rfl,rfl,ay,ap,bb⟩:=yJ rr;clear rr;generalize y.2.1[j]=z at *;go_wp2_with (at_builtin;refine kD.jN rfl _ _ 63 rfl (r:=kD.int) (e:=3) underlying63 zk rfl bJ4 bJ4 (B:=w2.heap.size) F.out bJ7 bJ7 rfl (kD.jB (n:=z.1) ay wr) rfl (λ_ _ h=>h) vD (λ_ h=>h.elim) bJ5 wO ?_);intro v5 w5 aa ae bw;have a1:Qb w2 w5:=D.trans ae;exact KX
 exact G8
def kDo (hx:jc.rd w cx x) (hn:kQ.rd w cn n) :
    Calls prog 22 #[.agg cx.toArray,.agg cn.toArray] w (kAj Ck (kJz n x) w):=by
 obtain ⟨nv,rfl,ab⟩:=kT hn.1;obtain ⟨na,np,rfl,_⟩:=kD.sl ab;have HN:=yD hn;have cw:=yD hx.2.2.2.1;obtain ⟨el,e1,f3,f1,fw,fu,rfl,ac,bc,bl,bj,bf,bp,bt,c6,dp⟩:=yF hx.1;obtain ⟨dg,dd,rfl,en,dj,di,rfl,e4,d4,dz,rfl,fx,eb,d9,rfl,fz,d3,dy,rfl,f5,dx,dr,rfl,fy⟩:=kD.sx ac (kD.sx bj (kD.sx bf (kD.sx bp (kD.sx bt (kD.sl c6)))));have HP:=yD bf;have E:x.2.2.1.length<=16777216:=cw.1;clear ab hn hx ac bc bl bj bp bt c6 dp bf;go_enter func22,ntmps22;go_upto_region 1 with fail;refine fK λX U EB=>?_;have KP:Qd X w 3 (Qs d4 x.2.2.1 dz):=bA9;refine IR λKN=>?_;refine DZ λcc=>?_;clear U;go_upto_region 2 with fail;generalize R:World.alloc X _=wC;have EC:Qb X wC:=vT;have a9:wC.heap.size=X.heap.size + 1:=bI2;clear R;refine aL EC KP KN λKP KN=>?_;have ED:=(tQ EB EC);go_wp2_with fail;refine (kFy (HP.below ED) (HN.1.below ED)).mono ?_;refine fO λw2 V=>?_;have E2:=(tQ ED V);have am:=V.size;replace KP:=cL V KP;clear KN V ED EB;by_cases hk:idxOf (jR n) x.2.2.1 < 0
 · have L:=yD (jGz hk);have em:¬ (0<=idxOf (jR n) x.2.2.1):=bJ5;generalize hq:idxOf (jR n) x.2.2.1=q at *;clear hq;go_wp2;go_ret;exact ⟨_,rfl,by rw [L.out];exact kD.jr,E2⟩
 refine BG λk Z bd L bg bu O qb qo qE c0 sa sp W aw HB=>?_;clear hk;generalize x.2.2.1[k]=y at *;have e5:y.2.1.length<=16777216:=HB.2.1.1;subst qE;go_wp2;go_loopw [5,23] (λv i wr=>∃ j:Nat,j<=y.2.1.length/\i=.int .i64 j/\Hid (kD.ko 3 kD.int wr v (kDq (y.2.1.take j)) (jW w2 wr))/\Qb w2 wr) (λ_ i _=>y.2.1.length - (intOf i).toNat);case atStart=>exact ⟨0,Nat.zero_le _,rfl,yD kD.ko.void,bR⟩
 obtain ⟨j,J,rfl,F,D⟩:=hrel;have dc:(0:Int)<=j:=bJ5;have Y:(j:Int)<=y.2.1.length:=bJ5;have dn:=D.size;replace KP:=cL D KP;replace W:=cL D W;refine aH F λoa on oc ho ak=>?_;obtain rfl:=ho;have ag:(kDq (y.2.1.take j)).length<=j:=by rw [kKz];simp;omega
 have af:w.heap.size<=w2.heap.size:=E2.size;by_cases hlt:j < y.2.1.length
 · have ce:(j:Int) < y.2.1.length:=bJ5;have ch:=yD (kVc hlt);obtain ⟨rb,ro,rfl,d0,I,N,rr,R0,R1,R2⟩:=kD.zx (aw.below D) hlt rfl;obtain ⟨rfl,rfl,rfl,ay,ap,bb⟩:=yJ rr;clear rr;generalize y.2.1[j]=z at *;go_upto_region 7 with fail;generalize G:World.alloc wr _=wE;have H:Qb wr wE:=vU;have M0:Qd wE wr 0 (Qn z.1):=by rw [<- G];simp [go_sem]
   have ah:=H.size;clear G;refine aI H λF=>?_;go_wp2_with (at_builtin;refine kD.jN rfl _ _ 63 rfl (r:=kD.int) (e:=3) underlying63 zk rfl bJ4 bJ4 (B:=w2.heap.size) F.out bJ7 bJ7 rfl (kD.jB (n:=z.1) ay wE) rfl (λ_ _ h=>h) vD (λ_ h=>h.elim) bJ5 wO ?_);intro v5 w5 aa ae bw;have a1:Qb w2 w5:=(tQ D H).trans ae;exact KX
 exact G8
def jDs:kJz n x=kDq (kEo n x.2.2.1):=by
 unfold kJz kEo;split <;> rfl
structure Told (D:Aa jw) (fl:Aa Int) (f:Int) (cnt:Nat->Nat):Prop where
  zero:cnt 0=0
  all:cnt fl.length=D.length
  one:∀ j (h:j < fl.length),(D.filter (toFace fl[j])).length=if fl[j]=f then 0 else 1
  next:∀ j (h:j < fl.length),cnt (j + 1)=cnt j + if fl[j]=f then 0 else 1
  most:∀ j,cnt j<=D.length
  home:((D.filter kIj).map (λx:jw=>x.2.2.2)).length=(D.filter (toFace 0)).length
  len:D.length<=fl.length
def kJi {α β:Type} {r:kD α} {q:kD β} {cs ds:Aa Ad} {x:α} {y:β} (h:r.raw w cs x) (k:q.raw w ds y):(kD.pair r q).raw w (cs++ds) (x,y) :=
  ⟨cs,ds,λ_=>True,λ_=>True,rfl,h,k,λ_ _=>trivial,λ_ _=>trivial,λh=>Bool.noConfusion h⟩
def jDu (a:kDu) (y:ja):ja:=(a.1.1,a.1.2.1,a.1.2.2.1,a.1.2.2.2.1,a.1.2.2.2.2.1,a.1.2.2.2.2.2.1,y.2.2.2.2.2.2)
def silent (a:kDu) (y:ja):Bool:=decide (a.2.length=0) && decide (jDu a y=y)
def silent_no {y:ja} (h:¬ a.2.length=0):silent a y=false:=by unfold silent;rw [decide_eq_false h];rfl
def silent_len {y:ja} (h:a.2.length=0):silent a y=decide (jDu a y=y):=by unfold silent;rw [decide_eq_true h];rfl
def jDk {ca:Aa Ad} (ha:kHh.raw w ca a) {cy:Aa Ad} {y:ja} (hy:jc.raw w cy y) :
    Calls prog 26 #[.agg ca.toArray,.agg cy.toArray] w (bQ w (.bool (silent a y))):=by
 have Ha:=yD ha;obtain ⟨bd,bw,bx,b3,bj,cc,ce,rfl,a2,ak,a8,be,a5,ax,aq,an,am,bf,ay⟩:=kLe ha;obtain ⟨E,F,rfl,bb,aj,ag,rfl,cd,af,O,rfl,cf,ah,ab,rfl,bg,Y,aa,rfl,bh,V,J,rfl,bz,az,a4,rfl,bv⟩:=kD.sx ak (kD.sx a5 (kD.sx ax (kD.sx aq (kD.sx an (kD.sx am (kD.sl ay))))));have Hy:=yD hy;obtain ⟨a3,bo,b7,b2,b5,b9,rfl,ae,ai,al,ao,ap,au,a1,a7,bc⟩:=yF hy;obtain ⟨aw,av,rfl,a6,a9,ba,rfl,bm,bt,bi,rfl,b1,bk,bq,rfl,b4,br,bu,rfl,b8,bl,bp,rfl,b6⟩:=kD.sx ae (kD.sx ao (kD.sx ap (kD.sx au (kD.sx a1 (kD.sl a7)))));have b0:=yD (show jc.raw w [Qs E a.1.1 F,Qn a.1.2.1.1,Qs aj a.1.2.1.2 ag,Qs af a.1.2.2.1 O,Qs ah a.1.2.2.2.1 ab,Qs Y a.1.2.2.2.2.1 aa,Qs V a.1.2.2.2.2.2.1 J,Qn y.2.2.2.2.2.2] (jDu a y) from kJi ak (kJi a8 (kJi ax (kJi aq (kJi an (kJi am (⟨rfl,bc⟩:kD.int.raw w [_] _)))))));have ej:=yD (silent_len (a:=a) (y:=y));have ch:=yD (silent_no (a:=a) (y:=y));generalize jDu a y=N at *;have ar:=Hy;clear Ha Hy ha hy a2 ak a8 be a5 ax aq an am bf ay ae ai al ao ap au a1 a7 bc;go_enter func26,ntmps26;go_upto_region 1 with fail;refine fK λX U EB=>?_;refine DZ λbn=>?_;have XB:Qr X w #[Qs E a.1.1 F,Qn a.1.2.1.1,Qs aj a.1.2.1.2 ag,Qs af a.1.2.2.1 O,Qs ah a.1.2.2.2.1 ab,Qs Y a.1.2.2.2.2.1 aa,Qs V a.1.2.2.2.2.2.1 J,Qn a.1.2.2.2.2.2.2,Qs az a.2 a4] 48:=wP;have XY:Qr X (w.heap.size + 1) (Qh aw y.1 av y.2.1.1 a9 y.2.1.2 ba bt y.2.2.1 bi bk y.2.2.2.1 bq br y.2.2.2.2.1 bu bl y.2.2.2.2.2.1 bp y.2.2.2.2.2.2) 33:=by rw [<- U];exact kg bJ6
 clear U;have Y7:=kE (b:=w.heap.size + 1) XY (j:=7) (v:=.int .i64 y.2.2.2.2.2.2) rfl;have B7:=kE (b:=w.heap.size) XB (j:=7) (v:=.int .i64 a.1.2.2.2.2.2.2) rfl;have Z7:=frozen_of_row X (w.heap.size) 7 _ _ XB;go_upto_region 2 with fail;generalize R:World.setCell X _ _=wC;have EC:Qb w wC:=by rw [<- R];exact EB.setCell rQ _
 have D:Qr wC w #[Qs E a.1.1 F,Qn a.1.2.1.1,Qs aj a.1.2.1.2 ag,Qs af a.1.2.2.1 O,Qs ah a.1.2.2.2.1 ab,Qs Y a.1.2.2.2.2.1 aa,Qs V a.1.2.2.2.2.2.1 J,Qn y.2.2.2.2.2.2,Qs az a.2 a4] 48:=by
  rw [<- R];have y0:=heap_setCell_same _ (w.heap.size) 7 _ 48 (Qn y.2.2.2.2.2.2) XB;exact y0
 have H:Qr wC (w.heap.size + 1) (Qh aw y.1 av y.2.1.1 a9 y.2.1.2 ba bt y.2.2.1 bi bk y.2.2.2.1 bq br y.2.2.2.2.1 bu bl y.2.2.2.2.2.1 bp y.2.2.2.2.2.2) 33:=by rw [<- R];exact (heap_setCell_other _ ⟨w,7,none⟩ (w.heap.size + 1) _ (show w.heap.size + 1≠w.heap.size by omega)).trans XY
 clear R Y7 B7 Z7 XB XY EB bn;have B0:=kE (b:=w.heap.size) D (j:=0) (v:=Qs E a.1.1 F) rfl;have B1:=kE (b:=w.heap.size) D (j:=1) (v:=.int .i64 a.1.2.1.1) rfl;have B2:=kE (b:=w.heap.size) D (j:=2) (v:=Qs aj a.1.2.1.2 ag) rfl;have B3:=kE (b:=w.heap.size) D (j:=3) (v:=Qs af a.1.2.2.1 O) rfl;have B4:=kE (b:=w.heap.size) D (j:=4) (v:=Qs ah a.1.2.2.2.1 ab) rfl;have B5:=kE (b:=w.heap.size) D (j:=5) (v:=Qs Y a.1.2.2.2.2.1 aa) rfl;have B6:=kE (b:=w.heap.size) D (j:=6) (v:=Qs V a.1.2.2.2.2.2.1 J) rfl;have B7:=kE (b:=w.heap.size) D (j:=7) (v:=.int .i64 y.2.2.2.2.2.2) rfl;have B8:=kE (b:=w.heap.size) D (j:=8) (v:=Qs az a.2 a4) rfl;have Y0:=kE (b:=w.heap.size + 1) H (j:=0) (v:=Qs aw y.1 av) rfl;have Y1:=kE (b:=w.heap.size + 1) H (j:=1) (v:=.int .i64 y.2.1.1) rfl;have Y2:=kE (b:=w.heap.size + 1) H (j:=2) (v:=Qs a9 y.2.1.2 ba) rfl;have Y3:=kE (b:=w.heap.size + 1) H (j:=3) (v:=Qs bt y.2.2.1 bi) rfl;have Y4:=kE (b:=w.heap.size + 1) H (j:=4) (v:=Qs bk y.2.2.2.1 bq) rfl;have Y5:=kE (b:=w.heap.size + 1) H (j:=5) (v:=Qs br y.2.2.2.2.1 bu) rfl;have Y6:=kE (b:=w.heap.size + 1) H (j:=6) (v:=Qs bl y.2.2.2.2.2.1 bp) rfl;have Y7:=kE (b:=w.heap.size + 1) H (j:=7) (v:=.int .i64 y.2.2.2.2.2.2) rfl;clear D H;by_cases hl:a.2.length=0
 · have HV:=yD (ej.out hl);have hz:((a.2.length:Int)==0)=true:=bF9;clear hl ej ch;have FX:=yD (λ(W:Ae) (hW:Qb wC W)=>cLs17 hW B0 B1 B2 B3 B4 B5 B6 B7 B8 Y0 Y1 Y2 Y3 Y4 Y5 Y6 Y7);refine kX (λW=>Qb wC W) [true,true,true,true,true,true,true,true,false,true,true] bR ?_;intro wS I;all_goals ((iterate 4 refine kZ ?_);refine jo λb Z=>?_;cases b <;> try simp only [jm] at Z)
   all_goals ((iterate 3 refine kZ ?_);(first | refine wkB (kWz (kD.raw.below b0.out (tQ EC I)) (kD.raw.below ar.out (tQ EC I))) (λwS1 I=>?_) | refine kZ ?_);refine kZ ?_;refine jo λb ac=>?_;cases b <;> try simp only [jm] at ac)
   all_goals (refine kR ?_;have G:=(tQ EC I))
   all_goals first|(have L:=yD (show silent a y=false by rw [HV.out];simp only [Q0,Z,ac]);go_wp2;go_ret;exact ⟨kJ L.symm,G⟩)|(have L:=yD (show silent a y=true by rw [HV.out];simp only [Q0,Z,ac]);go_wp2;go_ret;exact ⟨kJ L.symm,G⟩)
 have HV:=yD (ch.out hl);have hz:((a.2.length:Int)==0)=false:=bF9;clear hl ej ch;have FX:=yD (λ(W:Ae) (hW:Qb wC W)=>cLs17 hW B0 B1 B2 B3 B4 B5 B6 B7 B8 Y0 Y1 Y2 Y3 Y4 Y5 Y6 Y7);refine kX (λW=>Qb wC W) [true,true,true,true,true,true,true,true,false,true,true] bR ?_;refine q8 λwS I=>?_;all_goals (refine jo λb Z=>?_;cases b <;> try simp only [jm] at Z)
 all_goals ((iterate 3 refine kZ ?_);(first|(refine kI rfl I ?_)|(fail));refine jD ?_;refine kZ ?_;refine jo λb ac=>?_;cases b <;> try simp only [jm] at ac)
 all_goals (refine kR ?_;have G:=(tQ EC I))
 all_goals first|(go_wp2;go_ret;exact ⟨kJ HV.symm,G⟩)
def kLb (x:ja):kLc x=(x.1,x.2.1,x.2.2.1,x.2.2.2.1,x.2.2.2.2.1,x.2.2.2.2.2.1,wrap64 (x.2.2.2.2.2.2 + 1)):=by
 obtain ⟨x0,x1,x2,x3,x4,x5,x6⟩:=x;exact kVf
def dropN_valid (h:kBs x=true) (hd:x.2.2.2.2.2.2<=1000):kBs (kLc x)=true:=by
 obtain ⟨a,b,c,d,e,f,g,k⟩:=kJw.1 h;rw [kLb];refine kJw.2 ⟨a,b,c,d,e,f,g,?_⟩;show 0<=wrap64 _;unfold wrap64;omega
def drop_silent (y:ja):silent (kLc y,[]) y=true:=by
 unfold silent jDu;rw [kLb];simp
def leastA_in {l:Aa kW} (h:0 < l.length):kEg l l.length < l.length:=jGm h _ nL
def jGb (c:Int) (l:Aa kW):(kFh c l).Sublist l:=by
 unfold kFh;split;rw [<- List.eraseIdx_eq_take_drop_succ];exact List.eraseIdx_sublist _ _;exact List.Sublist.refl _
def roomC_fit {c:Int} {l:Aa kW} (h1:1<=c) (h:(l.length:Int)<=c):((kFh c l).length:Int) + 1<=c:=by
 by_cases q:c<=l.length
 · have hl:0 < l.length:=bJ5;rw [kSr rfl q];have:=leastA_in hl;simp only [Ab,List.length_take,List.length_drop];omega
 rw [kSs q];omega
def jEa {x:kr} (h:kCv x=true):kCv (kAv y t x)=true:=by
 cases hb:kCr y x
 · rw [kGm hb];obtain ⟨⟨a,b⟩,c,d⟩:=jAn.1 h;unfold kCr at hb;simp only [Bool.or_eq_false_iff,decide_eq_false_iff_not,Bool.not_eq_false'] at hb;have S:(kFh x.1 (kBk y.1 x.2)).Sublist (kBk y.1 x.2):=jGb _ _;have S2:(kBk y.1 x.2).Sublist x.2:=List.filter_sublist;refine jAn.2 ⟨⟨λe he=>?_,List.pairwise_append.2 ⟨(b.sublist S2).sublist S,List.pairwise_singleton _ _,λe he z hz=>?_⟩⟩,c,?_⟩
   · rcases List.mem_append.1 he with he | he;exact a _ (S2.subset (S.subset he));rw [Ac.1 he];exact hb.2
   · rw [Ac.1 hz];have:=(List.mem_filter.1 (S.subset he)).2;simpa [isC,eqN] using this
   have h1:=S2.length_le;have h2:=roomC_fit (c:=x.1) (l:=kBk y.1 x.2) bJ5 bJ5;show ((kFh x.1 (kBk y.1 x.2)++[(y,t)]).length:Int)<=x.1;simp only [Ab,List.length_cons,List.length_nil];omega
 rw [kJe hb];exact h
def satP_valid {l:Aa kF} (h:kEq l=true):kEq (kJc n l)=true:=by
 by_cases hi:idxOf (jR n) l < 0;rw [(kWd hi).1];exact h;obtain ⟨k,hk,e⟩:=kCo hi;rw [(kQj e hk).1];obtain ⟨a,b,c⟩:=kSf.1 h;have S:(l.take k++l.drop (k + 1)).Sublist l:=gI;exact kSf.2 ⟨Nat.le_trans S.length_le a,λp hp=>b p (S.subset hp),c.sublist S⟩
def procD_valid (h:kBs x=true) (hd:x.2.2.2.2.2.2<=1000):kBs (kIh x p f y t).1=true:=by
 cases hs:ze x p y t;rw [kJu hs];exact dropN_valid h hd;obtain ⟨a,b,c,d,e,m,g,k⟩:=kJw.1 h;rw [kCa hs];refine kJw.2 ⟨a,b,?_,satP_valid d,e,?_,?_,k⟩
 · show kCv (kDa y t x.1 x.2.1)=true;unfold kDa;split;exact jEa c;exact c
 · show kHn (kIq f y.1 x.2.2.2.2.1 x.2.2.2.2.2.1)=true;unfold kIq;split;exact recS_valid m;exact m
 have:=kQi y.1 x.2.2.2.1 (kEo y.1 x.2.2.1);show (kDe y.1 x.2.2.2.1 (kEo y.1 x.2.2.1)).length<=24;omega
def procD_gone (h:kEq x.2.2.1=true) (hs:ze x p y t=true):hasP (kIh x p f y t).1.2.2.1 y.1=false:=by
 rw [kCa hs];have:=sat_gone (n:=y.1) h;show decide (0<=idxOf (jR y.1) (kJc y.1 x.2.2.1))=false;exact decide_eq_false bJ5
def procD_again (h:hasP x.2.2.1 y.1=false):(kIh x p f y t).2=[]:=by
 rw [kJu (by unfold ze;rw [h];rfl)]
def procD_out {o:jw} (h:o∈(kIh x p f y t).2):o.2.1=false/\o.2.2.2=y/\o.1≠f/\o.1∈kJz y.1 x:=by
 cases hs:ze x p y t;rw [kJu hs] at h;simp at h;rw [kCa hs] at h;obtain ⟨r,hr,rfl⟩:=List.mem_map.1 h;obtain ⟨h1,h2⟩:=List.mem_filter.1 hr;refine ⟨rfl,rfl,by simpa using h2,?_⟩;rw [jDs];exact List.mem_map.2 ⟨r,h1,rfl⟩
def jFn {f:Int} {y:jK}:∀ {D:List kY},rising D->D.length<=(kBu f y D).length + 1
  | [],_=>by simp
  | r :: D,h=>by
    obtain ⟨h1,h2⟩:=List.pairwise_cons.1 h;by_cases e:r.1=f
    · have:kBu f y (r :: D)=kBu f y D:=by unfold kBu;rw [List.filter_cons_of_neg (by simp [e])]
      have h3:kBu f y D=D.map (λr=>(r.1,false,zI,y)):=by
        unfold kBu;rw [List.filter_eq_self.2 (λq hq=>by have:=h1 q hq;simp;omega)]
      rw [this,h3];simp
    · have:(kBu f y (r :: D)).length=(kBu f y D).length + 1:=by unfold kBu;rw [List.filter_cons_of_pos (by simp [e])];simp
      have:=jFn (f:=f) (y:=y) h2;simp only [List.length_cons];omega
def lenN_drop {m:Nat} (h:kPn m x):kPn m (kLc x):=by
 rw [kLb];exact h
def vOutS (x y:jw):Bool:=!((x.1 != y.1) || ((!(x.2.1==y.2.1)) || ((!decide (x.2.2.1=y.2.2.1)) || !decide (x.2.2.2=y.2.2.2))))
def vOutS_eq (x y:jw):vOutS x y=decide (x=y):=by
 obtain ⟨x0,x1,x2,x3⟩:=x;obtain ⟨y0,y1,y2,y3⟩:=y;rw [Bool.eq_iff_iff];simp [vOutS]
end Go.Proofs.YthocbplmdjkifabGreat

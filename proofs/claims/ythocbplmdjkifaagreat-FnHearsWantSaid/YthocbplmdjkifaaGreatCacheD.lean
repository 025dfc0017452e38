/-
  Data kept: the entries of the name go, the one least lately used goes if there is no room.
-/
import Derived.Test.YthocbplmdjkifaaGreatLenN
set_option linter.unusedVariables false
set_option linter.defProp false
set_option linter.unusedSimpArgs false
set_option linter.unnecessarySimpa false
set_option maxRecDepth 100000
set_option maxHeartbeats 4000000
open Bool renaming true->Tt,false->Ff
open Go renaming World->Aa,Value->Au,Calls->Ay,bodyPost_ret->Az
open Bool renaming not_false->Ab,and_false->Ac,false_and->Ad,not_true->Ae,and_true->Ag,true_and->Ah,or_false->Ai,false_or->Aj,or_true->Ap,true_or->Aq,not_not->Ar
open List renaming getElem?_cons_succ->Ak,getElem?_cons_zero->Al,drop_eq_getElem_cons->Aw,length_filter_le->Ba,map_cons->Bb,filter_append->Bc,map_nil->Be,length_cons->Bf
open Go.Proofs.Tryz renaming underlying25->Am
open _root_ renaming List->Av
open Int renaming natCast_nonneg->Bd
namespace Go.Proofs.YthocbplmdjkifaaGreat
open Go.RowKit _root_.Go.Proofs.Tryz
def jGn (x:kg) (w:Aa):Ending->Aa->Prop:=λe w'=>∃ v,e=.returned (.agg #[Qn x.1,v])/\kD.kY 144 jB w' v x.2 (jg w w')/\Qb w w'
def jGn.made {x:kg} {w:Aa} {e:Ending} {w':Aa} (hr:Qi x.1) (hl:x.2.length<=Big) (h:jGn x w e w'):kAb kP x w e w':=by
 obtain ⟨v,rfl,O,hb⟩:=h;exact ⟨[_,_],rfl,kD.kBg (r:=kD.int) (q:=kD.slice 144 jB) (cs:=[_]) (kD.ky hr) (O.own hl),hb⟩
def store_hr {w:Aa} {cs:Av Au} {x:kg} (hx:kP.rd w cs x):Qi x.1:=by
 obtain ⟨sv,_,ff,_⟩:=jN hx.1;exact ff
def kRb {w:Aa} {cs:Av Au} {x:kg} (hx:kP.rd w cs x):Ay prog 133 #[.agg cs.toArray] w (jGn x w):=by
 obtain ⟨hx,av⟩:=hx;obtain ⟨sv,rfl,ff,hl⟩:=jN hx;obtain ⟨la,lp,rfl,_⟩:=kD.sl hl;obtain ⟨c,l⟩:=x;have HL:Hid ((kD.slice 144 jB).rd w [Qs la l lp] l):=yD ⟨hl,av.2⟩;have bc:l.length<=16777216:=av.2.1;clear hx ff hl av;go_enter func133,ntmps133;go_wp2;generalize U:World.alloc (World.alloc (World.alloc w _) _) _=wA;obtain ⟨HZ,EA,XB,XR,XO⟩:=y9;clear U;go_loopw [4] (λi wr=>∃ (k:Nat) (v:Au),k<=l.length/\i=.int .i64 k/\Hid (Qr wr (w.heap.size + 1 + 1) #[Qn c,v] 27)/\Hid (kD.kY 144 jB wr v (l.take k) (jg (w.heap.size + 3) wr))/\Below (w.heap.size + 1 + 1) wA wr/\w.heap.size + 3<=wr.heap.size) (λi _=>l.length - (intOf i).toNat);case atStart=>exact ⟨0,_,Nat.zero_le _,rfl,XO,yD kD.kY.nil,bR,by have:=HZ.out;omega⟩
 obtain ⟨k,v,hk,rfl,XV,J,o,az⟩:=hrel;obtain ⟨oa,on,oc,ho,ay⟩:=J.out.parts;obtain rfl:=ho;have L0:=kE ((o.block _ (show w.heap.size < w.heap.size + 1 + 1 by omega)).trans XB.out) (j:=0) (v:=.int .i64 c) rfl;obtain ⟨L1,O,dq⟩:=DZ;by_cases hlt:k < l.length
 · obtain ⟨qb,qo,rfl,ac,ae,af,bt,bu,b3,qr,ap,aq,au,a7,ba,bi⟩:=kD.kOr (HL.out.1.below O) hlt rfl;have av:=kD.yx HL.out hlt;have bm:=yD (List.take_succ_eq_append_getElem hlt);generalize l[k]=x at *;obtain ⟨rfl,rfl,rfl,ah,aj,ak,aw,bj,bd,bp,bz,b2⟩:=jy qr;obtain ⟨ad,a4,rfl,a6,am,bk,rfl,bq,ao,bx,rfl,bw⟩:=kD.sx ak (kD.sx aw (kD.sl bd));have PX:jF.rd wr _ x.1:=⟨ah,av.1⟩;have HU:=yD b2;go_wp2_with fail;refine (kBb PX).mono ?_;rintro e wT ⟨tc,rfl,OT,ai⟩;obtain ⟨fr,c5,c4,rfl,b7,dy,ed,e3,ei,cd,br⟩:=jf OT.raw;obtain ⟨b0,dd,rfl,g8,b6,ck,rfl,c7,bb,a3,rfl,c3⟩:=kD.sx dy (kD.sx ed (kD.sl ei));clear b7 dy ed e3 ei cd br;have fx:=ai.size;go_upto_region 6 with fail;refine ja ?_;intro wD ED F _;have ag:=ED.size;obtain ⟨D0,D1,D2,D3,D4⟩:=yZ F;clear F;have V:=(tQ ai ED);have XS:=kC XV.out V;have M0:=kE XS (j:=0) (v:=.int .i64 c) rfl;have M1:=kE XS (j:=1) rfl;replace L0:=cL V L0;replace L1:=cL V L1;replace bi:=cL V bi;have FX:=yD (λ(W:Aa) (hW:Qb wD W)=>cLs10 hW L0 L1 M0 M1 bi D0 D1 D2 D3 D4);refine zZ (λW=>Qb wD W) [Tt,Tt,Tt,Tt,Tt,Tt,Tt,Tt,Tt,Tt,Ff] bE5 bE5 qW (bR.drew) ?_;intro wS E;all_goals ((iterate 10 refine kS ?_);(first|(refine kI rfl E ?_)|(refine ku rfl (λK H=>?_);go_simp;refine H _ _ (E.alloc E.size _) ?_;clear H K));refine jH ?_;refine yt ?_)
   have a2:=E.size;have Y:=(tQ V E);have XW:=kC XV.out Y;have aa:=o.trans (Y.mono bF2);replace J:=yD (J.out.below Y);have fl:(l.take k).length<=16777216:=bE6;go_wp2_with (at_builtin;refine kD.jR rfl _ _ 25 rfl (r:=jB) (e:=144) Am kBe rfl bF1 bF1 (B:=w.heap.size + 3) J.out bF4 bF4 rfl (kD.own.wide (T:=jg wr wT) (kD.yQ (r:=jF) (q:=kD.int) (cs:=[.slice b0 x.1.1.length dd,.slice b6 x.1.2.1.length ck,.slice bb x.1.2.2.1.length a3,.int .i64 x.1.2.2.2.1,.int .i64 x.1.2.2.2.2]) (ds:=[.int .i64 x.2]) (x:=x.1) (y:=x.2) (OT.below (tQ ED E)) (kD.ky HU.out)) (λj I=>I)) rfl nT sI nK bF2 bF2 ?_);exact aT
 obtain rfl:k=l.length:=bF2;obtain ⟨M0,M1,R0,R1,F0⟩:=xU;have bo:=F0 0;have bf:=F0 1;clear F0;have HF:=yD (J.out.cast wE);go_wp2;refine Az (v:=.agg #[Qn c,.slice oa on oc]) (by simp [results,results133,go_sem,R0,R1,bo,bf]) rfl ⟨_,rfl,?_,?_⟩
 · exact (((HF.out.setCell fK).setCell fK)).wide gL
 exact (O.setCell bF3 _).setCell bF3 _
def kRc {w:Aa} {cs:Av Au} {x:kg} (hx:kP.rd w cs x):Ay prog 133 #[.agg cs.toArray] w (kAb kP x w) :=
  (kRb hx).mono λ_ _ h=>h.made (store_hr hx) hx.2.2.1
def kXr {w:Aa} {cs:Av Au} {x:kg} {g:FuncId} {cp:Array Au} (p:kr->Bool) (hg:jL prog g) (hx:kP.rd w cs x)
    (an:∀ wr,Qb w wr->∀ y ds,jB.raw wr ds y->Ay prog g (#[.agg ds.toArray]++cp) wr (λe w'=>e=.returned (.bool (p y))/\Qb wr w')) :
    Ay prog 182 #[.agg cs.toArray,.func (.func g) #[] cp] w (jGn (x.1,x.2.filter p) w):=by
 have a5:=yD an
 unfold jL at hg
 clear an
 obtain ⟨hx,av⟩:=hx
 obtain ⟨sv,rfl,ff,hl⟩:=jN hx
 obtain ⟨la,lp,rfl,_⟩:=kD.sl hl
 obtain ⟨c,l⟩:=x
 have HL:Hid ((kD.slice 144 jB).rd w [Qs la l lp] l):=yD ⟨hl,av.2⟩
 have bc:l.length<=16777216:=av.2.1
 clear hx ff hl av
 go_enter func182,ntmps182
 go_wp2
 generalize U:World.alloc (World.alloc (World.alloc w _) _) _=wA
 obtain ⟨HZ,EA,XB,XR,XO⟩:=y9
 clear U
 go_loopw [14] (λi wr=>∃ (k:Nat) (v:Au),k<=l.length/\i=.int .i64 k/\Hid (Qr wr (w.heap.size + 1 + 1) #[Qn c,v] 27)/\Hid (kD.kY 144 jB wr v ((l.take k).filter p) (jg (w.heap.size + 3) wr))/\Below (w.heap.size + 1 + 1) wA wr/\w.heap.size + 3<=wr.heap.size) (λi _=>l.length - (intOf i).toNat)
 case atStart=>exact ⟨0,_,Nat.zero_le _,rfl,XO,yD kD.kY.nil,bR,by have:=HZ.out;omega⟩
 obtain ⟨k,v,hk,rfl,XV,J,o,az⟩:=hrel
 obtain ⟨oa,on,oc,ho,ay⟩:=J.out.parts
 obtain rfl:=ho
 obtain ⟨L1,O,dq⟩:=DZ
 by_cases hlt:k < l.length
 · obtain ⟨qb,qo,rfl,ac,ae,af,bt,bu,b3,qr,ap,aq,au,a7,ba,bi⟩:=kD.kOr (HL.out.1.below O) hlt rfl;have av:=kD.yx HL.out hlt;have be:=λq=>kDj (p:=p) hlt q;have bh:=λq=>kCc (p:=p) hlt q;have fl:((l.take k).filter p).length<=16777216:=by have h2:=zf (p:=p) (l:=l) (k:=k) bF2;omega
   generalize l[k]=x at *;have a1:=yD be;have al:=yD bh;clear be bh;have b4:=yD qr;obtain ⟨rfl,rfl,rfl,ah,aj,ak,aw,bj,bd,bp,bz,b2⟩:=jy qr;obtain ⟨ad,a4,rfl,a6,am,bk,rfl,bq,ao,bx,rfl,bw⟩:=kD.sx ak (kD.sx aw (kD.sl bd));have PX:Hid (jF.rd wr _ x.1):=yD ⟨ah,av.1⟩;have HU:=yD b2;go_wp2_with fail;refine allC ?_;intro wC EC F _;obtain ⟨M0,M1,M2,M3,M4,M5⟩:=kZv F;clear F;have bg:=EC.size;refine (a5.out wC (tQ O EC) _ _ (b4.out.below EC)).mono ?_;rintro e wD ⟨rfl,a9⟩;replace M0:=cL a9 M0;replace M1:=cL a9 M1;replace M2:=cL a9 M2;replace M3:=cL a9 M3;replace M4:=cL a9 M4;replace M5:=cL a9 M5;have V:=(tQ EC a9);have ag:=a9.size;have XS:=kC XV.out V;have bn:=o.trans (V.mono bF2);have b1:=yD (J.out.below V);clear a9;cases hp:p x
   · have L:=yD (al.out hp);clear a1 al hp;have X:=yD XS;clear XS;refine Qg ?_;exact ⟨k + 1,_,by omega,by go_num,X,yD ((b1.out.cast L.out.symm).wide sI),bn,by omega⟩
   have bm:=yD (a1.out hp);clear a1 al hp;have B0:=kE XS (j:=0) (v:=.int .i64 c) rfl;have B1:=kE XS (j:=1) rfl;go_upto_region 6 with fail;have FX:=yD (λ(W:Aa) (hW:Qb wD W)=>cLs8 hW B0 B1 M0 M1 M2 M3 M4 M5);refine je (λW=>Qb wD W) [(0,true),(1,true),(2,true),(3,true),(5,true),(6,true),(4,false),(7,true),(8,false)] bE5 bE5 qW (bR.drew) ?_;intro wS E;simp only [jG,Bf,List.length_nil,Ak,Al,Bb,Be,List.cons_append,List.nil_append,List.drop_succ_cons,List.drop_zero];all_goals ((iterate 6 refine kS ?_);(first|(refine kI rfl E ?_)|(refine ku rfl (λK H=>?_);go_simp;refine (kDi (PX.out.below (tQ V E))).mono ?_;rintro e wT ⟨tc,rfl,OT,ai⟩;obtain ⟨fr,c5,c4,rfl,b7,dy,ed,e3,ei,cd,br⟩:=jf OT.raw;obtain ⟨b0,dd,rfl,g8⟩:=kD.sl dy;obtain ⟨b6,ck,rfl,c7⟩:=kD.sl ed;obtain ⟨bb,a3,rfl,c3⟩:=kD.sl ei;clear b7 dy ed e3 ei cd br;have fx:=ai.size;have cc:=E.size;have cg:=yD OT;replace E:=(tQ E ai);refine H _ _ E ?_;clear H K ai OT));refine jH ?_;refine kS ?_;(first|(refine kI rfl E ?_)|(refine ku rfl (λK H=>?_);go_simp;refine H _ _ (E.alloc E.size _) ?_;clear H K));refine jH ?_;refine yt ?_)
   have a2:=E.size;have Y:=(tQ V E);have XW:=kC XV.out Y;have aa:=o.trans (Y.mono bF2);replace J:=yD (J.out.below Y);go_wp2_with (at_builtin;refine kD.jR rfl _ _ 25 rfl (r:=jB) (e:=144) Am kBe rfl bF1 bF1 (B:=w.heap.size + 3) J.out bF4 bF4 rfl (kD.own.wide (T:=jg wr wT) (kD.yQ (r:=jF) (q:=kD.int) (cs:=[.slice b0 x.1.1.length dd,.slice b6 x.1.2.1.length ck,.slice bb x.1.2.2.1.length a3,.int .i64 x.1.2.2.2.1,.int .i64 x.1.2.2.2.2]) (ds:=[.int .i64 x.2]) (x:=x.1) (y:=x.2) (cg.out) (kD.ky HU.out)) sJ) rfl nT sI nK bF2 bF2 ?_);exact aT
 obtain rfl:k=l.length:=bF2
 obtain ⟨M0,M1,R0,R1,F0⟩:=xU
 have bo:=F0 0
 have bf:=F0 1
 clear F0
 have HF:=yD (J.out.cast wE)
 go_wp2
 refine Az (v:=.agg #[Qn c,.slice oa on oc]) (by simp [results,results182,go_sem,R0,R1,bo,bf]) rfl ⟨_,rfl,?_,?_⟩
 · exact (((HF.out.setCell fK).setCell fK)).wide gL
 exact (O.setCell bF3 _).setCell bF3 _
def kXs {w:Aa} {cs:Av Au} {x:kg} {g:FuncId} {cp:Array Au} (p:kr->Bool) (hg:jL prog g) (hx:kP.rd w cs x)
    (an:∀ wr,Qb w wr->∀ y ds,jB.raw wr ds y->Ay prog g (#[.agg ds.toArray]++cp) wr (λe w'=>e=.returned (.bool (p y))/\Qb wr w')) :
    Ay prog 182 #[.agg cs.toArray,.func (.func g) #[] cp] w (kAb kP (x.1,x.2.filter p) w) :=
  (kXr p hg hx an).mono λ_ _ h=>h.made (x:=(x.1,x.2.filter p)) (store_hr (x:=x) hx) (Nat.le_trans (Ba _ _) hx.2.2.1)
def kVh {w:Aa} {ds:Av Au} {y:kr} (hy:jB.raw w ds y):Ay prog 183 (#[.agg ds.toArray]++#[]) w (bQ w (.bool true)):=by
 obtain ⟨f6,a3,f4,rfl,V,a9,bl,bi,bg,bo,b1,cf,du⟩:=kBq hy;obtain ⟨em,d7,rfl,gi,a8,a2,rfl,a4,dx,dw,rfl,gf⟩:=kD.sx bl (kD.sx bi (kD.sl bo));clear hy V a9 bl bi bg bo b1 cf du;show Ay prog 183 #[_] w _;go_enter func183,ntmps183;go_wp2;go_ret;exact ⟨rfl,bI⟩
def kQk:jL prog 183:=yM func183 bE5 bE5
def kNj {w:Aa} {cs:Av Au} {x:kg} (hx:kP.rd w cs x):Ay prog 97 #[.agg cs.toArray] w (kAb kP x w):=by
 have HX:=yD hx;obtain ⟨hx,av⟩:=hx;obtain ⟨sv,rfl,ff,hl⟩:=jN hx;obtain ⟨la,lp,rfl,_⟩:=kD.sl hl;obtain ⟨c,l⟩:=x;clear hx ff hl av;have o:Hid (l.filter (λ_=>true)=l):=yD bF3;go_enter func97,ntmps97;go_wp2_with fail;generalize R:World.alloc (World.alloc w _) _=U;have Z:Qb w U:=by rw [<- R];exact bI
 have XR:Hid (Qr U (w.heap.size + 1) #[Qn 0,.slice none 0 0] 27):=yD tN;clear R;refine (kXs (λ_=>true) kQk (HX.out.below Z) (λwr _ y ds hy=>kVh hy)).mono ?_;rintro e w1 ⟨oc,rfl,O1,N⟩;replace O1:=show kP.own w1 oc (c,l) _ from o.out ▸ O1;obtain ⟨D,rfl,W,H⟩:=jN O1.raw;obtain ⟨oa,E,rfl,_⟩:=kD.sl H;have X:=kC XR.out N;have M0:=kE (b:=w.heap.size + 1) X (j:=0) rfl;have M1:=kE (b:=w.heap.size + 1) X (j:=1) rfl;have F0:=frozen_of_row w1 (w.heap.size + 1) 0 _ _ X;have F1:=frozen_of_row w1 (w.heap.size + 1) 1 _ _ X;have aa:=yD O1;have E1:=(tQ Z N);have cg:w.heap.size + 2<=U.heap.size:=by have:=(Array.getElem?_eq_some_iff.1 XR.out).1;omega
 clear W H O1 N;go_wp2;refine Az (v:=.agg #[Qn c,Qs oa l E]) (by simp [results,results97,go_sem,M0,M1,F0,F1]) rfl ⟨[_,_],rfl,?_,?_⟩
 · exact ((aa.out.setCell fK).setCell fK).wide gL
 exact (E1.setCell bF3 _).setCell bF3 _
def isC (n:ko) (x:kr):Bool:=eqN x.1.1 n
def kGl {w:Aa} {vl:Au} {l:(Av kr)} (hl:(kD.slice 144 jB).raw w [vl] l) {cn:Av Au} {n:ko} (hn:kR.raw w cn n) :
    Ay prog 141 #[vl,.agg cn.toArray] w (bQ w (.int .i64 (idxOf (isC n) l))):=by
 obtain ⟨al,pl,rfl,ll⟩:=kD.sl hl
 have Hn:=yD hn
 obtain ⟨X,rfl,J⟩:=kw hn
 obtain ⟨V,F,rfl,aa⟩:=kD.sl J
 go_enter func141,ntmps141
 go_wp2
 generalize R:World.alloc w _=U
 obtain ⟨Z,I⟩:=xN
 clear R
 replace hl:=hl.below Z
 go_loopw [5] (λi wr=>∃ k:Nat,k<=l.length/\i=.int .i64 k/\Hid (∀ j,(h:j < k)->(h2:j < l.length)->(isC n) l[j]=false)/\Qb U wr) (λi _=>l.length - (intOf i).toNat)
 case atStart=>exact ⟨0,Nat.zero_le _,rfl,yD (λ_ h=>by omega),bR⟩
 obtain ⟨k,hk,rfl,Y,o⟩:=hrel
 replace I:=cL o I
 by_cases hlt:k < l.length
 · obtain ⟨qb,qo,rfl,ac,ae,af,bt,bu,b3,qr,ap,aq,au,a7,ba,bi⟩:=kD.kOr (hl.below o) (i:=k) bF2 rfl;obtain ⟨O,H⟩:=BG;generalize l[k]=x at *;have HD:=yD O;have HX:=yD H;clear O H;obtain ⟨x0,x1⟩:=x;obtain ⟨rfl,rfl,rfl,ah,aj,ak,aw,bj,bd,bp,bz,b2⟩:=jy qr;obtain ⟨ad,a4,rfl,a6,am,bk,rfl,bq,ao,bx,rfl,bw⟩:=kD.sx ak (kD.sx aw (kD.sl bd));go_upto_region 4 with fail;have FX:=yD (λ(W:Aa) (hW:Qb wr W)=>cLs7 hW I ap aq au a7 ba bi);refine kK (λW=>Qb wr W) [Tt,Tt,Tt,Tt,Tt,Tt,Tt,Ff] bE5 bE5 qW (bR.drew) ?_;intro wS E;all_goals ((iterate 7 refine kS ?_);(first | refine zi (jU (kD.raw.below aj E) (kD.raw.below Hn.out ((tQ Z (tQ o E))))) (λwS1 E=>?_) | refine kS ?_);refine kM ?_)
   all_goals cases ax:eqN x0.1 n
   all_goals have D:=(tQ o E)
   all_goals first
     | (have L:=yD (HD.out (show _=true by simp only [isC,Ae,Ab,Ag,Ah,Ac,Ad,Ap,Aq,Ai,Aj,Ar,ax]));clear HD HX;go_wp2;go_ret;exact ⟨jZ L.out.symm,(tQ Z D)⟩)
     | (have L:=yD (HX.out (show _=false by simp only [isC,Ae,Ab,Ag,Ah,Ac,Ad,Ap,Aq,Ai,Aj,Ar,ax]));clear HD HX;refine Qg ?_;exact ⟨k + 1,by omega,by go_num,L,D⟩)
 exact l8
def kKi {w:Aa} {cx:Av Au} {x:kr} (hx:jB.raw w cx x) {y:kr} {bh bo bn aa ac ad:Au} {O:Nat} (yr:jB.raw w [bh,bo,bn,aa,ac,ad] y) (H:Qc w O 0 bh) (bf:Qc w O 1 bo) (ab:Qc w O 2 bn) (I:Qc w O 3 aa) (V:Qc w O 4 ac) (J:Qc w O 5 ad) :
    Ay prog 167 (#[.agg cx.toArray]++#[.pointer (some ⟨O,0,none⟩)]) w (bQ w (.bool (isC y.1.1 x))):=by
 have Hx:=yD hx
 obtain ⟨a4,bl,bd,rfl,Y,N,ae,ag,aj,au,a6,a1,b0⟩:=kBq hx
 obtain ⟨a5,a2,rfl,ay,bg,bc,rfl,bk,bj,be,rfl,bi⟩:=kD.sx ae (kD.sx ag (kD.sl au))
 obtain ⟨rfl,rfl,rfl,fe,er,fj,f1,h3,df,dv,ah,af⟩:=jy yr
 obtain ⟨f7,f9,rfl,i5,bp,ba,rfl,ec,a9,a7,rfl,ep⟩:=kD.sx fj (kD.sx f1 (kD.sl df))
 show Ay prog 167 #[_,_] w _
 go_enter func167,ntmps167
 go_upto_region 1 with fail
 refine ja ?_
 intro U Z F _
 obtain ⟨X,o,R,am,av,bb⟩:=kZv F
 clear F
 replace H:=cL Z H
 replace bf:=cL Z bf
 replace ab:=cL Z ab
 replace I:=cL Z I
 replace V:=cL Z V
 replace J:=cL Z J
 have FX:=yD (λ(W:Aa) (hW:Qb U W)=>cLs12 hW X o R am av bb H bf ab I V J)
 refine kL (λW=>Qb U W) [Tt,Tt,Tt,Tt,Tt,Tt,Ff,Tt] bR ?_
 intro wS E
 all_goals ((iterate 6 refine kS ?_);(first | refine zi (jw (kD.raw.below N (tQ Z E)) (kD.raw.below er (tQ Z E))) (λwS1 E=>?_) | refine kS ?_);refine jT λb ax=>?_;cases b <;> try simp only [jS] at ax)
 all_goals (refine kM ?_;have D:=(tQ Z E))
 all_goals first
   | (have L:=yD (show (isC y.1.1 x)=false by simp only [isC,Ae,Ab,Ag,Ah,Ac,Ad,Ap,Aq,Ai,Aj,Ar,ax]);go_wp2;go_ret;exact ⟨kJ L.out.symm,D⟩)
   | (have L:=yD (show (isC y.1.1 x)=true by simp only [isC,Ae,Ab,Ag,Ah,Ac,Ad,Ap,Aq,Ai,Aj,Ar,ax]);go_wp2;go_ret;exact ⟨kJ L.out.symm,D⟩)
def kEw:jL prog 167:=yM func167 bE5 bE5
def kKt {w:Aa} {v:Au} {l:Av kr} {S:Nat->Prop} (h:kD.kY 144 jB w v l S) {k:Nat} (hkl:k < l.length) (bc:l.length<=16777216) :
    Ay prog 237 #[v,.int .i64 k] w λe w'=>∃ v',e=.returned v'/\kD.kY 144 jB w' v' (l.take k++l.drop (k + 1)) (λj=>S j\/jg w w' j)/\Qb w w':=by
 obtain ⟨b,oc,rfl,o⟩:=kD.kLm h hkl
 rw [Aw hkl] at o
 have br:=o.len
 simp only [List.length_take,Bf,List.length_drop] at br
 obtain ⟨on,O⟩:∃ on,Hid (l.length=on):=⟨_,yD rfl⟩
 have G:Hid (kD.gap 144 jB w b oc l.length (l.take k) 1 (l.drop (k + 1)) S):=yD o.skip
 have ar:on<=oc:=by have:=br.2.1;have:=O.out;omega
 have ap:oc<=9223372036854775807:=qF
 have ak:k < on:=by have:=O.out;omega
 have J:on<=16777216:=by have:=O.out;omega
 have HK:Hid ((l.take k).length=k):=yD bE6
 rw [O.out]
 have R:=yD bc
 clear o br h hkl bc
 have be:(0:Int)<=k:=bF2
 have a2:(k:Int) < on:=bF2
 have ce:k + 1<=oc:=bF2
 have dt:k + 1<=on:=bF2
 have fd:(k:Int) + 1<=on:=bF2
 have am:(0:Int)<=(k:Int) + 1:=bF2
 have b3:k<=oc:=bF2
 have hw:IntKind.i64.wrap ((k:Int) + 1)=(k:Int) + 1:=IntWalk.i64_in _ bF2
 go_enter func237,ntmps237
 by_cases bg:oc=k + 1
 · have HR:Hid ((l.drop (k + 1)).length=0):=yD (by have:=O.out;simp;omega);obtain rfl:on=k + 1:=bF2;subst bg;have an:(k:Int)<=(k:Int) + 1:=bF2;go_upto_region 1 with fail;refine yT (λW=>Qb w W) [(1,true),(2,true),(3,true),(5,true),(6,true),(7,true),(8,true),(0,false),(4,false),(9,false),(10,true)] bE5 bE5 qW (bR.drew) ?_;intro wS E;simp only [jG,Ak,Al,Bb,Be];all_goals ((iterate 7 refine kS ?_);(first|(refine kI rfl E ?_)|(refine ku rfl (λK H=>?_);go_simp;generalize al:World.alloc wS _=wU;replace E:Qb w wU:=(by rw [<- al];exact E.alloc E.size _);clear al;refine H _ _ E ?_;clear H K));refine jH ?_;(first|(refine kI rfl E ?_)|(refine ku rfl (λK H=>?_);obtain ⟨v3,u3,a7,ac,v4,u4,X,ah,F⟩:=kD.kJl (P:=prog) (t:=25) Am kBe rfl bF1 bF1 G.out E (a0:=some ⟨wS,0,none⟩) R.out (k + 1) 0 25 25 (q:=0) (kl:=k) (rl:=0) (λhne=>absurd (List.eq_nil_of_length_eq_zero HR.out) hne) HK.out.symm HR.out.symm;have ae:=(tQ E ac);refine kD.kX _ _ _ rfl bF4 bF4 a7 ?_;refine H _ _ ae ?_;clear H K));refine jH ?_;(first|(refine kI rfl E ?_)|(refine ku rfl (λK H=>?_);have D:=(tQ E F);refine kD.kX _ _ _ rfl bF4 bF4 X ?_;refine H _ _ D ?_;clear H K));refine jH ?_;refine kS ?_;refine kM ?_)
   exact uA
 have HR:Hid ((l.drop (k + 1)).length=on - (k + 1)):=yD (by have:=O.out;simp;omega)
 go_upto_region 1 with fail
 refine yT (λW=>Qb w W) [(1,true),(2,true),(3,true),(5,true),(6,true),(7,true),(8,true),(0,false),(4,false),(9,false),(10,true)] bE5 bE5 qW (bR.drew) ?_
 intro wS E
 simp only [jG,Ak,Al,Bb,Be]
 all_goals ((iterate 7 refine kS ?_);(first|(refine kI rfl E ?_)|(refine ku rfl (λK H=>?_);go_simp;generalize al:World.alloc wS _=wU;replace E:Qb w wU:=(by rw [<- al];exact E.alloc E.size _);clear al;refine H _ _ E ?_;clear H K));refine jH ?_;(first|(refine kI rfl E ?_)|(refine ku rfl (λK H=>?_);obtain ⟨v3,u3,a7,ac,v4,u4,X,ah,F⟩:=kD.kJl (P:=prog) (t:=25) Am kBe rfl bF1 bF1 G.out E (a0:=some ⟨wS,0,none⟩) R.out oc (oc - (k + 1)) 25 25 (q:=((k + 1) * 6)) (kl:=k) (rl:=(on - (k + 1))) (λ_=>by rw [HK.out];rfl) HK.out.symm HR.out.symm;have ae:=(tQ E ac);refine kD.kX _ _ _ rfl bF4 bF4 a7 ?_;refine H _ _ ae ?_;clear H K));refine jH ?_;(first|(refine kI rfl E ?_)|(refine ku rfl (λK H=>?_);have D:=(tQ E F);refine kD.kX _ _ _ rfl bF4 bF4 X ?_;refine H _ _ D ?_;clear H K));refine jH ?_;refine kS ?_;refine kM ?_)
 exact uA
def lastU (l:Av kr) (k:Nat):Int:=(l.map Prod.snd).getD k 0
def kPn {l:Av kr} {k:Nat} (h:k < l.length):lastU l k=l[k].2:=by
 unfold lastU;rw [List.getD_eq_getElem?_getD,List.getElem?_eq_getElem bD5];simp
def kFl (l:Av kr):Nat->Nat
  | 0=>0
  | k + 1=>if lastU l k < lastU l (kFl l k) then k else kFl l k
def leastA_one (l:List kr):kFl l 1=0:=by simp [kFl]
def leastA_yes {l:Av kr} {k b:Nat} (hb:kFl l k=b) (hk:k < l.length) (au:b < l.length) (h:l[k].2 < l[b].2):kFl l (k + 1)=k:=by
 unfold kFl;rw [hb,kPn hk,kPn au,if_pos h]
def leastA_no {l:Av kr} {k b:Nat} (hb:kFl l k=b) (hk:k < l.length) (au:b < l.length) (h:¬ l[k].2 < l[b].2):kFl l (k + 1)=b:=by
 unfold kFl;rw [hb,kPn hk,kPn au,if_neg h]
def kIz (y:jQ) (x:kg):Bool:=decide (x.1 < 1) || !kBk y
def kFj (n:ko) (l:Av kr):Av kr:=l.filter (λe=>!isC n e)
def kNf (c:Int) (l:Av kr):Av kr:=if c<=l.length then l.take (kFl l l.length)++l.drop (kFl l l.length + 1) else l
def kFs (y:jQ) (t:Int) (x:kg):kg:=if kIz y x then x else (x.1,kNf x.1 (kFj y.1 x.2)++[(y,t)])
def jGh {y:jQ} {t:Int} {x:kg} (h:kIz y x=true):kFs y t x=x:=by unfold kFs;rw [h];rfl
def kWz {y:jQ} {t:Int} {x:kg} (h:kIz y x=false):kFs y t x=(x.1,kNf x.1 (kFj y.1 x.2)++[(y,t)]):=by unfold kFs;rw [h];rfl
def roomC_full {c:Int} {l:List kr} {b:Nat} (hb:kFl l l.length=b) (h:c<=l.length):kNf c l=l.take b++l.drop (b + 1):=by unfold kNf;rw [if_pos h,hb]
def roomC_free {c:Int} {l:List kr} (h:¬ c<=l.length):kNf c l=l:=by unfold kNf;rw [if_neg h]
def jDt (c:Int) (l:Av kr):(kNf c l).length<=l.length:=by
 unfold kNf;split
 · simp;omega
 exact Nat.le_refl _
def lenAt (w:Aa) (b j:Nat):Nat:=match w.cell? ⟨b,j,none⟩ with
  | some (.slice _ n _)=>n
  | _=>0
def lenAt_eq {w:Aa} {b:Nat} {c:Au} {a:Option Addr} {n cap:Nat} {t:TypeId} (h:Qr w b #[c,.slice a n cap] t):lenAt w b 1=n:=by
 unfold lenAt;rw [kE h (j:=1) (v:=.slice a n cap) rfl]
def otherC_len (n:ko) (l:Av kr):(kFj n l).length<=l.length:=Ba _ _
def otherC_no {n:ko} {l:Av kr} (h:idxOf (isC n) l < 0):kFj n l=l:=by
 unfold kFj;rw [List.filter_eq_self];intro a ha;unfold idxOf at h;cases hf:l.findIdx? (isC n) with
 | none=>rw [List.findIdx?_eq_none_iff.1 hf a ha];rfl
 | some j=>rw [hf] at h;simp only at h;omega
def otherC_step {n:ko} {l:Av kr} {k:Nat} (hk:k < l.length) (h:idxOf (isC n) l=k):kFj n (l.take k++l.drop (k + 1))=kFj n l:=by
 unfold idxOf at h;cases hf:l.findIdx? (isC n) with
 | none=>rw [hf] at h;simp only at h;omega
 | some j =>
   rw [hf] at h;simp only at h;obtain rfl:j=k:=bF2;have hp:=(List.findIdx?_eq_some_iff_getElem.1 hf).2.1;unfold kFj
   conv=>rhs;rw [<- List.take_append_drop j l,Aw hk]
   rw [Bc,Bc,List.filter_cons,hp];simp
def kNd {w:Aa} {cx:Av Au} {x:kg} (hx:kP.rd w cx x) {cy:Av Au} {y:jQ} (hy:jF.rd w cy y) {t:Int} (ht:Qi t) (hB:x.2.length<=16777215) :
    Ay prog 174 #[.agg cx.toArray,.agg cy.toArray,.int .i64 t] w (kAb kP (kFs y t x) w):=by
 obtain ⟨xc,xe⟩:=x
 obtain ⟨y0,y1,y2,y3,y4⟩:=y
 have HX:=yD hx
 have HY:=yD hy
 have HF:=yD ht
 have bi:xe.length<=16777215:=hB
 obtain ⟨c8,rfl,ao,am⟩:=jN hx.1
 obtain ⟨b1,aw,rfl,xl⟩:=kD.sl am
 have ak:Qi xc:=ao
 obtain ⟨jn,fg,ff,rfl,fe,er,fj,f1,h3,df,dv⟩:=jf hy.1
 obtain ⟨f7,f9,rfl,i5,bp,ba,rfl,ec,a9,a7,rfl,ep⟩:=kD.sx er (kD.sx fj (kD.sl h3))
 have em:Hid (jF.raw w [Qs f7 y0 f9,Qs bp y1 ba,Qs a9 y2 a7,Qn y3,Qn y4] (y0,y1,y2,y3,y4)):=yD hy.1
 have Y:Hid (kR.raw w [Qs f7 y0 f9] y0):=yD fe
 clear hx hy ht hB ao am xl fe er fj f1 h3 df dv
 go_enter func174,ntmps174
 go_upto_region 1 with fail
 generalize o:World.alloc (World.alloc (World.alloc w _) _) _=w1
 have U:Qb w w1:=by rw [<- o];exact bI
 have BX:Qr w1 w #[Qn xc,Qs b1 xe aw] 27:=rZ
 have BY:Qr w1 (w.heap.size + 1) (Qj f7 y0 f9 bp y1 ba a9 y2 a7 y3 y4) 60:=by rw [<- o];exact jh (jD bF3)
 have BR:Qr w1 (w.heap.size + 2) #[Qn 0,.slice none 0 0] 27:=by rw [<- o];exact jD bF3
 have bj:w.heap.size + 3<=w1.heap.size:=bD6
 clear o
 obtain ⟨aa,ac⟩:=yN BX
 go_wp2_with fail
 refine (kRb (HX.out.below U)).mono ?_
 rintro e w2 ⟨kv,rfl,O,hb⟩
 have bw:=hb.size
 replace BX:=kC BX hb
 replace BY:=kC BY hb
 obtain ⟨BR,U⟩:=CQ
 clear aa ac hb
 replace O:=kD.kY.cast O (show _=xe from rfl)
 obtain ⟨oa,oc,rfl⟩:=O.zJ
 have J:=yD (O.wide (T:=(λj=>w.heap.size + 3<=j/\j < w2.heap.size)) sO)
 clear O
 go_upto_region 2 with fail
 refine ja ?_
 intro w3 ah BO bz
 replace BX:=kC BX ah
 replace BY:=kC BY ah
 obtain ⟨BR,J,U⟩:=xZ
 clear ah
 obtain ⟨aa,ac⟩:=yN BX
 obtain ⟨cv,dm,dl,dn,F⟩:=yZ BY
 go_upto_region 2 with fail
 have FX:=yD (λ(W:Aa) (hW:Qb w3 W)=>kJf hW aa cv dm dl dn F)
 refine kL (λW=>Qb w3 W) [Tt,Tt,Tt,Tt,Tt,Ff,Tt,Tt] bR ?_
 intro wS E
 all_goals ((iterate 3 refine kS ?_);refine jT λb bh=>?_;cases b <;> try simp only [jS] at bh)
 all_goals (refine kS ?_;(first | refine zi (kEd (em.out.below (tQ U E))) (λwS1 E=>?_) | refine kS ?_);refine kS ?_;refine jT λb ax=>?_;cases b <;> try simp only [jS] at ax)
 all_goals refine kM ?_
 all_goals rename Aa=>w4
 all_goals (have b5:=E.size;replace BX:=kC BX E;replace BY:=kC BY E;replace BR:=kC BR E;replace BO:=kC BO E;replace J:=yD (J.out.below E);replace U:=(tQ U E);clear aa ac cv dm dl dn F;clear E)
 all_goals first
   | (have L := yD (jGh (t := t) (show kIz (y0, y1, y2, y3, y4) (xc, xe) = true by simp only [kIz, Ae, Ab, Ag, Ah, Ac, Ad, Ap, Aq, Ai, Aj, Ar, bh, ax]))
      obtain ⟨X,N⟩:=yN BO
      obtain ⟨ay,az⟩:=yN BR
      obtain ⟨al,aj⟩:=kCf BR
      go_wp2
      refine Az (v:=.agg #[Qn xc,Qs oa xe oc]) mP rfl ⟨[Qn xc,Qs oa xe oc],rfl,?_,?_⟩
      · rw [L.out];exact ((show kP.own _ _ (xc,xe) _ from kD.kBg (r:=kD.int) (q:=(kD.slice 144 jB)) (cs:=[.int .i64 xc]) (kD.ky ak) (J.out.own bB1)).touch sT2 sW).wide fU
      · exact U.trans (Touch.below sT2 U.size bB6))
   | skip
 all_goals
   (have fh:=yD (show kIz (y0,y1,y2,y3,y4) (xc,xe)=false by simp only [kIz,Ae,Ab,Ag,Ah,Ac,Ad,Ap,Aq,Ai,Aj,Ar,bh,ax])
    have b3:¬ xc < 1:=by simpa using bh
    clear bh ax
    obtain ⟨X,N⟩:=yN BO
    obtain ⟨cv,dm,dl,dn,F⟩:=yZ BY
    go_wp2_with fail
    refine (kGl (J.out.own bB1).raw (cn:=[.slice f7 y0.length f9]) (Y.out.below U)).mono ?_
    rintro e w5 ⟨rfl,hb⟩
    have b4:=hb.size
    replace BX:=kC BX hb
    replace BY:=kC BY hb
    obtain ⟨BR,BO⟩:=CX
    obtain ⟨J,U⟩:=wP
    clear X N cv dm dl dn F hb
    go_wp2
    go_loopw [8] (λi wr=>∃ (C:Av kr) (ca:Option Addr) (cc:Nat),i=.int .i64 (idxOf (isC y0) C)/\Hid (kFj y0 C=kFj y0 xe)/\C.length<=xe.length/\Hid (kD.kY 144 jB wr (Qs ca C cc) C (λj=>w.heap.size + 3<=j/\j < wr.heap.size/\j≠w2.heap.size))/\Qr wr w #[Qn xc,Qs b1 xe aw] 27/\Qr wr (w.heap.size + 1) (Qj f7 y0 f9 bp y1 ba a9 y2 a7 y3 y4) 60/\Qr wr (w.heap.size + 2) #[Qn 0,.slice none 0 0] 27/\Qr wr w2 #[Qn xc,Qs ca C cc] 27/\w5.heap.size<=wr.heap.size/\Qb w wr) (λ_ wr=>lenAt wr (w2.heap.size) 1)
    case atStart=>exact ⟨xe,oa,oc,rfl,yD rfl,Nat.le_refl _,yD (J.out.wide (λj q=>⟨q.1,by have:=q.2;omega,by have:=q.2;omega⟩)),BX,BY,BR,BO,Nat.le_refl _,U⟩
    case round =>
      rename Aa=>wq;clear U BX BY BR BO J;obtain ⟨C,ca,cc,rfl,HA,hC,J,BX,BY,BR,BO,ir,U⟩:=hrel;have eh:=yD (lenAt_eq BO);by_cases hf:idxOf (isC y0) C < 0
      · have eg:¬ (0<=idxOf (isC y0) C):=bF2;have HK:=yD (HA.out.symm.trans (otherC_no hf));generalize idxOf (isC y0) C=ix at *;have e7:=hC;obtain ⟨K,en⟩:∃ K,K=C:=⟨_,rfl⟩;subst en;obtain ⟨ka,ee⟩:∃ k,k=ca:=⟨_,rfl⟩;subst ee;obtain ⟨kc,ch⟩:∃ k,k=cc:=⟨_,rfl⟩;subst ch;obtain ⟨X,N⟩:=yN BO;by_cases be:xc<=(K.length:Int)
        · have dp:0 < K.length:=bF2;obtain ⟨kb,e6,hv,co,es,ar,ap⟩:=kD.zm J.out dp;simp only [Value.slice.injEq,true_and] at hv;obtain ⟨rfl,rfl⟩:=hv;clear co X N;obtain ⟨aa,ac⟩:=yN BX;obtain ⟨X,N⟩:=yN BO;go_wp2;go_loopw [9,10] (λb i wr=>∃ (k m:Nat),i=.int .i64 k/\b=.int .i64 m/\1<=k/\k<=K.length/\m < K.length/\Hid (kFl K k=m)/\Hid (kD.kY 144 jB wr (.slice (some ⟨kb,0,none⟩) K.length kc) K (λj=>w.heap.size + 3<=j/\j < wq.heap.size/\j≠w2.heap.size))/\Qr wr (w.heap.size + 1) (Qj f7 y0 f9 bp y1 ba a9 y2 a7 y3 y4) 60/\Qr wr (w.heap.size + 2) #[Qn 0,.slice none 0 0] 27/\Qr wr w2 #[Qn xc,.slice (some ⟨kb,0,none⟩) K.length kc] 27/\wq.heap.size<=wr.heap.size/\Qb w wr) (λ_ i _=>K.length - (intOf i).toNat);case atStart=>exact ⟨1,0,rfl,rfl,by omega,by omega,dp,yD (leastA_one K),J,BY,BR,BO,Nat.le_refl _,U⟩
          case round =>
            rename Aa=>bk;clear U BX BY BR BO J;obtain ⟨k,m,rfl,rfl,ce,hk,hm,HA,J,BY,BR,BO,ir,U⟩:=hrel;have b9:=Bd k;have bc:=Bd m;have bq:=Int.ofNat_lt.2 hm;by_cases hlt:k < K.length
            · have dt:=Int.ofNat_lt.2 hlt;have HR:=yD (J.out.own bB1);obtain ⟨bg,bl,bm,c1,cm,de,pr,ai,bd,au,ey,fc,dg⟩:=kD.at6 HR.out.raw hlt rfl;obtain ⟨py,ph⟩:∃ z,K[k]=z:=⟨_,rfl⟩;rw [ph] at pr;have pH:=yD ph;clear ph;obtain ⟨rfl,rfl,rfl,dr,dq,bt,bx,du,bv,d1,dx,d5⟩:=jy pr;obtain ⟨a8,bf,rfl,_,cl,cz,rfl,_,cf,c2,rfl,_⟩:=kD.sx bt (kD.sx bx (kD.sl bv));clear pr dr dq bt bx du bv d1 dx d5;obtain ⟨fb,d2,d4,eq,ef,ek,sr,e9,e0,e8,ez,ev,c9⟩:=kD.at6 HR.out.raw hm rfl;obtain ⟨sy,sh⟩:∃ z,K[m]=z:=⟨_,rfl⟩;rw [sh] at sr;have sH:=yD sh;clear sh;obtain ⟨rfl,rfl,rfl,eb,ea,bo,b2,dz,bu,d0,d3,dw⟩:=jy sr;obtain ⟨el,e4,rfl,_,d6,ew,rfl,_,d7,e1,rfl,_⟩:=kD.sx bo (kD.sx b2 (kD.sl bu));clear sr eb ea bo b2 dz bu d0 d3 dw HR;obtain ⟨X,N⟩:=yN BO;go_upto_region 13 with fail;have FX:=yD (λ(W:Aa) (hW:Qb bk W)=>kMt hW N dg c9);refine kK (λW=>Qb bk W) [Tt,Tt,Tt,Tt,Tt,Tt,Tt,Tt,Tt,Tt,Tt,Tt,Tt] bE5 bE5 qW (bR.drew) ?_;intro wS E;all_goals ((iterate 12 refine kS ?_);refine jT λb ab=>?_;cases b <;> try simp only [jS] at ab)
              all_goals refine kM ?_
              all_goals rename Aa=>w8
              all_goals (have d9:=E.size;replace BY:=kC BY E;replace BR:=kC BR E;replace BO:=kC BO E;replace dg:=cL E dg;replace c9:=cL E c9;replace J:=yD (J.out.below E);replace U:=(tQ U E);clear X N;clear E)
              all_goals first
                | (have af : K[k].2 < K[m].2 := by rw [pH.out, sH.out]; simpa using ab
                   clear ab
                   have HB:=yD (leastA_yes HA.out hlt hm af)
                   go_wp2
                   go_roundw
                   case rel=>exact ⟨k + 1,k,by go_num,rfl,by omega,by omega,hlt,HB,J,BY,BR,BO,by omega,U⟩
                   case measure=>simp [intOf];omega)
                | skip
              all_goals
                (have af:¬ K[k].2 < K[m].2:=by rw [pH.out,sH.out];simpa using ab
                 clear ab
                 have HB:=yD (leastA_no HA.out hlt hm af)
                 go_wp2
                 go_roundw
                 case rel=>exact ⟨k + 1,m,by go_num,rfl,by omega,by omega,hm,HB,J,BY,BR,BO,by omega,U⟩
                 case measure=>simp [intOf];omega)
            · obtain rfl:k=K.length:=bF2;have fd:¬ ((K.length:Int) < K.length):=bF2;have bn:=yD (roomC_full HA.out be);obtain ⟨X,N⟩:=yN BO;go_wp2_with fail;refine (kKt J.out hm bF2).mono ?_;rintro e w8 ⟨v5,rfl,O5,hb⟩;have d9:=hb.size;replace BY:=kC BY hb;obtain ⟨BR,BO⟩:=CX;replace U:=(tQ U hb);clear X N hb J;obtain ⟨R,hR⟩:∃ R,kNf xc K=R:=⟨_,rfl⟩;replace O5:=kD.kY.cast O5 (bn.out.symm.trans hR);have eu:R.length<=K.length:=by rw [<- hR];exact jDt _ _
              have dh:=yD hR;clear hR bn;obtain ⟨ra,rc,rfl⟩:=O5.zJ;have J:=yD (O5.wide (T:=(λj=>w.heap.size + 3<=j/\j < w8.heap.size/\j≠w2.heap.size)) bY);clear O5;obtain ⟨X,N⟩:=yN BO;obtain ⟨I,a2⟩:=kCf BO;go_upto_region 16 with fail;generalize o:World.setCell w8 _ _=w9;have H:Touch (λk=>k=w2.heap.size) w8 w9:=wY;replace BO:Qr w9 w2 #[Qn xc,Qs ra R rc] 27:=vV;have et:=H.size;clear o;replace BY:=H.kC BY bF2;replace BR:=H.kC BR bF2;replace J:=yD (J.out.touch H qV);replace U:=U.trans (H.below U.size bB6);clear X N I a2 H;obtain ⟨cv,dm,dl,dn,F⟩:=yZ BY;go_wp2_with fail;refine (kBb (HY.out.below U)).mono ?_;rintro e cw ⟨tc,rfl,O,hb⟩;have d8:=hb.size;obtain ⟨BR,BO⟩:=CX;obtain ⟨J,U⟩:=wP;clear cv dm dl dn F hb;obtain ⟨fr,c5,c4,rfl,b7,dy,ed,e3,ei,cd,br⟩:=jf O.raw;obtain ⟨b0,dd,rfl,g8,b6,ck,rfl,c7,bb,a3,rfl,c3⟩:=kD.sx dy (kD.sx ed (kD.sl ei));clear b7 dy ed e3 ei cd br;have cg:=yD O;clear O;go_upto_region 17 with fail;refine ja ?_;intro c6 b8 BD e5;replace BR:=kC BR b8;replace BO:=kC BO b8;replace J:=yD (J.out.below b8);replace cg:=yD (cg.out.below b8);replace U:=(tQ U b8);clear b8;obtain ⟨X,N⟩:=yN BO;obtain ⟨aq,ag,av,a6,a1⟩:=yZ BD;have dj:R.length + 1<=1000000000:=bF2;go_wp2_with (at_builtin;refine kD.kCh rfl _ _ 25 rfl (r:=jB) (e:=144) Am kBe rfl bF1 bF1 (w:=c6) (J.out) bF4 bF4 rfl (kD.yQ (r:=jF) (q:=kD.int) (cs:=[.slice b0 y0.length dd,.slice b6 y1.length ck,.slice bb y2.length a3,.int .i64 y3,.int .i64 y4]) (ds:=[.int .i64 t]) (x:=(y0,y1,y2,y3,y4)) (y:=t) cg.out (kD.ky HF.out)) rfl pU dj ?_);intro v2 dk hQ db;have hT:Touch (λj=>w.heap.size + 3<=j/\j < w8.heap.size/\j≠w2.heap.size) c6 dk:=(Touch.of_below (bR.alloc nL _)).trans (db.wide (λj q=>q.2));have gl:=db.size;have h6:c6.heap.size + 1<=dk.heap.size:=bD1;clear db gl;obtain ⟨Z,hZ⟩:∃ Z,R++[((y0,y1,y2,y3,y4),t)]=Z:=⟨_,rfl⟩;have di:=yD (show Z.length=R.length + 1 by rw [<- hZ];simp);replace hQ:=kD.kY.cast hQ hZ;have HZ:=yD hZ;clear hZ;obtain ⟨ga,gc,rfl⟩:=hQ.zJ;have HQ:=yD (kD.kY.wide (T:=λj=>w.heap.size + 3<=j/\j < dk.heap.size/\j≠w2.heap.size) hQ dF);clear hQ J;replace BR:=hT.kC BR bF2;replace BO:=hT.kC BO bF2;replace U:=U.trans (hT.below U.size bB6);clear X N aq ag av a6 a1 hT;obtain ⟨X,N⟩:=yN BO;obtain ⟨I,a2⟩:=kCf BO;go_upto_region 18 with fail;generalize o:World.setCell dk _ _=f3;have V:Touch (λk=>k=w2.heap.size) dk f3:=wY;replace BO:Qr f3 w2 #[Qn xc,Qs ga Z gc] 27:=vV;have gd:=V.size;clear o;replace BR:=V.kC BR bF2;replace HQ:=yD (HQ.out.touch V qV);replace U:=U.trans (V.below U.size bB6);clear X N I a2 V;exact aI
        · have dh:=yD (roomC_free be);clear X N;obtain ⟨aa,ac⟩:=yN BX;obtain ⟨cv,dm,dl,dn,F⟩:=yZ BY;obtain ⟨X,N⟩:=yN BO;go_wp2_with fail;refine (kBb (HY.out.below U)).mono ?_;rintro e w7 ⟨tc,rfl,O,hb⟩;have eo:=hb.size;obtain ⟨BR,BO⟩:=CX;obtain ⟨J,U⟩:=wP;clear aa ac cv dm dl dn F X N hb;obtain ⟨fr,c5,c4,rfl,b7,dy,ed,e3,ei,cd,br⟩:=jf O.raw;obtain ⟨b0,dd,rfl,g8,b6,ck,rfl,c7,bb,a3,rfl,c3⟩:=kD.sx dy (kD.sx ed (kD.sl ei));clear b7 dy ed e3 ei cd br;have cg:=yD O;clear O;go_upto_region 17 with fail;refine ja ?_;intro w8 ae BD d9;replace BR:=kC BR ae;replace BO:=kC BO ae;replace J:=yD (J.out.below ae);replace cg:=yD (cg.out.below ae);replace U:=(tQ U ae);clear ae;obtain ⟨X,N⟩:=yN BO;obtain ⟨aq,ag,av,a6,a1⟩:=yZ BD;have dj:K.length + 1<=1000000000:=bF2;go_wp2_with (at_builtin;refine kD.kCh rfl _ _ 25 rfl (r:=jB) (e:=144) Am kBe rfl bF1 bF1 (w:=w8) (J.out) bF4 bF4 rfl (kD.yQ (r:=jF) (q:=kD.int) (cs:=[.slice b0 y0.length dd,.slice b6 y1.length ck,.slice bb y2.length a3,.int .i64 y3,.int .i64 y4]) (ds:=[.int .i64 t]) (x:=(y0,y1,y2,y3,y4)) (y:=t) cg.out (kD.ky HF.out)) rfl pU dj ?_);intro v2 w9 hQ db;have hT:Touch (λj=>w.heap.size + 3<=j/\j < wq.heap.size/\j≠w2.heap.size) w8 w9:=(Touch.of_below (bR.alloc nL _)).trans (db.wide (λj q=>q.2));have gl:=db.size;have h6:w8.heap.size + 1<=w9.heap.size:=bD1;clear db gl;obtain ⟨Z,hZ⟩:∃ Z,K++[((y0,y1,y2,y3,y4),t)]=Z:=⟨_,rfl⟩;have di:=yD (show Z.length=K.length + 1 by rw [<- hZ];simp);replace hQ:=kD.kY.cast hQ hZ;have HZ:=yD hZ;clear hZ;obtain ⟨ga,gc,rfl⟩:=hQ.zJ;have HQ:=yD (kD.kY.wide (T:=λj=>w.heap.size + 3<=j/\j < w9.heap.size/\j≠w2.heap.size) hQ dF);clear hQ J;replace BR:=hT.kC BR bF2;replace BO:=hT.kC BO bF2;replace U:=U.trans (hT.below U.size bB6);clear X N aq ag av a6 a1 hT;obtain ⟨X,N⟩:=yN BO;obtain ⟨I,a2⟩:=kCf BO;go_upto_region 18 with fail;generalize o:World.setCell w9 _ _=cw;have a5:Touch (λk=>k=w2.heap.size) w9 cw:=wY;replace BO:Qr cw w2 #[Qn xc,Qs ga Z gc] 27:=vV;have d8:=a5.size;clear o;replace BR:=a5.kC BR bF2;replace HQ:=yD (HQ.out.touch a5 qV);replace U:=U.trans (a5.below U.size bB6);clear X N I a2 a5;exact aI
      · obtain ⟨k,hlt,ad⟩:=zn hf;rw [ad];have hn:=yD ((otherC_step hlt ad).trans HA.out);clear hf;have b9:(0:Int)<=k:=bF2;obtain ⟨X,N⟩:=yN BO;go_wp2_with fail;refine (kKt J.out hlt bF2).mono ?_;rintro e w7 ⟨v5,rfl,O5,hb⟩;have eo:=hb.size;replace BX:=kC BX hb;replace BY:=kC BY hb;obtain ⟨BR,BO⟩:=CX;replace U:=(tQ U hb);clear X N hb;have an:(C.take k++C.drop (k + 1)).length < C.length:=bE6;clear J;generalize C.take k++C.drop (k + 1)=D at *;obtain ⟨da,dc,rfl⟩:=O5.zJ;have J:=yD (O5.wide (T:=(λj=>w.heap.size + 3<=j/\j < w7.heap.size/\j≠w2.heap.size)) bY);clear O5;obtain ⟨X,N⟩:=yN BO;obtain ⟨I,a2⟩:=kCf BO;go_upto_region 6 with fail;generalize o:World.setCell w7 _ _=w8;have a4:Touch (λk=>k=w2.heap.size) w7 w8:=wY;replace BO:Qr w8 w2 #[Qn xc,Qs da D dc] 27:=vV;have d9:=a4.size;clear o;replace BX:=a4.kC BX bF2;replace BY:=a4.kC BY bF2;replace BR:=a4.kC BR bF2;replace J:=yD (J.out.touch a4 qV);replace U:=U.trans (a4.below U.size bB6);clear X N I a2 a4;obtain ⟨X,N⟩:=yN BO;obtain ⟨cv,dm,dl,dn,F⟩:=yZ BY;go_wp2_with fail;refine (kGl (J.out.own bB1).raw (cn:=[.slice f7 y0.length f9]) (Y.out.below U)).mono ?_;rintro e w9 ⟨rfl,hb⟩;have et:=hb.size;replace BX:=kC BX hb;replace BY:=kC BY hb;obtain ⟨BR,BO⟩:=CX;obtain ⟨J,U⟩:=wP;clear X N cv dm dl dn F hb;have ej:=yD (lenAt_eq BO);go_wp2;go_roundw;case rel=>exact ⟨D,da,dc,rfl,hn,by omega,yD (J.out.wide qP),BX,BY,BR,BO,by omega,U⟩
        case measure=>rw [eh.out,ej.out];exact an)
end Go.Proofs.YthocbplmdjkifaaGreat

/-
  An entry of a store taken out.
-/
import Derived.Test.YtjhfdpopkkmigaaGreatLenN
set_option linter.unusedVariables false
set_option linter.defProp false
set_option linter.unusedSimpArgs false
set_option linter.unnecessarySimpa false
set_option maxRecDepth 100000
set_option maxHeartbeats 4000000
open Bool renaming true->Tt,false->Ff
open List renaming getElem?_cons_succ->Aa,getElem?_cons_zero->Ab,length_filter_le->Ay,map_cons->Az,map_nil->Bb,length_cons->Bc
open Go renaming World->Ac,Value->Ae,Calls->Aw,bodyPost_ret->Ba
open List.cons renaming injEq->Ad
open Bool renaming not_false->Ag,and_false->Ah,false_and->Ai,not_true->Aj,and_true->Ak,true_and->Al,or_false->Am,false_or->Ap,or_true->Ar,true_or->Au,not_not->Av
open Go.Proofs.Tryz renaming underlying25->Aq
open _root_ renaming List->Bd
namespace Go.Proofs.YtjhfdpopkkmigaaGreat
open Go.RowKit _root_.Go.Proofs.Tryz
def jAx (x:kg) (w:Ac):Ending->Ac->Prop:=λe w'=>∃ v,e=.returned (.agg #[Qn x.1,v])/\kD.kU 122 jC w' v x.2 (jU w.heap.size w'.heap.size)/\Qb w w'
def jAx.made {x:kg} {w:Ac} {e:Ending} {w':Ac} (hr:Qi x.1) (hl:x.2.length<=Big) (h:jAx x w e w'):kAe kP x w e w':=by
 obtain ⟨v,rfl,O,hb⟩:=h;exact ⟨[_,_],rfl,kD.kKy (r:=kD.int) (q:=kD.slice 122 jC) (cs:=[_]) (kD.jG hr) (O.own hl),hb⟩
def store_hr {w:Ac} {cs:Bd Ae} {x:kg} (hx:kP.rd w cs x):Qi x.1:=by
 obtain ⟨sv,_,a3,_⟩:=jI hx.1;exact a3
def kMr {w:Ac} {cs:Bd Ae} {x:kg} (hx:kP.rd w cs x):Aw prog 96 #[.agg cs.toArray] w (jAx x w):=by
 obtain ⟨hx,al⟩:=hx;obtain ⟨sv,rfl,a3,hl⟩:=jI hx;obtain ⟨la,lp,rfl,_⟩:=kD.sl hl;obtain ⟨c,l⟩:=x;obtain ⟨HL,bc,bx⟩:=FJ;clear hx a3 hl al;go_enter func96,ntmps96;go_wp2;generalize N:World.alloc (World.alloc (World.alloc w _) _) _=wA;obtain ⟨HZ,EA,XB,XR,XO⟩:=CE;clear N;go_loopw [4] (λi wr=>∃ (k:Nat) (v:Ae),k<=l.length/\i=.int .i64 k/\Hid (Qr wr (w.heap.size + 1 + 1) #[Qn c,v] 27)/\Hid (kD.kU 122 jC wr v (l.take k) (jU (w.heap.size + 3) wr.heap.size))/\Below (w.heap.size + 1 + 1) wA wr/\w.heap.size + 3<=wr.heap.size) (λi _=>l.length - (intOf i).toNat);case atStart=>exact ⟨0,_,Nat.zero_le _,rfl,XO,yD kD.kU.nil,bR,by have:=HZ.out;omega⟩
 obtain ⟨k,v,hk,rfl,XV,L,o,ab⟩:=hrel;obtain ⟨oa,on,oc,ho,bh⟩:=L.out.parts;obtain rfl:=ho;obtain ⟨L0,L1,EW,b6⟩:=D9;by_cases hlt:k < l.length
 · obtain ⟨qb,qo,rfl,ae,af,ah,cv,cw,br,qr,ap,ar,ay,bo,b2,a4⟩:=kD.kPk (HL.out.1.below EW) hlt rfl;have al:=kD.yh HL.out hlt;have bl:=yD (List.take_succ_eq_append_getElem hlt);generalize l[k]=x at *;obtain ⟨bd,b5,cq,ac,ag,ak,ao,ax,b3,bq,cm,bp,bi⟩:=jV qr;simp only [Ad,and_true] at ac;obtain ⟨rfl,rfl,rfl,rfl,rfl,rfl⟩:=ac;obtain ⟨ad,aw,rfl,bf⟩:=kD.sl ao;obtain ⟨ai,bj,rfl,cg⟩:=kD.sl ax;obtain ⟨aj,cl,rfl,c2⟩:=kD.sl bq;have PX:jF.rd wr _ x.1:=⟨ag,al.1⟩;have HU:=yD bi;go_wp2_with fail;refine (kAu PX).mono ?_;rintro e wT ⟨tc,rfl,OT,an⟩;obtain ⟨c7,dl,dr,rfl,a5,ce,b7,c1,cf,c6,c0⟩:=jM OT.raw;obtain ⟨a8,bm,rfl,dp⟩:=kD.sl ce;obtain ⟨bn,c4,rfl,dn⟩:=kD.sl b7;obtain ⟨bb,a9,rfl,dm⟩:=kD.sl cf;clear a5 ce b7 c1 cf c6 c0;have bk:=an.size;go_upto_region 6 with fail;generalize Y:World.alloc wT _=wD;have ED:Qb wT wD:=rX;have bw:=ED.size;have D0:Qd wD wT 0 (.slice a8 x.1.1.length bm):=tX;have D1:Qd wD wT 1 (.slice bn x.1.2.1.length c4):=tX;have D2:Qd wD wT 2 (.slice bb x.1.2.2.1.length a9):=tX;have D3:Qd wD wT 3 (.int .i64 x.1.2.2.2.1):=tX;have D4:Qd wD wT 4 (.int .i64 x.1.2.2.2.2):=tX;clear Y;have X:=(tQ an ED);have XS:=kC XV.out X;have M0:=kE XS (j:=0) (v:=.int .i64 c) rfl;have M1:=kE XS (j:=1) rfl;replace L0:=cL X L0;replace L1:=cL X L1;replace a4:=cL X a4;have FX:=yD (λ(W:Ac) (hW:Qb wD W)=>cLs10 hW L0 L1 M0 M1 a4 D0 D1 D2 D3 D4);refine zX (λW=>Qb wD W) [Tt,Tt,Tt,Tt,Tt,Tt,Tt,Tt,Tt,Tt,Ff] bC5 bC5 pY (bR.drew) ?_;intro wS E;iterate 10
    all_goals refine kX ?_
   all_goals first|(refine kG rfl E ?_)|(refine kY rfl (λK H=>?_);go_simp;refine H _ _ (E.alloc E.size _) ?_;clear H K)
   all_goals refine jD ?_
   all_goals refine jy ?_
   have a2:=E.size;have R:=(tQ X E);have XW:=kC XV.out R;have am:=o.trans (R.mono bD1);replace L:=yD (L.out.below R);have bz:(l.take k).length<=16777216:=bC6;go_wp2_with (at_builtin;refine kD.jO rfl _ _ 25 rfl (r:=jC) (e:=122) Aq kAl rfl bD0 bD0 (B:=w.heap.size + 3) L.out bD3 bD3 rfl (kD.own.wide (T:=jU wr.heap.size wT.heap.size) (kD.yN (r:=jF) (q:=kD.int) (cs:=[.slice a8 x.1.1.length bm,.slice bn x.1.2.1.length c4,.slice bb x.1.2.2.1.length a9,.int .i64 x.1.2.2.2.1,.int .i64 x.1.2.2.2.2]) (ds:=[.int .i64 x.2]) (x:=x.1) (y:=x.2) (OT.below (tQ ED E)) (kD.jG HU.out)) (λj I=>I)) rfl mZ rC mU bD1 bD1 ?_);exact aM
 obtain rfl:k=l.length:=bD1;obtain ⟨M0,M1,R0,R1,F0⟩:=BL;have bg:=F0 0;have ba:=F0 1;clear F0;have HF:=yD (L.out.cast vH);have c3:Hid (l.length<=Big):=yD wM;go_wp2;refine Ba (v:=.agg #[Qn c,.slice oa on oc]) (by simp [results,results96,go_sem,R0,R1,bg,ba]) rfl ⟨_,rfl,?_,?_⟩
 · exact (((HF.out.setCell fB).setCell fB)).wide fZ
 exact (EW.setCell bD2 _).setCell bD2 _
def kMs {w:Ac} {cs:Bd Ae} {x:kg} (hx:kP.rd w cs x):Aw prog 96 #[.agg cs.toArray] w (kAe kP x w) :=
  (kMr hx).mono λ_ _ h=>h.made (store_hr hx) hx.2.2.1
def kSz {w:Ac} {cs:Bd Ae} {x:kg} {g:FuncId} {cp:Array Ae} (p:kZ->Bool) (hg:jH prog g) (hx:kP.rd w cs x)
    (J:∀ wr,Qb w wr->∀ y ds,jC.raw wr ds y->Aw prog g (#[.agg ds.toArray]++cp) wr (λe w'=>e=.returned (.bool (p y))/\Qb wr w')) :
    Aw prog 160 #[.agg cs.toArray,.func (.func g) #[] cp] w (jAx (x.1,x.2.filter p) w):=by
 have av:=yD J
 unfold jH at hg
 clear J
 obtain ⟨hx,al⟩:=hx
 obtain ⟨sv,rfl,a3,hl⟩:=jI hx
 obtain ⟨la,lp,rfl,_⟩:=kD.sl hl
 obtain ⟨c,l⟩:=x
 obtain ⟨HL,bc,bx⟩:=FJ
 clear hx a3 hl al
 go_enter func160,ntmps160
 go_wp2
 generalize N:World.alloc (World.alloc (World.alloc w _) _) _=wA
 obtain ⟨HZ,EA,XB,XR,XO⟩:=CE
 clear N
 go_loopw [14] (λi wr=>∃ (k:Nat) (v:Ae),k<=l.length/\i=.int .i64 k/\Hid (Qr wr (w.heap.size + 1 + 1) #[Qn c,v] 27)/\Hid (kD.kU 122 jC wr v ((l.take k).filter p) (jU (w.heap.size + 3) wr.heap.size))/\Below (w.heap.size + 1 + 1) wA wr/\w.heap.size + 3<=wr.heap.size) (λi _=>l.length - (intOf i).toNat)
 case atStart=>exact ⟨0,_,Nat.zero_le _,rfl,XO,yD kD.kU.nil,bR,by have:=HZ.out;omega⟩
 obtain ⟨k,v,hk,rfl,XV,L,o,ab⟩:=hrel
 obtain ⟨oa,on,oc,ho,bh⟩:=L.out.parts;obtain rfl:=ho
 obtain ⟨L0,L1,EW,b6⟩:=D9
 by_cases hlt:k < l.length
 · obtain ⟨qb,qo,rfl,ae,af,ah,cv,cw,br,qr,ap,ar,ay,bo,b2,a4⟩:=kD.kPk (HL.out.1.below EW) hlt rfl;have al:=kD.yh HL.out hlt;have bv:=λq=>kGm (p:=p) hlt q;have b1:=λq=>kEq (p:=p) hlt q;have bz:((l.take k).filter p).length<=16777216:=by have h2:=kAa (p:=p) (l:=l) (k:=k) bD1;omega
   generalize l[k]=x at *;have a1:=yD bv;have b4:=yD b1;clear bv b1;have b0:=yD qr;obtain ⟨bd,b5,cq,ac,ag,ak,ao,ax,b3,bq,cm,bp,bi⟩:=jV qr;simp only [Ad,and_true] at ac;obtain ⟨rfl,rfl,rfl,rfl,rfl,rfl⟩:=ac;obtain ⟨ad,aw,rfl,bf⟩:=kD.sl ao;obtain ⟨ai,bj,rfl,cg⟩:=kD.sl ax;obtain ⟨aj,cl,rfl,c2⟩:=kD.sl bq;have PX:Hid (jF.rd wr _ x.1):=yD ⟨ag,al.1⟩;have HU:=yD bi;go_wp2_with fail;generalize D:World.alloc wr _=wC;obtain ⟨EC,M0,M1,M2,M3,M4,M5⟩:=A8;clear D;have au:=EC.size;refine (av.out wC (tQ EW EC) _ _ (b0.out.below EC)).mono ?_;rintro e wD ⟨rfl,aq⟩;replace M0:=cL aq M0;replace M1:=cL aq M1;replace M2:=cL aq M2;replace M3:=cL aq M3;replace M4:=cL aq M4;replace M5:=cL aq M5;have X:=(tQ EC aq);have bw:=aq.size;have XS:=kC XV.out X;have be:=o.trans (X.mono bD1);have bu:=yD (L.out.below X);clear aq;cases hp:p x
   · have U:=yD (b4.out hp);clear a1 b4 hp;have az:=yD XS;clear XS;go_wp2;go_roundw;case rel=>exact ⟨k + 1,_,by omega,by go_num,az,yD ((bu.out.cast U.out.symm).wide rC),be,by omega⟩
     simp [intOf];omega
   have bl:=yD (a1.out hp);clear a1 b4 hp;have Y:=kE XS (j:=0) (v:=.int .i64 c) rfl;have B1:=kE XS (j:=1) rfl;go_upto_region 6 with fail;have FX:=yD (λ(W:Ac) (hW:Qb wD W)=>cLs8 hW Y B1 M0 M1 M2 M3 M4 M5);refine jS (λW=>Qb wD W) [(0,true),(1,true),(2,true),(3,true),(5,true),(6,true),(4,false),(7,true),(8,false)] bC5 bC5 pY (bR.drew) ?_;intro wS E;simp only [jB,Bc,List.length_nil,Aa,Ab,Az,Bb,List.cons_append,List.nil_append,List.drop_succ_cons,List.drop_zero];iterate 6
    all_goals refine kX ?_
   all_goals first|(refine kG rfl E ?_)|(refine kY rfl (λK H=>?_);go_simp;refine (kCs (PX.out.below (tQ X E))).mono ?_;rintro e wT ⟨tc,rfl,OT,an⟩;obtain ⟨c7,dl,dr,rfl,a5,ce,b7,c1,cf,c6,c0⟩:=jM OT.raw;obtain ⟨a8,bm,rfl,dp⟩:=kD.sl ce;obtain ⟨bn,c4,rfl,dn⟩:=kD.sl b7;obtain ⟨bb,a9,rfl,dm⟩:=kD.sl cf;clear a5 ce b7 c1 cf c6 c0;have bk:=an.size;have eh:=E.size;have de:=yD OT;replace E:=(tQ E an);refine H _ _ E ?_;clear H K an OT)
   all_goals refine jD ?_
   all_goals refine kX ?_
   all_goals first|(refine kG rfl E ?_)|(refine kY rfl (λK H=>?_);go_simp;refine H _ _ (E.alloc E.size _) ?_;clear H K)
   all_goals refine jD ?_
   all_goals refine jy ?_
   have a2:=E.size;have R:=(tQ X E);have XW:=kC XV.out R;have am:=o.trans (R.mono bD1);replace L:=yD (L.out.below R);go_wp2_with (at_builtin;refine kD.jO rfl _ _ 25 rfl (r:=jC) (e:=122) Aq kAl rfl bD0 bD0 (B:=w.heap.size + 3) L.out bD3 bD3 rfl (kD.own.wide (T:=jU wr.heap.size wT.heap.size) (kD.yN (r:=jF) (q:=kD.int) (cs:=[.slice a8 x.1.1.length bm,.slice bn x.1.2.1.length c4,.slice bb x.1.2.2.1.length a9,.int .i64 x.1.2.2.2.1,.int .i64 x.1.2.2.2.2]) (ds:=[.int .i64 x.2]) (x:=x.1) (y:=x.2) (de.out) (kD.jG HU.out)) rD) rfl mZ rC mU bD1 bD1 ?_);exact aM
 obtain rfl:k=l.length:=bD1
 obtain ⟨M0,M1,R0,R1,F0⟩:=BL
 have bg:=F0 0
 have ba:=F0 1
 clear F0
 have HF:=yD (L.out.cast vH)
 have c3:Hid ((l.filter p).length<=Big):=yD (by have:=Ay p l;unfold Big;omega)
 go_wp2
 refine Ba (v:=.agg #[Qn c,.slice oa on oc]) (by simp [results,results160,go_sem,R0,R1,bg,ba]) rfl ⟨_,rfl,?_,?_⟩
 · exact (((HF.out.setCell fB).setCell fB)).wide fZ
 exact (EW.setCell bD2 _).setCell bD2 _
def kTa {w:Ac} {cs:Bd Ae} {x:kg} {g:FuncId} {cp:Array Ae} (p:kZ->Bool) (hg:jH prog g) (hx:kP.rd w cs x)
    (J:∀ wr,Qb w wr->∀ y ds,jC.raw wr ds y->Aw prog g (#[.agg ds.toArray]++cp) wr (λe w'=>e=.returned (.bool (p y))/\Qb wr w')) :
    Aw prog 160 #[.agg cs.toArray,.func (.func g) #[] cp] w (kAe kP (x.1,x.2.filter p) w) :=
  (kSz p hg hx J).mono λ_ _ h=>h.made (x:=(x.1,x.2.filter p)) (store_hr (x:=x) hx) (Nat.le_trans (Ay _ _) hx.2.2.1)
def kQk {w:Ac} {ds:Bd Ae} {y:kZ} (hy:jC.raw w ds y):Aw prog 161 (#[.agg ds.toArray]++#[]) w (bQ w (.bool true)):=by
 obtain ⟨ch,a1,cz,rfl,G,aq,ba,a3,au,a4,a6,bg,br⟩:=jV hy;obtain ⟨bp,bi,rfl,co⟩:=kD.sl ba;obtain ⟨e6,al,rfl,a2⟩:=kD.sl a3;obtain ⟨bw,bt,rfl,dd⟩:=kD.sl a4;clear hy G aq ba a3 au a4 a6 bg br;show Aw prog 161 #[_] w _;go_enter func161,ntmps161;go_wp2;go_ret;exact ⟨rfl,bG⟩
def kMe:jH prog 161:=yR func161 bC5 bC5
def kTb {w:Ac} {cs:Bd Ae} {x:kg} (hx:kP.rd w cs x):Aw prog 90 #[.agg cs.toArray] w (kAe kP x w):=by
 have HX:=yD hx;obtain ⟨hx,al⟩:=hx;obtain ⟨sv,rfl,a3,hl⟩:=jI hx;obtain ⟨la,lp,rfl,_⟩:=kD.sl hl;obtain ⟨c,l⟩:=x;obtain ⟨HL,bc,bx⟩:=FJ;clear hx a3 hl al;have o:Hid (l.filter (λ_=>true)=l):=yD bD2;go_enter func90,ntmps90;go_wp2_with fail;generalize J:World.alloc (World.alloc w _) _=N;have R:Qb w N:=by rw [<- J];exact bG
 have XR:Hid (Qr N (w.heap.size + 1) #[Qn 0,.slice none 0 0] 27):=yD sF;clear J;have bq:=R.size;refine (kTa (λ_=>true) kMe (HX.out.below R) (λwr _ y ds hy=>kQk hy)).mono ?_;rintro e w1 ⟨oc,rfl,O1,O⟩;replace O1:=show kP.own w1 oc (c,l) _ from o.out ▸ O1;obtain ⟨F,rfl,Z,W⟩:=jI O1.raw;obtain ⟨oa,D,rfl,_⟩:=kD.sl W;have X:=kC XR.out O;have M0:=kE (b:=w.heap.size + 1) X (j:=0) rfl;have M1:=kE (b:=w.heap.size + 1) X (j:=1) rfl;have F0:=frozen_of_row w1 (w.heap.size + 1) 0 _ _ X;have F1:=frozen_of_row w1 (w.heap.size + 1) 1 _ _ X;have aa:=yD O1;have E1:=(tQ R O);have E:w.heap.size + 2<=N.heap.size:=by have:=(Array.getElem?_eq_some_iff.1 XR.out).1;omega
 clear Z W O1 O;go_wp2;refine Ba (v:=.agg #[Qn c,Qs oa l D]) (by simp [results,results90,go_sem,M0,M1,F0,F1]) rfl ⟨[_,_],rfl,?_,?_⟩
 · exact ((aa.out.setCell fB).setCell fB).wide fZ
 exact (E1.setCell bD2 _).setCell bD2 _
def isC (n:kr) (x:kZ):Bool:=eqN x.1.1 n
def kEv {w:Ac} {vl:Ae} {l:(Bd kZ)} (hl:(kD.slice 122 jC).raw w [vl] l) {cn:Bd Ae} {n:kr} (hn:kW.raw w cn n) :
    Aw prog 151 #[vl,.agg cn.toArray] w (bQ w (.int .i64 (idxOf (isC n) l))):=by
 obtain ⟨al,pl,rfl,ll⟩:=kD.sl hl
 have Y:=yD hn
 obtain ⟨L,rfl,H⟩:=ko hn
 obtain ⟨I,G,rfl,V⟩:=kD.sl H
 go_enter func151,ntmps151
 go_wp2
 generalize J:World.alloc w _=N
 obtain ⟨R,D⟩:=xZ
 clear J
 replace hl:=hl.below R
 go_loopw [5] (λi wr=>∃ k:Nat,k<=l.length/\i=.int .i64 k/\Hid (∀ j,(h:j < k)->(h2:j < l.length)->(isC n) l[j]=false)/\Qb N wr) (λi _=>l.length - (intOf i).toNat)
 case atStart=>exact ⟨0,Nat.zero_le _,rfl,yD (λ_ h=>by omega),bR⟩
 obtain ⟨k,hk,rfl,HN,o⟩:=hrel
 replace D:=cL o D
 by_cases hlt:k < l.length
 · obtain ⟨qb,qo,rfl,ae,af,ah,cv,cw,br,qr,ap,ar,ay,bo,b2,a4⟩:=kD.kPk (hl.below o) (i:=k) bD1 rfl;obtain ⟨au,Z⟩:=DJ;generalize l[k]=x at *;have HD:=yD au;have HX:=yD Z;clear au Z;obtain ⟨x0,x1⟩:=x;obtain ⟨bd,b5,cq,ac,ag,ak,ao,ax,b3,bq,cm,bp,bi⟩:=jV qr;simp only [Ad,and_true] at ac;obtain ⟨rfl,rfl,rfl,rfl,rfl,rfl⟩:=ac;obtain ⟨ad,aw,rfl,bf⟩:=kD.sl ao;obtain ⟨ai,bj,rfl,cg⟩:=kD.sl ax;obtain ⟨aj,cl,rfl,c2⟩:=kD.sl bq;go_upto_region 4 with fail;have FX:=yD (λ(W:Ac) (hW:Qb wr W)=>cLs7 hW D ap ar ay bo b2 a4);refine kM (λW=>Qb wr W) [Tt,Tt,Tt,Tt,Tt,Tt,Tt,Ff] bC5 bC5 pY (bR.drew) ?_;intro wS E;iterate 7
    all_goals refine kX ?_
   all_goals first | refine wkB (zD (kD.raw.below ak E) (kD.raw.below Y.out ((tQ R (tQ o E))))) (λwS1 E=>?_) | refine kX ?_
   all_goals refine kR ?_
   all_goals cases X:eqN x0.1 n
   all_goals have F:=(tQ o E)
   all_goals first
     | (have U:=yD (HD.out (show _=true by simp only [isC,Aj,Ag,Ak,Al,Ah,Ai,Ar,Au,Am,Ap,Av,X]));clear HD HX;go_wp2;go_ret;exact ⟨jX U.out.symm,(tQ R F)⟩)
     | (have U:=yD (HX.out (show _=false by simp only [isC,Aj,Ag,Ak,Al,Ah,Ai,Ar,Au,Am,Ap,Av,X]));clear HD HX;go_wp2;go_roundw;(case rel=>exact ⟨k + 1,by omega,by go_num,U,F⟩);(case measure=>simp [intOf];omega))
 exact iN
def kHp {w:Ac} {cx:Bd Ae} {x:kZ} (hx:jC.raw w cx x) {y:kZ} {bc bz bq a9 ba b2:Ae} {O:Nat} (yr:jC.raw w [bc,bz,bq,a9,ba,b2] y) (G:Qc w O 0 bc) (be:Qc w O 1 bz) (a1:Qc w O 2 bq) (D:Qc w O 3 a9) (aa:Qc w O 4 ba) (H:Qc w O 5 b2) :
    Aw prog 146 (#[.agg cx.toArray]++#[.pointer (some ⟨O,0,none⟩)]) w (bQ w (.bool (isC y.1.1 x))):=by
 have Hx:=yD hx
 obtain ⟨ax,bg,bb,rfl,I,o,ad,ah,am,aw,az,bi,br⟩:=jV hx
 obtain ⟨ac,Y,rfl,av⟩:=kD.sl ad
 obtain ⟨au,ap,rfl,bf⟩:=kD.sl ah
 obtain ⟨ar,ao,rfl,bd⟩:=kD.sl aw
 obtain ⟨c9,e8,e7,aj,bl,a3,bx,a6,d5,d0,eg,ae,ab⟩:=jV yr
 simp only [Ad,and_true] at aj
 obtain ⟨rfl,rfl,rfl,rfl,rfl,rfl⟩:=aj
 obtain ⟨a7,bv,rfl,e4⟩:=kD.sl bx
 obtain ⟨b0,cm,rfl,eu⟩:=kD.sl a6
 obtain ⟨bh,cg,rfl,e5⟩:=kD.sl d0
 show Aw prog 146 #[_,_] w _
 go_enter func146,ntmps146
 go_upto_region 1 with fail
 generalize J:World.alloc w _=N
 obtain ⟨R,L,Z,af,V,ay,bj⟩:=DZ
 clear J
 replace G:=cL R G
 replace be:=cL R be
 replace a1:=cL R a1
 replace D:=cL R D
 replace aa:=cL R aa
 replace H:=cL R H
 have FX:=yD (λ(W:Ac) (hW:Qb N W)=>cLs12 hW L Z af V ay bj G be a1 D aa H)
 refine ky (λW=>Qb N W) [Tt,Tt,Tt,Tt,Tt,Tt,Ff,Tt] bR ?_
 intro wS E
 iterate 6
  all_goals refine kX ?_
 all_goals first | refine wkB (yA (kD.raw.below o (tQ R E)) (kD.raw.below a3 (tQ R E))) (λwS1 E=>?_) | refine kX ?_
 all_goals (refine jd λb X=>?_;cases b <;> try simp only [jc] at X)
 all_goals refine kR ?_
 all_goals have F:=(tQ R E)
 all_goals first
   | (have U:=yD (show (isC y.1.1 x)=false by simp only [isC,Aj,Ag,Ak,Al,Ah,Ai,Ar,Au,Am,Ap,Av,X]);go_wp2;go_ret;exact ⟨kK U.out.symm,F⟩)
   | (have U:=yD (show (isC y.1.1 x)=true by simp only [isC,Aj,Ag,Ak,Al,Ah,Ai,Ar,Au,Am,Ap,Av,X]);go_wp2;go_ret;exact ⟨kK U.out.symm,F⟩)
def kDr:jH prog 146:=yR func146 bC5 bC5
def kIb {w:Ac} {v:Ae} {l:Bd kZ} {S:Nat->Prop} (h:kD.kU 122 jC w v l S) {k:Nat} (am:k < l.length) (bc:l.length<=16777216) :
    Aw prog 198 #[v,.int .i64 k] w λe w'=>∃ v',e=.returned v'/\kD.kU 122 jC w' v' (l.take k++l.drop (k + 1)) (λj=>S j\/jU w.heap.size w'.heap.size j)/\Qb w w':=by
 obtain ⟨b,oc,rfl,F⟩:=kD.kLt h am
 rw [List.drop_eq_getElem_cons am] at F
 have Z:=F.len
 simp only [List.length_take,Bc,List.length_drop] at Z
 obtain ⟨on,N⟩:∃ on,Hid (l.length=on):=⟨_,yD rfl⟩
 have G:Hid (kD.gap 122 jC w b oc l.length (l.take k) 1 (l.drop (k + 1)) S):=yD F.skip
 have bw:on<=oc:=by have:=Z.2.1;have:=N.out;omega
 have bo:oc<=9223372036854775807:=pO
 have a4:k < on:=by have:=N.out;omega
 have o:on<=16777216:=by have:=N.out;omega
 have HK:Hid ((l.take k).length=k):=yD bC6
 rw [N.out]
 have a7:=yD bc
 clear F Z h am bc
 obtain ⟨bv,a3⟩:=GU
 have dy:k + 1<=oc:=bD1
 have co:k + 1<=on:=bD1
 have er:(k:Int) + 1<=on:=bD1
 have ao:(0:Int)<=(k:Int) + 1:=bD1
 have cz:k<=oc:=bD1
 have hw:IntKind.i64.wrap ((k:Int) + 1)=(k:Int) + 1:=IntWalk.i64_in _ bD1
 go_enter func198,ntmps198
 by_cases an:oc=k + 1
 · have HR:Hid ((l.drop (k + 1)).length=0):=yD (by have:=N.out;simp;omega);obtain rfl:on=k + 1:=bD1;subst an;have au:(k:Int)<=(k:Int) + 1:=bD1;go_upto_region 1 with fail;refine jo (λW=>Qb w W) [(1,true),(2,true),(3,true),(5,true),(6,true),(7,true),(8,true),(0,false),(4,false),(9,false),(10,true)] bC5 bC5 pY (bR.drew) ?_;intro wS E;simp only [jB,Aa,Ab,Az,Bb];iterate 7
    all_goals refine kX ?_
   all_goals first|(refine kG rfl E ?_)|(refine kY rfl (λK H=>?_);go_simp;generalize az:World.alloc wS _=wU;replace E:Qb w wU:=(by rw [<- az];exact E.alloc E.size _);clear az;refine H _ _ E ?_;clear H K)
   all_goals refine jD ?_
   all_goals first|(refine kG rfl E ?_)|(refine kY rfl (λK H=>?_);obtain ⟨v3,u3,bd,ap,v4,u4,ag,aq,aj⟩:=kD.kHa (P:=prog) (t:=25) Aq kAl rfl bD0 bD0 G.out E (a0:=some ⟨wS.heap.size,0,none⟩) a7.out (k + 1) 0 25 25 (q:=0) (kl:=k) (rl:=0) (λhne=>absurd (List.eq_nil_of_length_eq_zero HR.out) hne) HK.out.symm HR.out.symm;have ac:=(tQ E ap);refine kD.kV _ _ _ rfl bD3 bD3 bd ?_;refine H _ _ ac ?_;clear H K)
   all_goals refine jD ?_
   all_goals first|(refine kG rfl E ?_)|(refine kY rfl (λK H=>?_);have D:=(tQ E aj);refine kD.kV _ _ _ rfl bD3 bD3 ag ?_;refine H _ _ D ?_;clear H K)
   all_goals refine jD ?_
   all_goals refine kX ?_
   all_goals refine kR ?_
   exact uK
 have HR:Hid ((l.drop (k + 1)).length=on - (k + 1)):=yD (by have:=N.out;simp;omega)
 go_upto_region 1 with fail
 refine jo (λW=>Qb w W) [(1,true),(2,true),(3,true),(5,true),(6,true),(7,true),(8,true),(0,false),(4,false),(9,false),(10,true)] bC5 bC5 pY (bR.drew) ?_
 intro wS E
 simp only [jB,Aa,Ab,Az,Bb]
 iterate 7
  all_goals refine kX ?_
 all_goals first|(refine kG rfl E ?_)|(refine kY rfl (λK H=>?_);go_simp;generalize az:World.alloc wS _=wU;replace E:Qb w wU:=(by rw [<- az];exact E.alloc E.size _);clear az;refine H _ _ E ?_;clear H K)
 all_goals refine jD ?_
 all_goals first|(refine kG rfl E ?_)|(refine kY rfl (λK H=>?_);obtain ⟨v3,u3,bd,ap,v4,u4,ag,aq,aj⟩:=kD.kHa (P:=prog) (t:=25) Aq kAl rfl bD0 bD0 G.out E (a0:=some ⟨wS.heap.size,0,none⟩) a7.out oc (oc - (k + 1)) 25 25 (q:=((k + 1) * 6)) (kl:=k) (rl:=(on - (k + 1))) (λ_=>by rw [HK.out];rfl) HK.out.symm HR.out.symm;have ac:=(tQ E ap);refine kD.kV _ _ _ rfl bD3 bD3 bd ?_;refine H _ _ ac ?_;clear H K)
 all_goals refine jD ?_
 all_goals first|(refine kG rfl E ?_)|(refine kY rfl (λK H=>?_);have D:=(tQ E aj);refine kD.kV _ _ _ rfl bD3 bD3 ag ?_;refine H _ _ D ?_;clear H K)
 all_goals refine jD ?_
 all_goals refine kX ?_
 all_goals refine kR ?_
 exact uK
end Go.Proofs.YtjhfdpopkkmigaaGreat

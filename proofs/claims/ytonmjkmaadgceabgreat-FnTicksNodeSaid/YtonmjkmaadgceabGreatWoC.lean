/-
  An entry of a store taken out.
-/
import Derived.Test.YtonmjkmaadgceabGreatLenN
set_option linter.unusedVariables false
set_option linter.defProp false
set_option linter.unusedSimpArgs false
set_option linter.unnecessarySimpa false
set_option maxRecDepth 100000
set_option maxHeartbeats 4000000
open Bool renaming true->Tt,false->Ff
open List renaming getElem?_cons_succ->Aa,getElem?_cons_zero->Ab,length_filter_le->Aw,map_cons->Ay,map_nil->Bb,length_cons->Bd
open List.cons renaming injEq->Ac
open Go renaming World->Ad,Value->Ae,Calls->Av,frozen_of_row->Az,bodyPost_ret->Ba
open Bool renaming not_false->Ag,and_false->Ah,false_and->Ai,not_true->Aj,and_true->Ak,true_and->Al,or_false->Am,false_or->Ap,or_true->Aq,true_or->Ar,not_not->Au
open Go.Proofs.Tryz renaming underlying25->Bc
open _root_ renaming List->Be
namespace Go.Proofs.YtonmjkmaadgceabGreat
open Go.RowKit _root_.Go.Proofs.Tryz
def jAi (x:kg) (w:Ad):Ending->Ad->Prop:=λe w'=>∃ v,e=.returned (.agg #[Qn x.1,v])/\kD.kR 111 jD w' v x.2 (jX w.heap.size w'.heap.size)/\Qb w w'
def jAi.made {x:kg} {w:Ad} {e:Ending} {w':Ad} (hr:Qi x.1) (hl:x.2.length<=Big) (h:jAi x w e w'):kAe kN x w e w':=by
 obtain ⟨v,rfl,O,hb⟩:=h;exact ⟨[_,_],rfl,kD.kIg (r:=kD.int) (q:=kD.slice 111 jD) (cs:=[_]) (kD.jB hr) (O.own hl),hb⟩
def store_hr {w:Ad} {cs:Be Ae} {x:kg} (hx:kN.rd w cs x):Qi x.1:=by
 obtain ⟨sv,_,c7,_⟩:=jK hx.1;exact c7
def kMp {w:Ad} {cs:Be Ae} {x:kg} (hx:kN.rd w cs x):Av prog 68 #[.agg cs.toArray] w (jAi x w):=by
 obtain ⟨hx,av⟩:=hx;obtain ⟨sv,rfl,c7,hl⟩:=jK hx;obtain ⟨la,lp,rfl,_⟩:=kD.sl hl;obtain ⟨c,l⟩:=x;obtain ⟨HL,a5,bp⟩:=AL;clear hx c7 hl av;go_enter func68,ntmps68;go_wp2;generalize N:World.alloc (World.alloc (World.alloc w _) _) _=wA;obtain ⟨HZ,EA,XB,XR,XO⟩:=xV;clear N;go_loopw [4] (λi wr=>∃ (k:Nat) (v:Ae),k<=l.length/\i=.int .i64 k/\Hid (Qr wr (w.heap.size + 1 + 1) #[Qn c,v] 27)/\Hid (kD.kR 111 jD wr v (l.take k) (jX (w.heap.size + 3) wr.heap.size))/\Below (w.heap.size + 1 + 1) wA wr/\w.heap.size + 3<=wr.heap.size) (λi _=>l.length - (intOf i).toNat);case atStart=>exact ⟨0,_,Nat.zero_le _,rfl,XO,yD kD.kR.nil,bR,by have:=HZ.out;omega⟩
 obtain ⟨k,v,hk,rfl,XV,J,o,bz⟩:=hrel;obtain ⟨oa,on,oc,ho,bb⟩:=J.out.parts;obtain rfl:=ho;obtain ⟨L0,L1,Y,b3⟩:=xU;by_cases hlt:k < l.length
 · obtain ⟨qb,qo,rfl,ae,af,ah,cc,ck,cz,qr,ar,ax,a2,an,a4,a3⟩:=kD.get6 (HL.out.1.below Y) hlt rfl;have av:=kD.yX HL.out hlt;have ba:=yD (List.take_succ_eq_append_getElem hlt);generalize l[k]=x at *;obtain ⟨bg,dc,b2,Z,aj,ap,ao,au,bq,bh,cq,cw,cv⟩:=jq qr;simp only [Ac,and_true] at Z;obtain ⟨rfl,rfl,rfl,rfl,rfl,rfl⟩:=Z;obtain ⟨ac,ay,rfl,bd⟩:=kD.sl ao;obtain ⟨ai,bc,rfl,bl⟩:=kD.sl au;obtain ⟨am,bu,rfl,ce⟩:=kD.sl bh;have PX:jJ.rd wr _ x.1:=⟨aj,av.1⟩;have HU:=yD cv;go_wp2_with fail;refine (kBw PX).mono ?_;rintro e wT ⟨tc,rfl,OT,aq⟩;obtain ⟨cf,c2,df,rfl,al,b7,b4,cg,b8,ch,cd⟩:=jb OT.raw;obtain ⟨a7,br,rfl,dd⟩:=kD.sl b7;obtain ⟨bx,b9,rfl,db⟩:=kD.sl b4;obtain ⟨be,a8,rfl,c9⟩:=kD.sl b8;clear al b7 b4 cg b8 ch cd;have bo:=aq.size;go_upto_region 6 with fail;generalize ad:World.alloc wT _=wD;obtain ⟨ED,bn,D0,D1,D2,D3,D4⟩:=DV;clear ad;obtain ⟨ab,XS,M0,M1,L0,L1,a3,FX⟩:=FV;refine yH (λW=>Qb wD W) [Tt,Tt,Tt,Tt,Tt,Tt,Tt,Tt,Tt,Tt,Ff] bC3 bC3 pK (bR.drew) ?_;intro wS E;iterate 10
    all_goals refine ku ?_
   all_goals first|(refine kI rfl E ?_)|(refine kw rfl (λK H=>?_);go_simp;refine H _ _ (E.alloc E.size _) ?_;clear H K)
   all_goals refine jF ?_
   all_goals refine jc ?_
   obtain ⟨bj,O,XW,ak,J⟩:=FN;have b6:(l.take k).length<=16777216:=bC4;exact aM
 obtain rfl:k=l.length:=bC9;obtain ⟨M0,M1,R0,R1,F0,b0,bv⟩:=xL;clear F0;have HF:=yD (J.out.cast vE);have bt:Hid (l.length<=Big):=yD wH;go_wp2;refine Ba (v:=.agg #[Qn c,.slice oa on oc]) (by simp [results,results68,go_sem,R0,R1,b0,bv]) rfl ⟨_,rfl,?_,?_⟩
 · exact (((HF.out.setCell dX).setCell dX)).wide fJ
 exact (Y.setCell bD0 _).setCell bD0 _
def kMq {w:Ad} {cs:Be Ae} {x:kg} (hx:kN.rd w cs x):Av prog 68 #[.agg cs.toArray] w (kAe kN x w) :=
  (kMp hx).mono λ_ _ h=>h.made (store_hr hx) hx.2.2.1
def kSo {w:Ad} {cs:Be Ae} {x:kg} {g:FuncId} {cp:Array Ae} (p:kT->Bool) (hg:jI prog g) (hx:kN.rd w cs x)
    (ag:∀ wr,Qb w wr->∀ y ds,jD.raw wr ds y->Av prog g (#[.agg ds.toArray]++cp) wr (λe w'=>e=.returned (.bool (p y))/\Qb wr w')) :
    Av prog 64 #[.agg cs.toArray,.func (.func g) #[] cp] w (jAi (x.1,x.2.filter p) w):=by
 have aw:=yD ag
 unfold jI at hg
 clear ag
 obtain ⟨hx,av⟩:=hx
 obtain ⟨sv,rfl,c7,hl⟩:=jK hx
 obtain ⟨la,lp,rfl,_⟩:=kD.sl hl
 obtain ⟨c,l⟩:=x
 obtain ⟨HL,a5,bp⟩:=AL
 clear hx c7 hl av
 go_enter func64,ntmps64
 go_wp2
 generalize N:World.alloc (World.alloc (World.alloc w _) _) _=wA
 obtain ⟨HZ,EA,XB,XR,XO⟩:=xV
 clear N
 go_loopw [14] (λi wr=>∃ (k:Nat) (v:Ae),k<=l.length/\i=.int .i64 k/\Hid (Qr wr (w.heap.size + 1 + 1) #[Qn c,v] 27)/\Hid (kD.kR 111 jD wr v ((l.take k).filter p) (jX (w.heap.size + 3) wr.heap.size))/\Below (w.heap.size + 1 + 1) wA wr/\w.heap.size + 3<=wr.heap.size) (λi _=>l.length - (intOf i).toNat)
 case atStart=>exact ⟨0,_,Nat.zero_le _,rfl,XO,yD kD.kR.nil,bR,by have:=HZ.out;omega⟩
 obtain ⟨k,v,hk,rfl,XV,J,o,bz⟩:=hrel
 obtain ⟨oa,on,oc,ho,bb⟩:=J.out.parts;obtain rfl:=ho
 obtain ⟨L0,L1,Y,b3⟩:=xU
 by_cases hlt:k < l.length
 · obtain ⟨qb,qo,rfl,ae,af,ah,cc,ck,cz,qr,ar,ax,a2,an,a4,a3⟩:=kD.get6 (HL.out.1.below Y) hlt rfl;have av:=kD.yX HL.out hlt;have bk:=λq=>kCw (p:=p) hlt q;have da:=λq=>kBl (p:=p) hlt q;have b6:((l.take k).filter p).length<=16777216:=by have h2:=zY (p:=p) (l:=l) (k:=k) bC9;omega
   generalize l[k]=x at *;have a1:=yD bk;have bf:=yD da;clear bk da;have ca:=yD qr;obtain ⟨bg,dc,b2,Z,aj,ap,ao,au,bq,bh,cq,cw,cv⟩:=jq qr;simp only [Ac,and_true] at Z;obtain ⟨rfl,rfl,rfl,rfl,rfl,rfl⟩:=Z;obtain ⟨ac,ay,rfl,bd⟩:=kD.sl ao;obtain ⟨ai,bc,rfl,bl⟩:=kD.sl au;obtain ⟨am,bu,rfl,ce⟩:=kD.sl bh;have PX:Hid (jJ.rd wr _ x.1):=yD ⟨aj,av.1⟩;have HU:=yD cv;go_wp2_with fail;generalize X:World.alloc wr _=wC;obtain ⟨EC,M0,M1,M2,M3,M4,M5⟩:=D7;clear X;have bi:=EC.size;refine (aw.out wC (tQ Y EC) _ _ (ca.out.below EC)).mono ?_;rintro e wD ⟨rfl,bm⟩;replace M0:=cL bm M0;replace M1:=cL bm M1;replace M2:=cL bm M2;replace M3:=cL bm M3;replace M4:=cL bm M4;replace M5:=cL bm M5;have ab:=(tQ EC bm);have bn:=bm.size;have XS:=kC XV.out ab;have U:=o.trans (ab.mono bC9);have bw:=yD (J.out.below ab);clear bm;cases hp:p x
   · have L:=yD (bf.out hp);clear a1 bf hp;have a9:=yD XS;clear XS;go_wp2;go_roundw;case rel=>exact ⟨k + 1,_,by omega,by go_num,a9,yD ((bw.out.cast L.out.symm).wide qU),U,by omega⟩
     simp [intOf];omega
   have ba:=yD (a1.out hp);clear a1 bf hp;have B0:=kE XS (j:=0) (v:=.int .i64 c) rfl;have B1:=kE XS (j:=1) rfl;go_upto_region 6 with fail;have FX:=yD (λ(W:Ad) (hW:Qb wD W)=>cLs8 hW B0 B1 M0 M1 M2 M3 M4 M5);refine jU (λW=>Qb wD W) [(0,true),(1,true),(2,true),(3,true),(5,true),(6,true),(4,false),(7,true),(8,false)] bC3 bC3 pK (bR.drew) ?_;intro wS E;simp only [kz,Bd,List.length_nil,Aa,Ab,Ay,Bb,List.cons_append,List.nil_append,List.drop_succ_cons,List.drop_zero];iterate 6
    all_goals refine ku ?_
   all_goals first|(refine kI rfl E ?_)|(refine kw rfl (λK H=>?_);go_simp;refine (kKv (PX.out.below (tQ ab E))).mono ?_;rintro e wT ⟨tc,rfl,OT,aq⟩;obtain ⟨cf,c2,df,rfl,al,b7,b4,cg,b8,ch,cd⟩:=jb OT.raw;obtain ⟨a7,br,rfl,dd⟩:=kD.sl b7;obtain ⟨bx,b9,rfl,db⟩:=kD.sl b4;obtain ⟨be,a8,rfl,c9⟩:=kD.sl b8;clear al b7 b4 cg b8 ch cd;have bo:=aq.size;have du:=E.size;have c0:=yD OT;replace E:=(tQ E aq);refine H _ _ E ?_;clear H K aq OT)
   all_goals refine jF ?_
   all_goals refine ku ?_
   all_goals first|(refine kI rfl E ?_)|(refine kw rfl (λK H=>?_);go_simp;refine H _ _ (E.alloc E.size _) ?_;clear H K)
   all_goals refine jF ?_
   all_goals refine jc ?_
   obtain ⟨bj,O,XW,ak,J⟩:=FN;go_wp2_with (at_builtin;refine kD.jL rfl _ _ 25 rfl (r:=jD) (e:=111) Bc zt rfl bC8 bC8 (B:=w.heap.size + 3) J.out bD1 bD1 rfl (kD.own.wide (T:=jX wr.heap.size wT.heap.size) (kD.jv (r:=jJ) (q:=kD.int) (cs:=[.slice a7 x.1.1.length br,.slice bx x.1.2.1.length b9,.slice be x.1.2.2.1.length a8,.int .i64 x.1.2.2.2.1,.int .i64 x.1.2.2.2.2]) (ds:=[.int .i64 x.2]) (x:=x.1) (y:=x.2) (c0.out) (kD.jB HU.out)) qV) rfl mM qU mH bC9 bC9 ?_);intro v2 V D F a6;obtain ⟨b5,cm,cl,az,b1⟩:=D.parts;obtain rfl:=az;have aa:=(F.block _ bC9).trans XW;have N1:=kE aa (j:=1) rfl;have NF:=Az V (w.heap.size + 1 + 1) 1 _ _ aa;have G:=ak.trans (F.mono bC9);have a9:=yD aa;have R:=yD (kD.kR.cast D (ba.out.symm));clear aa D J F o;go_wp2;go_roundw;case rel=>exact ⟨k + 1,_,by omega,by go_num,yD (heap_setCell_same V _ 1 _ _ _ a9.out),yD ((R.out.setCell dX).wide mD),G.setCell bD0 _,by simp [World.setCell];omega⟩
   simp [intOf];omega
 obtain rfl:k=l.length:=bC9
 obtain ⟨M0,M1,R0,R1,F0,b0,bv⟩:=xL
 clear F0
 have HF:=yD (J.out.cast vE)
 have bt:Hid ((l.filter p).length<=Big):=yD (by have:=Aw p l;unfold Big;omega)
 go_wp2
 refine Ba (v:=.agg #[Qn c,.slice oa on oc]) (by simp [results,results64,go_sem,R0,R1,b0,bv]) rfl ⟨_,rfl,?_,?_⟩
 · exact (((HF.out.setCell dX).setCell dX)).wide fJ
 exact (Y.setCell bD0 _).setCell bD0 _
def kJs {w:Ad} {cs:Be Ae} {x:kg} {g:FuncId} {cp:Array Ae} (p:kT->Bool) (hg:jI prog g) (hx:kN.rd w cs x)
    (ag:∀ wr,Qb w wr->∀ y ds,jD.raw wr ds y->Av prog g (#[.agg ds.toArray]++cp) wr (λe w'=>e=.returned (.bool (p y))/\Qb wr w')) :
    Av prog 64 #[.agg cs.toArray,.func (.func g) #[] cp] w (kAe kN (x.1,x.2.filter p) w) :=
  (kSo p hg hx ag).mono λ_ _ h=>h.made (x:=(x.1,x.2.filter p)) (store_hr (x:=x) hx) (Nat.le_trans (Aw _ _) hx.2.2.1)
def kQd {w:Ad} {ds:Be Ae} {y:kT} (hy:jD.raw w ds y):Av prog 99 (#[.agg ds.toArray]++#[]) w (bQ w (.bool true)):=by
 obtain ⟨d4,a1,d7,rfl,ad,a3,bi,a9,az,ba,bm,bz,dg⟩:=jq hy;obtain ⟨cw,b6,rfl,d6⟩:=kD.sl bi;obtain ⟨ap,al,rfl,a2⟩:=kD.sl a9;obtain ⟨cz,co,rfl,d8⟩:=kD.sl ba;clear hy ad a3 bi a9 az ba bm bz dg;show Av prog 99 #[_] w _;go_enter func99,ntmps99;go_wp2;go_ret;exact ⟨rfl,bF⟩
def kMd:jI prog 99:=zQ func99 bC3 bC3
def kSp {w:Ad} {cs:Be Ae} {x:kg} (hx:kN.rd w cs x):Av prog 47 #[.agg cs.toArray] w (kAe kN x w):=by
 have HX:=yD hx;obtain ⟨hx,av⟩:=hx;obtain ⟨sv,rfl,c7,hl⟩:=jK hx;obtain ⟨la,lp,rfl,_⟩:=kD.sl hl;obtain ⟨c,l⟩:=x;obtain ⟨HL,a5,bp⟩:=AL;clear hx c7 hl av;have G:Hid (l.filter (λ_=>true)=l):=yD bD0;go_enter func47,ntmps47;go_wp2_with fail;generalize D:World.alloc (World.alloc w _) _=N;have EB:Qb w N:=by rw [<- D];exact bF
 have XR:Hid (Qr N (w.heap.size + 1) #[Qn 0,.slice none 0 0] 27):=yD rU;clear D;have bu:=EB.size;refine (kJs (λ_=>true) kMd (HX.out.below EB) (λwr _ y ds hy=>kQd hy)).mono ?_;rintro e Y ⟨oc,rfl,O1,O⟩;replace O1:=show kN.own Y oc (c,l) _ from G.out ▸ O1;obtain ⟨J,rfl,Z,E⟩:=jK O1.raw;obtain ⟨oa,W,rfl,_⟩:=kD.sl E;have o:=kC XR.out O;have M0:=kE (b:=w.heap.size + 1) o (j:=0) rfl;have M1:=kE (b:=w.heap.size + 1) o (j:=1) rfl;have F0:=Az Y (w.heap.size + 1) 0 _ _ o;have F1:=Az Y (w.heap.size + 1) 1 _ _ o;have F:=yD O1;have E1:=(tQ EB O);have H:w.heap.size + 2<=N.heap.size:=gG;clear Z E O1 O;go_wp2;refine Ba (v:=.agg #[Qn c,Qs oa l W]) (by simp [results,results47,go_sem,M0,M1,F0,F1]) rfl ⟨[_,_],rfl,?_,?_⟩
 · exact ((F.out.setCell dX).setCell dX).wide fJ
 exact (E1.setCell bD0 _).setCell bD0 _
def isC (n:ko) (x:kT):Bool:=eqN x.1.1 n
def kEx {w:Ad} {vl:Ae} {l:(Be kT)} (hl:(kD.slice 111 jD).raw w [vl] l) {cn:Be Ae} {n:ko} (hn:kU.raw w cn n) :
    Av prog 165 #[vl,.agg cn.toArray] w (bQ w (.int .i64 (idxOf (isC n) l))):=by
 obtain ⟨al,pl,rfl,ll⟩:=kD.sl hl
 have Hn:=yD hn
 obtain ⟨X,rfl,R⟩:=kZ hn
 obtain ⟨U,J,rfl,aa⟩:=kD.sl R
 go_enter func165,ntmps165
 go_wp2
 generalize D:World.alloc w _=N
 obtain ⟨EB,G⟩:=BF
 clear D
 replace hl:=hl.below EB
 go_loopw [5] (λi wr=>∃ k:Nat,k<=l.length/\i=.int .i64 k/\Hid (∀ j,(h:j < k)->(h2:j < l.length)->(isC n) l[j]=false)/\Qb N wr) (λi _=>l.length - (intOf i).toNat)
 case atStart=>exact ⟨0,Nat.zero_le _,rfl,yD (λ_ h=>by omega),bR⟩
 obtain ⟨k,hk,rfl,HN,o⟩:=hrel
 replace G:=cL o G
 by_cases hlt:k < l.length
 · obtain ⟨qb,qo,rfl,ae,af,ah,cc,ck,cz,qr,ar,ax,a2,an,a4,a3⟩:=kD.get6 (hl.below o) (i:=k) bC9 rfl;obtain ⟨I,H⟩:=CK;generalize l[k]=x at *;have HD:=yD I;have HX:=yD H;clear I H;obtain ⟨x0,x1⟩:=x;obtain ⟨bg,dc,b2,Z,aj,ap,ao,au,bq,bh,cq,cw,cv⟩:=jq qr;simp only [Ac,and_true] at Z;obtain ⟨rfl,rfl,rfl,rfl,rfl,rfl⟩:=Z;obtain ⟨ac,ay,rfl,bd⟩:=kD.sl ao;obtain ⟨ai,bc,rfl,bl⟩:=kD.sl au;obtain ⟨am,bu,rfl,ce⟩:=kD.sl bh;go_upto_region 4 with fail;have FX:=yD (λ(W:Ad) (hW:Qb wr W)=>cLs7 hW G ar ax a2 an a4 a3);refine kM (λW=>Qb wr W) [Tt,Tt,Tt,Tt,Tt,Tt,Tt,Ff] bC3 bC3 pK (bR.drew) ?_;intro wS E;iterate 7
    all_goals refine ku ?_
   all_goals first | refine wkB (zN (kD.raw.below ap E) (kD.raw.below Hn.out ((tQ EB (tQ o E))))) (λwS1 E=>?_) | refine ku ?_
   all_goals refine kS ?_
   all_goals cases aw:eqN x0.1 n
   all_goals have F:=(tQ o E)
   all_goals first
     | (have L:=yD (HD.out (show _=true by simp only [isC,Aj,Ag,Ak,Al,Ah,Ai,Aq,Ar,Am,Ap,Au,aw]));clear HD HX;go_wp2;go_ret;exact ⟨jT L.out.symm,(tQ EB F)⟩)
     | (have L:=yD (HX.out (show _=false by simp only [isC,Aj,Ag,Ak,Al,Ah,Ai,Aq,Ar,Am,Ap,Au,aw]));clear HD HX;go_wp2;go_roundw;(case rel=>exact ⟨k + 1,by omega,by go_num,L,F⟩);(case measure=>simp [intOf];omega))
 exact iI
def kHl {w:Ad} {cx:Be Ae} {x:kT} (hx:jD.raw w cx x) {y:kT} {be bh bf bn bo bp:Ae} {O:Nat} (yr:jD.raw w [be,bh,bf,bn,bo,bp] y) (U:Qc w O 0 be) (a1:Qc w O 1 bh) (az:Qc w O 2 bf) (G:Qc w O 3 bn) (ad:Qc w O 4 bo) (H:Qc w O 5 bp) :
    Av prog 88 (#[.agg cx.toArray]++#[.pointer (some ⟨O,0,none⟩)]) w (bQ w (.bool (isC y.1.1 x))):=by
 have Hx:=yD hx
 obtain ⟨ar,a7,a2,rfl,ab,Z,ac,ae,V,al,ap,bb,bq⟩:=jq hx
 obtain ⟨aa,R,rfl,an⟩:=kD.sl ac
 obtain ⟨aj,ah,rfl,a5⟩:=kD.sl ae
 obtain ⟨ag,X,rfl,a3⟩:=kD.sl al
 obtain ⟨dh,e7,e6,am,ba,a9,ck,ao,d7,dz,ef,ak,af⟩:=jq yr
 simp only [Ac,and_true] at am
 obtain ⟨rfl,rfl,rfl,rfl,rfl,rfl⟩:=am
 obtain ⟨bc,au,rfl,e1⟩:=kD.sl ck
 obtain ⟨ce,c8,rfl,es⟩:=kD.sl ao
 obtain ⟨b6,c3,rfl,e3⟩:=kD.sl dz
 show Av prog 88 #[_,_] w _
 go_enter func88,ntmps88
 go_upto_region 1 with fail
 generalize D:World.alloc w _=N
 have EB:Qb w N:=by rw [<- D];exact bF
 have J:Qd N w 0 (.slice aa (x.1.1).length R):=tK
 have I:Qd N w 1 (.slice aj (x.1.2.1).length ah):=tK
 have o:Qd N w 2 (.slice ag (x.1.2.2.1).length X):=tK
 have Y:Qd N w 3 (.int .i64 x.1.2.2.2.1):=tK
 have ai:Qd N w 4 (.int .i64 x.1.2.2.2.2):=tK
 have a4:Qd N w 5 (.int .i64 x.2):=tK
 clear D
 replace U:=cL EB U
 replace a1:=cL EB a1
 replace az:=cL EB az
 replace G:=cL EB G
 replace ad:=cL EB ad
 replace H:=cL EB H
 have FX:=yD (λ(W:Ad) (hW:Qb N W)=>cLs12 hW J I o Y ai a4 U a1 az G ad H)
 refine jE (λW=>Qb N W) [Tt,Tt,Tt,Tt,Tt,Tt,Ff,Tt] bR ?_
 intro wS E
 iterate 6
  all_goals refine ku ?_
 all_goals first | refine wkB (kAo (kD.raw.below Z (tQ EB E)) (kD.raw.below a9 (tQ EB E))) (λwS1 E=>?_) | refine ku ?_
 all_goals (refine jy λb aw=>?_;cases b <;> try simp only [jw] at aw)
 all_goals refine kS ?_
 all_goals have F:=(tQ EB E)
 all_goals first
   | (have L:=yD (show (isC y.1.1 x)=false by simp only [isC,Aj,Ag,Ak,Al,Ah,Ai,Aq,Ar,Am,Ap,Au,aw]);go_wp2;go_ret;exact ⟨kX L.out.symm,F⟩)
   | (have L:=yD (show (isC y.1.1 x)=true by simp only [isC,Aj,Ag,Ak,Al,Ah,Ai,Aq,Ar,Am,Ap,Au,aw]);go_wp2;go_ret;exact ⟨kX L.out.symm,F⟩)
def kDw:jI prog 88:=zQ func88 bC3 bC3
def kHu {w:Ad} {v:Ae} {l:Be kT} {S:Nat->Prop} (h:kD.kR 111 jD w v l S) {k:Nat} (aa:k < l.length) (a5:l.length<=16777216) :
    Av prog 166 #[v,.int .i64 k] w λe w'=>∃ v',e=.returned v'/\kD.kR 111 jD w' v' (l.take k++l.drop (k + 1)) (λj=>S j\/jX w.heap.size w'.heap.size j)/\Qb w w':=by
 obtain ⟨b,oc,rfl,Z⟩:=kD.kFy h aa
 rw [List.drop_eq_getElem_cons aa] at Z
 have R:=Z.len
 simp only [List.length_take,Bd,List.length_drop] at R
 obtain ⟨on,D⟩:∃ on,Hid (l.length=on):=⟨_,yD rfl⟩
 have G:Hid (kD.gap 111 jD w b oc l.length (l.take k) 1 (l.drop (k + 1)) S):=yD Z.skip
 have a3:on<=oc:=by have:=R.2.1;have:=D.out;omega
 have az:oc<=9223372036854775807:=nX
 have ag:k < on:=by have:=D.out;omega
 have o:on<=16777216:=by have:=D.out;omega
 have HK:Hid ((l.take k).length=k):=yD bC4
 rw [D.out]
 have a8:=yD a5
 clear Z R h aa a5
 have bt:(0:Int)<=k:=bC9
 have bx:(k:Int) < on:=bC9
 have c4:k + 1<=oc:=bC9
 have dr:k + 1<=on:=bC9
 have ff:(k:Int) + 1<=on:=bC9
 have av:(0:Int)<=(k:Int) + 1:=bC9
 have cw:k<=oc:=bC9
 have hw:IntKind.i64.wrap ((k:Int) + 1)=(k:Int) + 1:=IntWalk.i64_in _ bC9
 go_enter func166,ntmps166
 by_cases ap:oc=k + 1
 · have HR:Hid ((l.drop (k + 1)).length=0):=yD (by have:=D.out;simp;omega);obtain rfl:on=k + 1:=bC9;subst ap;have ax:(k:Int)<=(k:Int) + 1:=bC9;go_upto_region 1 with fail;refine jm (λW=>Qb w W) [(1,true),(2,true),(3,true),(5,true),(6,true),(7,true),(8,true),(0,false),(4,false),(9,false),(10,true)] bC3 bC3 pK (bR.drew) ?_;intro wS E;simp only [kz,Aa,Ab,Ay,Bb];iterate 7
    all_goals refine ku ?_
   all_goals first|(refine kI rfl E ?_)|(refine kw rfl (λK H=>?_);go_simp;generalize am:World.alloc wS _=wU;replace E:Qb w wU:=(by rw [<- am];exact E.alloc E.size _);clear am;refine H _ _ E ?_;clear H K)
   all_goals refine jF ?_
   all_goals first|(refine kI rfl E ?_)|(refine kw rfl (λK H=>?_);obtain ⟨v3,u3,aq,ar,v4,u4,aj,au,an⟩:=kD.kGv (P:=prog) (t:=25) Bc zt rfl bC8 bC8 G.out E (a0:=some ⟨wS.heap.size,0,none⟩) a8.out (k + 1) 0 25 25 (q:=0) (kl:=k) (rl:=0) (λhne=>absurd (List.eq_nil_of_length_eq_zero HR.out) hne) HK.out.symm HR.out.symm;have ad:=(tQ E ar);refine kD.kV _ _ _ rfl bD1 bD1 aq ?_;refine H _ _ ad ?_;clear H K)
   all_goals refine jF ?_
   all_goals first|(refine kI rfl E ?_)|(refine kw rfl (λK H=>?_);have F:=(tQ E an);refine kD.kV _ _ _ rfl bD1 bD1 aj ?_;refine H _ _ F ?_;clear H K)
   all_goals refine jF ?_
   all_goals refine ku ?_
   all_goals refine kS ?_
   exact uO
 have HR:Hid ((l.drop (k + 1)).length=on - (k + 1)):=yD (by have:=D.out;simp;omega)
 go_upto_region 1 with fail
 refine jm (λW=>Qb w W) [(1,true),(2,true),(3,true),(5,true),(6,true),(7,true),(8,true),(0,false),(4,false),(9,false),(10,true)] bC3 bC3 pK (bR.drew) ?_
 intro wS E
 simp only [kz,Aa,Ab,Ay,Bb]
 iterate 7
  all_goals refine ku ?_
 all_goals first|(refine kI rfl E ?_)|(refine kw rfl (λK H=>?_);go_simp;generalize am:World.alloc wS _=wU;replace E:Qb w wU:=(by rw [<- am];exact E.alloc E.size _);clear am;refine H _ _ E ?_;clear H K)
 all_goals refine jF ?_
 all_goals first|(refine kI rfl E ?_)|(refine kw rfl (λK H=>?_);obtain ⟨v3,u3,aq,ar,v4,u4,aj,au,an⟩:=kD.kGv (P:=prog) (t:=25) Bc zt rfl bC8 bC8 G.out E (a0:=some ⟨wS.heap.size,0,none⟩) a8.out oc (oc - (k + 1)) 25 25 (q:=((k + 1) * 6)) (kl:=k) (rl:=(on - (k + 1))) (λ_=>by rw [HK.out];rfl) HK.out.symm HR.out.symm;have ad:=(tQ E ar);refine kD.kV _ _ _ rfl bD1 bD1 aq ?_;refine H _ _ ad ?_;clear H K)
 all_goals refine jF ?_
 all_goals first|(refine kI rfl E ?_)|(refine kw rfl (λK H=>?_);have F:=(tQ E an);refine kD.kV _ _ _ rfl bD1 bD1 aj ?_;refine H _ _ F ?_;clear H K)
 all_goals refine jF ?_
 all_goals refine ku ?_
 all_goals refine kS ?_
 exact uO
end Go.Proofs.YtonmjkmaadgceabGreat

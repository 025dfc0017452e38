/-
  Data kept: the entries of the name go, the one least lately used goes if there is no room.
-/
import Derived.Test.YtjhfdpopkkmigabGreatLenN
set_option linter.unusedVariables false
set_option linter.defProp false
set_option linter.unusedSimpArgs false
set_option linter.unnecessarySimpa false
set_option maxRecDepth 100000
set_option maxHeartbeats 4000000
open Bool renaming true->Tt,false->Ff
open Go renaming World->Aa,Value->Ai,bodyPost_ret->Aw,Calls->Bb
open List.cons renaming injEq->Ab
open List renaming getElem?_cons_succ->Ac,getElem?_cons_zero->Ad,length_filter_le->Ag,drop_eq_getElem_cons->Am,map_cons->Bc,filter_append->Bd,map_nil->Bf,length_cons->Bg
open Go.Proofs.Tryz renaming underlying25->Ae
open _root_ renaming List->Ah
open Bool renaming not_false->Aj,and_false->Ak,false_and->Al,not_true->Ap,and_true->Aq,true_and->Ar,or_false->Au,false_or->Av,or_true->Ay,true_or->Az,not_not->Ba
open Int renaming natCast_nonneg->Be
open Go.RowKit renaming intOf->Bh
open Go.IntWalk renaming i64_in->Bi
namespace Go.Proofs.YtjhfdpopkkmigabGreat
open Go.RowKit _root_.Go.Proofs.Tryz
def jCd (x:kz) (w:Aa):Ending->Aa->Prop:=λe w'=>∃ v,e=.returned (.agg #[Qn x.1,v])/\kD.kQ 127 jH w' v x.2 (jb w.heap.size w'.heap.size)/\Qb w w'
def jCd.made {x:kz} {w:Aa} {e:Ending} {w':Aa} (hr:Qi x.1) (hl:x.2.length<=Big) (h:jCd x w e w'):zo kT x w e w':=by
 obtain ⟨v,rfl,O,hb⟩:=h;exact ⟨[_,_],rfl,kD.kDd (r:=kD.int) (q:=kD.slice 127 jH) (cs:=[_]) (kD.ku hr) (O.own hl),hb⟩
def store_hr {w:Aa} {cs:Ah Ai} {x:kz} (hx:kT.rd w cs x):Qi x.1:=by
 obtain ⟨sv,_,e8,_⟩:=jN hx.1;exact e8
def kOp {w:Aa} {cs:Ah Ai} {x:kz} (hx:kT.rd w cs x):Bb prog 101 #[.agg cs.toArray] w (jCd x w):=by
 obtain ⟨hx,X⟩:=hx;obtain ⟨sv,rfl,e8,hl⟩:=jN hx;obtain ⟨la,lp,rfl,_⟩:=kD.sl hl;obtain ⟨c,l⟩:=x;obtain ⟨HL,bc,ce⟩:=FJ;clear hx e8 hl X;go_enter func101,ntmps101;go_wp2;generalize aa:World.alloc (World.alloc (World.alloc w _) _) _=wA;obtain ⟨HZ,EA,XB,XR,XO⟩:=BL;clear aa;go_loopw [4] (λi wr=>∃ (k:Nat) (v:Ai),k<=l.length/\i=.int .i64 k/\Hid (Qr wr (w.heap.size + 1 + 1) #[Qn c,v] 27)/\Hid (kD.kQ 127 jH wr v (l.take k) (jb (w.heap.size + 3) wr.heap.size))/\Below (w.heap.size + 1 + 1) wA wr/\w.heap.size + 3<=wr.heap.size) (λi _=>l.length - (Bh i).toNat);case atStart=>exact ⟨0,_,Nat.zero_le _,rfl,XO,yD kD.kQ.nil,bR,by have:=HZ.out;omega⟩
 obtain ⟨k,v,hk,rfl,XV,I,o,a4⟩:=hrel;obtain ⟨oa,on,oc,ho,a1⟩:=I.out.parts;obtain rfl:=ho;obtain ⟨L0,L1,EW,du⟩:=CW;by_cases hlt:k < l.length
 · obtain ⟨qb,qo,rfl,Y,ae,ah,b7,b9,bx,qr,ap,aq,ay,bd,be,ba⟩:=kD.get6 (HL.out.1.below EW) hlt rfl;have X:=kD.yX HL.out hlt;have b4:=yD (List.take_succ_eq_append_getElem hlt);generalize l[k]=x at *;obtain ⟨a6,bn,b5,G,ag,ak,am,ar,bk,bg,bp,bu,bq⟩:=yO qr;simp only [Ab,and_true] at G;obtain ⟨rfl,rfl,rfl,rfl,rfl,rfl⟩:=G;obtain ⟨ac,az,rfl,a8⟩:=kD.sl am;obtain ⟨ai,bl,rfl,bt⟩:=kD.sl ar;obtain ⟨aj,bf,rfl,cc⟩:=kD.sl bg;have PX:jI.rd wr _ x.1:=⟨ag,X.1⟩;have HU:=yD bq;go_wp2_with fail;refine (kBf PX).mono ?_;rintro e wT ⟨tc,rfl,OT,al⟩;obtain ⟨fp,cg,cm,rfl,b6,eb,ej,ft,em,b0,a7⟩:=jX OT.raw;obtain ⟨bi,cv,rfl,ha⟩:=kD.sl eb;obtain ⟨bz,a5,rfl,cl⟩:=kD.sl ej;obtain ⟨bb,av,rfl,ch⟩:=kD.sl em;clear b6 eb ej ft em b0 a7;have f2:=al.size;go_upto_region 6 with fail;generalize ab:World.alloc wT _=wD;have ED:Qb wT wD:=tH;have b3:=ED.size;have D0:Qd wD wT 0 (.slice bi x.1.1.length cv):=vV;have D1:Qd wD wT 1 (.slice bz x.1.2.1.length a5):=vV;have D2:Qd wD wT 2 (.slice bb x.1.2.2.1.length av):=vV;have D3:Qd wD wT 3 (.int .i64 x.1.2.2.2.1):=vV;have D4:Qd wD wT 4 (.int .i64 x.1.2.2.2.2):=vV;clear ab;have Z:=(tQ al ED);have XS:=kC XV.out Z;have M0:=kE XS (j:=0) (v:=.int .i64 c) rfl;have M1:=kE XS (j:=1) rfl;replace L0:=cL Z L0;replace L1:=cL Z L1;replace ba:=cL Z ba;have FX:=yD (λ(W:Aa) (hW:Qb wD W)=>cLs10 hW L0 L1 M0 M1 ba D0 D1 D2 D3 D4);refine zM (λW=>Qb wD W) [Tt,Tt,Tt,Tt,Tt,Tt,Tt,Tt,Tt,Tt,Ff] bG6 bG6 qY (bR.drew) ?_;intro wS E;iterate 10
    all_goals refine ky ?_
   all_goals first|(refine kJ rfl E ?_)|(refine kw rfl (λK H=>?_);go_simp;refine H _ _ (E.alloc E.size _) ?_;clear H K)
   all_goals refine jG ?_
   all_goals refine yG ?_
   have a2:=E.size;have N:=(tQ Z E);have XW:=kC XV.out N;have a3:=o.trans (N.mono bH3);replace I:=yD (I.out.below N);have ck:(l.take k).length<=16777216:=bG7;go_wp2_with (at_builtin;refine kD.jP rfl _ _ 25 rfl (r:=jH) (e:=127) Ae kAv rfl bH2 bH2 (B:=w.heap.size + 3) I.out bH5 bH5 rfl (kD.own.wide (T:=jb wr.heap.size wT.heap.size) (kD.yF (r:=jI) (q:=kD.int) (cs:=[.slice bi x.1.1.length cv,.slice bz x.1.2.1.length a5,.slice bb x.1.2.2.1.length av,.int .i64 x.1.2.2.2.1,.int .i64 x.1.2.2.2.2]) (ds:=[.int .i64 x.2]) (x:=x.1) (y:=x.2) (OT.below (tQ ED E)) (kD.ku HU.out)) (λj hj=>hj)) rfl nX rQ mV bH3 bH3 ?_);exact aS
 obtain rfl:k=l.length:=bH3;obtain ⟨M0,M1,R0,R1,F0⟩:=AR;have b1:=F0 0;have bv:=F0 1;clear F0;have HF:=yD (I.out.cast bA3);have bw:Hid (l.length<=Big):=yD bD0;go_wp2;refine Aw (v:=.agg #[Qn c,.slice oa on oc]) (by simp [results,results101,go_sem,R0,R1,b1,bv]) rfl ⟨_,rfl,?_,?_⟩
 · exact (((HF.out.setCell fH).setCell fH)).wide gB
 exact (EW.setCell bH4 _).setCell bH4 _
def kOq {w:Aa} {cs:Ah Ai} {x:kz} (hx:kT.rd w cs x):Bb prog 101 #[.agg cs.toArray] w (zo kT x w) :=
  (kOp hx).mono λ_ _ h=>h.made (store_hr hx) hx.2.2.1
def kUm {w:Aa} {cs:Ah Ai} {x:kz} {g:FuncId} {cp:Array Ai} (p:jC->Bool) (hg:jK prog g) (hx:kT.rd w cs x)
    (F:∀ wr,Qb w wr->∀ y ds,jH.raw wr ds y->Bb prog g (#[.agg ds.toArray]++cp) wr (λe w'=>e=.returned (.bool (p y))/\Qb wr w')) :
    Bb prog 146 #[.agg cs.toArray,.func (.func g) #[] cp] w (jCd (x.1,x.2.filter p) w):=by
 have au:=yD F
 unfold jK at hg
 clear F
 obtain ⟨hx,X⟩:=hx
 obtain ⟨sv,rfl,e8,hl⟩:=jN hx
 obtain ⟨la,lp,rfl,_⟩:=kD.sl hl
 obtain ⟨c,l⟩:=x
 obtain ⟨HL,bc,ce⟩:=FJ
 clear hx e8 hl X
 go_enter func146,ntmps146
 go_wp2
 generalize aa:World.alloc (World.alloc (World.alloc w _) _) _=wA
 obtain ⟨HZ,EA,XB,XR,XO⟩:=BL
 clear aa
 go_loopw [14] (λi wr=>∃ (k:Nat) (v:Ai),k<=l.length/\i=.int .i64 k/\Hid (Qr wr (w.heap.size + 1 + 1) #[Qn c,v] 27)/\Hid (kD.kQ 127 jH wr v ((l.take k).filter p) (jb (w.heap.size + 3) wr.heap.size))/\Below (w.heap.size + 1 + 1) wA wr/\w.heap.size + 3<=wr.heap.size) (λi _=>l.length - (Bh i).toNat)
 case atStart=>exact ⟨0,_,Nat.zero_le _,rfl,XO,yD kD.kQ.nil,bR,by have:=HZ.out;omega⟩
 obtain ⟨k,v,hk,rfl,XV,I,o,a4⟩:=hrel
 obtain ⟨oa,on,oc,ho,a1⟩:=I.out.parts;obtain rfl:=ho
 obtain ⟨L0,L1,EW,du⟩:=CW
 by_cases hlt:k < l.length
 · obtain ⟨qb,qo,rfl,Y,ae,ah,b7,b9,bx,qr,ap,aq,ay,bd,be,ba⟩:=kD.get6 (HL.out.1.below EW) hlt rfl;have X:=kD.yX HL.out hlt;have bo:=λq=>kFr (p:=p) hlt q;have br:=λq=>kDi (p:=p) hlt q;have ck:((l.take k).filter p).length<=16777216:=by have h2:=kAh (p:=p) (l:=l) (k:=k) bH3;omega
   generalize l[k]=x at *;have ao:=yD bo;have ax:=yD br;clear bo br;have co:=yD qr;obtain ⟨a6,bn,b5,G,ag,ak,am,ar,bk,bg,bp,bu,bq⟩:=yO qr;simp only [Ab,and_true] at G;obtain ⟨rfl,rfl,rfl,rfl,rfl,rfl⟩:=G;obtain ⟨ac,az,rfl,a8⟩:=kD.sl am;obtain ⟨ai,bl,rfl,bt⟩:=kD.sl ar;obtain ⟨aj,bf,rfl,cc⟩:=kD.sl bg;have PX:Hid (jI.rd wr _ x.1):=yD ⟨ag,X.1⟩;have HU:=yD bq;go_wp2_with fail;generalize D:World.alloc wr _=wC;obtain ⟨EC,M0,M1,M2,M3,M4,M5⟩:=DX;clear D;have an:=EC.size;refine (au.out wC (tQ EW EC) _ _ (co.out.below EC)).mono ?_;rintro e wD ⟨rfl,bj⟩;replace M0:=cL bj M0;replace M1:=cL bj M1;replace M2:=cL bj M2;replace M3:=cL bj M3;replace M4:=cL bj M4;replace M5:=cL bj M5;have Z:=(tQ EC bj);have b3:=bj.size;have XS:=kC XV.out Z;have ab:=o.trans (Z.mono bH3);have cf:=yD (I.out.below Z);clear bj;cases hp:p x
   · have L:=yD (ax.out hp);clear ao ax hp;have bh:=yD XS;clear XS;go_wp2;go_roundw;case rel=>exact ⟨k + 1,_,by omega,by go_num,bh,yD ((cf.out.cast L.out.symm).wide rQ),ab,by omega⟩
     simp [Bh];omega
   have b4:=yD (ao.out hp);clear ao ax hp;have U:=kE XS (j:=0) (v:=.int .i64 c) rfl;have B1:=kE XS (j:=1) rfl;go_upto_region 6 with fail;have FX:=yD (λ(W:Aa) (hW:Qb wD W)=>cLs8 hW U B1 M0 M1 M2 M3 M4 M5);refine jc (λW=>Qb wD W) [(0,true),(1,true),(2,true),(3,true),(5,true),(6,true),(4,false),(7,true),(8,false)] bG6 bG6 qY (bR.drew) ?_;intro wS E;simp only [jB,Bg,List.length_nil,Ac,Ad,Bc,Bf,List.cons_append,List.nil_append,List.drop_succ_cons,List.drop_zero];iterate 6
    all_goals refine ky ?_
   all_goals first|(refine kJ rfl E ?_)|(refine kw rfl (λK H=>?_);go_simp;refine (kFc (PX.out.below (tQ Z E))).mono ?_;rintro e wT ⟨tc,rfl,OT,al⟩;obtain ⟨fp,cg,cm,rfl,b6,eb,ej,ft,em,b0,a7⟩:=jX OT.raw;obtain ⟨bi,cv,rfl,ha⟩:=kD.sl eb;obtain ⟨bz,a5,rfl,cl⟩:=kD.sl ej;obtain ⟨bb,av,rfl,ch⟩:=kD.sl em;clear b6 eb ej ft em b0 a7;have f2:=al.size;have cw:=E.size;have b8:=yD OT;replace E:=(tQ E al);refine H _ _ E ?_;clear H K al OT)
   all_goals refine jG ?_
   all_goals refine ky ?_
   all_goals first|(refine kJ rfl E ?_)|(refine kw rfl (λK H=>?_);go_simp;refine H _ _ (E.alloc E.size _) ?_;clear H K)
   all_goals refine jG ?_
   all_goals refine yG ?_
   have a2:=E.size;have N:=(tQ Z E);have XW:=kC XV.out N;have a3:=o.trans (N.mono bH3);replace I:=yD (I.out.below N);go_wp2_with (at_builtin;refine kD.jP rfl _ _ 25 rfl (r:=jH) (e:=127) Ae kAv rfl bH2 bH2 (B:=w.heap.size + 3) I.out bH5 bH5 rfl (kD.own.wide (T:=jb wr.heap.size wT.heap.size) (kD.yF (r:=jI) (q:=kD.int) (cs:=[.slice bi x.1.1.length cv,.slice bz x.1.2.1.length a5,.slice bb x.1.2.2.1.length av,.int .i64 x.1.2.2.2.1,.int .i64 x.1.2.2.2.2]) (ds:=[.int .i64 x.2]) (x:=x.1) (y:=x.2) (b8.out) (kD.ku HU.out)) rR) rfl nX rQ mV bH3 bH3 ?_);exact aS
 obtain rfl:k=l.length:=bH3
 obtain ⟨M0,M1,R0,R1,F0⟩:=AR
 have b1:=F0 0
 have bv:=F0 1
 clear F0
 have HF:=yD (I.out.cast bA3)
 have bw:Hid ((l.filter p).length<=Big):=yD (by have:=Ag p l;unfold Big;omega)
 go_wp2
 refine Aw (v:=.agg #[Qn c,.slice oa on oc]) (by simp [results,results146,go_sem,R0,R1,b1,bv]) rfl ⟨_,rfl,?_,?_⟩
 · exact (((HF.out.setCell fH).setCell fH)).wide gB
 exact (EW.setCell bH4 _).setCell bH4 _
def kUn {w:Aa} {cs:Ah Ai} {x:kz} {g:FuncId} {cp:Array Ai} (p:jC->Bool) (hg:jK prog g) (hx:kT.rd w cs x)
    (F:∀ wr,Qb w wr->∀ y ds,jH.raw wr ds y->Bb prog g (#[.agg ds.toArray]++cp) wr (λe w'=>e=.returned (.bool (p y))/\Qb wr w')) :
    Bb prog 146 #[.agg cs.toArray,.func (.func g) #[] cp] w (zo kT (x.1,x.2.filter p) w) :=
  (kUm p hg hx F).mono λ_ _ h=>h.made (x:=(x.1,x.2.filter p)) (store_hr (x:=x) hx) (Nat.le_trans (Ag _ _) hx.2.2.1)
def kSj {w:Aa} {ds:Ah Ai} {y:jC} (hy:jH.raw w ds y):Bb prog 147 (#[.agg ds.toArray]++#[]) w (bQ w (.bool true)):=by
 obtain ⟨gb,a1,gd,rfl,Z,ba,bq,bm,bj,bu,b2,dg,eg⟩:=yO hy;obtain ⟨dx,dv,rfl,gl⟩:=kD.sl bq;obtain ⟨aq,am,rfl,a2⟩:=kD.sl bm;obtain ⟨dy,dw,rfl,gt⟩:=kD.sl bu;clear hy Z ba bq bm bj bu b2 dg eg;show Bb prog 147 #[_] w _;go_enter func147,ntmps147;go_wp2;go_ret;exact ⟨rfl,bI⟩
def kNz:jK prog 147:=zP func147 bG6 bG6
def kLh {w:Aa} {cs:Ah Ai} {x:kz} (hx:kT.rd w cs x):Bb prog 71 #[.agg cs.toArray] w (zo kT x w):=by
 have HX:=yD hx;obtain ⟨hx,X⟩:=hx;obtain ⟨sv,rfl,e8,hl⟩:=jN hx;obtain ⟨la,lp,rfl,_⟩:=kD.sl hl;obtain ⟨c,l⟩:=x;obtain ⟨HL,bc,ce⟩:=FJ;clear hx e8 hl X;have o:Hid (l.filter (λ_=>true)=l):=yD bH4;go_enter func71,ntmps71;go_wp2_with fail;generalize J:World.alloc (World.alloc w _) _=N;have EB:Qb w N:=by rw [<- J];exact bI
 have XR:Hid (Qr N (w.heap.size + 1) #[Qn 0,.slice none 0 0] 27):=yD tX;clear J;have bk:=EB.size;refine (kUn (λ_=>true) kNz (HX.out.below EB) (λwr _ y ds hy=>kSj hy)).mono ?_;rintro e w1 ⟨oc,rfl,O1,O⟩;replace O1:=show kT.own w1 oc (c,l) _ from o.out ▸ O1;obtain ⟨D,rfl,U,H⟩:=jN O1.raw;obtain ⟨oa,R,rfl,_⟩:=kD.sl H;have F:=kC XR.out O;have M0:=kE (b:=w.heap.size + 1) F (j:=0) rfl;have M1:=kE (b:=w.heap.size + 1) F (j:=1) rfl;have F0:=frozen_of_row w1 (w.heap.size + 1) 0 _ _ F;have F1:=frozen_of_row w1 (w.heap.size + 1) 1 _ _ F;have ab:=yD O1;have E1:=(tQ EB O);have cm:w.heap.size + 2<=N.heap.size:=by have:=(Array.getElem?_eq_some_iff.1 XR.out).1;omega
 clear U H O1 O;go_wp2;refine Aw (v:=.agg #[Qn c,Qs oa l R]) (by simp [results,results71,go_sem,M0,M1,F0,F1]) rfl ⟨[_,_],rfl,?_,?_⟩
 · exact ((ab.out.setCell fH).setCell fH).wide gB
 exact (E1.setCell bH4 _).setCell bH4 _
def isC (n:kg) (x:jC):Bool:=eqN x.1.1 n
def kFv {w:Aa} {vl:Ai} {l:(Ah jC)} (hl:(kD.slice 127 jH).raw w [vl] l) {cn:Ah Ai} {n:kg} (hn:kN.raw w cn n) :
    Bb prog 109 #[vl,.agg cn.toArray] w (bQ w (.int .i64 (idxOf (isC n) l))):=by
 obtain ⟨al,pl,rfl,ll⟩:=kD.sl hl
 have Hn:=yD hn
 obtain ⟨Z,rfl,V⟩:=kX hn
 obtain ⟨X,I,rfl,aa⟩:=kD.sl V
 go_enter func109,ntmps109
 go_wp2
 generalize J:World.alloc w _=N
 obtain ⟨EB,D⟩:=y8
 clear J
 replace hl:=hl.below EB
 go_loopw [5] (λi wr=>∃ k:Nat,k<=l.length/\i=.int .i64 k/\Hid (∀ j,(h:j < k)->(h2:j < l.length)->(isC n) l[j]=false)/\Qb N wr) (λi _=>l.length - (Bh i).toNat)
 case atStart=>exact ⟨0,Nat.zero_le _,rfl,yD (λ_ h=>by omega),bR⟩
 obtain ⟨k,hk,rfl,HN,o⟩:=hrel
 replace D:=cL o D
 by_cases hlt:k < l.length
 · obtain ⟨qb,qo,rfl,Y,ae,ah,b7,b9,bx,qr,ap,aq,ay,bd,be,ba⟩:=kD.get6 (hl.below o) (i:=k) bH3 rfl;obtain ⟨R,H⟩:=D5;generalize l[k]=x at *;have HD:=yD R;have HX:=yD H;clear R H;obtain ⟨U,F⟩:=x;obtain ⟨a6,bn,b5,G,ag,ak,am,ar,bk,bg,bp,bu,bq⟩:=yO qr;simp only [Ab,and_true] at G;obtain ⟨rfl,rfl,rfl,rfl,rfl,rfl⟩:=G;obtain ⟨ac,az,rfl,a8⟩:=kD.sl am;obtain ⟨ai,bl,rfl,bt⟩:=kD.sl ar;obtain ⟨aj,bf,rfl,cc⟩:=kD.sl bg;go_upto_region 4 with fail;have FX:=yD (λ(W:Aa) (hW:Qb wr W)=>cLs7 hW D ap aq ay bd be ba);refine kK (λW=>Qb wr W) [Tt,Tt,Tt,Tt,Tt,Tt,Tt,Ff] bG6 bG6 qY (bR.drew) ?_;intro wS E;iterate 7
    all_goals refine ky ?_
   all_goals first | refine wkB (jq (kD.raw.below ak E) (kD.raw.below Hn.out ((tQ EB (tQ o E))))) (λwS1 E=>?_) | refine ky ?_
   all_goals refine kS ?_
   all_goals cases ax:eqN U.1 n
   all_goals have EG:=(tQ o E)
   all_goals first
     | (have L:=yD (HD.out (show _=true by simp only [isC,Ap,Aj,Aq,Ar,Ak,Al,Ay,Az,Au,Av,Ba,ax]));clear HD HX;go_wp2;go_ret;exact ⟨jV L.out.symm,(tQ EB EG)⟩)
     | (have L:=yD (HX.out (show _=false by simp only [isC,Ap,Aj,Aq,Ar,Ak,Al,Ay,Az,Au,Av,Ba,ax]));clear HD HX;go_wp2;go_roundw;(case rel=>exact ⟨k + 1,by omega,by go_num,L,EG⟩);(case measure=>simp [Bh];omega))
 exact iR
def kJh {w:Aa} {v:Ai} {l:Ah jC} {S:Nat->Prop} (h:kD.kQ 127 jH w v l S) {k:Nat} (hkl:k < l.length) (bc:l.length<=16777216) :
    Bb prog 181 #[v,.int .i64 k] w λe w'=>∃ v',e=.returned v'/\kD.kQ 127 jH w' v' (l.take k++l.drop (k + 1)) (λj=>S j\/jb w.heap.size w'.heap.size j)/\Qb w w':=by
 obtain ⟨b,oc,rfl,R⟩:=kD.kJq h hkl
 rw [Am hkl] at R
 have b0:=R.len
 simp only [List.length_take,Bg,List.length_drop] at b0
 obtain ⟨on,J⟩:∃ on,Hid (l.length=on):=⟨_,yD rfl⟩
 have G:Hid (kD.gap 127 jH w b oc l.length (l.take k) 1 (l.drop (k + 1)) S):=yD R.skip
 have a4:on<=oc:=by have:=b0.2.1;have:=J.out;omega
 have U:oc<=9223372036854775807:=qH
 have bt:k < on:=bC9
 have o:on<=16777216:=bC9
 have HK:Hid ((l.take k).length=k):=yD bG7
 rw [J.out]
 have an:=yD bc
 clear R b0 h hkl bc
 obtain ⟨b4,a2⟩:=GU
 have cw:k + 1<=oc:=bH3
 have dl:k + 1<=on:=bH3
 have fe:(k:Int) + 1<=on:=bH3
 have aj:(0:Int)<=(k:Int) + 1:=bH3
 have co:k<=oc:=bH3
 have hw:IntKind.i64.wrap ((k:Int) + 1)=(k:Int) + 1:=Bi _ bH3
 go_enter func181,ntmps181
 by_cases bm:oc=k + 1
 · have HR:Hid ((l.drop (k + 1)).length=0):=yD (by have:=J.out;simp;omega);obtain rfl:on=k + 1:=bH3;subst bm;have ak:(k:Int)<=(k:Int) + 1:=bH3;go_upto_region 1 with fail;refine yN (λW=>Qb w W) [(1,true),(2,true),(3,true),(5,true),(6,true),(7,true),(8,true),(0,false),(4,false),(9,false),(10,true)] bG6 bG6 qY (bR.drew) ?_;intro wS E;simp only [jB,Ac,Ad,Bc,Bf];iterate 7
    all_goals refine ky ?_
   all_goals first|(refine kJ rfl E ?_)|(refine kw rfl (λK H=>?_);go_simp;generalize av:World.alloc wS _=wU;replace E:Qb w wU:=(by rw [<- av];exact E.alloc E.size _);clear av;refine H _ _ E ?_;clear H K)
   all_goals refine jG ?_
   all_goals first|(refine kJ rfl E ?_)|(refine kw rfl (λK H=>?_);obtain ⟨v3,u3,a7,ap,v4,u4,X,aq,ad⟩:=kD.kIb (P:=prog) (t:=25) Ae kAv rfl bH2 bH2 G.out E (a0:=some ⟨wS.heap.size,0,none⟩) an.out (k + 1) 0 25 25 (q:=0) (kl:=k) (rl:=0) (λhne=>absurd (List.eq_nil_of_length_eq_zero HR.out) hne) HK.out.symm HR.out.symm;have ag:=(tQ E ap);refine kD.kV _ _ _ rfl bH5 bH5 a7 ?_;refine H _ _ ag ?_;clear H K)
   all_goals refine jG ?_
   all_goals first|(refine kJ rfl E ?_)|(refine kw rfl (λK H=>?_);have D:=(tQ E ad);refine kD.kV _ _ _ rfl bH5 bH5 X ?_;refine H _ _ D ?_;clear H K)
   all_goals refine jG ?_
   all_goals refine ky ?_
   all_goals refine kS ?_
   exact uP
 have HR:Hid ((l.drop (k + 1)).length=on - (k + 1)):=yD (by have:=J.out;simp;omega)
 go_upto_region 1 with fail
 refine yN (λW=>Qb w W) [(1,true),(2,true),(3,true),(5,true),(6,true),(7,true),(8,true),(0,false),(4,false),(9,false),(10,true)] bG6 bG6 qY (bR.drew) ?_
 intro wS E
 simp only [jB,Ac,Ad,Bc,Bf]
 iterate 7
  all_goals refine ky ?_
 all_goals first|(refine kJ rfl E ?_)|(refine kw rfl (λK H=>?_);go_simp;generalize av:World.alloc wS _=wU;replace E:Qb w wU:=(by rw [<- av];exact E.alloc E.size _);clear av;refine H _ _ E ?_;clear H K)
 all_goals refine jG ?_
 all_goals first|(refine kJ rfl E ?_)|(refine kw rfl (λK H=>?_);obtain ⟨v3,u3,a7,ap,v4,u4,X,aq,ad⟩:=kD.kIb (P:=prog) (t:=25) Ae kAv rfl bH2 bH2 G.out E (a0:=some ⟨wS.heap.size,0,none⟩) an.out oc (oc - (k + 1)) 25 25 (q:=((k + 1) * 6)) (kl:=k) (rl:=(on - (k + 1))) (λ_=>by rw [HK.out];rfl) HK.out.symm HR.out.symm;have ag:=(tQ E ap);refine kD.kV _ _ _ rfl bH5 bH5 a7 ?_;refine H _ _ ag ?_;clear H K)
 all_goals refine jG ?_
 all_goals first|(refine kJ rfl E ?_)|(refine kw rfl (λK H=>?_);have D:=(tQ E ad);refine kD.kV _ _ _ rfl bH5 bH5 X ?_;refine H _ _ D ?_;clear H K)
 all_goals refine jG ?_
 all_goals refine ky ?_
 all_goals refine kS ?_
 exact uP
def lastU (l:Ah jC) (k:Nat):Int:=(l.map Prod.snd).getD k 0
def kNm {l:Ah jC} {k:Nat} (h:k < l.length):lastU l k=l[k].2:=by
 unfold lastU;rw [List.getD_eq_getElem?_getD,List.getElem?_eq_getElem bF6];simp
def kEz (l:Ah jC):Nat->Nat
  | 0=>0
  | k + 1=>if lastU l k < lastU l (kEz l k) then k else kEz l k
def leastA_one (l:List jC):kEz l 1=0:=by simp [kEz]
def leastA_yes {l:Ah jC} {k b:Nat} (hb:kEz l k=b) (hk:k < l.length) (a8:b < l.length) (h:l[k].2 < l[b].2):kEz l (k + 1)=k:=by
 unfold kEz;rw [hb,kNm hk,kNm a8,if_pos h]
def leastA_no {l:Ah jC} {k b:Nat} (hb:kEz l k=b) (hk:k < l.length) (a8:b < l.length) (h:¬ l[k].2 < l[b].2):kEz l (k + 1)=b:=by
 unfold kEz;rw [hb,kNm hk,kNm a8,if_neg h]
def kHt (y:jT) (x:kz):Bool:=decide (x.1 < 1) || !kKk y
def kEx (n:kg) (l:Ah jC):Ah jC:=l.filter (λe=>!isC n e)
def kLe (c:Int) (l:Ah jC):Ah jC:=if c<=l.length then l.take (kEz l l.length)++l.drop (kEz l l.length + 1) else l
def kFf (y:jT) (t:Int) (x:kz):kz:=if kHt y x then x else (x.1,kLe x.1 (kEx y.1 x.2)++[(y,t)])
def jBy {y:jT} {t:Int} {x:kz} (h:kHt y x=true):kFf y t x=x:=by unfold kFf;rw [h];rfl
def kTs {y:jT} {t:Int} {x:kz} (h:kHt y x=false):kFf y t x=(x.1,kLe x.1 (kEx y.1 x.2)++[(y,t)]):=by unfold kFf;rw [h];rfl
def roomC_full {c:Int} {l:List jC} {b:Nat} (hb:kEz l l.length=b) (h:c<=l.length):kLe c l=l.take b++l.drop (b + 1):=by unfold kLe;rw [if_pos h,hb]
def roomC_free {c:Int} {l:List jC} (h:¬ c<=l.length):kLe c l=l:=by unfold kLe;rw [if_neg h]
def kZo (c:Int) (l:Ah jC):(kLe c l).length<=l.length:=by
 unfold kLe;split
 · simp;omega
 exact Nat.le_refl _
def lenAt (w:Aa) (b j:Nat):Nat:=match w.cell? ⟨b,j,none⟩ with
  | some (.slice _ n _)=>n
  | _=>0
def lenAt_eq {w:Aa} {b:Nat} {c:Ai} {a:Option Addr} {n cap:Nat} {t:TypeId} (h:Qr w b #[c,.slice a n cap] t):lenAt w b 1=n:=by
 unfold lenAt;rw [kE h (j:=1) (v:=.slice a n cap) rfl]
def otherC_len (n:kg) (l:Ah jC):(kEx n l).length<=l.length:=Ag _ _
def otherC_no {n:kg} {l:Ah jC} (h:idxOf (isC n) l < 0):kEx n l=l:=by
 unfold kEx;rw [List.filter_eq_self];intro a ha;unfold idxOf at h;cases hf:l.findIdx? (isC n) with
 | none=>rw [List.findIdx?_eq_none_iff.1 hf a ha];rfl
 | some j=>rw [hf] at h;simp only at h;omega
def otherC_step {n:kg} {l:Ah jC} {k:Nat} (hk:k < l.length) (h:idxOf (isC n) l=k):kEx n (l.take k++l.drop (k + 1))=kEx n l:=by
 unfold idxOf at h;cases hf:l.findIdx? (isC n) with
 | none=>rw [hf] at h;simp only at h;omega
 | some j =>
   rw [hf] at h;simp only at h;obtain rfl:j=k:=bH3;have hp:=(List.findIdx?_eq_some_iff_getElem.1 hf).2.1;unfold kEx
   conv=>rhs;rw [<- List.take_append_drop j l,Am hk]
   rw [Bd,Bd,List.filter_cons,hp];simp
def kLc {w:Aa} {cx:Ah Ai} {x:kz} (hx:kT.rd w cx x) {cy:Ah Ai} {y:jT} (hy:jI.rd w cy y) {t:Int} (ht:Qi t) (hB:x.2.length<=16777215) :
    Bb prog 133 #[.agg cx.toArray,.agg cy.toArray,.int .i64 t] w (zo kT (kFf y t x) w):=by
 obtain ⟨xc,xe⟩:=x
 obtain ⟨y0,y1,y2,y3,y4⟩:=y
 have HX:=yD hx
 have HY:=yD hy
 have HF:=yD ht
 have bg:xe.length<=16777215:=hB
 obtain ⟨c7,rfl,ak,aj⟩:=jN hx.1
 obtain ⟨b2,am,rfl,xl⟩:=kD.sl aj
 have ag:Qi xc:=ak
 have ed:=ag.1
 have ee:=ag.2
 obtain ⟨h9,fl,fk,rfl,ff,e3,f3,f8,ia,d8,d6⟩:=jX hy.1
 obtain ⟨f4,f5,rfl,ju⟩:=kD.sl e3
 obtain ⟨bn,bk,rfl,ek⟩:=kD.sl f3
 obtain ⟨be,bd,rfl,fa⟩:=kD.sl ia
 have ea:Hid (jI.raw w [Qs f4 y0 f5,Qs bn y1 bk,Qs be y2 bd,Qn y3,Qn y4] (y0,y1,y2,y3,y4)):=yD hy.1
 have ae:Hid (kN.raw w [Qs f4 y0 f5] y0):=yD ff
 clear hx hy ht hB ak aj xl ff e3 f3 f8 ia d8 d6
 go_enter func133,ntmps133
 go_upto_region 1 with fail
 generalize G:World.alloc (World.alloc (World.alloc w _) _) _=w1
 have o:Qb w w1:=by rw [<- G];exact bI
 have BX:Qr w1 w.heap.size #[Qn xc,Qs b2 xe am] 27:=sI
 have BY:Qr w1 (w.heap.size + 1) #[Qs f4 y0 f5,Qs bn y1 bk,Qs be y2 bd,Qn y3,Qn y4] 70:=by rw [<- G];exact jM (kG bH4)
 have X:Qr w1 (w.heap.size + 2) #[Qn 0,.slice none 0 0] 27:=by rw [<- G];exact kG bH4
 have bo:w.heap.size + 3<=w1.heap.size:=bF4
 clear G
 obtain ⟨aa,ab⟩:=yM BX
 go_wp2_with fail
 refine (kOp (HX.out.below o)).mono ?_
 rintro e V ⟨kv,rfl,O,hb⟩
 obtain ⟨bv,BX⟩:=J8
 replace BY:=kC BY hb
 obtain ⟨X,o⟩:=FH
 clear aa ab
 clear hb
 replace O:=kD.kQ.cast O (show _=xe from rfl)
 obtain ⟨oa,oc,rfl⟩:=O.yw
 have I:=yD (O.wide (T:=(λj=>w.heap.size + 3<=j/\j < V.heap.size)) sS)
 clear O
 go_upto_region 2 with fail
 generalize G:World.alloc V _=w3
 have ad:Qb V w3:=tK
 have BO:Qr w3 V.heap.size #[Qn xc,Qs oa xe oc] 27:=wW
 have bt:V.heap.size + 1<=w3.heap.size:=bF4
 clear G
 replace BX:=kC BX ad
 replace BY:=kC BY ad
 obtain ⟨X,I,o⟩:=BI
 clear ad
 obtain ⟨aa,ab⟩:=yM BX
 obtain ⟨c1,dk,dj,dn,H⟩:=zD BY
 go_upto_region 2 with fail
 have FX:=yD (λ(W:Aa) (hW:Qb w3 W)=>kIy hW aa c1 dk dj dn H)
 refine kr (λW=>Qb w3 W) [Tt,Tt,Tt,Tt,Tt,Ff,Tt,Tt] bR ?_
 intro wS E
 iterate 3
  all_goals refine ky ?_
 all_goals (refine jy λb bh=>?_;cases b <;> try simp only [jw] at bh)
 all_goals refine ky ?_
 all_goals first | refine wkB (kDw (ea.out.below (tQ o E))) (λwS1 E=>?_) | refine ky ?_
 all_goals refine ky ?_
 all_goals (refine jy λb ax=>?_;cases b <;> try simp only [jw] at ax)
 all_goals refine kS ?_
 all_goals rename Aa=>w4
 all_goals have b5:=E.size
 all_goals replace BX:=kC BX E
 all_goals replace BY:=kC BY E
 all_goals replace X:=kC X E
 all_goals replace BO:=kC BO E
 all_goals replace I:=yD (I.out.below E)
 all_goals replace o:=(tQ o E)
 all_goals clear aa ab c1 dk dj dn H
 all_goals clear E
 all_goals first
   | (have L := yD (jBy (t := t) (show kHt (y0, y1, y2, y3, y4) (xc, xe) = true by simp only [kHt, Ap, Aj, Aq, Ar, Ak, Al, Ay, Az, Au, Av, Ba, bh, ax]))
      obtain ⟨N,J⟩:=yM BO
      obtain ⟨au,aw⟩:=yM X
      obtain ⟨ao,an⟩:=kBw X
      go_wp2
      refine Aw (v:=.agg #[Qn xc,Qs oa xe oc]) mQ rfl ⟨[Qn xc,Qs oa xe oc],rfl,?_,?_⟩
      · rw [L.out];exact ((show kT.own _ _ (xc,xe) _ from kD.kDd (r:=kD.int) (q:=(kD.slice 127 jH)) (cs:=[.int .i64 xc]) (kD.ku ag) (I.out.own bD0)).touch sT2 tC).wide fP
      · exact o.trans (Touch.below sT2 o.size bD5))
   | skip
 all_goals
   (have fg:=yD (show kHt (y0,y1,y2,y3,y4) (xc,xe)=false by simp only [kHt,Ap,Aj,Aq,Ar,Ak,Al,Ay,Az,Au,Av,Ba,bh,ax])
    have bj:¬ xc < 1:=by simpa using bh
    clear bh ax
    obtain ⟨N,J⟩:=yM BO
    obtain ⟨c1,dk,dj,dn,H⟩:=zD BY
    go_wp2_with fail
    refine (kFv (I.out.own bD0).raw (cn:=[.slice f4 y0.length f5]) (ae.out.below o)).mono ?_
    rintro e w5 ⟨rfl,hb⟩
    have b3:=hb.size
    replace BX:=kC BX hb
    obtain ⟨BY,X,BO⟩:=FD
    obtain ⟨I,o⟩:=xV
    clear N J c1 dk dj dn H
    clear hb
    go_wp2
    go_loopw [8] (λi wr=>∃ (C:Ah jC) (ca:Option Addr) (cc:Nat),i=.int .i64 (idxOf (isC y0) C)/\Hid (kEx y0 C=kEx y0 xe)/\C.length<=xe.length/\Hid (kD.kQ 127 jH wr (.slice ca C.length cc) C (λj=>w.heap.size + 3<=j/\j < wr.heap.size/\j≠V.heap.size))/\Qr wr w.heap.size #[Qn xc,Qs b2 xe am] 27/\Qr wr (w.heap.size + 1) #[Qs f4 y0 f5,Qs bn y1 bk,Qs be y2 bd,Qn y3,Qn y4] 70/\Qr wr (w.heap.size + 2) #[Qn 0,.slice none 0 0] 27/\Qr wr V.heap.size #[Qn xc,Qs ca C cc] 27/\w5.heap.size<=wr.heap.size/\Qb w wr) (λ_ wr=>lenAt wr (V.heap.size) 1)
    case atStart=>exact ⟨xe,oa,oc,rfl,yD rfl,Nat.le_refl _,yD (I.out.wide (λj q=>⟨q.1,by have:=q.2;omega,by have:=q.2;omega⟩)),BX,BY,X,BO,Nat.le_refl _,o⟩
    case round =>
      rename Aa=>wq;clear o BX BY X BO I;obtain ⟨C,ca,cc,rfl,HA,hC,I,BX,BY,X,BO,iy,o⟩:=hrel;have d7:=yD (lenAt_eq BO);by_cases hf:idxOf (isC y0) C < 0
      · have dx:¬ (0<=idxOf (isC y0) C):=bH3;have HK:=yD (HA.out.symm.trans (otherC_no hf));generalize idxOf (isC y0) C=ix at *;have fd:=hC;obtain ⟨K,ec⟩:∃ K,K=C:=⟨_,rfl⟩;subst ec;obtain ⟨ka,d5⟩:∃ k,k=ca:=⟨_,rfl⟩;subst d5;obtain ⟨kc,br⟩:∃ k,k=cc:=⟨_,rfl⟩;subst br;obtain ⟨aa,ab⟩:=yM BX;obtain ⟨N,J⟩:=yM BO;by_cases ba:xc<=(K.length:Int)
        · have dp:0 < K.length:=bH3;obtain ⟨kb,fc,hv,ck,ef,a4,U⟩:=kD.zy I.out dp;simp only [Value.slice.injEq,true_and] at hv;obtain ⟨rfl,rfl⟩:=hv;clear ck;clear aa ab N J;obtain ⟨aa,ab⟩:=yM BX;obtain ⟨N,J⟩:=yM BO;go_wp2;go_loopw [9,10] (λb i wr=>∃ (k m:Nat),i=.int .i64 k/\b=.int .i64 m/\1<=k/\k<=K.length/\m < K.length/\Hid (kEz K k=m)/\Hid (kD.kQ 127 jH wr (.slice (some ⟨kb,0,none⟩) K.length kc) K (λj=>w.heap.size + 3<=j/\j < wq.heap.size/\j≠V.heap.size))/\Qr wr (w.heap.size + 1) #[Qs f4 y0 f5,Qs bn y1 bk,Qs be y2 bd,Qn y3,Qn y4] 70/\Qr wr (w.heap.size + 2) #[Qn 0,.slice none 0 0] 27/\Qr wr V.heap.size #[Qn xc,.slice (some ⟨kb,0,none⟩) K.length kc] 27/\wq.heap.size<=wr.heap.size/\Qb w wr) (λ_ i _=>K.length - (Bh i).toNat);case atStart=>exact ⟨1,0,rfl,rfl,by omega,by omega,dp,yD (leastA_one K),I,BY,X,BO,Nat.le_refl _,o⟩
          case round =>
            rename Aa=>bl;clear o BX BY X BO I;obtain ⟨k,m,rfl,rfl,cw,hk,hm,HA,I,BY,X,BO,iy,o⟩:=hrel;have ce:=Be k;have bc:=Be m;have b7:=Int.ofNat_lt.2 hm;by_cases hlt:k < K.length
            · have dl:=Int.ofNat_lt.2 hlt;have HR:=yD (I.out.own bD0);obtain ⟨bm,cf,cd,df,cz,d2,pr,aq,bq,bp,er,fj,c9⟩:=kD.at6 HR.out.raw hlt rfl;obtain ⟨py,ph⟩:∃ z,K[k]=z:=⟨_,rfl⟩;rw [ph] at pr;have pH:=yD ph;clear ph;obtain ⟨fo,e6,fm,pe,dr,dq,b4,c4,dt,c3,dz,dv,d1⟩:=yO pr;simp only [Ab,and_true] at pe;obtain ⟨rfl,rfl,rfl,rfl,rfl,rfl⟩:=pe;obtain ⟨a2,a3,rfl,_⟩:=kD.sl b4;obtain ⟨dd,de,rfl,_⟩:=kD.sl c4;obtain ⟨co,dh,rfl,_⟩:=kD.sl c3;clear pr dr dq b4 c4 dt c3 dz dv d1;obtain ⟨fn,eh,ey,e1,el,eq,sr,fi,ez,fh,ev,ei,c8⟩:=kD.at6 HR.out.raw hm rfl;obtain ⟨sy,sh⟩:∃ z,K[m]=z:=⟨_,rfl⟩;rw [sh] at sr;have sH:=yD sh;clear sh;obtain ⟨e0,ew,ep,se,d4,d3,bx,c5,dw,c2,dy,d0,du⟩:=yO sr;simp only [Ab,and_true] at se;obtain ⟨rfl,rfl,rfl,rfl,rfl,rfl⟩:=se;obtain ⟨eu,fb,rfl,_⟩:=kD.sl bx;obtain ⟨e4,en,rfl,_⟩:=kD.sl c5;obtain ⟨e7,e8,rfl,_⟩:=kD.sl c2;clear sr d4 d3 bx c5 dw c2 dy d0 du;clear HR;obtain ⟨N,J⟩:=yM BO;go_upto_region 13 with fail;have FX:=yD (λ(W:Aa) (hW:Qb bl W)=>kOb hW J c9 c8);refine kK (λW=>Qb bl W) [Tt,Tt,Tt,Tt,Tt,Tt,Tt,Tt,Tt,Tt,Tt,Tt,Tt] bG6 bG6 qY (bR.drew) ?_;intro wS E;iterate 12
               all_goals refine ky ?_
              all_goals (refine jy λb af=>?_;cases b <;> try simp only [jw] at af)
              all_goals refine kS ?_
              all_goals rename Aa=>w8
              all_goals have eo:=E.size
              all_goals replace BY:=kC BY E
              all_goals replace X:=kC X E
              all_goals replace BO:=kC BO E
              all_goals replace c9:=cL E c9
              all_goals replace c8:=cL E c8
              all_goals replace I:=yD (I.out.below E)
              all_goals replace o:=(tQ o E)
              all_goals clear N J
              all_goals clear E
              all_goals first
                | (have ai : K[k].2 < K[m].2 := by rw [pH.out, sH.out]; simpa using af
                   clear af
                   have HB:=yD (leastA_yes HA.out hlt hm ai)
                   go_wp2
                   go_roundw
                   case rel=>exact ⟨k + 1,k,by go_num,rfl,by omega,by omega,hlt,HB,I,BY,X,BO,by omega,o⟩
                   case measure=>simp [Bh];omega)
                | skip
              all_goals
                (have ai:¬ K[k].2 < K[m].2:=by rw [pH.out,sH.out];simpa using af
                 clear af
                 have HB:=yD (leastA_no HA.out hlt hm ai)
                 go_wp2
                 go_roundw
                 case rel=>exact ⟨k + 1,m,by go_num,rfl,by omega,by omega,hm,HB,I,BY,X,BO,by omega,o⟩
                 case measure=>simp [Bh];omega)
            · obtain rfl:k=K.length:=bH3;have fe:¬ ((K.length:Int) < K.length):=bH3;have bu:=yD (roomC_full HA.out ba);have hw:IntKind.i64.wrap ((m:Int) + 1)=(m:Int) + 1:=Bi _ bH3;obtain ⟨N,J⟩:=yM BO;go_wp2_with fail;refine (kJh I.out hm bH3).mono ?_;rintro e w8 ⟨v5,rfl,O5,hb⟩;have eo:=hb.size;obtain ⟨BY,X,BO⟩:=FD;replace o:=(tQ o hb);clear N J;clear hb;clear I;obtain ⟨R,hR⟩:∃ R,kLe xc K=R:=⟨_,rfl⟩;replace O5:=kD.kQ.cast O5 (bu.out.symm.trans hR);have eg:R.length<=K.length:=by rw [<- hR];exact kZo _ _
              have db:=yD hR;clear hR bu;obtain ⟨ra,rc,rfl⟩:=O5.yw;have I:=yD (O5.wide (T:=(λj=>w.heap.size + 3<=j/\j < w8.heap.size/\j≠V.heap.size)) bX);clear O5;obtain ⟨N,J⟩:=yM BO;obtain ⟨ay,az⟩:=kBw BO;go_upto_region 16 with fail;generalize G:World.setCell w8 _ _=w9;have a6:Touch (λk=>k=V.heap.size) w8 w9:=bB2;replace BO:Qr w9 V.heap.size #[Qn xc,Qs ra R rc] 27:=wJ;have e9:=a6.size;clear G;replace BY:=a6.kC BY bH3;replace X:=a6.kC X bH3;replace I:=yD (I.out.touch a6 qW);replace o:=o.trans (a6.below o.size bD5);clear N J ay az;clear a6;obtain ⟨c1,dk,dj,dn,H⟩:=zD BY;obtain ⟨N,J⟩:=yM BO;go_wp2_with fail;refine (kBf (HY.out.below o)).mono ?_;rintro e b9 ⟨tc,rfl,O,hb⟩;have e5:=hb.size;obtain ⟨BY,X,BO⟩:=FD;obtain ⟨I,o⟩:=xV;clear c1 dk dj dn H N J;clear hb;obtain ⟨fp,cg,cm,rfl,b6,eb,ej,ft,em,b0,a7⟩:=jX O.raw;obtain ⟨bi,cv,rfl,ha⟩:=kD.sl eb;obtain ⟨bz,a5,rfl,cl⟩:=kD.sl ej;obtain ⟨bb,av,rfl,ch⟩:=kD.sl em;clear b6 eb ej ft em b0 a7;have b8:=yD O;clear O;go_upto_region 17 with fail;generalize G:World.alloc b9 _=c6;have b1:Qb b9 c6:=tK;have BD:Qr c6 b9.heap.size #[Qs bi y0 cv,Qs bz y1 a5,Qs bb y2 av,Qn y3,Qn y4] 70:=wW;have fq:b9.heap.size + 1<=c6.heap.size:=bF4;clear G;replace BY:=kC BY b1;replace X:=kC X b1;replace BO:=kC BO b1;replace I:=yD (I.out.below b1);replace b8:=yD (b8.out.below b1);replace o:=(tQ o b1);clear b1;obtain ⟨N,J⟩:=yM BO;obtain ⟨ap,al,ar,a9,a1⟩:=zD BD;have dg:R.length + 1<=1000000000:=bH3;go_wp2_with (at_builtin;refine kD.kBy rfl _ _ 25 rfl (r:=jH) (e:=127) Ae kAv rfl bH2 bH2 (w:=c6) (I.out) bH5 bH5 rfl (kD.yF (r:=jI) (q:=kD.int) (cs:=[.slice bi y0.length cv,.slice bz y1.length a5,.slice bb y2.length av,.int .i64 y3,.int .i64 y4]) (ds:=[.int .i64 t]) (x:=(y0,y1,y2,y3,y4)) (y:=t) b8.out (kD.ku HF.out)) rfl pW dg ?_);intro v2 dm hQ di;have hT:Touch (λj=>w.heap.size + 3<=j/\j < w8.heap.size/\j≠V.heap.size) c6 dm:=(Touch.of_below (bR.alloc nL _)).trans (di.wide (λj q=>q.2));have fx:=hT.size;have gi:=di.size;have ic:c6.heap.size + 1<=dm.heap.size:=bF3;clear di gi;obtain ⟨Z,hZ⟩:∃ Z,R++[((y0,y1,y2,y3,y4),t)]=Z:=⟨_,rfl⟩;have bf:=yD (show Z.length=R.length + 1 by rw [<- hZ];simp);replace hQ:=kD.kQ.cast hQ hZ;have HZ:=yD hZ;clear hZ;obtain ⟨ga,gc,rfl⟩:=hQ.yw;have HQ:=yD (kD.kQ.wide (T:=λj=>w.heap.size + 3<=j/\j < dm.heap.size/\j≠V.heap.size) hQ dC);clear hQ I;replace BY:=hT.kC BY bH3;replace X:=hT.kC X bH3;replace BO:=hT.kC BO bH3;replace BD:=hT.kC BD bH3;replace o:=o.trans (hT.below o.size bD5);clear N J ap al ar a9 a1;clear hT;obtain ⟨N,J⟩:=yM BO;obtain ⟨ay,az⟩:=kBw BO;go_upto_region 18 with fail;generalize G:World.setCell dm _ _=es;have Y:Touch (λk=>k=V.heap.size) dm es:=bB2;replace BO:Qr es V.heap.size #[Qn xc,Qs ga Z gc] 27:=wJ;have gy:=Y.size;clear G;replace BY:=Y.kC BY bH3;replace X:=Y.kC X bH3;replace BD:=Y.kC BD bH3;replace HQ:=yD (HQ.out.touch Y qW);replace o:=o.trans (Y.below o.size bD5);clear N J ay az;clear Y;exact aI
        · have db:=yD (roomC_free ba);clear aa ab N J;obtain ⟨aa,ab⟩:=yM BX;obtain ⟨c1,dk,dj,dn,H⟩:=zD BY;obtain ⟨N,J⟩:=yM BO;go_wp2_with fail;refine (kBf (HY.out.below o)).mono ?_;rintro e w7 ⟨tc,rfl,O,hb⟩;have et:=hb.size;replace BX:=kC BX hb;obtain ⟨BY,X,BO⟩:=FD;obtain ⟨I,o⟩:=xV;clear aa ab c1 dk dj dn H N J;clear hb;obtain ⟨fp,cg,cm,rfl,b6,eb,ej,ft,em,b0,a7⟩:=jX O.raw;obtain ⟨bi,cv,rfl,ha⟩:=kD.sl eb;obtain ⟨bz,a5,rfl,cl⟩:=kD.sl ej;obtain ⟨bb,av,rfl,ch⟩:=kD.sl em;clear b6 eb ej ft em b0 a7;have b8:=yD O;clear O;go_upto_region 17 with fail;generalize G:World.alloc w7 _=w8;have ah:Qb w7 w8:=tK;have BD:Qr w8 w7.heap.size #[Qs bi y0 cv,Qs bz y1 a5,Qs bb y2 av,Qn y3,Qn y4] 70:=wW;have eo:w7.heap.size + 1<=w8.heap.size:=bF4;clear G;replace BX:=kC BX ah;replace BY:=kC BY ah;replace X:=kC X ah;replace BO:=kC BO ah;replace I:=yD (I.out.below ah);replace b8:=yD (b8.out.below ah);replace o:=(tQ o ah);clear ah;obtain ⟨N,J⟩:=yM BO;obtain ⟨ap,al,ar,a9,a1⟩:=zD BD;have dg:K.length + 1<=1000000000:=bH3;go_wp2_with (at_builtin;refine kD.kBy rfl _ _ 25 rfl (r:=jH) (e:=127) Ae kAv rfl bH2 bH2 (w:=w8) (I.out) bH5 bH5 rfl (kD.yF (r:=jI) (q:=kD.int) (cs:=[.slice bi y0.length cv,.slice bz y1.length a5,.slice bb y2.length av,.int .i64 y3,.int .i64 y4]) (ds:=[.int .i64 t]) (x:=(y0,y1,y2,y3,y4)) (y:=t) b8.out (kD.ku HF.out)) rfl pW dg ?_);intro v2 w9 hQ di;have hT:Touch (λj=>w.heap.size + 3<=j/\j < wq.heap.size/\j≠V.heap.size) w8 w9:=(Touch.of_below (bR.alloc nL _)).trans (di.wide (λj q=>q.2));have e9:=hT.size;have gi:=di.size;have ic:w8.heap.size + 1<=w9.heap.size:=bF3;clear di gi;obtain ⟨Z,hZ⟩:∃ Z,K++[((y0,y1,y2,y3,y4),t)]=Z:=⟨_,rfl⟩;have bf:=yD (show Z.length=K.length + 1 by rw [<- hZ];simp);replace hQ:=kD.kQ.cast hQ hZ;have HZ:=yD hZ;clear hZ;obtain ⟨ga,gc,rfl⟩:=hQ.yw;have HQ:=yD (kD.kQ.wide (T:=λj=>w.heap.size + 3<=j/\j < w9.heap.size/\j≠V.heap.size) hQ dC);clear hQ I;replace BX:=hT.kC BX bH3;replace BY:=hT.kC BY bH3;replace X:=hT.kC X bH3;replace BO:=hT.kC BO bH3;replace BD:=hT.kC BD bH3;replace o:=o.trans (hT.below o.size bD5);clear N J ap al ar a9 a1;clear hT;obtain ⟨N,J⟩:=yM BO;obtain ⟨ay,az⟩:=kBw BO;go_upto_region 18 with fail;generalize G:World.setCell w9 _ _=b9;have bw:Touch (λk=>k=V.heap.size) w9 b9:=bB2;replace BO:Qr b9 V.heap.size #[Qn xc,Qs ga Z gc] 27:=wJ;have e5:=bw.size;clear G;replace BX:=bw.kC BX bH3;replace BY:=bw.kC BY bH3;replace X:=bw.kC X bH3;replace BD:=bw.kC BD bH3;replace HQ:=yD (HQ.out.touch bw qW);replace o:=o.trans (bw.below o.size bD5);clear N J ay az;clear bw;exact aI
      · obtain ⟨k,hlt,ac⟩:=kAz hf;rw [ac];have ho:=yD ((otherC_step hlt ac).trans HA.out);clear hf;have ce:(0:Int)<=k:=bH3;obtain ⟨N,J⟩:=yM BO;go_wp2_with fail;refine (kJh I.out hlt bH3).mono ?_;rintro e w7 ⟨v5,rfl,O5,hb⟩;have et:=hb.size;replace BX:=kC BX hb;obtain ⟨BY,X,BO⟩:=FD;replace o:=(tQ o hb);clear N J;clear hb;have F:(C.take k++C.drop (k + 1)).length < C.length:=bG7;clear I;generalize C.take k++C.drop (k + 1)=D at *;obtain ⟨da,dc,rfl⟩:=O5.yw;have I:=yD (O5.wide (T:=(λj=>w.heap.size + 3<=j/\j < w7.heap.size/\j≠V.heap.size)) bX);clear O5;obtain ⟨N,J⟩:=yM BO;obtain ⟨ay,az⟩:=kBw BO;go_upto_region 6 with fail;generalize G:World.setCell w7 _ _=w8;have a8:Touch (λk=>k=V.heap.size) w7 w8:=bB2;replace BO:Qr w8 V.heap.size #[Qn xc,Qs da D dc] 27:=wJ;have eo:=a8.size;clear G;replace BX:=a8.kC BX bH3;replace BY:=a8.kC BY bH3;replace X:=a8.kC X bH3;replace I:=yD (I.out.touch a8 qW);replace o:=o.trans (a8.below o.size bD5);clear N J ay az;clear a8;obtain ⟨N,J⟩:=yM BO;obtain ⟨c1,dk,dj,dn,H⟩:=zD BY;go_wp2_with fail;refine (kFv (I.out.own bD0).raw (cn:=[.slice f4 y0.length f5]) (ae.out.below o)).mono ?_;rintro e w9 ⟨rfl,hb⟩;have e9:=hb.size;replace BX:=kC BX hb;obtain ⟨BY,X,BO⟩:=FD;obtain ⟨I,o⟩:=xV;clear N J c1 dk dj dn H;clear hb;have d9:=yD (lenAt_eq BO);go_wp2;go_roundw;case rel=>exact ⟨D,da,dc,rfl,ho,by omega,yD (I.out.wide qQ),BX,BY,X,BO,by omega,o⟩
        case measure=>rw [d7.out,d9.out];exact F)
end Go.Proofs.YtjhfdpopkkmigabGreat

/-
  Lists of routes that are valid.
-/
import Derived.Test.YtjhfdpopkkmigabGreatCacheD
set_option linter.unusedVariables false
set_option linter.defProp false
set_option linter.unusedSimpArgs false
set_option linter.unnecessarySimpa false
set_option maxRecDepth 100000
set_option maxHeartbeats 4000000
open Bool renaming true->Tt,false->Ff
open List.cons renaming injEq->Aa
open Bool renaming not_false->Ab,and_false->Ac,false_and->Ad,not_true->Ae,and_true->Ag,true_and->Ah,or_false->Ai,false_or->Aj,or_true->Ap,true_or->Aq,not_not->Ar
open List renaming getElem?_cons_succ->Ak,getElem?_cons_zero->Al,drop_succ_cons->Au,length_cons->Av,cons_append->Aw,length_nil->Ay,nil_append->Az,drop_zero->Bc,map_cons->Bd,map_nil->Be
open Go renaming World->Am,Value->Ba,Calls->Bf
open _root_ renaming List->Bb,ge_iff_le->Bh
open Go.RowKit renaming intOf->Bg
namespace Go.Proofs.YtjhfdpopkkmigabGreat
open Go.RowKit _root_.Go.Proofs.Tryz
def kUo {w:Am} {vl:Ba} {l:Bb jT} (hl:(kD.slice 70 jI).rd w [vl] l) :
    Bf prog 70 #[vl] w (kBx 70 jI l w):=by
 have HL:=yD hl
 obtain ⟨la,lp,rfl,ll⟩:=kD.sl hl.1
 have bc:l.length<=16777216:=hl.2.1
 clear hl
 go_enter func70,ntmps70
 go_wp2
 go_loopw [3,9] (λv i wr=>∃ k:Nat,k<=l.length/\i=.int .i64 k/\Hid (kD.kQ 70 jI wr v (l.take k) (jb w.heap.size wr.heap.size))/\Qb w wr) (λ_ i _=>l.length - (Bg i).toNat)
 case atStart=>exact ⟨0,Nat.zero_le _,rfl,yD kD.kQ.void,bR.alloc nL _⟩
 obtain ⟨k,hk,rfl,I,o⟩:=hrel
 obtain ⟨oa,on,oc,ho,a1⟩:=I.out.parts;obtain rfl:=ho
 have f9:(l.take k).length<=k:=bG7
 have ax:=o.size
 by_cases hlt:k < l.length
 · obtain ⟨qb,qo,rfl,Y,ae,ah,b7,b9,qr,ap,aq,ay,bd,be⟩:=kD.get5 (HL.out.1.below o) hlt rfl;obtain ⟨X,bx⟩:=y5;generalize l[k]=x at *;have b4:=yD bx;clear bx;obtain ⟨U,F,x2,x3,x4⟩:=x;obtain ⟨a6,bn,b5,G,ag,ak,am,ar,bk,bg,bp⟩:=jX qr;simp only [Aa,and_true] at G;obtain ⟨rfl,rfl,rfl,rfl,rfl⟩:=G;obtain ⟨ac,az,rfl,a8⟩:=kD.sl ak;obtain ⟨ai,bl,rfl,bt⟩:=kD.sl am;obtain ⟨aj,bf,rfl,cc⟩:=kD.sl bk;have px:jI.rd wr _ (U,F,x2,x3,x4):=⟨qr,X⟩;go_upto_region 5 with fail;generalize D:World.alloc wr _=wC;have EC:Qb wr wC:=tL;have an:=EC.size;have M0:Qd wC wr 0 (.slice ac (U).length az):=wG;have M1:Qd wC wr 1 (.slice ai (F).length bl):=wG;have M2:Qd wC wr 2 (.slice aj (x2).length bf):=wG;have M3:Qd wC wr 3 (.int .i64 x3):=wG;have M4:Qd wC wr 4 (.int .i64 x4):=wG;clear D;replace I:=yD ((I.out.below EC).wide (T:=jb w.heap.size wC.heap.size) rQ);have L:=(tQ o EC);go_wp2_with fail;refine (kFc (px.below EC)).mono ?_;rintro e wT ⟨tc,rfl,OT,al⟩;obtain ⟨fp,cg,cm,rfl,b6,eb,ej,ft,em,b0,a7⟩:=jX OT.raw;obtain ⟨bi,cv,rfl,ha⟩:=kD.sl eb;obtain ⟨bz,a5,rfl,cl⟩:=kD.sl ej;obtain ⟨bb,av,rfl,ch⟩:=kD.sl em;clear b6 eb ej ft em b0 a7;have f2:=al.size;have Z:=al;replace I:=yD (I.out.below Z);have aa:=(tQ L Z);go_wp2_with (at_builtin;refine kD.jP rfl _ _ 24 rfl (r:=jI) (e:=70) underlying24 kQr rfl bH2 bH2 (B:=w.heap.size) I.out bH5 bH5 rfl (kD.own.wide (T:=jb wC.heap.size wT.heap.size) (OT) mV) rfl nX rQ mV bH3 bH3 ?_);exact aO
 obtain rfl:k=l.length:=bH3
 go_wp2
 go_ret
 exact ⟨_,rfl,kD.kQ.cast I.out bA3,o⟩
def kTy {w:Am} {vl:Ba} {l:Bb jT} (hl:(kD.slice 70 jI).rd w [vl] l) :
    Bf prog 100 #[vl] w (kBx 70 jI l w):=by
 have HL:=yD hl
 obtain ⟨la,lp,rfl,ll⟩:=kD.sl hl.1
 have bc:l.length<=16777216:=hl.2.1
 clear hl
 go_enter func100,ntmps100
 go_wp2
 go_loopw [3,4] (λv i wr=>∃ k:Nat,k<=l.length/\i=.int .i64 k/\Hid (kD.kQ 70 jI wr v (l.take k) (jb w.heap.size wr.heap.size))/\Qb w wr) (λ_ i _=>l.length - (Bg i).toNat)
 case atStart=>exact ⟨0,Nat.zero_le _,rfl,yD kD.kQ.void,bR.alloc nL _⟩
 obtain ⟨k,hk,rfl,I,o⟩:=hrel
 obtain ⟨oa,on,oc,ho,a1⟩:=I.out.parts;obtain rfl:=ho
 have f9:(l.take k).length<=k:=bG7
 have ax:=o.size
 by_cases hlt:k < l.length
 · obtain ⟨qb,qo,rfl,Y,ae,ah,b7,b9,qr,ap,aq,ay,bd,be⟩:=kD.get5 (HL.out.1.below o) hlt rfl;obtain ⟨X,bx⟩:=y5;generalize l[k]=x at *;have b4:=yD bx;clear bx;obtain ⟨U,F,x2,x3,x4⟩:=x;obtain ⟨a6,bn,b5,G,ag,ak,am,ar,bk,bg,bp⟩:=jX qr;simp only [Aa,and_true] at G;obtain ⟨rfl,rfl,rfl,rfl,rfl⟩:=G;obtain ⟨ac,az,rfl,a8⟩:=kD.sl ak;obtain ⟨ai,bl,rfl,bt⟩:=kD.sl am;obtain ⟨aj,bf,rfl,cc⟩:=kD.sl bk;have px:jI.rd wr _ (U,F,x2,x3,x4):=⟨qr,X⟩;go_wp2_with fail;refine (kBf px).mono ?_;rintro e wT ⟨tc,rfl,OT,al⟩;obtain ⟨fp,cg,cm,rfl,b6,eb,ej,ft,em,b0,a7⟩:=jX OT.raw;obtain ⟨bi,cv,rfl,ha⟩:=kD.sl eb;obtain ⟨bz,a5,rfl,cl⟩:=kD.sl ej;obtain ⟨bb,av,rfl,ch⟩:=kD.sl em;clear b6 eb ej ft em b0 a7;have f2:=al.size;go_upto_region 6 with fail;generalize ab:World.alloc wT _=wD;have ED:Qb wT wD:=tH;have b3:=ED.size;have D0:Qd wD wT 0 (.slice bi (U).length cv):=vV;have D1:Qd wD wT 1 (.slice bz (F).length a5):=vV;have D2:Qd wD wT 2 (.slice bb (x2).length av):=vV;have D3:Qd wD wT 3 (.int .i64 x3):=vV;have D4:Qd wD wT 4 (.int .i64 x4):=vV;clear ab;have Z:=(tQ al ED);replace I:=yD (I.out.below Z);have aa:=(tQ o Z);go_wp2_with (at_builtin;refine kD.jP rfl _ _ 24 rfl (r:=jI) (e:=70) underlying24 kQr rfl bH2 bH2 (B:=w.heap.size) I.out bH5 bH5 rfl (kD.own.wide (T:=jb wr.heap.size wT.heap.size) (OT.below ED) mV) rfl nX rQ mV bH3 bH3 ?_);exact aO
 obtain rfl:k=l.length:=bH3
 go_wp2
 go_ret
 exact ⟨_,rfl,kD.kQ.cast I.out bA3,o⟩
def kJo {w:Am} {vl:Ba} {l:Bb jA} (hl:(kD.slice 144 kY).rd w [vl] l) :
    Bf prog 74 #[vl] w (kBx 144 kY l w):=by
 have HL:=yD hl
 obtain ⟨la,lp,rfl,ll⟩:=kD.sl hl.1
 have bc:l.length<=16777216:=hl.2.1
 clear hl
 go_enter func74,ntmps74
 go_wp2
 have O0:kD.kQ 144 kY (w.alloc (.cells #[] 144)) (.slice (some ⟨w.heap.size,0,none⟩) 0 0) [] (jb w.heap.size (w.alloc (.cells #[] 144)).heap.size) :=
   kD.yJ (e:=144) (r:=kY) (w:=w) (cs:=[]) (xs:=[]) (T:=λ_=>False) bH4 bH4 rfl (λ_ h=>h.elim) ⟨Nat.le_refl _,by simp⟩
 go_loopw [3,9] (λv i wr=>∃ k:Nat,k<=l.length/\i=.int .i64 k/\Hid (kD.kQ 144 kY wr v (l.take k) (jb w.heap.size wr.heap.size))/\Qb w wr) (λ_ i _=>l.length - (Bg i).toNat)
 case atStart=>exact ⟨0,Nat.zero_le _,rfl,yD O0,bR.alloc nL _⟩
 clear O0
 obtain ⟨k,hk,rfl,I,o⟩:=hrel
 obtain ⟨oa,on,oc,ho,a1⟩:=I.out.parts;obtain rfl:=ho
 have f9:(l.take k).length<=k:=bG7
 by_cases hlt:k < l.length
 · obtain ⟨qb,qo,rfl,Y,ae,ah,qr,ap,aq,ay⟩:=kD.kAn (HL.out.1.below o) hlt rfl;obtain ⟨X,bx⟩:=y5;generalize l[k]=x at *;have b4:=yD bx;clear bx;obtain ⟨U,F,x2⟩:=x;obtain ⟨a6,G,ag,ak,am,ar⟩:=jS qr;simp only [Aa,and_true] at G;obtain ⟨rfl,rfl,rfl⟩:=G;obtain ⟨ac,az,rfl,a8⟩:=kD.sl ak;have ab:kN.rd wr _ U:=⟨ag,X.1⟩;go_upto_region 5 with fail;generalize D:World.alloc wr _=wC;obtain ⟨EC,aw,M0⟩:=BJ;have M1:Qd wC wr 1 (.int .i64 F):=wG;have M2:Qd wC wr 2 (.int .i64 x2):=wG;clear D;have FX:=yD (λ(W:Am) (hW:Qb wC W)=>kOb hW M0 M1 M2);refine jc (λW=>Qb wC W) [(0,true),(1,true),(2,true),(4,true),(5,true),(6,true),(7,true),(3,false),(8,true),(9,false)] bG6 bG6 qY (bR.drew) ?_;intro wS E;simp only [jB,Av,Ay,Ak,Al,Bd,Be,Aw,Az,Au,Bc];iterate 7
    all_goals refine ky ?_
   all_goals first|(refine kJ rfl E ?_)|(refine kw rfl (λK H=>?_);go_simp;refine (yh (ab.below (tQ EC E))).mono ?_;rintro e a4 ⟨a5,rfl,N,al⟩;obtain ⟨af,rfl,L⟩:=kX N.raw;obtain ⟨ao,au,rfl,aj⟩:=kD.sl L;clear L;replace N:=yD N;have b8:=al.size;have a7:=E.size;replace E:=(tQ E al);refine H _ _ E ?_;clear H K al)
   all_goals refine jG ?_
   all_goals refine ky ?_
   all_goals first|(refine kJ rfl E ?_)|(refine kw rfl (λK H=>?_);go_simp;refine H _ _ (E.alloc E.size _) ?_;clear H K)
   all_goals refine jG ?_
   all_goals refine yG ?_
   obtain ⟨a2,an,ax,Z,I,aa⟩:=BH;go_wp2_with (at_builtin;refine kD.jP rfl _ _ 30 rfl (r:=kY) (e:=144) underlying30 kDa rfl bH2 bH2 (B:=w.heap.size) I.out bH5 bH5 rfl (kD.own.wide (T:=jb wr.heap.size a4.heap.size) (kD.yF (N.out) (kD.jW (kD.ku am) (kD.ku ar))) mV) rfl nX rQ mV bH3 vG ?_);exact aO
 exact aR
def kKp {w:Am} {vl:Ba} {l:Bb kZ} (hl:(kD.slice 166 kR).rd w [vl] l) :
    Bf prog 75 #[vl] w (kBx 166 kR l w):=by
 have HL:=yD hl
 obtain ⟨la,lp,rfl,ll⟩:=kD.sl hl.1
 have bc:l.length<=16777216:=hl.2.1
 clear hl
 go_enter func75,ntmps75
 go_wp2
 have O0:kD.kQ 166 kR (w.alloc (.cells #[] 166)) (.slice (some ⟨w.heap.size,0,none⟩) 0 0) [] (jb w.heap.size (w.alloc (.cells #[] 166)).heap.size) :=
   kD.yJ (e:=166) (r:=kR) (w:=w) (cs:=[]) (xs:=[]) (T:=λ_=>False) bH4 bH4 rfl (λ_ h=>h.elim) ⟨Nat.le_refl _,by simp⟩
 go_loopw [3,9] (λv i wr=>∃ k:Nat,k<=l.length/\i=.int .i64 k/\Hid (kD.kQ 166 kR wr v (l.take k) (jb w.heap.size wr.heap.size))/\Qb w wr) (λ_ i _=>l.length - (Bg i).toNat)
 case atStart=>exact ⟨0,Nat.zero_le _,rfl,yD O0,bR.alloc nL _⟩
 clear O0
 obtain ⟨k,hk,rfl,I,o⟩:=hrel
 obtain ⟨oa,on,oc,ho,a1⟩:=I.out.parts;obtain rfl:=ho
 have f9:(l.take k).length<=k:=bG7
 by_cases hlt:k < l.length
 · obtain ⟨qb,qo,rfl,Y,ae,ah,qr,ap,aq,ay⟩:=kD.kAn (HL.out.1.below o) hlt rfl;obtain ⟨X,bx⟩:=y5;generalize l[k]=x at *;have b4:=yD bx;clear bx;obtain ⟨U,F,x2⟩:=x;obtain ⟨a6,G,ag,ak,am,ar⟩:=yV qr;simp only [Aa,and_true] at G;obtain ⟨rfl,rfl,rfl⟩:=G;obtain ⟨ac,az,rfl,a8⟩:=kD.sl ak;have ab:kN.rd wr _ U:=⟨ag,X.1⟩;go_upto_region 5 with fail;generalize D:World.alloc wr _=wC;obtain ⟨EC,aw,M0⟩:=BJ;have M1:Qd wC wr 1 (.int .i64 F):=wG;have M2:Qd wC wr 2 (.int .i64 x2):=wG;clear D;have FX:=yD (λ(W:Am) (hW:Qb wC W)=>kOb hW M0 M1 M2);refine jc (λW=>Qb wC W) [(0,true),(1,true),(2,true),(4,true),(5,true),(6,true),(7,true),(3,false),(8,true),(9,false)] bG6 bG6 qY (bR.drew) ?_;intro wS E;simp only [jB,Av,Ay,Ak,Al,Bd,Be,Aw,Az,Au,Bc];iterate 7
    all_goals refine ky ?_
   all_goals first|(refine kJ rfl E ?_)|(refine kw rfl (λK H=>?_);go_simp;refine (yh (ab.below (tQ EC E))).mono ?_;rintro e a4 ⟨a5,rfl,N,al⟩;obtain ⟨af,rfl,L⟩:=kX N.raw;obtain ⟨ao,au,rfl,aj⟩:=kD.sl L;clear L;replace N:=yD N;have b8:=al.size;have a7:=E.size;replace E:=(tQ E al);refine H _ _ E ?_;clear H K al)
   all_goals refine jG ?_
   all_goals refine ky ?_
   all_goals first|(refine kJ rfl E ?_)|(refine kw rfl (λK H=>?_);go_simp;refine H _ _ (E.alloc E.size _) ?_;clear H K)
   all_goals refine jG ?_
   all_goals refine yG ?_
   obtain ⟨a2,an,ax,Z,I,aa⟩:=BH;go_wp2_with (at_builtin;refine kD.jP rfl _ _ 31 rfl (r:=kR) (e:=166) underlying31 kAy rfl bH2 bH2 (B:=w.heap.size) I.out bH5 bH5 rfl (kD.own.wide (T:=jb wr.heap.size a4.heap.size) (kD.yF (N.out) (kD.jW (kD.ku am) (kD.ku ar))) mV) rfl nX rQ mV bH3 vG ?_);exact aO
 exact aR
def kDm {w:Am} {vl:Ba} {l:Bb jA} (hl:(kD.slice 144 kY).rd w [vl] l) :
    Bf prog 104 #[vl] w (kBx 144 kY l w):=by
 have HL:=yD hl
 obtain ⟨la,lp,rfl,ll⟩:=kD.sl hl.1
 have bc:l.length<=16777216:=hl.2.1
 clear hl
 go_enter func104,ntmps104
 go_wp2
 have O0:kD.kQ 144 kY (w.alloc (.cells #[] 144)) (.slice (some ⟨w.heap.size,0,none⟩) 0 0) [] (jb w.heap.size (w.alloc (.cells #[] 144)).heap.size) :=
   kD.yJ (e:=144) (r:=kY) (w:=w) (cs:=[]) (xs:=[]) (T:=λ_=>False) bH4 bH4 rfl (λ_ h=>h.elim) ⟨Nat.le_refl _,by simp⟩
 go_loopw [3,4] (λv i wr=>∃ k:Nat,k<=l.length/\i=.int .i64 k/\Hid (kD.kQ 144 kY wr v (l.take k) (jb w.heap.size wr.heap.size))/\Qb w wr) (λ_ i _=>l.length - (Bg i).toNat)
 case atStart=>exact ⟨0,Nat.zero_le _,rfl,yD O0,bR.alloc nL _⟩
 clear O0
 obtain ⟨k,hk,rfl,I,o⟩:=hrel
 obtain ⟨oa,on,oc,ho,a1⟩:=I.out.parts;obtain rfl:=ho
 have f9:(l.take k).length<=k:=bG7
 by_cases hlt:k < l.length
 · obtain ⟨qb,qo,rfl,Y,ae,ah,qr,ap,aq,ay⟩:=kD.kAn (HL.out.1.below o) hlt rfl;obtain ⟨X,bx⟩:=y5;generalize l[k]=x at *;have b4:=yD bx;clear bx;obtain ⟨U,F,x2⟩:=x;obtain ⟨a6,G,ag,ak,am,ar⟩:=jS qr;simp only [Aa,and_true] at G;obtain ⟨rfl,rfl,rfl⟩:=G;obtain ⟨ac,az,rfl,a8⟩:=kD.sl ak;have ab:kN.rd wr _ U:=⟨ag,X.1⟩;go_wp2_with fail;refine (zX ab).mono ?_;rintro e wT ⟨tc,rfl,OT,al⟩;obtain ⟨fp,rfl,b6⟩:=kX OT.raw;obtain ⟨bi,cv,rfl,_⟩:=kD.sl b6;clear b6;go_upto_region 6 with fail;generalize D:World.alloc wT _=wC;obtain ⟨EC,K0⟩:=H8;clear D;have ER:=(tQ al EC);replace ap:=cL ER ap;replace aq:=cL ER aq;replace ay:=cL ER ay;have FX:=yD (λ(W:Am) (hW:Qb wC W)=>kEe hW K0 ap aq ay);refine zM (λW=>Qb wC W) [Tt,Tt,Tt,Tt,Tt,Tt,Tt,Tt,Tt,Tt,Tt,Tt,Tt,Ff] bG6 bG6 qY (bR.drew) ?_;intro wS E;iterate 13
    all_goals refine ky ?_
   all_goals first|(refine kJ rfl E ?_)|(refine kw rfl (λK H=>?_);go_simp;refine H _ _ (E.alloc E.size _) ?_;clear H K)
   all_goals refine jG ?_
   all_goals refine yG ?_
   obtain ⟨a2,an,ax,f2,Z,I,aa⟩:=FU;go_wp2_with (at_builtin;refine kD.jP rfl _ _ 30 rfl (r:=kY) (e:=144) underlying30 kDa rfl bH2 bH2 (B:=w.heap.size) I.out bH5 bH5 rfl (kD.own.wide (T:=jb wr.heap.size wT.heap.size) (kD.yF (OT.below (tQ EC E)) (kD.jW (kD.ku am) (kD.ku ar))) mV) rfl nX rQ mV bH3 vG ?_);exact aO
 exact aR
def kFu {w:Am} {vl:Ba} {l:Bb kZ} (hl:(kD.slice 166 kR).rd w [vl] l) :
    Bf prog 105 #[vl] w (kBx 166 kR l w):=by
 have HL:=yD hl
 obtain ⟨la,lp,rfl,ll⟩:=kD.sl hl.1
 have bc:l.length<=16777216:=hl.2.1
 clear hl
 go_enter func105,ntmps105
 go_wp2
 have O0:kD.kQ 166 kR (w.alloc (.cells #[] 166)) (.slice (some ⟨w.heap.size,0,none⟩) 0 0) [] (jb w.heap.size (w.alloc (.cells #[] 166)).heap.size) :=
   kD.yJ (e:=166) (r:=kR) (w:=w) (cs:=[]) (xs:=[]) (T:=λ_=>False) bH4 bH4 rfl (λ_ h=>h.elim) ⟨Nat.le_refl _,by simp⟩
 go_loopw [3,4] (λv i wr=>∃ k:Nat,k<=l.length/\i=.int .i64 k/\Hid (kD.kQ 166 kR wr v (l.take k) (jb w.heap.size wr.heap.size))/\Qb w wr) (λ_ i _=>l.length - (Bg i).toNat)
 case atStart=>exact ⟨0,Nat.zero_le _,rfl,yD O0,bR.alloc nL _⟩
 clear O0
 obtain ⟨k,hk,rfl,I,o⟩:=hrel
 obtain ⟨oa,on,oc,ho,a1⟩:=I.out.parts;obtain rfl:=ho
 have f9:(l.take k).length<=k:=bG7
 by_cases hlt:k < l.length
 · obtain ⟨qb,qo,rfl,Y,ae,ah,qr,ap,aq,ay⟩:=kD.kAn (HL.out.1.below o) hlt rfl;obtain ⟨X,bx⟩:=y5;generalize l[k]=x at *;have b4:=yD bx;clear bx;obtain ⟨U,F,x2⟩:=x;obtain ⟨a6,G,ag,ak,am,ar⟩:=yV qr;simp only [Aa,and_true] at G;obtain ⟨rfl,rfl,rfl⟩:=G;obtain ⟨ac,az,rfl,a8⟩:=kD.sl ak;have ab:kN.rd wr _ U:=⟨ag,X.1⟩;go_wp2_with fail;refine (zX ab).mono ?_;rintro e wT ⟨tc,rfl,OT,al⟩;obtain ⟨fp,rfl,b6⟩:=kX OT.raw;obtain ⟨bi,cv,rfl,_⟩:=kD.sl b6;clear b6;go_upto_region 6 with fail;generalize D:World.alloc wT _=wC;obtain ⟨EC,K0⟩:=H8;clear D;have ER:=(tQ al EC);replace ap:=cL ER ap;replace aq:=cL ER aq;replace ay:=cL ER ay;have FX:=yD (λ(W:Am) (hW:Qb wC W)=>kEe hW K0 ap aq ay);refine zM (λW=>Qb wC W) [Tt,Tt,Tt,Tt,Tt,Tt,Tt,Tt,Tt,Tt,Tt,Tt,Tt,Ff] bG6 bG6 qY (bR.drew) ?_;intro wS E;iterate 13
    all_goals refine ky ?_
   all_goals first|(refine kJ rfl E ?_)|(refine kw rfl (λK H=>?_);go_simp;refine H _ _ (E.alloc E.size _) ?_;clear H K)
   all_goals refine jG ?_
   all_goals refine yG ?_
   obtain ⟨a2,an,ax,f2,Z,I,aa⟩:=FU;go_wp2_with (at_builtin;refine kD.jP rfl _ _ 31 rfl (r:=kR) (e:=166) underlying31 kAy rfl bH2 bH2 (B:=w.heap.size) I.out bH5 bH5 rfl (kD.own.wide (T:=jb wr.heap.size wT.heap.size) (kD.yF (OT.below (tQ EC E)) (kD.jW (kD.ku am) (kD.ku ar))) mV) rfl nX rQ mV bH3 vG ?_);exact aO
 exact aR
def kVg (x:jd) (w:Am) (e:Ending) (w':Am):Prop :=
  ∃ (v:Ba) (ds:Bb Ba) (mid:Nat),e=.returned (.agg (v :: ds).toArray)/\kD.kQ 70 jI w' v x.1 (jb w.heap.size mid)/\(kD.pair kT (kD.pair (kD.slice 93 kH) (kD.pair (kD.slice 121 jD) (kD.pair (kD.slice 144 kY) (kD.pair (kD.slice 166 kR) kD.int))))).own w' ds x.2 (jb mid w'.heap.size)/\w.heap.size<=mid/\mid<=w'.heap.size/\Qb w w'
def kVg.made {x:jd} {w:Am} {e:Ending} {w':Am} (h:kVg x w e w') (hb:yB.bdd Big x):zo yB x w e w':=by
 obtain ⟨v,ds,mid,rfl,h1,h2,h3,h4,h5⟩:=h;refine ⟨v :: ds,rfl,?_,h5⟩;exact kD.jh (r:=kD.slice 70 jI) (q:=(kD.pair kT (kD.pair (kD.slice 93 kH) (kD.pair (kD.slice 121 jD) (kD.pair (kD.slice 144 kY) (kD.pair (kD.slice 166 kR) kD.int)))))) (cs:=[v]) (ds:=ds) (x:=x.1) (y:=x.2) (S:=jb w.heap.size w'.heap.size) (h1.own hb.1.1) h2 rQ rR nX
def kMa {w:Am} {cx:Bb Ba} {x:jd} (hx:yB.rd w cx x):Bf prog 39 #[.agg cx.toArray] w (kVg x w):=by
 obtain ⟨q0,q1,q2,q3,q4,q5,q6⟩:=hx.2;obtain ⟨V,ax,cl,cf,ad⟩:=G6;obtain ⟨gb,gd,gv,gu,gs,gq,rfl,Z,ba,bq,bm,bj,bu,b2,dg,eg⟩:=yY hx.1;obtain ⟨dx,dv,rfl,gl⟩:=kD.sl Z;obtain ⟨dy,dw,rfl,gt⟩:=kD.sl bm;obtain ⟨e7,e1,rfl,g8⟩:=kD.sl bj;obtain ⟨e4,e0,rfl,hm⟩:=kD.sl bu;obtain ⟨eu,er,rfl,hs⟩:=kD.sl b2;obtain ⟨en,eh,rfl,hh⟩:=kD.sl dg;obtain ⟨am,al,X,an,ak,aa⟩:=AP;have b7:=yD eg;clear hx q0 q1 q2 q3 q4 q5 q6 Z ba bq bm bj bu b2 dg eg;go_enter func39,ntmps39;go_upto_region 1 with fail;generalize J:World.alloc (World.alloc w _) _=N;obtain ⟨EB,K0,K1,K2,K3,K4,K5,K6,K7⟩:=xJ;obtain ⟨XR,bk⟩:=F8;clear J;have FX:=yD (λ(W:Am) (hW:Qb N W)=>cLs8 hW K0 K1 K2 K3 K4 K5 K6 K7);refine jc (λW=>Qb N W) [(0,true),(1,true),(3,true),(4,true),(6,true),(7,true),(9,true),(10,true),(12,true),(13,true),(15,true),(16,true),(18,true),(19,true),(2,false),(5,false),(8,false),(11,false),(14,false),(17,false),(20,true)] bG6 bG6 qY (bR.drew) ?_;intro wS E;simp only [jB,Av,Ay,Ak,Al,Bd,Be,Aw,Az,Au,Bc];iterate 14
  all_goals refine ky ?_
 all_goals first|(refine kJ rfl E ?_)|(refine kw rfl (λK H=>?_);go_simp;refine (kTy (am.out.below (tQ EB E))).mono ?_;rintro e u0 ⟨v1,rfl,O1,I⟩;obtain ⟨d5,bo,ed,ac,bc⟩:=O1.parts;obtain rfl:=ac;have O:=yD O1;clear O1;have bi:=I.size;have b8:=E.size;replace E:=(tQ E I);refine H _ _ E ?_;clear H K I)
 all_goals refine jG ?_
 all_goals first|(refine kJ rfl E ?_)|(refine kw rfl (λK H=>?_);go_simp;refine (kOq (al.out.below (tQ EB E))).mono ?_;rintro e u1 ⟨cs,rfl,O2,I⟩;obtain ⟨cv,rfl,ag,af⟩:=jN O2.raw;obtain ⟨b4,U,rfl,_⟩:=kD.sl af;have ab:=yD O2;clear O2 ag af;replace O:=yD (O.out.below I);have bf:=I.size;have ch:=E.size;replace E:=(tQ E I);refine H _ _ E ?_;clear H K I)
 all_goals refine jG ?_
 all_goals first|(refine kJ rfl E ?_)|(refine kw rfl (λK H=>?_);go_simp;refine (kIq (X.out.below (tQ EB E))).mono ?_;rintro e u2 ⟨v1,rfl,O1,I⟩;obtain ⟨be,a7,ae,ac,bb⟩:=O1.parts;obtain rfl:=ac;have R:=yD (O1.own ax.out);clear O1;replace O:=yD (O.out.below I);replace ab:=yD (ab.out.below I);have a9:=I.size;have bn:=E.size;replace E:=(tQ E I);refine H _ _ E ?_;clear H K I)
 all_goals refine jG ?_
 all_goals first|(refine kJ rfl E ?_)|(refine kw rfl (λK H=>?_);go_simp;refine (kOo (an.out.below (tQ EB E))).mono ?_;rintro e u3 ⟨v1,rfl,O1,I⟩;obtain ⟨bd,aq,Y,ac,bg⟩:=O1.parts;obtain rfl:=ac;have ai:=yD (O1.own cl.out);clear O1;replace O:=yD (O.out.below I);replace ab:=yD (ab.out.below I);replace R:=yD (R.out.below I);have ay:=I.size;have dl:=E.size;replace E:=(tQ E I);refine H _ _ E ?_;clear H K I)
 all_goals refine jG ?_
 all_goals first|(refine kJ rfl E ?_)|(refine kw rfl (λK H=>?_);go_simp;refine (kDm (ak.out.below (tQ EB E))).mono ?_;rintro e u4 ⟨v1,rfl,O1,I⟩;obtain ⟨au,av,L,ac,az⟩:=O1.parts;obtain rfl:=ac;have bl:=yD (O1.own cf.out);clear O1;replace O:=yD (O.out.below I);replace ab:=yD (ab.out.below I);replace R:=yD (R.out.below I);replace ai:=yD (ai.out.below I);have b1:=I.size;have di:=E.size;replace E:=(tQ E I);refine H _ _ E ?_;clear H K I)
 all_goals refine jG ?_
 all_goals first|(refine kJ rfl E ?_)|(refine kw rfl (λK H=>?_);go_simp;refine (kFu (aa.out.below (tQ EB E))).mono ?_;rintro e D ⟨v1,rfl,O1,I⟩;obtain ⟨ao,o,G,ac,ar⟩:=O1.parts;obtain rfl:=ac;have aj:=yD (O1.own ad.out);clear O1;replace O:=yD (O.out.below I);replace ab:=yD (ab.out.below I);replace R:=yD (R.out.below I);replace ai:=yD (ai.out.below I);replace bl:=yD (bl.out.below I);have bz:=I.size;have ah:=E.size;replace E:=(tQ E I);refine H _ _ E ?_;clear H K I)
 all_goals refine jG ?_
 all_goals refine ky ?_
 all_goals refine yG ?_
 have F:=kC XR E;have E1:=(tQ EB E);obtain ⟨M0,F0,M1,F1,M2,F2,M3,F3,M4,F4,M5,F5,M6,F6⟩:=z8;have M7:=kE (b:=w.heap.size + 1) F (j:=7) rfl;have F7:=frozen_of_row D (w.heap.size + 1) 7 _ _ F;go_wp2;refine bodyPost_ret (v:=.agg #[.slice d5 bo ed,Qn x.2.1.1,Qs b4 x.2.1.2 U,.slice be a7 ae,.slice bd aq Y,.slice au av L,.slice ao o G,Qn x.2.2.2.2.2.2]) (by simp [results,results39,go_sem,M0,F0,M1,F1,M2,F2,M3,F3,M4,F4,M5,F5,M6,F6,M7,F7]) rfl ⟨_,[_,_,_,_,_,_,_],u0.heap.size,rfl,?_,?_,by have:=E1.size;omega,by simp [World.setCell];omega,?_⟩
 · exact aP
 · exact aQ
 repeat (first|(with_reducible exact E1) | refine Below.setCell ?_ sV _)
def kHi {w:Am} {cx:Bb Ba} {x:jd} (hx:yB.rd w cx x):Bf prog 39 #[.agg cx.toArray] w (zo yB x w) :=
  (kMa hx).mono λe w' h=>h.made hx.2
def kXi {w:Am} {cx:Bb Ba} {x:jd} (hx:yB.rd w cx x):Bf prog 20 #[.agg cx.toArray] w (kVg x w):=by
 obtain ⟨q0,q1,q2,q3,q4,q5,q6⟩:=hx.2;obtain ⟨V,ax,cl,cf,ad⟩:=G6;obtain ⟨gb,gd,gv,gu,gs,gq,rfl,Z,ba,bq,bm,bj,bu,b2,dg,eg⟩:=yY hx.1;obtain ⟨dx,dv,rfl,gl⟩:=kD.sl Z;obtain ⟨dy,dw,rfl,gt⟩:=kD.sl bm;obtain ⟨e7,e1,rfl,g8⟩:=kD.sl bj;obtain ⟨e4,e0,rfl,hm⟩:=kD.sl bu;obtain ⟨eu,er,rfl,hs⟩:=kD.sl b2;obtain ⟨en,eh,rfl,hh⟩:=kD.sl dg;obtain ⟨am,al,X,an,ak,aa⟩:=AP;have b7:=yD eg;clear hx q0 q1 q2 q3 q4 q5 q6 Z ba bq bm bj bu b2 dg eg;go_enter func20,ntmps20;go_upto_region 1 with fail;generalize J:World.alloc (World.alloc w _) _=N;obtain ⟨EB,K0,K1,K2,K3,K4,K5,K6,K7⟩:=xJ;obtain ⟨XR,bk⟩:=F8;clear J;have FX:=yD (λ(W:Am) (hW:Qb N W)=>cLs8 hW K0 K1 K2 K3 K4 K5 K6 K7);refine jc (λW=>Qb N W) [(0,true),(1,true),(3,true),(4,true),(6,true),(7,true),(9,true),(10,true),(12,true),(13,true),(15,true),(16,true),(18,true),(19,true),(2,false),(5,false),(8,false),(11,false),(14,false),(17,false),(20,true)] bG6 bG6 qY (bR.drew) ?_;intro wS E;simp only [jB,Av,Ay,Ak,Al,Bd,Be,Aw,Az,Au,Bc];iterate 14
  all_goals refine ky ?_
 all_goals first|(refine kJ rfl E ?_)|(refine kw rfl (λK H=>?_);go_simp;refine (kUo (am.out.below (tQ EB E))).mono ?_;rintro e u0 ⟨v1,rfl,O1,I⟩;obtain ⟨d5,bo,ed,ac,bc⟩:=O1.parts;obtain rfl:=ac;have O:=yD O1;clear O1;have bi:=I.size;have b8:=E.size;replace E:=(tQ E I);refine H _ _ E ?_;clear H K I)
 all_goals refine jG ?_
 all_goals first|(refine kJ rfl E ?_)|(refine kw rfl (λK H=>?_);go_simp;refine (kLh (al.out.below (tQ EB E))).mono ?_;rintro e u1 ⟨cs,rfl,O2,I⟩;obtain ⟨cv,rfl,ag,af⟩:=jN O2.raw;obtain ⟨b4,U,rfl,_⟩:=kD.sl af;have ab:=yD O2;clear O2 ag af;replace O:=yD (O.out.below I);have bf:=I.size;have ch:=E.size;replace E:=(tQ E I);refine H _ _ E ?_;clear H K I)
 all_goals refine jG ?_
 all_goals first|(refine kJ rfl E ?_)|(refine kw rfl (λK H=>?_);go_simp;refine (kIf (X.out.below (tQ EB E))).mono ?_;rintro e u2 ⟨v1,rfl,O1,I⟩;obtain ⟨be,a7,ae,ac,bb⟩:=O1.parts;obtain rfl:=ac;have R:=yD (O1.own ax.out);clear O1;replace O:=yD (O.out.below I);replace ab:=yD (ab.out.below I);have a9:=I.size;have bn:=E.size;replace E:=(tQ E I);refine H _ _ E ?_;clear H K I)
 all_goals refine jG ?_
 all_goals first|(refine kJ rfl E ?_)|(refine kw rfl (λK H=>?_);go_simp;refine (kMq (an.out.below (tQ EB E))).mono ?_;rintro e u3 ⟨v1,rfl,O1,I⟩;obtain ⟨bd,aq,Y,ac,bg⟩:=O1.parts;obtain rfl:=ac;have ai:=yD (O1.own cl.out);clear O1;replace O:=yD (O.out.below I);replace ab:=yD (ab.out.below I);replace R:=yD (R.out.below I);have ay:=I.size;have dl:=E.size;replace E:=(tQ E I);refine H _ _ E ?_;clear H K I)
 all_goals refine jG ?_
 all_goals first|(refine kJ rfl E ?_)|(refine kw rfl (λK H=>?_);go_simp;refine (kJo (ak.out.below (tQ EB E))).mono ?_;rintro e u4 ⟨v1,rfl,O1,I⟩;obtain ⟨au,av,L,ac,az⟩:=O1.parts;obtain rfl:=ac;have bl:=yD (O1.own cf.out);clear O1;replace O:=yD (O.out.below I);replace ab:=yD (ab.out.below I);replace R:=yD (R.out.below I);replace ai:=yD (ai.out.below I);have b1:=I.size;have di:=E.size;replace E:=(tQ E I);refine H _ _ E ?_;clear H K I)
 all_goals refine jG ?_
 all_goals first|(refine kJ rfl E ?_)|(refine kw rfl (λK H=>?_);go_simp;refine (kKp (aa.out.below (tQ EB E))).mono ?_;rintro e D ⟨v1,rfl,O1,I⟩;obtain ⟨ao,o,G,ac,ar⟩:=O1.parts;obtain rfl:=ac;have aj:=yD (O1.own ad.out);clear O1;replace O:=yD (O.out.below I);replace ab:=yD (ab.out.below I);replace R:=yD (R.out.below I);replace ai:=yD (ai.out.below I);replace bl:=yD (bl.out.below I);have bz:=I.size;have ah:=E.size;replace E:=(tQ E I);refine H _ _ E ?_;clear H K I)
 all_goals refine jG ?_
 all_goals refine ky ?_
 all_goals refine yG ?_
 have F:=kC XR E;have E1:=(tQ EB E);obtain ⟨M0,F0,M1,F1,M2,F2,M3,F3,M4,F4,M5,F5,M6,F6⟩:=z8;have M7:=kE (b:=w.heap.size + 1) F (j:=7) rfl;have F7:=frozen_of_row D (w.heap.size + 1) 7 _ _ F;go_wp2;refine bodyPost_ret (v:=.agg #[.slice d5 bo ed,Qn x.2.1.1,Qs b4 x.2.1.2 U,.slice be a7 ae,.slice bd aq Y,.slice au av L,.slice ao o G,Qn x.2.2.2.2.2.2]) (by simp [results,results20,go_sem,M0,F0,M1,F1,M2,F2,M3,F3,M4,F4,M5,F5,M6,F6,M7,F7]) rfl ⟨_,[_,_,_,_,_,_,_],u0.heap.size,rfl,?_,?_,by have:=E1.size;omega,by simp [World.setCell];omega,?_⟩
 · exact aP
 · exact aQ
 repeat (first|(with_reducible exact E1) | refine Below.setCell ?_ sV _)
def kXh {w:Am} {cx:Bb Ba} {x:jd} (hx:yB.rd w cx x):Bf prog 20 #[.agg cx.toArray] w (zo yB x w) :=
  (kXi hx).mono λe w' h=>h.made hx.2
def void0:jC:=(([],[],[],0,0),0)
def okCe (l:Bb jC) (k:Nat) (x:jC):Bool:=!(!kKk x.1 || decide (idxOf (isC x.1.1) (l.take k) ≥ 0))
def kLv (x:kz):Bool:=zi (λj=>okCe x.2 j (x.2.getD j void0)) x.2.length && (inR x.1 0 8 && decide ((x.2.length:Int)<=x.1))
def vStore_bad {c:Int} {l:Bb jC} {k:Nat} (h:k < l.length) (q:okCe l k l[k]=false):kLv (c,l)=false:=by
 unfold kLv;rw [kDe h rT];rfl
def vStore_next {l:Bb jC} {k:Nat} (h:k < l.length) (q:okCe l k l[k]=true) (a:zi (λj=>okCe l j (l.getD j void0)) k=true):zi (λj=>okCe l j (l.getD j void0)) (k + 1)=true :=
  kBe a rT
def vStore_good {c:Int} {l:Bb jC} {k:Nat} (q:zi (λj=>okCe l j (l.getD j void0)) k=true) (h:¬ k < l.length) (hk:k<=l.length):kLv (c,l)=(inR c 0 8 && decide ((l.length:Int)<=c)):=by
 obtain rfl:k=l.length:=bH3;unfold kLv;rw [q];rfl
def kJj {w:Am} {cs:Bb Ba} {x:kz} (hx:kT.raw w cs x) :
    Bf prog 206 #[.agg cs.toArray] w (bQ w (.bool (kLv x))):=by
 obtain ⟨sv,rfl,e8,hl⟩:=jN hx
 obtain ⟨aa,pl,rfl,la⟩:=kD.sl hl
 obtain ⟨c,l⟩:=x
 replace hl:(kD.slice 127 jH).raw w [Qs aa l pl] l:=hl
 have b0:=kD.kCt hl
 replace la:l.length<=9223372036854775807:=la
 have ad:=yD e8
 clear hx e8
 go_enter func206,ntmps206
 go_wp2
 generalize J:World.alloc w _=N
 have EB:Qb w N:=by rw [<- J];exact bI
 have K0:Qd N w 0 (.int .i64 c):=wF
 have K1:Qd N w 1 (.slice aa l.length pl):=wF
 clear J
 replace hl:=hl.below EB
 go_loopw [3] (λi wr=>∃ k:Nat,k<=l.length/\i=.int .i64 k/\Hid (zi (λj=>okCe l j (l.getD j void0)) k=true)/\Qb N wr) (λi _=>l.length - (Bg i).toNat)
 case atStart=>exact ⟨0,Nat.zero_le _,rfl,yD rfl,bR⟩
 obtain ⟨k,hk,rfl,HN,o⟩:=hrel
 obtain ⟨K0,K1⟩:=IJ
 by_cases hlt:k < l.length
 · have au:=yD (kD.kGa (hl.below o) hk);have hb:=λq=>vStore_bad (c:=c) hlt q;have F:=λq=>vStore_next hlt q HN.out;obtain ⟨qb,qo,rfl,Y,ae,ah,b7,b9,bx,qr,ap,aq,ay,bd,be,ba⟩:=kD.get6 (hl.below o) (i:=k) bH3 rfl;generalize l[k]=x at *;have HB:=yD hb;have HX:=yD F;clear hb F;obtain ⟨a6,bn,b5,G,ag,ak,am,ar,bk,bg,bp,bu,bq⟩:=yO qr;simp only [Aa,and_true] at G;obtain ⟨rfl,rfl,rfl,rfl,rfl,rfl⟩:=G;obtain ⟨ac,az,rfl,a8⟩:=kD.sl am;obtain ⟨ai,bl,rfl,bt⟩:=kD.sl ar;obtain ⟨aj,bf,rfl,cc⟩:=kD.sl bg;obtain ⟨b4,ce,br,ab⟩:=DJ;go_upto_region 4 with fail;have FX:=yD (λ(W:Am) (hW:Qb wr W)=>cLs8 hW K0 K1 ap aq ay bd be ba);refine kK (λW=>Qb wr W) [Tt,Tt,Tt,Tt,Tt,Tt,Ff,Tt,Tt,Tt,Tt,Tt,Tt,Tt,Tt,Tt,Tt,Tt,Tt,Tt,Ff,Tt,Tt] bG6 bG6 qY (bR.drew) ?_;intro wS E;iterate 6
    all_goals refine ky ?_
   all_goals first | refine wkB (kDw (kD.raw.below ag E)) (λwS1 E=>?_) | refine ky ?_
   all_goals refine ky ?_
   all_goals (refine jy λb ck=>?_;cases b <;> try simp only [jw] at ck)
   iterate 11
    all_goals refine ky ?_
   all_goals first | refine wkB (kFv (kD.raw.below au.out E) (kD.raw.below ak E)) (λwS1 E=>?_) | refine ky ?_
   all_goals refine ky ?_
   all_goals (refine jy λb dz=>?_;cases b <;> try simp only [jw] at dz)
   all_goals refine kS ?_
   all_goals have EG:=(tQ o E)
   all_goals first
     | (have L:=yD (HB.out (show _=false by simp only [okCe,Ae,Ab,Ag,Ah,Ac,Ad,Ap,Aq,Ai,Aj,Ar,Bh,ck,dz]));clear HB HX HN au;go_wp2;go_ret;exact ⟨kW L.out.symm,(tQ EB EG)⟩)
     | (have L:=yD (HX.out (show _=true by simp only [okCe,Ae,Ab,Ag,Ah,Ac,Ad,Ap,Aq,Ai,Aj,Ar,Bh,ck,dz]));clear HB HX HN au;go_wp2;go_roundw;(case rel=>exact ⟨k + 1,by omega,by go_num,L,EG⟩);(case measure=>simp [Bg];omega))
 have L:=yD (vStore_good (c:=c) HN.out hlt hk)
 have du:¬ (k:Int) < l.length:=bH3
 go_upto_region 6 with fail
 have FX:=yD (λ(W:Am) (hW:Qb wr W)=>kIz hW K0 K1)
 refine kr (λW=>Qb wr W) [Tt,Tt,Ff,Tt,Tt,Tt,Tt,Tt,Tt,Tt,Tt,Tt] bR ?_
 intro wS E
 all_goals refine ky ?_
 all_goals refine ky ?_
 all_goals first | refine wkC (yA) ?_ | refine ky ?_
 all_goals (refine jy λb bh=>?_;cases b <;> try simp only [jw] at bh)
 iterate 7
  all_goals refine ky ?_
 all_goals (refine jy λb an=>?_;cases b <;> try simp only [jw] at an)
 all_goals refine kS ?_
 all_goals have EG:=(tQ EB (tQ o E))
 all_goals first
   | (have X:=yD (show kLv (c,l)=false by rw [L.out];simp only [Ae,Ab,Ag,Ah,Ac,Ad,Ap,Aq,Ai,Aj,Ar,bh,an]);go_wp2;go_ret;exact ⟨kW X.out.symm,EG⟩)
   | (have X:=yD (show kLv (c,l)=true by rw [L.out];simp only [Ae,Ab,Ag,Ah,Ac,Ad,Ap,Aq,Ai,Aj,Ar,bh,an]);go_wp2;go_ret;exact ⟨kW X.out.symm,EG⟩)
def kCs (n:kg) (f:Int) (m:jA):Bool:=(m.2.1==f) && eqN m.1 n
def kOm {w:Am} {vl:Ba} {l:(Bb jA)} (hl:(kD.slice 144 kY).raw w [vl] l) {cn:Bb Ba} {n:kg} (hn:kN.raw w cn n) {f:Int} :
    Bf prog 211 #[vl,.agg cn.toArray,.int .i64 f] w (bQ w (.int .i64 (idxOf (kCs n f) l))):=by
 obtain ⟨al,pl,rfl,ll⟩:=kD.sl hl
 have Hn:=yD hn
 obtain ⟨Z,rfl,V⟩:=kX hn
 obtain ⟨X,I,rfl,aa⟩:=kD.sl V
 go_enter func211,ntmps211
 go_wp2
 generalize J:World.alloc w _=N
 obtain ⟨EB,D⟩:=y8
 clear J
 replace hl:=hl.below EB
 go_loopw [7] (λi wr=>∃ k:Nat,k<=l.length/\i=.int .i64 k/\Hid (∀ j,(h:j < k)->(h2:j < l.length)->(kCs n f) l[j]=false)/\Qb N wr) (λi _=>l.length - (Bg i).toNat)
 case atStart=>exact ⟨0,Nat.zero_le _,rfl,yD (λ_ h=>by omega),bR⟩
 obtain ⟨k,hk,rfl,HN,o⟩:=hrel
 replace D:=cL o D
 by_cases hlt:k < l.length
 · obtain ⟨qb,qo,rfl,Y,ae,ah,qr,ap,aq,ay⟩:=kD.kAn (hl.below o) (i:=k) bH3 rfl;obtain ⟨R,H⟩:=D5;generalize l[k]=x at *;have HD:=yD R;have HX:=yD H;clear R H;obtain ⟨U,F,x2⟩:=x;obtain ⟨a6,G,ag,ak,am,ar⟩:=jS qr;simp only [Aa,and_true] at G;obtain ⟨rfl,rfl,rfl⟩:=G;obtain ⟨ac,az,rfl,a8⟩:=kD.sl ak;go_upto_region 4 with fail;have FX:=yD (λ(W:Am) (hW:Qb wr W)=>kEe hW D ap aq ay);refine kK (λW=>Qb wr W) [Tt,Tt,Tt,Tt,Tt,Tt,Tt,Tt,Tt,Tt,Tt,Tt,Tt,Tt,Ff,Tt] bG6 bG6 qY (bR.drew) ?_;intro wS E;iterate 7
    all_goals refine ky ?_
   all_goals (refine jy λb ax=>?_;cases b <;> try simp only [jw] at ax)
   iterate 6
    all_goals refine ky ?_
   all_goals first | refine wkB (jq (kD.raw.below ag E) (kD.raw.below Hn.out ((tQ EB (tQ o E))))) (λwS1 E=>?_) | refine ky ?_
   all_goals (refine jy λb cz=>?_;cases b <;> try simp only [jw] at cz)
   all_goals refine kS ?_
   all_goals have EG:=(tQ o E)
   all_goals first
     | (have L:=yD (HD.out (show _=true by simp only [kCs,Ae,Ab,Ag,Ah,Ac,Ad,Ap,Aq,Ai,Aj,Ar,ax,cz]));clear HD HX;go_wp2;go_ret;exact ⟨jV L.out.symm,(tQ EB EG)⟩)
     | (have L:=yD (HX.out (show _=false by simp only [kCs,Ae,Ab,Ag,Ah,Ac,Ad,Ap,Aq,Ai,Aj,Ar,ax,cz]));clear HD HX;go_wp2;go_roundw;(case rel=>exact ⟨k + 1,by omega,by go_num,L,EG⟩);(case measure=>simp [Bg];omega))
 exact iR
def kGu (l:Bb jA) (k:Nat) (x:jA):Bool:=!(!kAp x.1 || (!inR x.2.1 1 6 || (!inR x.2.2 0 1000 || decide (idxOf (kCs x.1 x.2.1) (l.take k) ≥ 0))))
def kCo (l:Bb jA):Bool:=zi (λj=>kGu l j (l.getD j ([],0,0))) l.length && decide (l.length<=24)
def vRoutes_bad {l:Bb jA} {k:Nat} (h:k < l.length) (q:kGu l k l[k]=false):kCo l=false:=by
 unfold kCo;rw [kDe h rT];rfl
def jAs {l:Bb jA} {k:Nat} (h:k < l.length) (q:kGu l k l[k]=true) (a:zi (λj=>kGu l j (l.getD j ([],0,0))) k=true):zi (λj=>kGu l j (l.getD j ([],0,0))) (k + 1)=true :=
  kBe a rT
def jAt {l:Bb jA} {k:Nat} (q:zi (λj=>kGu l j (l.getD j ([],0,0))) k=true) (h:¬ k < l.length) (hk:k<=l.length):kCo l=decide (l.length<=24):=by
 obtain rfl:k=l.length:=bH3;unfold kCo;rw [q];rfl
def kEp {w:Am} {vl:Ba} {l:Bb jA} (hl:(kD.slice 144 kY).raw w [vl] l) :
    Bf prog 208 #[vl] w (bQ w (.bool (kCo l))):=by
 obtain ⟨al,pl,rfl,ll⟩:=kD.sl hl
 have b0:=kD.kCt hl
 go_enter func208,ntmps208
 go_wp2
 go_loopw [3] (λi wr=>∃ k:Nat,k<=l.length/\i=.int .i64 k/\Hid (zi (λj=>kGu l j (l.getD j ([],0,0))) k=true)/\Qb w wr) (λi _=>l.length - (Bg i).toNat)
 case atStart=>exact ⟨0,Nat.zero_le _,rfl,yD rfl,bR⟩
 obtain ⟨k,hk,rfl,HN,o⟩:=hrel
 by_cases hlt:k < l.length
 · obtain ⟨qb,qo,rfl,Y,ae,ah,qr,ap,aq,ay⟩:=kD.kAn (hl.below o) (i:=k) bH3 rfl;have au:=yD (kD.kGa (hl.below o) hk);have hb:=λq=>vRoutes_bad hlt q;have hx:=λq=>jAs hlt q HN.out;generalize l[k]=x at *;have HB:=yD hb;have HX:=yD hx;clear hb hx;obtain ⟨U,F,x2⟩:=x;obtain ⟨a6,G,ag,ak,am,ar⟩:=jS qr;simp only [Aa,and_true] at G;obtain ⟨rfl,rfl,rfl⟩:=G;obtain ⟨ac,az,rfl,a8⟩:=kD.sl ak;obtain ⟨b4,ce,br,ab⟩:=DJ;go_upto_region 4 with fail;have FX:=yD (λ(W:Am) (hW:Qb wr W)=>kOb hW ap aq ay);refine kK (λW=>Qb wr W) [Tt,Tt,Tt,Tt,Tt,Ff,Tt,Tt,Tt,Tt,Tt,Tt,Tt,Ff,Tt,Tt,Tt,Tt,Tt,Tt,Tt,Tt,Ff,Tt,Tt,Tt,Tt,Tt,Tt,Tt,Tt,Tt,Tt,Tt,Tt,Tt,Tt,Tt,Tt,Ff,Tt,Tt] bG6 bG6 qY (bR.drew) ?_;intro wS E;iterate 5
    all_goals refine ky ?_
   all_goals first | refine wkB (yg (kD.raw.below ag E)) (λwS1 E=>?_) | refine ky ?_
   all_goals refine ky ?_
   all_goals (refine jy λb ax=>?_;cases b <;> try simp only [jw] at ax)
   iterate 5
    all_goals refine ky ?_
   all_goals first | refine wkC (yA) ?_ | refine ky ?_
   all_goals refine ky ?_
   all_goals refine ky ?_
   all_goals (refine jy λb V=>?_;cases b <;> try simp only [jw] at V)
   iterate 5
    all_goals refine ky ?_
   all_goals first | refine wkC (yA) ?_ | refine ky ?_
   all_goals refine ky ?_
   all_goals refine ky ?_
   all_goals (refine jy λb H=>?_;cases b <;> try simp only [jw] at H)
   iterate 13
    all_goals refine ky ?_
   all_goals first | refine wkB (kOm (kD.raw.below au.out E) (kD.raw.below ag E)) (λwS1 E=>?_) | refine ky ?_
   all_goals refine ky ?_
   all_goals (refine jy λb D=>?_;cases b <;> try simp only [jw] at D)
   all_goals refine kS ?_
   all_goals have EG:=o.trans (Below.mono E o.size)
   all_goals first
     | (have L:=yD (HB.out (show _=false by simp only [kGu,Ae,Ab,Ag,Ah,Ac,Ad,Ap,Aq,Ai,Aj,Ar,Bh,ax,V,H,D]));clear HB HX HN au;go_wp2;go_ret;exact ⟨kW L.out.symm,EG⟩)
     | (have L:=yD (HX.out (show _=true by simp only [kGu,Ae,Ab,Ag,Ah,Ac,Ad,Ap,Aq,Ai,Aj,Ar,Bh,ax,V,H,D]));clear HB HX HN au;go_wp2;go_roundw;(case rel=>exact ⟨k + 1,by omega,by go_num,L,EG⟩);(case measure=>simp [Bg];omega))
 have L:=yD (jAt HN.out hlt hk)
 go_wp2
 go_ret
 exact ⟨kW fG,o⟩
end Go.Proofs.YtjhfdpopkkmigabGreat

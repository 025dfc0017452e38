/-
  Data found by a node.
-/
import Derived.Test.YtjhfdpopkkmigabGreatSamePend
set_option linter.unusedVariables false
set_option linter.defProp false
set_option linter.unusedSimpArgs false
set_option linter.unnecessarySimpa false
set_option maxRecDepth 100000
set_option maxHeartbeats 4000000
open Bool renaming true->Tt,false->Ff
open Go.RowKit renaming frozen?_alloc_cells->Aa,intOf->Be
open Bool renaming not_false->Ab,and_false->Ac,false_and->Ad,not_true->Ag,and_true->Ah,true_and->Ai,or_false->Aj,false_or->Ak,or_true->Al,true_or->Am,not_not->Ap
open List.cons renaming injEq->Ae
open Go renaming World->Aq,Value->Ar,bodyPost_ret->Au,Calls->Ay
open _root_ renaming List->Av
open Int renaming natCast_nonneg->Aw,ofNat_lt->Ba
open Go.RowKit.Below renaming setCell->Az,mono->Bc
open Go.IntWalk renaming i64_in->Bb
open Go.IntKind renaming i64->Bd
namespace Go.Proofs.YtjhfdpopkkmigabGreat
open Go.RowKit _root_.Go.Proofs.Tryz
def lawssame_c {w:Aq} {va J:Ar} {a b:Av UInt8} (Z:(kD.slice 5 kD.byte).raw w [va] a) (a4:(kD.slice 5 kD.byte).raw w [J] b) :
    Ay prog 162 #[va,J] w (bQ w (.bool (decide (a=b)))):=by
 obtain ⟨aa,ao,rfl,la⟩:=kD.sl Z
 obtain ⟨ab,af,rfl,lb⟩:=kD.sl a4
 go_enter func162,ntmps162
 by_cases hl:a.length=b.length
 case neg =>
  exact o6
 obtain ⟨hz,bo⟩:=xW
 have HL:=yD hl;clear hl
 go_wp2
 go_loopw [5] (λi wr=>∃ k:Nat,k<=a.length/\i=.int .i64 k/\Hid (a.take k=b.take k)/\Qb w wr) (λi _=>a.length - (Be i).toNat)
 case atStart=>exact ⟨0,Nat.zero_le _,rfl,yD rfl,bR⟩
 obtain ⟨k,hk,rfl,HN,o⟩:=hrel
 by_cases hlt:k < a.length
 · have ad:k < b.length:=bB3;obtain ⟨ba,G,rfl,c0,hr,A0⟩:=kD.kCu (Z.below o) hlt rfl;obtain ⟨bb,H,rfl,d0,I,U⟩:=kD.kCu (a4.below o) ad rfl;have he:=kD.kRe hr;obtain rfl:c0=_:=by simpa using he
   have F:=kD.kRe I;obtain rfl:d0=_:=by simpa using F
   clear he F hr I;obtain ⟨hne,D⟩:=CG;generalize a[k]=x at *;generalize b[k]=y at *;have HD:=yD hne;have HX:=yD D;clear hne D;go_wp2_with fail;have FX:=yD (λ(W:Aq) (hW:Qb wr W)=>kIz hW A0 U);refine kK (λW=>Qb wr W) [Tt,Tt,Tt,Tt,Tt,Tt,Tt,Tt,Tt] bG6 bG6 qY (bR.drew) ?_;intro wS E;iterate 9
    all_goals refine ky ?_
   all_goals refine kS ?_
   have EG:=(tQ o E);cases hz:((x.toNat:Int)==(y.toNat:Int))
   · have L:=yD (show decide (a=b)=false by
       simp at hz;simp;exact HD.out (λq=>hz (by rw [q])))
     clear HD HX;go_wp2;go_ret;exact ⟨kW L.out.symm,EG⟩
   have L:=yD (HX.out (u8_inj bE5));clear HD HX;go_wp2;go_roundw;case rel=>exact ⟨k + 1,by omega,by go_num,L,EG⟩
   simp [Be];omega
 exact o7
def kUg {w:Aq} {cx:Av Ar} {x:jT} (hx:jI.raw w cx x) {cy:Av Ar} {y:jT} (hy:jI.raw w cy y) :
    Ay prog 97 #[.agg cx.toArray,.agg cy.toArray] w (bQ w (.bool (kVp x y))):=by
 have Hx:=yD hx
 obtain ⟨al,a9,a4,rfl,O,R,Y,ac,Z,ap,ao⟩:=jX hx
 obtain ⟨X,G,rfl,ak⟩:=kD.sl R
 obtain ⟨a2,a1,rfl,a8⟩:=kD.sl Y
 obtain ⟨ah,ag,rfl,a6⟩:=kD.sl Z
 have Hy:=yD hy
 obtain ⟨a5,bc,b1,rfl,aj,ai,am,av,aq,ax,a3⟩:=jX hy
 obtain ⟨ae,ad,rfl,a7⟩:=kD.sl ai
 obtain ⟨ba,bb,rfl,bd⟩:=kD.sl am
 obtain ⟨aw,az,rfl,bx⟩:=kD.sl aq
 go_enter func97,ntmps97
 go_upto_region 1 with fail
 generalize J:World.alloc (World.alloc w _) _=N
 obtain ⟨EB,I⟩:=CX
 obtain ⟨o,F,V,au⟩:=H7
 have D:Qc N (w.heap.size + 1) 0 (.slice ae (y.1).length ad):=wF
 have aa:Qc N (w.heap.size + 1) 1 (.slice ba (y.2.1).length bb):=wF
 have ab:Qc N (w.heap.size + 1) 2 (.slice aw (y.2.2.1).length az):=wF
 have ar:Qc N (w.heap.size + 1) 3 (.int .i64 y.2.2.2.1):=wF
 have ay:Qc N (w.heap.size + 1) 4 (.int .i64 y.2.2.2.2):=wF
 clear J
 have FX:=yD (λ(W:Aq) (hW:Qb N W)=>cLs10 hW I o F V au D aa ab ar ay)
 refine kr (λW=>Qb N W) [Tt,Tt,Tt,Tt,Ff,Tt,Tt,Tt,Tt,Tt,Ff,Tt,Tt,Tt,Tt,Tt,Tt,Ff,Tt,Tt,Tt,Tt,Tt,Tt,Tt,Tt,Tt,Tt,Tt,Tt,Tt,Tt,Tt,Tt] bR ?_
 intro wS E
 iterate 4
  all_goals refine ky ?_
 all_goals first | refine wkB (kAx (kD.raw.below O (tQ EB E)) (kD.raw.below aj (tQ EB E))) (λwS1 E=>?_) | refine ky ?_
 all_goals (refine jy λb c3=>?_;cases b <;> try simp only [jw] at c3)
 iterate 4
  all_goals refine ky ?_
 all_goals first | refine wkB (lawssame_c (kD.raw.below Y (tQ EB E)) (kD.raw.below am (tQ EB E))) (λwS1 E=>?_) | refine ky ?_
 all_goals refine ky ?_
 all_goals (refine jy λb af=>?_;cases b <;> try simp only [jw] at af)
 iterate 4
  all_goals refine ky ?_
 all_goals first | refine wkB (kAx (kD.raw.below ac (tQ EB E)) (kD.raw.below av (tQ EB E))) (λwS1 E=>?_) | refine ky ?_
 all_goals refine ky ?_
 all_goals (refine jy λb an=>?_;cases b <;> try simp only [jw] at an)
 iterate 6
  all_goals refine ky ?_
 all_goals (refine jy λb H=>?_;cases b <;> try simp only [jw] at H)
 iterate 6
  all_goals refine ky ?_
 all_goals (refine jy λb U=>?_;cases b <;> try simp only [jw] at U)
 all_goals refine kS ?_
 all_goals have EG:=(tQ EB E)
 all_goals first
   | (have L:=yD (show (kVp x y)=false by simp only [kVp,Ag,Ab,Ah,Ai,Ac,Ad,Al,Am,Aj,Ak,Ap,c3,af,an,H,U]);go_wp2;go_ret;exact ⟨kW L.out.symm,EG⟩)
   | (have L:=yD (show (kVp x y)=true by simp only [kVp,Ag,Ab,Ah,Ai,Ac,Ad,Al,Am,Aj,Ak,Ap,c3,af,an,H,U]);go_wp2;go_ret;exact ⟨kW L.out.symm,EG⟩)
def kGn {w:Aq} {cx:Av Ar} {x:jT} (hx:jI.raw w cx x) {cy:Av Ar} {y:jT} (hy:jI.raw w cy y) :
    Ay prog 97 #[.agg cx.toArray,.agg cy.toArray] w (bQ w (.bool (decide (x=y)))):=by
 have h:=kUg hx hy
 rw [vData_eq] at h
 exact h
def kSd {w:Aq} {va J:Ar} {a b:(Av jT)} (Z:(kD.slice 70 jI).raw w [va] a) (a4:(kD.slice 70 jI).raw w [J] b) :
    Ay prog 90 #[va,J] w (bQ w (.bool (decide (a=b)))):=by
 obtain ⟨aa,ao,rfl,la⟩:=kD.sl Z
 obtain ⟨ab,af,rfl,lb⟩:=kD.sl a4
 go_enter func90,ntmps90
 by_cases hl:a.length=b.length
 case neg =>
  exact o6
 obtain ⟨hz,bo⟩:=xW
 have HL:=yD hl;clear hl
 go_wp2
 go_loopw [5] (λi wr=>∃ k:Nat,k<=a.length/\i=.int .i64 k/\Hid (a.take k=b.take k)/\Qb w wr) (λi _=>a.length - (Be i).toNat)
 case atStart=>exact ⟨0,Nat.zero_le _,rfl,yD rfl,bR⟩
 obtain ⟨k,hk,rfl,HN,o⟩:=hrel
 by_cases hlt:k < a.length
 · have ad:k < b.length:=bB3;obtain ⟨pb,po,rfl,bm,cf,cd,df,cz,pr,al,au,ax,V,R⟩:=kD.get5 (Z.below o) (i:=k) bH3 rfl;obtain ⟨qb,qo,rfl,Y,ae,ah,b7,b9,qr,ap,aq,ay,bd,be⟩:=kD.get5 (a4.below o) (i:=k) bH3 rfl;obtain ⟨hne,D⟩:=CG;generalize a[k]=x at *;generalize b[k]=y at *;obtain ⟨HD,HX⟩:=AB;have H:=yD (vDatS_eq x y);clear hne D;obtain ⟨U,F,x2,x3,x4⟩:=x;obtain ⟨y0,y1,y2,y3,y4⟩:=y;obtain ⟨b8,bi,bz,aw,a7,bj,bw,b3,a5,a9,b2⟩:=jX pr;simp only [Ae,and_true] at aw;obtain ⟨rfl,rfl,rfl,rfl,rfl⟩:=aw;obtain ⟨a2,a3,rfl,cg⟩:=kD.sl bj;obtain ⟨dd,de,rfl,br⟩:=kD.sl bw;obtain ⟨co,dh,rfl,b4⟩:=kD.sl a5;obtain ⟨a6,bn,b5,G,ag,ak,am,ar,bk,bg,bp⟩:=jX qr;simp only [Ae,and_true] at G;obtain ⟨rfl,rfl,rfl,rfl,rfl⟩:=G;obtain ⟨ac,az,rfl,a8⟩:=kD.sl ak;obtain ⟨ai,bl,rfl,bt⟩:=kD.sl am;obtain ⟨aj,bf,rfl,cc⟩:=kD.sl bk;go_wp2_with fail;have FX:=yD (λ(W:Aq) (hW:Qb wr W)=>cLs10 hW al au ax V R ap aq ay bd be);refine kK (λW=>Qb wr W) [Tt,Tt,Tt,Tt,Tt,Tt,Tt,Tt,Ff,Tt] bG6 bG6 qY (bR.drew) ?_;intro wS E;iterate 8
    all_goals refine ky ?_
   all_goals first | refine wkB (kGn (kD.raw.below pr E) (kD.raw.below qr E)) (λwS1 E=>?_) | refine ky ?_
   all_goals (refine jy λb O=>?_;cases b <;> try simp only [jw] at O)
   all_goals refine kS ?_
   all_goals have EG:=(tQ o E)
   all_goals first
     | (have X:=H.out.symm.trans (show _=false by simp only [vDatS,Ag,Ab,Ah,Ai,Ac,Ad,Al,Am,Aj,Ak,Ap,O]);have L:=yD (HD.out X);clear X H HD HX;go_wp2;go_ret;exact ⟨kW L.out.symm,EG⟩)
     | (have X:=H.out.symm.trans (show _=true by simp only [vDatS,Ag,Ab,Ah,Ai,Ac,Ad,Al,Am,Aj,Ak,Ap,O]);have L:=yD (HX.out X);clear X H HD HX;go_wp2;go_roundw;(case rel=>exact ⟨k + 1,by omega,by go_num,L,EG⟩);(case measure=>simp [Be];omega))
 exact o7
def kWw {w:Aq} {va J:Ar} {a b:(Av jL)} (Z:(kD.slice 121 jD).raw w [va] a) (a4:(kD.slice 121 jD).raw w [J] b) :
    Ay prog 93 #[va,J] w (bQ w (.bool (decide (a=b)))):=by
 obtain ⟨aa,ao,rfl,la⟩:=kD.sl Z
 obtain ⟨ab,af,rfl,lb⟩:=kD.sl a4
 go_enter func93,ntmps93
 by_cases hl:a.length=b.length
 case neg =>
  exact o6
 obtain ⟨hz,bo⟩:=xW
 have HL:=yD hl;clear hl
 go_wp2
 go_loopw [5] (λi wr=>∃ k:Nat,k<=a.length/\i=.int .i64 k/\Hid (a.take k=b.take k)/\Qb w wr) (λi _=>a.length - (Be i).toNat)
 case atStart=>exact ⟨0,Nat.zero_le _,rfl,yD rfl,bR⟩
 obtain ⟨k,hk,rfl,HN,o⟩:=hrel
 by_cases hlt:k < a.length
 · have ad:k < b.length:=bB3;obtain ⟨pb,po,rfl,bm,cf,pr,al,au⟩:=kD.get2 (Z.below o) (i:=k) bH3 rfl;obtain ⟨qb,qo,rfl,Y,ae,qr,ap,aq⟩:=kD.get2 (a4.below o) (i:=k) bH3 rfl;obtain ⟨hne,D⟩:=CG;generalize a[k]=x at *;generalize b[k]=y at *;obtain ⟨HD,HX⟩:=AB;have H:=yD (vSeenS_eq x y);clear hne D;obtain ⟨U,F⟩:=x;obtain ⟨y0,y1⟩:=y;obtain ⟨b8,aw,a7,bj,bw⟩:=kBq pr;simp only [Ae,and_true] at aw;obtain ⟨rfl,rfl⟩:=aw;obtain ⟨a2,a3,rfl,cg⟩:=kD.sl bj;obtain ⟨a6,G,ag,ak,am⟩:=kBq qr;simp only [Ae,and_true] at G;obtain ⟨rfl,rfl⟩:=G;obtain ⟨ac,az,rfl,a8⟩:=kD.sl ak;go_wp2_with fail;have FX:=yD (λ(W:Aq) (hW:Qb wr W)=>kEe hW al au ap aq);refine kK (λW=>Qb wr W) [Tt,Tt,Tt,Tt,Tt,Tt,Tt,Tt,Tt,Tt,Tt,Tt,Tt,Tt,Tt,Tt,Tt,Tt,Tt,Tt,Tt,Tt,Ff,Tt,Tt] bG6 bG6 qY (bR.drew) ?_;intro wS E;iterate 11
    all_goals refine ky ?_
   all_goals (refine jy λb an=>?_;cases b <;> try simp only [jw] at an)
   iterate 10
    all_goals refine ky ?_
   all_goals first | refine wkB (kAx (kD.raw.below a7 E) (kD.raw.below ag E)) (λwS1 E=>?_) | refine ky ?_
   all_goals refine ky ?_
   all_goals (refine jy λb I=>?_;cases b <;> try simp only [jw] at I)
   all_goals refine kS ?_
   all_goals have EG:=(tQ o E)
   all_goals first
     | (have X:=H.out.symm.trans (show _=false by simp only [jAr,Ag,Ab,Ah,Ai,Ac,Ad,Al,Am,Aj,Ak,Ap,an,I]);have L:=yD (HD.out X);clear X H HD HX;go_wp2;go_ret;exact ⟨kW L.out.symm,EG⟩)
     | (have X:=H.out.symm.trans (show _=true by simp only [jAr,Ag,Ab,Ah,Ai,Ac,Ad,Al,Am,Aj,Ak,Ap,an,I]);have L:=yD (HX.out X);clear X H HD HX;go_wp2;go_roundw;(case rel=>exact ⟨k + 1,by omega,by go_num,L,EG⟩);(case measure=>simp [Be];omega))
 exact o7
def kUj {w:Aq} {ca cb:Av Ar} {a b:kz} (ha:kT.raw w ca a) (hb:kT.raw w cb b) :
    Ay prog 91 #[.agg ca.toArray,.agg cb.toArray] w (bQ w (.bool (vSt a b))):=by
 obtain ⟨av,rfl,bh,Z⟩:=jN ha
 obtain ⟨bv,rfl,an,a4⟩:=jN hb
 obtain ⟨aa,ao,rfl,la⟩:=kD.sl Z
 obtain ⟨ab,af,rfl,lb⟩:=kD.sl a4
 obtain ⟨a0,a1⟩:=a
 obtain ⟨b0,b1⟩:=b
 clear bh an ha hb
 go_enter func91,ntmps91
 go_upto_region 1 with fail
 generalize J:World.alloc (World.alloc w _) _=N
 have EB:Qb w N:=by rw [<- J];exact bI
 have K0:Qd N w 0 (.int .i64 a0):=wF
 have K1:Qd N w 1 (.slice aa a1.length ao):=wF
 have L0:Qc N (w.heap.size + 1) 0 (.int .i64 b0):=wF
 have L1:Qc N (w.heap.size + 1) 1 (.slice ab b1.length af):=wF
 clear J
 replace Z:=Z.below EB
 replace a4:=a4.below EB
 by_cases hc:a0=b0
 case neg =>
  have L:=yD (show vSt (a0,a1) (b0,b1)=false by simp [vSt,hc]);have hz:(a0 != b0)=true:=bE0;go_wp2;go_ret;exact ⟨kW L.out.symm,EB⟩
 have b6:(a0 != b0)=false:=bE0
 have HC:=yD hc;clear hc
 by_cases hl:a1.length=b1.length
 case neg =>
  have L:=yD (show vSt (a0,a1) (b0,b1)=false by simp [vSt];rintro _ rfl;exact hl rfl);have hz:((a1.length:Int) != b1.length)=true:=bG7;have bo:(a1.length != b1.length)=true:=bD8;go_wp2;go_ret;exact ⟨kW L.out.symm,EB⟩
 have hz:((a1.length:Int) != b1.length)=false:=bG7
 have bo:(a1.length != b1.length)=false:=bD8
 have HL:=yD hl;clear hl
 go_wp2
 go_loopw [5] (λi wr=>∃ k:Nat,k<=a1.length/\i=.int .i64 k/\Hid (a1.take k=b1.take k)/\Qb N wr) (λi _=>a1.length - (Be i).toNat)
 case atStart=>exact ⟨0,Nat.zero_le _,rfl,yD rfl,bR⟩
 obtain ⟨k,hk,rfl,HN,o⟩:=hrel
 replace K1:=cL o K1
 replace L1:=cL o L1
 by_cases hlt:k < a1.length
 · have ad:k < b1.length:=bB3;have cw:=Ba.2 hlt;have dl:=Ba.2 ad;have ce:=Aw k;obtain ⟨pb,po,rfl,bm,cf,cd,df,cz,d2,pr,al,au,ax,V,R,bb⟩:=kD.get6 (Z.below o) (i:=k) bH3 rfl;obtain ⟨qb,qo,rfl,Y,ae,ah,b7,b9,bx,qr,ap,aq,ay,bd,be,ba⟩:=kD.get6 (a4.below o) (i:=k) bH3 rfl;obtain ⟨hne,D⟩:=CG;generalize a1[k]=x at *;generalize b1[k]=y at *;have HD:Hid (decide (x=y)=false->vSt (a0,a1) (b0,b1)=false):=yD (λq=>by have:=hne bF8;simp [vSt,this]);have HX:Hid (decide (x=y)=true->a1.take (k + 1)=b1.take (k + 1)):=yD vT;have H:=yD (vCeS_eq x y);clear hne D;obtain ⟨U,F⟩:=x;obtain ⟨y0,y1⟩:=y;obtain ⟨b8,bi,bz,aw,a7,bj,bw,b3,a5,a9,b2,bc,c2⟩:=yO pr;simp only [Ae,and_true] at aw;obtain ⟨rfl,rfl,rfl,rfl,rfl,rfl⟩:=aw;obtain ⟨a2,a3,rfl,cg⟩:=kD.sl bw;obtain ⟨dd,de,rfl,br⟩:=kD.sl b3;obtain ⟨co,dh,rfl,b4⟩:=kD.sl a9;obtain ⟨a6,bn,b5,G,ag,ak,am,ar,bk,bg,bp,bu,bq⟩:=yO qr;simp only [Ae,and_true] at G;obtain ⟨rfl,rfl,rfl,rfl,rfl,rfl⟩:=G;obtain ⟨ac,az,rfl,a8⟩:=kD.sl am;obtain ⟨ai,bl,rfl,bt⟩:=kD.sl ar;obtain ⟨aj,bf,rfl,cc⟩:=kD.sl bg;go_upto_region 6 with fail;have FX:=yD (λ(W:Aq) (hW:Qb wr W)=>cLs14 hW K1 L1 al au ax V R bb ap aq ay bd be ba);refine kK (λW=>Qb wr W) [Tt,Tt,Tt,Tt,Tt,Tt,Tt,Tt,Tt,Tt,Tt,Tt,Tt,Tt,Tt,Tt,Tt,Tt,Tt,Tt,Tt,Tt,Tt,Tt,Tt,Tt,Ff,Tt,Tt] bG6 bG6 qY (bR.drew) ?_;intro wS E;iterate 13
    all_goals refine ky ?_
   all_goals (refine jy λb O=>?_;cases b <;> try simp only [jw] at O)
   iterate 12
    all_goals refine ky ?_
   all_goals first | refine wkB (kGn (kD.raw.below a7 E) (kD.raw.below ag E)) (λwS1 E=>?_) | refine ky ?_
   all_goals refine ky ?_
   all_goals (refine jy λb I=>?_;cases b <;> try simp only [jw] at I)
   all_goals refine kS ?_
   all_goals have EG:=(tQ o E)
   all_goals first
     | (have X:=H.out.symm.trans (show _=false by simp only [vCeS,Ag,Ab,Ah,Ai,Ac,Ad,Al,Am,Aj,Ak,Ap,O,I]);have L:=yD (HD.out X);clear X H HD HX;go_wp2;go_ret;exact ⟨kW L.out.symm,(tQ EB EG)⟩)
     | (have X:=H.out.symm.trans (show _=true by simp only [vCeS,Ag,Ab,Ah,Ai,Ac,Ad,Al,Am,Aj,Ak,Ap,O,I]);have L:=yD (HX.out X);clear X H HD HX;go_wp2;go_roundw;(case rel=>exact ⟨k + 1,by omega,by go_num,L,EG⟩);(case measure=>simp [Be];omega))
 have L:=yD (show vSt (a0,a1) (b0,b1)=true by have:=kBa HN.out hlt HL.out;have h2:=HC.out;subst this h2;simp [vSt])
 have du:¬ (k:Int) < a1.length:=bH3
 go_wp2
 go_ret
 exact ⟨kW L.out.symm,(tQ EB o)⟩
def kUk {w:Aq} {cx:Av Ar} {x:kz} (hx:kT.raw w cx x) {cy:Av Ar} {y:kz} (hy:kT.raw w cy y) :
    Ay prog 91 #[.agg cx.toArray,.agg cy.toArray] w (bQ w (.bool (decide (x=y)))):=by
 have h:=kUj hx hy
 rw [vSt_eq] at h
 exact h
def kWy {w:Aq} {cx:Av Ar} {x:jd} (hx:yB.raw w cx x) {cy:Av Ar} {y:jd} (hy:yB.raw w cy y) :
    Ay prog 33 #[.agg cx.toArray,.agg cy.toArray] w (bQ w (.bool (kVn x y))):=by
 have Hx:=yD hx
 obtain ⟨al,a4,ch,co,b9,b3,rfl,O,R,Y,ac,Z,ap,ao,a1,bz⟩:=yY hx
 obtain ⟨X,G,rfl,ak⟩:=kD.sl O
 obtain ⟨ah,ag,rfl,a6⟩:=kD.sl ac
 obtain ⟨bo,a8,rfl,b8⟩:=kD.sl Z
 obtain ⟨bi,bf,rfl,cg⟩:=kD.sl ap
 obtain ⟨bl,bj,rfl,ck⟩:=kD.sl ao
 obtain ⟨bc,be,rfl,cc⟩:=kD.sl a1
 have Hy:=yD hy
 obtain ⟨a5,b1,ce,b4,b6,cv,rfl,aj,ai,am,av,aq,ax,a3,a2,b0⟩:=yY hy
 obtain ⟨ae,ad,rfl,a7⟩:=kD.sl aj
 obtain ⟨aw,az,rfl,bx⟩:=kD.sl av
 obtain ⟨br,a9,rfl,b2⟩:=kD.sl aq
 obtain ⟨ba,bn,rfl,b5⟩:=kD.sl ax
 obtain ⟨bq,bv,rfl,cl⟩:=kD.sl a3
 obtain ⟨bd,bk,rfl,b7⟩:=kD.sl a2
 go_enter func33,ntmps33
 go_upto_region 1 with fail
 generalize J:World.alloc (World.alloc w _) _=N
 obtain ⟨EB,I⟩:=CX
 have o:Qd N w 1 (.int .i64 x.2.1.1):=wF
 have F:Qd N w 2 (.slice ah (x.2.1.2).length ag):=wF
 have V:Qd N w 3 (.slice bo (x.2.2.1).length a8):=wF
 have au:Qd N w 4 (.slice bi (x.2.2.2.1).length bf):=wF
 have bm:Qd N w 5 (.slice bl (x.2.2.2.2.1).length bj):=wF
 have bh:Qd N w 6 (.slice bc (x.2.2.2.2.2.1).length be):=wF
 have bg:Qd N w 7 (.int .i64 x.2.2.2.2.2.2):=wF
 have D:Qc N (w.heap.size + 1) 0 (.slice ae (y.1).length ad):=wF
 have aa:Qc N (w.heap.size + 1) 1 (.int .i64 y.2.1.1):=wF
 have ab:Qc N (w.heap.size + 1) 2 (.slice aw (y.2.1.2).length az):=wF
 have ar:Qc N (w.heap.size + 1) 3 (.slice br (y.2.2.1).length a9):=wF
 have ay:Qc N (w.heap.size + 1) 4 (.slice ba (y.2.2.2.1).length bn):=wF
 have bb:Qc N (w.heap.size + 1) 5 (.slice bq (y.2.2.2.2.1).length bv):=wF
 have bt:Qc N (w.heap.size + 1) 6 (.slice bd (y.2.2.2.2.2.1).length bk):=wF
 have bp:Qc N (w.heap.size + 1) 7 (.int .i64 y.2.2.2.2.2.2):=wF
 clear J
 have FX:=yD (λ(W:Aq) (hW:Qb N W)=>cLs16 hW I o F V au bm bh bg D aa ab ar ay bb bt bp)
 refine kr (λW=>Qb N W) [Tt,Tt,Tt,Tt,Ff,Tt,Tt,Tt,Tt,Tt,Ff,Tt,Tt,Tt,Tt,Tt,Tt,Ff,Tt,Tt,Tt,Tt,Tt,Tt,Ff,Tt,Tt,Tt,Tt,Tt,Tt,Ff,Tt,Tt,Tt,Tt,Tt,Tt,Ff,Tt,Tt,Tt,Tt,Tt,Tt,Tt,Tt,Tt] bR ?_
 intro wS E
 iterate 4
  all_goals refine ky ?_
 all_goals first | refine wkB (kSd (kD.raw.below O (tQ EB E)) (kD.raw.below aj (tQ EB E))) (λwS1 E=>?_) | refine ky ?_
 all_goals (refine jy λb c3=>?_;cases b <;> try simp only [jw] at c3)
 iterate 4
  all_goals refine ky ?_
 all_goals first | refine wkB (kUk (kD.raw.below R (tQ EB E)) (kD.raw.below ai (tQ EB E))) (λwS1 E=>?_) | refine ky ?_
 all_goals refine ky ?_
 all_goals (refine jy λb af=>?_;cases b <;> try simp only [jw] at af)
 iterate 4
  all_goals refine ky ?_
 all_goals first | refine wkB (kUi (kD.raw.below Z (tQ EB E)) (kD.raw.below aq (tQ EB E))) (λwS1 E=>?_) | refine ky ?_
 all_goals refine ky ?_
 all_goals (refine jy λb an=>?_;cases b <;> try simp only [jw] at an)
 iterate 4
  all_goals refine ky ?_
 all_goals first | refine wkB (kWw (kD.raw.below ap (tQ EB E)) (kD.raw.below ax (tQ EB E))) (λwS1 E=>?_) | refine ky ?_
 all_goals refine ky ?_
 all_goals (refine jy λb H=>?_;cases b <;> try simp only [jw] at H)
 iterate 4
  all_goals refine ky ?_
 all_goals first | refine wkB (kSe (kD.raw.below ao (tQ EB E)) (kD.raw.below a3 (tQ EB E))) (λwS1 E=>?_) | refine ky ?_
 all_goals refine ky ?_
 all_goals (refine jy λb U=>?_;cases b <;> try simp only [jw] at U)
 iterate 4
  all_goals refine ky ?_
 all_goals first | refine wkB (kXa (kD.raw.below a1 (tQ EB E)) (kD.raw.below a2 (tQ EB E))) (λwS1 E=>?_) | refine ky ?_
 all_goals refine ky ?_
 all_goals (refine jy λb bw=>?_;cases b <;> try simp only [jw] at bw)
 iterate 6
  all_goals refine ky ?_
 all_goals (refine jy λb bu=>?_;cases b <;> try simp only [jw] at bu)
 all_goals refine kS ?_
 all_goals have EG:=(tQ EB E)
 all_goals first
   | (have L:=yD (show (kVn x y)=false by simp only [kVn,Ag,Ab,Ah,Ai,Ac,Ad,Al,Am,Aj,Ak,Ap,c3,af,an,H,U,bw,bu]);go_wp2;go_ret;exact ⟨kW L.out.symm,EG⟩)
   | (have L:=yD (show (kVn x y)=true by simp only [kVn,Ag,Ab,Ah,Ai,Ac,Ad,Al,Am,Aj,Ak,Ap,c3,af,an,H,U,bw,bu]);go_wp2;go_ret;exact ⟨kW L.out.symm,EG⟩)
def kWz {w:Aq} {cx:Av Ar} {x:jd} (hx:yB.raw w cx x) {cy:Av Ar} {y:jd} (hy:yB.raw w cy y) :
    Ay prog 33 #[.agg cx.toArray,.agg cy.toArray] w (bQ w (.bool (decide (x=y)))):=by
 have h:=kWy hx hy
 rw [vNode_eq] at h
 exact h
def From (W w:Aq):Prop:=Qb W w
def From.below {W w w':Aq} (h:From W w) (b:Qb w w'):From W w':=Below.trans h (b.mono (Below.size h))
def jBt {w:Aq} {c0 c1 c2 c3:Ar} {x:jF} {S:Nat->Prop} (h:jO.jo w [c0,c1,c2,c3] x S):kN.jo w [c0] x.1 S:=by
 obtain ⟨a,d,he,h1,_⟩:=kD.kDp (r:=kN) (q:=.pair .int (.pair .int .int)) h;have G:=kN.len h1.1
 match a,G with
 | [v],_=>simp only [List.singleton_append,Ae] at he;obtain ⟨rfl,_⟩:=he;exact h1
def int_form {w:Aq} {cs:Av Ar} {x:jF} (h:jO.raw w cs x):∃ a c,cs=[.slice a x.1.length c,.int .i64 x.2.1,.int .i64 x.2.2.1,.int .i64 x.2.2.2]:=by
 obtain ⟨v,rfl,h0,h1,_⟩:=jY h;obtain ⟨a,c,rfl,_⟩:=kD.sl h1;exact ⟨a,c,rfl⟩
def kXv {w:Aq} {cs:Av Ar} {n:jd} {l:Av yR} {S:Nat->Prop} (h:kFx.own w cs (n,l) S) :
    ∃ a0 c0 a1 c1 a2 c2 a3 c3 a4 c4 a5 c5 oa oc,cs=[.slice a0 n.1.length c0,.int .i64 n.2.1.1,.slice a1 n.2.1.2.length c1,.slice a2 n.2.2.1.length c2,.slice a3 n.2.2.2.1.length c3,.slice a4 n.2.2.2.2.1.length c4,.slice a5 n.2.2.2.2.2.1.length c5,.int .i64 n.2.2.2.2.2.2,.slice oa l.length oc] /\
      yB.own w [Qs a0 n.1 c0,Qn n.2.1.1,Qs a1 n.2.1.2 c1,Qs a2 n.2.2.1 c2,Qs a3 n.2.2.2.1 c3,Qs a4 n.2.2.2.2.1 c4,Qs a5 n.2.2.2.2.2.1 c5,Qn n.2.2.2.2.2.2] n S/\(kD.slice 76 zg).own w [Qs oa l oc] l S:=by
 obtain ⟨a,d,A,B,he,h1,h2,hA,hB,_⟩:=kD.kDq (r:=yB) (q:=(kD.slice 76 zg)) h
 obtain ⟨a0,c0,a1,c1,a2,c2,a3,c3,a4,c4,a5,c5,rfl⟩:=kFo h1.raw
 obtain ⟨oa,oc,hd,_⟩:=kD.kBd h2.raw
 subst hd
 exact ⟨a0,c0,a1,c1,a2,c2,a3,c3,a4,c4,a5,c5,oa,oc,he,h1.wide hA,h2.wide hB⟩
def lawsat_c {w:Aq} {v:Ar} {N:Av UInt8} (an:(kD.slice 5 kD.byte).raw w [v] N) (hl:¬ (N.length:Int) > 1048576) {n:Nat} (hn:n<=1000) :
    Ay prog 10 #[v,.int .i64 n] w λe w'=>∃ k:Int,e=.returned (.int .i64 k)/\(0<=k/\k<=255)/\Qb w w':=by
 obtain ⟨ca,cc,rfl,_⟩:=kD.sl an
 go_enter func10,ntmps10
 by_cases h:n < N.length
 · have I:(n:Int) < N.length:=bH3;obtain ⟨ba,G,rfl,c0,hr,A0⟩:=kD.kCu an h rfl;have he:=kD.kRe hr;obtain rfl:c0=_:=by simpa using he
   clear he hr;have hb:=UInt8.toNat_lt N[n];go_wp2;go_ret;exact ⟨_,rfl,by omega,bR⟩
 have I:¬ (n:Int) < N.length:=bH3
 have h1:Bd.wrap ((n:Int) * 31)=(n:Int) * 31:=Bb _ bH3
 have h2:Bd.wrap ((N.length:Int) * 7)=(N.length:Int) * 7:=Bb _ bH3
 have h3:Bd.wrap ((n:Int) * 31 + (N.length:Int) * 7)=(n:Int) * 31 + (N.length:Int) * 7:=Bb _ bH3
 go_wp2
 go_ret
 exact ⟨_,rfl,by omega,bR⟩
def wrap_rng (z:Int):-9223372036854775808<=wrap64 z/\wrap64 z<=9223372036854775807:=by unfold wrap64;omega
def zI:jF:=([],0,0,0)
def kMu (x:jd):jd:=kZg x (wrap64 (x.2.2.2.2.2.2 + 1))
def kMt {U:Av jT} {F:kz} {x2:Av kF} {x3:Av jL} {x4:Av jA} {x5:Av kZ} {x6:Int}:kMu (U,F,x2,x3,x4,x5,x6)=(U,F,x2,x3,x4,x5,wrap64 (x6 + 1)):=rfl
def zI_own {w:Aq} {S:Nat->Prop}:jO.own w [.slice none 0 0,Qn 0,Qn 0,Qn 0] zI S :=
  kNj (kD.kDd (cs:=[.int .i64 0]) (kD.ku bH3) (kD.kDd (cs:=[.int .i64 0]) (kD.ku bH3) (kD.flat.own (kD.ku bH3))))
def out1_own {w:Aq} {f:Int} {dc:Av Ar} {D:jT} {S:Nat->Prop} (hf:Qi f) (h:jI.own w dc D S) :
    zg.own w ([.int .i64 f,.bool false,.slice none 0 0,.int .i64 0,.int .i64 0,.int .i64 0]++dc) (f,false,zI,D) S :=
  kD.kDd (r:=kD.int) (q:=kD.pair kD.bool (kD.pair jO jI)) (cs:=[.int .i64 f]) (kD.ku hf) (kD.kDd (r:=kD.bool) (q:=kD.pair jO jI) (cs:=[.bool false]) (kD.jAc false)
    (kD.jh (r:=jO) (q:=jI) (cs:=[.slice none 0 0,.int .i64 0,.int .i64 0,.int .i64 0]) (A:=λ_=>False) (B:=S) zI_own h (λ_ h=>h.elim) (λ_ h=>h) (λ_ h _=>h)))
def kKx {w:Aq} {c0 c1 c2 c3 c4 c5 L o v:Ar} {x:jd} {l:Av yR} {A B S:Nat->Prop} (h:yB.own w [c0,c1,c2,c3,c4,c5,L,o] x A) (k:(kD.slice 76 zg).own w [v] l B) (hA:∀ j,A j->S j) (hB:∀ j,B j->S j) (hd:∀ j,A j->B j->False) :
    kFx.own w [c0,c1,c2,c3,c4,c5,L,o,v] (x,l) S:=kD.jh (r:=yB) (q:=(kD.slice 76 zg)) (cs:=[c0,c1,c2,c3,c4,c5,L,o]) (ds:=[v]) h k hA hB hd
def own0_box {α:Type} {r:kD α} {w:Aq} {e:TypeId} {b:Nat} {cs:Av Ar} {y:α} {T:Nat->Prop} (hw:w.heap[b]?=some (.cells cs.toArray e (0,0))) (h:r.own w cs y T) (hT:¬ T b):kD.kQ e r w (.slice (some ⟨b,0,none⟩) 1 1) [y] (λk=>T k\/k=b):=by
 have hl:=r.len h.1;refine ⟨λx hx=>by rw [List.mem_singleton.1 hx];exact h.2,.inr ⟨b,1,cs.toArray,cs,[],rfl,by simp,by decide,hw,by simp,by simpa using hl,.inr rfl,?_⟩⟩;exact kD.kCx (r.wide h.1 (λk hk=>⟨.inl hk,λe=>hT (e ▸ hk)⟩))
def kKm {w:Aq} {c0 c1 c2 c3 c4 c5 L o:Ar} {U:Av jT} {F:kz} {x2:Av kF} {x3:Av jL} {x4:Av jA} {x5:Av kZ} {x6 y:Int} {S:Nat->Prop} (h:yB.own w [c0,c1,c2,c3,c4,c5,L,o] (U,F,x2,x3,x4,x5,x6) S) (hy:Qi y) :
    yB.own w [c0,c1,c2,c3,c4,c5,L,Qn y] (U,F,x2,x3,x4,x5,y) S:=⟨RNode_set7 y hy h.1,h.2⟩
def kWq {w:Aq} {c0 c1 c2 c3 c4 c5 L o:Ar} {U:Av jT} {F:kz} {x2:Av kF} {x3:Av jL} {x4:Av jA} {x5:Av kZ} {x6:Int} (h:yB.rd w [c0,c1,c2,c3,c4,c5,L,o] (U,F,x2,x3,x4,x5,x6)):(kD.slice 93 kH).rd w [c3] x2:=⟨kNk h.1,h.2.2.2.1⟩
def kOi {w:Aq} {cx:Av Ar} {x:jd} (hx:yB.rd w cx x) :
    Ay prog 38 #[.agg cx.toArray] w (zo kFx (kMu x,[]) w):=by
 obtain ⟨U,⟨xc,xe⟩,x2,x3,x4,x5,x6⟩:=x
 have HX:=yD hx
 obtain ⟨gb,gd,gv,gu,gs,gq,rfl,Z,ba,bq,bm,bj,bu,b2,dg,eg⟩:=yY hx.1
 obtain ⟨dx,dv,rfl,gl⟩:=kD.sl Z
 obtain ⟨dy,dw,rfl,gt⟩:=kD.sl bm
 obtain ⟨e7,e1,rfl,g8⟩:=kD.sl bj
 obtain ⟨e4,e0,rfl,hm⟩:=kD.sl bu
 obtain ⟨eu,er,rfl,hs⟩:=kD.sl b2
 obtain ⟨en,eh,rfl,hh⟩:=kD.sl dg
 clear hx
 clear Z ba bq bm bj bu b2 dg eg
 go_enter func38,ntmps38
 go_upto_region 1 with fail
 generalize G:World.alloc (World.alloc w _) _=w1
 have o:Qb w w1:=by rw [<- G];exact bI
 have BX:Qr w1 w.heap.size #[Qs dx U dv,Qn xc,Qs dy xe dw,Qs e7 x2 e1,Qs e4 x3 e0,Qs eu x4 er,Qs en x5 eh,Qn x6] 33:=vF
 have X:Qr w1 (w.heap.size + 1) #[.slice none 0 0,Qn 0,.slice none 0 0,.slice none 0 0,.slice none 0 0,.slice none 0 0,.slice none 0 0,Qn 0,.slice none 0 0] 43:=by rw [<- G];exact kG bH4
 have bo:w.heap.size + 2<=w1.heap.size:=bF4
 clear G
 obtain ⟨aa,ab,ae,ac,ah,ai,aj,am⟩:=yz BX
 go_wp2_with fail
 refine (kHi (HX.out.below o)).mono ?_
 rintro e V ⟨cs,rfl,O,hb⟩
 obtain ⟨bv,BX⟩:=J8
 obtain ⟨X,o⟩:=FH
 clear aa ab ae ac ah ai aj am
 clear hb
 obtain ⟨h3,ih,iz,iw,iu,ir,rfl,fi,fd,fy,fh,e6,fz,f0,f6,gm⟩:=yY O.raw
 obtain ⟨bf,bg,rfl,h0⟩:=kD.sl fi
 obtain ⟨cl,cw,rfl,im⟩:=kD.sl fh
 obtain ⟨dq,dt,rfl,iv⟩:=kD.sl e6
 obtain ⟨de,dd,rfl,i0⟩:=kD.sl fz
 obtain ⟨cd,cf,rfl,it⟩:=kD.sl f0
 obtain ⟨cg,ch,rfl,iq⟩:=kD.sl f6
 clear fi fd fy fh e6 fz f0 f6 gm
 go_upto_region 2 with fail
 have I:=yD O
 clear O
 replace I:=yD (I.out.wide (T:=(λj=>w.heap.size + 2<=j/\j < V.heap.size/\j≠V.heap.size)) gG)
 generalize G:World.alloc V _=w3
 have ad:Qb V w3:=tK
 have BO:Qr w3 V.heap.size #[Qs bf U bg,Qn xc,Qs cl xe cw,Qs dq x2 dt,Qs de x3 dd,Qs cd x4 cf,Qs cg x5 ch,Qn x6] 33:=wW
 have bt:V.heap.size + 1<=w3.heap.size:=bF4
 clear G
 replace BX:=kC BX ad
 obtain ⟨X,I,o⟩:=BI
 clear ad
 obtain ⟨N,J,ak,af,ax,a2,a1,a3⟩:=yz BO
 obtain ⟨ay,az,a6,a7,bc,bn,bl,bk⟩:=kIc BO
 go_upto_region 3 with fail
 generalize fr:wrap64 (x6 + 1)=y6
 have g7:Hid (Qi y6):=yD (by rw [<- fr];exact wrap_rng _)
 have HD:=yD (show kMu (U,(xc,xe),x2,x3,x4,x5,x6)=(U,(xc,xe),x2,x3,x4,x5,y6) by rw [kMt,fr])
 clear fr
 generalize G:World.setCell w3 _ _=w4
 have D:Touch (λk=>k=V.heap.size) w3 w4:=bB2
 replace BO:Qr w4 V.heap.size #[Qs bf U bg,Qn xc,Qs cl xe cw,Qs dq x2 dt,Qs de x3 dd,Qs cd x4 cf,Qs cg x5 ch,Qn y6] 33:=wP
 have b5:=D.size
 clear G
 obtain ⟨BX,X,I,o⟩:=FP
 clear N J ak af ax a2 a1 a3 ay az a6 a7 bc bn bl bk
 clear D
 replace I:=yD (kKm I.out g7.out)
 obtain ⟨N,J,ak,af,ax,a2,a1,a3⟩:=yz BO
 obtain ⟨au,aw,be,bd,bz,da,c9,df,db⟩:=zL X
 obtain ⟨ao,an,a9,bb,br,c4,c7,c5,c8⟩:=kBu X
 have F:(World.alloc w4 (.cells #[] 76)).frozen? ⟨w.heap.size + 1,0,none⟩=false:=(Aa _ _ _ _).trans ao
 have bh:(World.alloc w4 (.cells #[] 76)).cell? ⟨w.heap.size + 1,0,none⟩=some (.slice none 0 0):=kE (kC X (bR.alloc nL _)) rfl
 have H:(World.alloc w4 (.cells #[] 76)).frozen? ⟨w.heap.size + 1,1,none⟩=false:=(Aa _ _ _ _).trans an
 have a8:(World.alloc w4 (.cells #[] 76)).cell? ⟨w.heap.size + 1,1,none⟩=some (.int .i64 0):=kE (kC X (bR.alloc nL _)) rfl
 have Y:(World.alloc w4 (.cells #[] 76)).frozen? ⟨w.heap.size + 1,2,none⟩=false:=(Aa _ _ _ _).trans a9
 have a4:(World.alloc w4 (.cells #[] 76)).cell? ⟨w.heap.size + 1,2,none⟩=some (.slice none 0 0):=kE (kC X (bR.alloc nL _)) rfl
 have ar:(World.alloc w4 (.cells #[] 76)).frozen? ⟨w.heap.size + 1,3,none⟩=false:=(Aa _ _ _ _).trans bb
 have ap:(World.alloc w4 (.cells #[] 76)).cell? ⟨w.heap.size + 1,3,none⟩=some (.slice none 0 0):=kE (kC X (bR.alloc nL _)) rfl
 have al:(World.alloc w4 (.cells #[] 76)).frozen? ⟨w.heap.size + 1,4,none⟩=false:=(Aa _ _ _ _).trans br
 have R:(World.alloc w4 (.cells #[] 76)).cell? ⟨w.heap.size + 1,4,none⟩=some (.slice none 0 0):=kE (kC X (bR.alloc nL _)) rfl
 have aq:(World.alloc w4 (.cells #[] 76)).frozen? ⟨w.heap.size + 1,5,none⟩=false:=(Aa _ _ _ _).trans c4
 have ag:(World.alloc w4 (.cells #[] 76)).cell? ⟨w.heap.size + 1,5,none⟩=some (.slice none 0 0):=kE (kC X (bR.alloc nL _)) rfl
 have E:(World.alloc w4 (.cells #[] 76)).frozen? ⟨w.heap.size + 1,6,none⟩=false:=(Aa _ _ _ _).trans c7
 have bi:(World.alloc w4 (.cells #[] 76)).cell? ⟨w.heap.size + 1,6,none⟩=some (.slice none 0 0):=kE (kC X (bR.alloc nL _)) rfl
 have L:(World.alloc w4 (.cells #[] 76)).frozen? ⟨w.heap.size + 1,7,none⟩=false:=(Aa _ _ _ _).trans c5
 have av:(World.alloc w4 (.cells #[] 76)).cell? ⟨w.heap.size + 1,7,none⟩=some (.int .i64 0):=kE (kC X (bR.alloc nL _)) rfl
 have W:(World.alloc w4 (.cells #[] 76)).frozen? ⟨w.heap.size + 1,8,none⟩=false:=(Aa _ _ _ _).trans c8
 have a5:(World.alloc w4 (.cells #[] 76)).cell? ⟨w.heap.size + 1,8,none⟩=some (.slice none 0 0):=kE (kC X (bR.alloc nL _)) rfl
 go_wp2
 refine Au (v:=.agg #[Qs bf U bg,Qn xc,Qs cl xe cw,Qs dq x2 dt,Qs de x3 dd,Qs cd x4 cf,Qs cg x5 ch,Qn y6,.slice (some ⟨w4.heap.size,0,none⟩) 0 0]) (by simp [results,results38,go_sem,bh,F,a8,H,a4,Y,ap,ar,R,al,ag,aq,bi,E,av,L,a5,W]) rfl ⟨[Qs bf U bg,Qn xc,Qs cl xe cw,Qs dq x2 dt,Qs de x3 dd,Qs cd x4 cf,Qs cg x5 ch,Qn y6,.slice (some ⟨w4.heap.size,0,none⟩) 0 0],rfl,?_,?_⟩
 · rw [HD.out];exact kKx (A:=λj=>w.heap.size + 2<=j/\j < w4.heap.size/\j≠V.heap.size) (B:=λ_=>False) (((I.out.wide (T:=λj=>w.heap.size + 2<=j/\j < w4.heap.size/\j≠V.heap.size) qQ).below (bR.alloc nL _)).touch sT9 tC) kD.jm fF (λ_ h=>h.elim) (λ_ _ h=>h)
 exact o.trans (Below.trans (bR.alloc o.size _) (Touch.below sT9 (by simp;have:=o.size;omega) bD5))
def kQy (x:jF):jF:=if x.2.2.1 < 1 then x else kOs x (x.2.2.1 - 1)
def kIg (x:jF):Bool:=!decide (x.2.2.1 < 1)
def kOu {w:Aq} {c0 c1 c2 c3:Ar} {U:kg} {F x2 x3 h:Int} {S:Nat->Prop} (k:jO.own w [c0,c1,c2,c3] (U,F,x2,x3) S) (hh:-9223372036854775808<=h/\h<=9223372036854775807):jO.own w [c0,c1,.int .i64 h,c3] (U,F,h,x3) S :=
  ⟨kXx h hh k.1,k.2⟩
def kNv {w:Aq} {cx:Av Ar} {x:jF} (hx:jO.rd w cx x) :
    Ay prog 45 #[.agg cx.toArray] w λe w'=>∃ ds,e=.returned (.tuple #[.agg ds.toArray,.bool (kIg x)])/\jO.own w' ds (kQy x) (jb w.heap.size w'.heap.size)/\Below w.heap.size w w':=by
 obtain ⟨U,F,x2,x3⟩:=x
 have HX:=yD hx
 obtain ⟨ap,rfl,Y,R,aj,ai,al⟩:=jY hx.1
 obtain ⟨b8,Z,rfl,ar⟩:=kD.sl R
 have ag:-9223372036854775808<=x2/\x2<=9223372036854775807:=ai
 clear hx Y R aj ai al
 go_enter func45,ntmps45
 go_upto_region 1 with fail
 generalize G:World.alloc (World.alloc w _) _=w1
 obtain ⟨o,BX,X,bo⟩:=CF
 clear G
 obtain ⟨aa,ab,ae,ac⟩:=jZ BX
 go_wp2_with fail
 refine (kQa (HX.out.below o)).mono ?_
 rintro e V ⟨cs,rfl,O,hb⟩
 obtain ⟨bv,BX⟩:=J8
 obtain ⟨X,o⟩:=FH
 clear aa ab ae ac
 clear hb
 obtain ⟨h3,rfl,fi,fd,fy,fh,e6⟩:=jY O.raw
 obtain ⟨bf,bg,rfl,h0⟩:=kD.sl fd
 clear fi fd fy fh e6
 have I:=yD (O.wide (T:=(λj=>w.heap.size + 2<=j/\j < V.heap.size)) sS)
 clear O
 go_upto_region 2 with fail
 generalize G:World.alloc V _=w3
 obtain ⟨ad,BO,bt⟩:=G7
 clear G
 replace BX:=kC BX ad
 obtain ⟨X,I,o⟩:=BI
 clear ad
 by_cases hh:x2 < 1
 · have HD:=yD (show kQy (U,F,x2,x3)=(U,F,x2,x3) by unfold kQy;rw [if_pos hh]);have HK:=yD (show kIg (U,F,x2,x3)=false by unfold kIg;simp only;rw [decide_eq_true hh];rfl);obtain ⟨aa,ab,ae,ac⟩:=jZ BX;go_upto_region 3 with fail;clear aa ab ae ac;obtain ⟨N,J,ak,af⟩:=jZ BO;obtain ⟨au,aw,be,bd⟩:=jZ X;obtain ⟨ao,an,a9,bb⟩:=kAq X;go_wp2;refine Au (v:=.tuple #[.agg #[.slice bf U.length bg,.int .i64 F,.int .i64 x2,.int .i64 x3],.bool false]) gM rfl ⟨[.slice bf U.length bg,.int .i64 F,.int .i64 x2,.int .i64 x3],by rw [HK.out],?_,?_⟩
   · rw [HD.out];exact (I.out.touch sT4 tC).wide fP
   exact o.trans (Touch.below sT4 o.size bD5)
 obtain ⟨HD,HK⟩:=GJ
 obtain ⟨aa,ab,ae,ac⟩:=jZ BX
 go_upto_region 4 with fail
 clear aa ab ae ac
 obtain ⟨aa,ab,ae,ac⟩:=jZ BX
 obtain ⟨N,J,ak,af⟩:=jZ BO
 obtain ⟨ay,az,a6,a7⟩:=kAq BO
 go_upto_region 5 with fail
 generalize G:World.setCell w3 _ _=w4
 obtain ⟨D,BO,b5⟩:=FI
 clear G
 obtain ⟨BX,X,I,o⟩:=FP
 clear aa ab ae ac N J ak af ay az a6 a7
 clear D
 replace I:=yD (kOu I.out (h:=x2 - 1) bH3)
 obtain ⟨N,J,ak,af⟩:=jZ BO
 obtain ⟨au,aw,be,bd⟩:=jZ X
 obtain ⟨ao,an,a9,bb⟩:=kAq X
 go_wp2
 refine Au (v:=.tuple #[.agg #[.slice bf U.length bg,.int .i64 F,.int .i64 (x2 - 1),.int .i64 x3],.bool true]) gM rfl ⟨[.slice bf U.length bg,.int .i64 F,.int .i64 (x2 - 1),.int .i64 x3],by rw [HK.out],?_,?_⟩
 · rw [HD.out];exact (I.out.touch sT4 tC).wide fP
 exact o.trans (Touch.below sT4 o.size bD5)
def kNw {w:Aq} {cx:Av Ar} {x:jF} (hx:jO.rd w cx x) :
    Ay prog 28 #[.agg cx.toArray] w λe w'=>∃ ds,e=.returned (.tuple #[.agg ds.toArray,.bool (kIg x)])/\jO.own w' ds (kQy x) (jb w.heap.size w'.heap.size)/\Below w.heap.size w w':=by
 obtain ⟨U,F,x2,x3⟩:=x
 have HX:=yD hx
 obtain ⟨ap,rfl,Y,R,aj,ai,al⟩:=jY hx.1
 obtain ⟨b8,Z,rfl,ar⟩:=kD.sl R
 have ag:-9223372036854775808<=x2/\x2<=9223372036854775807:=ai
 clear hx Y R aj ai al
 go_enter func28,ntmps28
 go_upto_region 1 with fail
 generalize G:World.alloc (World.alloc w _) _=w1
 obtain ⟨o,BX,X,bo⟩:=CF
 clear G
 obtain ⟨aa,ab,ae,ac⟩:=jZ BX
 go_wp2_with fail
 refine (kHo (HX.out.below o)).mono ?_
 rintro e V ⟨cs,rfl,O,hb⟩
 obtain ⟨bv,BX⟩:=J8
 obtain ⟨X,o⟩:=FH
 clear aa ab ae ac
 clear hb
 obtain ⟨h3,rfl,fi,fd,fy,fh,e6⟩:=jY O.raw
 obtain ⟨bf,bg,rfl,h0⟩:=kD.sl fd
 clear fi fd fy fh e6
 have I:=yD (O.wide (T:=(λj=>w.heap.size + 2<=j/\j < V.heap.size)) sS)
 clear O
 go_upto_region 2 with fail
 generalize G:World.alloc V _=w3
 obtain ⟨ad,BO,bt⟩:=G7
 clear G
 replace BX:=kC BX ad
 obtain ⟨X,I,o⟩:=BI
 clear ad
 by_cases hh:x2 < 1
 · have HD:=yD (show kQy (U,F,x2,x3)=(U,F,x2,x3) by unfold kQy;rw [if_pos hh]);have HK:=yD (show kIg (U,F,x2,x3)=false by unfold kIg;simp only;rw [decide_eq_true hh];rfl);obtain ⟨aa,ab,ae,ac⟩:=jZ BX;go_upto_region 3 with fail;clear aa ab ae ac;obtain ⟨N,J,ak,af⟩:=jZ BO;obtain ⟨au,aw,be,bd⟩:=jZ X;obtain ⟨ao,an,a9,bb⟩:=kAq X;go_wp2;refine Au (v:=.tuple #[.agg #[.slice bf U.length bg,.int .i64 F,.int .i64 x2,.int .i64 x3],.bool false]) gN rfl ⟨[.slice bf U.length bg,.int .i64 F,.int .i64 x2,.int .i64 x3],by rw [HK.out],?_,?_⟩
   · rw [HD.out];exact (I.out.touch sT4 tC).wide fP
   exact o.trans (Touch.below sT4 o.size bD5)
 obtain ⟨HD,HK⟩:=GJ
 obtain ⟨aa,ab,ae,ac⟩:=jZ BX
 go_upto_region 4 with fail
 clear aa ab ae ac
 obtain ⟨aa,ab,ae,ac⟩:=jZ BX
 obtain ⟨N,J,ak,af⟩:=jZ BO
 obtain ⟨ay,az,a6,a7⟩:=kAq BO
 go_upto_region 5 with fail
 generalize G:World.setCell w3 _ _=w4
 obtain ⟨D,BO,b5⟩:=FI
 clear G
 obtain ⟨BX,X,I,o⟩:=FP
 clear aa ab ae ac N J ak af ay az a6 a7
 clear D
 replace I:=yD (kOu I.out (h:=x2 - 1) bH3)
 obtain ⟨N,J,ak,af⟩:=jZ BO
 obtain ⟨au,aw,be,bd⟩:=jZ X
 obtain ⟨ao,an,a9,bb⟩:=kAq X
 go_wp2
 refine Au (v:=.tuple #[.agg #[.slice bf U.length bg,.int .i64 F,.int .i64 (x2 - 1),.int .i64 x3],.bool true]) gN rfl ⟨[.slice bf U.length bg,.int .i64 F,.int .i64 (x2 - 1),.int .i64 x3],by rw [HK.out],?_,?_⟩
 · rw [HD.out];exact (I.out.touch sT4 tC).wide fP
 exact o.trans (Touch.below sT4 o.size bD5)
def fdD (n:kg) (t:Int) (x:jd):jT:=if idxOf (isD n) x.1 < 0 then lkD n t x.2.1.2 else x.1.getD (idxOf (isD n) x.1).toNat kLu
def kJr (n:kg) (t:Int) (x:jd):Bool:=if idxOf (isD n) x.1 < 0 then lkOk n t x.2.1.2 else true
def fd_no {n:kg} {t:Int} {x:jd} (h:idxOf (isD n) x.1 < 0):kJr n t x=lkOk n t x.2.1.2/\fdD n t x=lkD n t x.2.1.2:=by simp [kJr,fdD,h]
def fd_yes {n:kg} {t:Int} {x:jd} {j:Nat} (hj:j < x.1.length) (h:idxOf (isD n) x.1=j):kJr n t x=true/\fdD n t x=x.1[j]:=by
 unfold kJr fdD;rw [h,Int.toNat_natCast,ja hj,if_neg bH3,if_neg bH3];exact ⟨rfl,rfl⟩
def kZz {α:Type} {p:α->Bool} {x:Av α} (h:¬ idxOf p x < 0):∃ k:Nat,k < x.length/\idxOf p x=k:=by
 unfold idxOf at *;cases e:x.findIdx? p with
 | none=>rw [e] at h;simp at h
 | some i=>exact ⟨i,(List.findIdx?_eq_some_iff_getElem.1 e).1,rfl⟩
def kVz {w:Aq} {cx:Av Ar} {x:jd} (hx:yB.rd w cx x) {cn:Av Ar} {n:kg} (hn:kN.rd w cn n) {t:Int} (ht:Qi t) :
    Ay prog 40 #[.agg cx.toArray,.agg cn.toArray,.int .i64 t] w λe w'=>∃ ds,e=.returned (.tuple #[.agg ds.toArray,.bool (kJr n t x)])/\jI.own w' ds (fdD n t x) (jb w.heap.size w'.heap.size)/\Qb w w':=by
 clear ht
 have HN:=yD hn
 obtain ⟨q1,q2,q3⟩:=hx.2
 obtain ⟨gb,gd,gv,gu,gs,gq,rfl,Z,ba,bq,bm,bj,bu,b2,dg,eg⟩:=yY hx.1
 obtain ⟨dx,dv,rfl,_⟩:=kD.sl Z
 obtain ⟨dy,dw,rfl,_⟩:=kD.sl bm
 obtain ⟨e7,e1,rfl,_⟩:=kD.sl bj
 obtain ⟨e4,e0,rfl,_⟩:=kD.sl bu
 obtain ⟨eu,er,rfl,_⟩:=kD.sl b2
 obtain ⟨en,eh,rfl,_⟩:=kD.sl dg
 obtain ⟨E,H⟩:=IK
 clear hx q1 q2 q3 Z ba bq bm bj bu b2 dg eg
 obtain ⟨nv,rfl,a5⟩:=kX hn.1
 obtain ⟨an,au,rfl,_⟩:=kD.sl a5
 clear hn a5
 go_enter func40,ntmps40
 go_upto_region 1 with fail
 generalize J:World.alloc (World.alloc (World.alloc w _) _) _=N
 obtain ⟨EB,U,K0,K1,K2,N0,XR⟩:=CJ
 clear J
 go_wp2_with fail
 refine (kOk (E.out.1.below EB) (HN.out.1.below EB)).mono ?_
 rintro e w1 ⟨rfl,O⟩
 have E1:=(tQ EB O)
 have bf:=O.size
 obtain ⟨K0,K1,K2⟩:=DZ
 replace N0:=cL O N0
 replace XR:=yD (kC XR.out O)
 clear O EB
 by_cases hk:idxOf (isD n) x.1 < 0
 · have L:=yD (fd_no (t:=t) hk);have dl:¬ (0<=idxOf (isD n) x.1):=bH3;generalize hq:idxOf (isD n) x.1=q at *;clear hq;go_wp2_with fail;refine (kQd (H.out.below (E1.trans (Bc bI E1.size))) (HN.out.below (E1.trans (Bc bI E1.size))) (t:=t)).mono ?_;rintro e V ⟨cd,rfl,O2,af⟩;generalize hD:lkD n t x.2.1.2=D at *;have HD:=yD (L.out.2);clear hD;obtain ⟨v0,v1,v2,rfl,fl,d8,d7,fv,d9,fu,fn⟩:=jX O2.raw;obtain ⟨a0,p0,rfl,_⟩:=kD.sl d8;obtain ⟨a1,p1,rfl,_⟩:=kD.sl d7;obtain ⟨a2,p2,rfl,_⟩:=kD.sl d9;clear fl d8 d7 fv d9 fu fn;obtain ⟨EF,I,al,F⟩:=CE;clear O2 af E1 K0 K1 K2 N0 XR;obtain ⟨R0,F0,R1,F1,R2,F2,R3,F3,R4,F4⟩:=xG;go_wp2;refine Au (v:=.tuple #[.agg #[Qs a0 D.1 p0,Qs a1 D.2.1 p1,Qs a2 D.2.2.1 p2,Qn D.2.2.2.1,Qn D.2.2.2.2],.bool (lkOk n t x.2.1.2)]) fT rfl ⟨[_,_,_,_,_],by rw [L.out.1],?_,?_⟩
   · exact iU
   repeat (first|(with_reducible exact EF) | refine Az ?_ sP _)
 obtain ⟨k,hkl,ac⟩:=kZz hk
 have L:=yD (fd_yes (t:=t) hkl ac)
 rw [ac]
 clear hk ac
 have ce:=Aw k
 have dl:=Ba.2 hkl
 obtain ⟨qb,qo,rfl,Y,ae,ah,b7,b9,qr,ap,aq,ay,bd,be⟩:=kD.get5 (E.out.1.below E1) hkl rfl
 have o:=kD.yX E.out hkl
 clear E
 generalize x.1[k]=D at *
 have HD:=yD L.out.2
 obtain ⟨a6,bn,b5,G,ag,ak,am,ar,bk,bg,bp⟩:=jX qr
 simp only [Ae,and_true] at G
 obtain ⟨rfl,rfl,rfl,rfl,rfl⟩:=G
 have HR:=yD (show jI.rd w1 _ D from ⟨qr,o⟩)
 clear qr o ag ak am ar bk bg bp
 go_wp2_with fail
 refine (kBf (HR.out.below bI)).mono ?_
 rintro e V ⟨cd,rfl,O2,af⟩
 clear HR ap aq ay bd be
 obtain ⟨v0,v1,v2,rfl,fl,d8,d7,fv,d9,fu,fn⟩:=jX O2.raw
 obtain ⟨a0,p0,rfl,_⟩:=kD.sl d8
 obtain ⟨a1,p1,rfl,_⟩:=kD.sl d7
 obtain ⟨a2,p2,rfl,_⟩:=kD.sl d9
 clear fl d8 d7 fv d9 fu fn
 obtain ⟨EF,I,al,F⟩:=CE
 clear O2 af E1 K0 K1 K2 N0 XR
 obtain ⟨R0,F0,R1,F1,R2,F2,R3,F3,R4,F4⟩:=xG
 go_wp2
 refine Au (v:=.tuple #[.agg #[Qs a0 D.1 p0,Qs a1 D.2.1 p1,Qs a2 D.2.2.1 p2,Qn D.2.2.2.1,Qn D.2.2.2.2],.bool true]) fT rfl ⟨[_,_,_,_,_],by rw [L.out.1],?_,?_⟩
 · exact iU
 repeat (first|(with_reducible exact EF) | refine Az ?_ sP _)
def kXg {w:Aq} {cx:Av Ar} {x:jd} (hx:yB.rd w cx x) {cn:Av Ar} {n:kg} (hn:kN.rd w cn n) {t:Int} (ht:Qi t) :
    Ay prog 24 #[.agg cx.toArray,.agg cn.toArray,.int .i64 t] w λe w'=>∃ ds,e=.returned (.tuple #[.agg ds.toArray,.bool (kJr n t x)])/\jI.own w' ds (fdD n t x) (jb w.heap.size w'.heap.size)/\Qb w w':=by
 clear ht
 have HN:=yD hn
 obtain ⟨q1,q2,q3⟩:=hx.2
 obtain ⟨gb,gd,gv,gu,gs,gq,rfl,Z,ba,bq,bm,bj,bu,b2,dg,eg⟩:=yY hx.1
 obtain ⟨dx,dv,rfl,_⟩:=kD.sl Z
 obtain ⟨dy,dw,rfl,_⟩:=kD.sl bm
 obtain ⟨e7,e1,rfl,_⟩:=kD.sl bj
 obtain ⟨e4,e0,rfl,_⟩:=kD.sl bu
 obtain ⟨eu,er,rfl,_⟩:=kD.sl b2
 obtain ⟨en,eh,rfl,_⟩:=kD.sl dg
 obtain ⟨E,H⟩:=IK
 clear hx q1 q2 q3 Z ba bq bm bj bu b2 dg eg
 obtain ⟨nv,rfl,a5⟩:=kX hn.1
 obtain ⟨an,au,rfl,_⟩:=kD.sl a5
 clear hn a5
 go_enter func24,ntmps24
 go_upto_region 1 with fail
 generalize J:World.alloc (World.alloc (World.alloc w _) _) _=N
 obtain ⟨EB,U,K0,K1,K2,N0,XR⟩:=CJ
 clear J
 go_wp2_with fail
 refine (kYq (E.out.1.below EB) (HN.out.1.below EB)).mono ?_
 rintro e w1 ⟨rfl,O⟩
 have E1:=(tQ EB O)
 have bf:=O.size
 obtain ⟨K0,K1,K2⟩:=DZ
 replace N0:=cL O N0
 replace XR:=yD (kC XR.out O)
 clear O EB
 by_cases hk:idxOf (isD n) x.1 < 0
 · have L:=yD (fd_no (t:=t) hk);have dl:¬ (0<=idxOf (isD n) x.1):=bH3;generalize hq:idxOf (isD n) x.1=q at *;clear hq;go_wp2_with fail;refine (kQu (H.out.below (E1.trans (Bc bI E1.size))) (HN.out.below (E1.trans (Bc bI E1.size))) (t:=t)).mono ?_;rintro e V ⟨cd,rfl,O2,af⟩;generalize hD:lkD n t x.2.1.2=D at *;have HD:=yD (L.out.2);clear hD;obtain ⟨v0,v1,v2,rfl,fl,d8,d7,fv,d9,fu,fn⟩:=jX O2.raw;obtain ⟨a0,p0,rfl,_⟩:=kD.sl d8;obtain ⟨a1,p1,rfl,_⟩:=kD.sl d7;obtain ⟨a2,p2,rfl,_⟩:=kD.sl d9;clear fl d8 d7 fv d9 fu fn;obtain ⟨EF,I,al,F⟩:=CE;clear O2 af E1 K0 K1 K2 N0 XR;obtain ⟨R0,F0,R1,F1,R2,F2,R3,F3,R4,F4⟩:=xG;go_wp2;refine Au (v:=.tuple #[.agg #[Qs a0 D.1 p0,Qs a1 D.2.1 p1,Qs a2 D.2.2.1 p2,Qn D.2.2.2.1,Qn D.2.2.2.2],.bool (lkOk n t x.2.1.2)]) fU rfl ⟨[_,_,_,_,_],by rw [L.out.1],?_,?_⟩
   · exact iU
   repeat (first|(with_reducible exact EF) | refine Az ?_ sP _)
 obtain ⟨k,hkl,ac⟩:=kZz hk
 have L:=yD (fd_yes (t:=t) hkl ac)
 rw [ac]
 clear hk ac
 have ce:=Aw k
 have dl:=Ba.2 hkl
 obtain ⟨qb,qo,rfl,Y,ae,ah,b7,b9,qr,ap,aq,ay,bd,be⟩:=kD.get5 (E.out.1.below E1) hkl rfl
 have o:=kD.yX E.out hkl
 clear E
 generalize x.1[k]=D at *
 have HD:=yD L.out.2
 obtain ⟨a6,bn,b5,G,ag,ak,am,ar,bk,bg,bp⟩:=jX qr
 simp only [Ae,and_true] at G
 obtain ⟨rfl,rfl,rfl,rfl,rfl⟩:=G
 have HR:=yD (show jI.rd w1 _ D from ⟨qr,o⟩)
 clear qr o ag ak am ar bk bg bp
 go_wp2_with fail
 refine (kFc (HR.out.below bI)).mono ?_
 rintro e V ⟨cd,rfl,O2,af⟩
 clear HR ap aq ay bd be
 obtain ⟨v0,v1,v2,rfl,fl,d8,d7,fv,d9,fu,fn⟩:=jX O2.raw
 obtain ⟨a0,p0,rfl,_⟩:=kD.sl d8
 obtain ⟨a1,p1,rfl,_⟩:=kD.sl d7
 obtain ⟨a2,p2,rfl,_⟩:=kD.sl d9
 clear fl d8 d7 fv d9 fu fn
 obtain ⟨EF,I,al,F⟩:=CE
 clear O2 af E1 K0 K1 K2 N0 XR
 obtain ⟨R0,F0,R1,F1,R2,F2,R3,F3,R4,F4⟩:=xG
 go_wp2
 refine Au (v:=.tuple #[.agg #[Qs a0 D.1 p0,Qs a1 D.2.1 p1,Qs a2 D.2.2.1 p2,Qn D.2.2.2.1,Qn D.2.2.2.2],.bool true]) fU rfl ⟨[_,_,_,_,_],by rw [L.out.1],?_,?_⟩
 · exact iU
 repeat (first|(with_reducible exact EF) | refine Az ?_ sP _)
end Go.Proofs.YtjhfdpopkkmigabGreat

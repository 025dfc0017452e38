/-
  How long a node's lists are. No program in sight.
-/
import Derived.Test.YtjhfdpopkkmigabGreatEqData
set_option linter.unusedVariables false
set_option linter.defProp false
set_option linter.unusedSimpArgs false
set_option linter.unnecessarySimpa false
set_option maxRecDepth 100000
set_option maxHeartbeats 4000000
open Bool renaming true->Tt,false->Ff
open Bool renaming not_false->Aa,and_false->Ab,false_and->Ac,not_true->Ad,and_true->Ae,true_and->Ag,or_false->Ah,false_or->Ai,or_true->Aj,true_or->Ak,not_not->Al,noConfusion->Bc
open List.cons renaming injEq->Am
open Go renaming Value->Ap,World->Ar,bodyPost_ret->Ay,Calls->Az
open Go.RowKit.Below renaming setCell->Aq,trans->Aw,size->Ba
open _root_ renaming List->Au
open Int renaming natCast_nonneg->Av,toNat_natCast->Bb
open Go.RowKit renaming intOf->Bd
namespace Go.Proofs.YtjhfdpopkkmigabGreat
open Go.RowKit _root_.Go.Proofs.Tryz
def isD (n:kg) (x:jT):Bool:=eqN x.1 n
def fresh (t:Int) (x:jT):Bool:=decide (t<=x.2.2.2.1)
def kLo (n:kg) (t:Int) (x:jC):Bool:=eqN x.1.1 n && fresh t x.1
def kLu:jT:=([],[],[],0,0)
def lkD (n:kg) (t:Int) (l:Au jC):jT:=if idxOf (kLo n t) l < 0 then kLu else (l.getD (idxOf (kLo n t) l).toNat (kLu,0)).1
def lkOk (n:kg) (t:Int) (l:Au jC):Bool:=!decide (idxOf (kLo n t) l < 0)
def lk_no {n:kg} {t:Int} {l:List jC} (h:idxOf (kLo n t) l=-1):lkOk n t l=false/\lkD n t l=kLu:=by simp [lkOk,lkD,h]
def lk_yes {n:kg} {t:Int} {l:Au jC} {j:Nat} (hj:j < l.length) (h:idxOf (kLo n t) l=j):lkOk n t l=true/\lkD n t l=l[j].1:=by
 unfold lkOk lkD;rw [h,Bb,ja hj,if_neg bH3,decide_eq_false bH3];exact ⟨rfl,rfl⟩
def kNj {α β:Type} {e:TypeId} {r:kD α} {q:kD β} {w:Ar} {ds:Au Ap} {y:β} {S:Nat->Prop} (h:q.own w ds y S):(kD.pair (kD.slice e r) q).own w ([.slice none 0 0]++ds) ([],y) S :=
  kD.jh (A:=λ_=>False) (B:=S) kD.jm h (λ_ h=>h.elim) (λ_ h=>h) (λ_ h _=>h)
def kRp {w:Ar} {S:Nat->Prop}:jI.own w [.slice none 0 0,.slice none 0 0,.slice none 0 0,Qn 0,Qn 0] kLu S :=
  kNj (kNj (kNj (kD.jh (A:=λ_=>False) (B:=λ_=>False) (cs:=[.int .i64 0]) (ds:=[.int .i64 0]) (kD.flat.own (kD.ku (n:=0) bH3)) (kD.flat.own (kD.ku (n:=0) bH3)) (λ_ h=>h.elim) (λ_ h=>h.elim) (λ_ h _=>h))))
def kOk {w:Ar} {vl:Ap} {l:(Au jT)} (hl:(kD.slice 70 jI).raw w [vl] l) {cn:Au Ap} {n:kg} (hn:kN.raw w cn n) :
    Az prog 106 #[vl,.agg cn.toArray] w (bQ w (.int .i64 (idxOf (isD n) l))):=by
 obtain ⟨al,pl,rfl,ll⟩:=kD.sl hl
 have Hn:=yD hn
 obtain ⟨Z,rfl,V⟩:=kX hn
 obtain ⟨X,I,rfl,aa⟩:=kD.sl V
 go_enter func106,ntmps106
 go_wp2
 generalize J:World.alloc w _=N
 obtain ⟨EB,D⟩:=y8
 clear J
 replace hl:=hl.below EB
 go_loopw [5] (λi wr=>∃ k:Nat,k<=l.length/\i=.int .i64 k/\Hid (∀ j,(h:j < k)->(h2:j < l.length)->(isD n) l[j]=false)/\Qb N wr) (λi _=>l.length - (Bd i).toNat)
 case atStart=>exact ⟨0,Nat.zero_le _,rfl,yD (λ_ h=>by omega),bR⟩
 obtain ⟨k,hk,rfl,HN,o⟩:=hrel
 replace D:=cL o D
 by_cases hlt:k < l.length
 · obtain ⟨qb,qo,rfl,Y,ae,ah,b7,b9,qr,ap,aq,ay,bd,be⟩:=kD.get5 (hl.below o) (i:=k) bH3 rfl;obtain ⟨R,H⟩:=D5;generalize l[k]=x at *;have HD:=yD R;have HX:=yD H;clear R H;obtain ⟨U,F,x2,x3,x4⟩:=x;obtain ⟨a6,bn,b5,G,ag,ak,am,ar,bk,bg,bp⟩:=jX qr;simp only [Am,and_true] at G;obtain ⟨rfl,rfl,rfl,rfl,rfl⟩:=G;obtain ⟨ac,az,rfl,a8⟩:=kD.sl ak;obtain ⟨ai,bl,rfl,bt⟩:=kD.sl am;obtain ⟨aj,bf,rfl,cc⟩:=kD.sl bk;go_upto_region 4 with fail;have FX:=yD (λ(W:Ar) (hW:Qb wr W)=>kIy hW D ap aq ay bd be);refine kK (λW=>Qb wr W) [Tt,Tt,Tt,Tt,Tt,Tt,Ff] bG6 bG6 qY (bR.drew) ?_;intro wS E;iterate 6
    all_goals refine ky ?_
   all_goals first | refine wkB (jq (kD.raw.below ag E) (kD.raw.below Hn.out ((tQ EB (tQ o E))))) (λwS1 E=>?_) | refine ky ?_
   all_goals refine kS ?_
   all_goals cases cm:eqN U n
   all_goals have EG:=(tQ o E)
   all_goals first
     | (have L:=yD (HD.out (show _=true by simp only [isD,Ad,Aa,Ae,Ag,Ab,Ac,Aj,Ak,Ah,Ai,Al,cm]));clear HD HX;go_wp2;go_ret;exact ⟨jV L.out.symm,(tQ EB EG)⟩)
     | (have L:=yD (HX.out (show _=false by simp only [isD,Ad,Aa,Ae,Ag,Ab,Ac,Aj,Ak,Ah,Ai,Al,cm]));clear HD HX;go_wp2;go_roundw;(case rel=>exact ⟨k + 1,by omega,by go_num,L,EG⟩);(case measure=>simp [Bd];omega))
 exact iR
def kXd {w:Ar} {cx:Au Ap} {x:jT} (hx:jI.raw w cx x) {n:kg} {c7:Ap} {Bn:Nat} (nr:kN.raw w [c7] n) (U:Qc w Bn 0 c7) :
    Az prog 155 (#[.agg cx.toArray]++#[.pointer (some ⟨Bn,0,none⟩)]) w (bQ w (.bool (isD n x))):=by
 have Hx:=yD hx
 obtain ⟨al,a9,a4,rfl,O,R,Y,ac,Z,ap,ao⟩:=jX hx
 obtain ⟨X,G,rfl,ak⟩:=kD.sl R
 obtain ⟨a2,a1,rfl,a8⟩:=kD.sl Y
 obtain ⟨ah,ag,rfl,a6⟩:=kD.sl Z
 obtain ⟨H,av,a5⟩:=kX nr
 simp only [Am,and_true] at av
 obtain rfl:=av
 obtain ⟨du,ae,rfl,af⟩:=kD.sl a5
 show Az prog 155 #[_,_] w _
 go_enter func155,ntmps155
 go_upto_region 1 with fail
 generalize J:World.alloc w _=N
 obtain ⟨EB,I⟩:=CX
 obtain ⟨o,F,V,au⟩:=H7
 clear J
 replace U:=cL EB U
 have FX:=yD (λ(W:Ar) (hW:Qb N W)=>kIy hW I o F V au U)
 refine kr (λW=>Qb N W) [Tt,Tt,Tt,Ff,Tt] bR ?_
 intro wS E
 iterate 3
  all_goals refine ky ?_
 all_goals first | refine wkB (ze (kD.raw.below O (tQ EB E)) (kD.raw.below nr (tQ EB E))) (λwS1 E=>?_) | refine ky ?_
 all_goals (refine jy λb co=>?_;cases b <;> try simp only [jw] at co)
 all_goals refine kS ?_
 all_goals have EG:=(tQ EB E)
 all_goals first
   | (have L:=yD (show (isD n x)=false by simp only [isD,Ad,Aa,Ae,Ag,Ab,Ac,Aj,Ak,Ah,Ai,Al,co]);go_wp2;go_ret;exact ⟨kW L.out.symm,EG⟩)
   | (have L:=yD (show (isD n x)=true by simp only [isD,Ad,Aa,Ae,Ag,Ab,Ac,Aj,Ak,Ah,Ai,Al,co]);go_wp2;go_ret;exact ⟨kW L.out.symm,EG⟩)
def kJs:jK prog 155:=zP func155 bG6 bG6
def kYq {w:Ar} {vl:Ap} {l:(Au jT)} (hl:(kD.slice 70 jI).raw w [vl] l) {cn:Au Ap} {n:kg} (hn:kN.raw w cn n) :
    Az prog 81 #[vl,.agg cn.toArray] w (bQ w (.int .i64 (idxOf (isD n) l))):=by
 obtain ⟨al,pl,rfl,ll⟩:=kD.sl hl
 have Hn:=yD hn
 obtain ⟨Z,rfl,V⟩:=kX hn
 obtain ⟨X,I,rfl,aa⟩:=kD.sl V
 go_enter func81,ntmps81
 go_upto_region 1 with fail
 generalize J:World.alloc w _=N
 obtain ⟨EB,D⟩:=y8
 clear J
 go_wp2_with fail
 refine (kSx (isD n) kJs (kD.raw.below hl EB) ?_).mono ?_
 · intro wr hb i h cs hr;exact kXd hr (kD.raw.below Hn.out (tQ EB hb)) (cL hb D)
 exact iT
def kYl {w:Ar} {cx:Au Ap} {x:jT} (hx:jI.raw w cx x) {t:Int} :
    Az prog 165 #[.agg cx.toArray,.int .i64 t] w (bQ w (.bool (fresh t x))):=by
 obtain ⟨v0,v1,v2,rfl,Z,ba,bq,bm,bj,bu,b2⟩:=jX hx
 have L:=yD (show fresh t x=decide (t<=x.2.2.2.1) from rfl)
 clear hx Z ba bq bm bj bu b2
 go_enter func165,ntmps165
 go_wp2
 go_ret
 exact ⟨kW L.out.symm,bI⟩
def kYt {w:Ar} {cx:Au Ap} {x:jT} (hx:jI.raw w cx x) {t:Int} :
    Az prog 157 #[.agg cx.toArray,.int .i64 t] w (bQ w (.bool (fresh t x))):=by
 obtain ⟨v0,v1,v2,rfl,Z,ba,bq,bm,bj,bu,b2⟩:=jX hx
 have L:=yD (show fresh t x=decide (t<=x.2.2.2.1) from rfl)
 clear hx Z ba bq bm bj bu b2
 go_enter func157,ntmps157
 go_wp2
 go_ret
 exact ⟨kW L.out.symm,bI⟩
def kQd {w:Ar} {cs:Au Ap} {x:kz} (hx:kT.rd w cs x) {cn:Au Ap} {n:kg} (hn:kN.rd w cn n) {t:Int} :
    Az prog 108 #[.agg cs.toArray,.agg cn.toArray,.int .i64 t] w λe w'=>∃ ds,e=.returned (.tuple #[.agg ds.toArray,.bool (lkOk n t x.2)])/\jI.own w' ds (lkD n t x.2) (jb w.heap.size w'.heap.size)/\Qb w w':=by
 have HN:=yD hn
 obtain ⟨sv,rfl,e8,aw⟩:=jN hx.1
 have Z:=yD (show (kD.slice 127 jH).rd w [sv] x.2 from ⟨aw,hx.2.2⟩)
 obtain ⟨c,l⟩:=x
 have HL:Hid ((kD.slice 127 jH).rd w [sv] l):=Z
 clear Z
 obtain ⟨nv,rfl,a5⟩:=kX hn.1
 obtain ⟨an,au,rfl,ln⟩:=kD.sl a5
 obtain ⟨aa,ao,rfl,la⟩:=kD.sl aw
 clear hn hx a5 e8 aw
 show Az prog 108 _ w λe w'=>∃ ds,e=.returned (.tuple #[.agg ds.toArray,.bool (lkOk n t l)])/\jI.own w' ds (lkD n t l) (jb w.heap.size w'.heap.size)/\Qb w w'
 go_enter func108,ntmps108
 go_wp2
 generalize J:World.alloc (World.alloc (World.alloc w _) _) _=N
 obtain ⟨EB,U,K1,K2,XR⟩:=DR
 clear J
 replace HL:=yD (kD.rd.below HL.out EB)
 go_loopw [8] (λi wr=>∃ k:Nat,k<=l.length/\i=.int .i64 k/\Hid (∀ j,(h:j < k)->(h2:j < l.length)->kLo n t l[j]=false)/\Qb N wr) (λi _=>l.length - (Bd i).toNat)
 case atStart=>exact ⟨0,Nat.zero_le _,rfl,yD (λ_ h=>by omega),bR⟩
 obtain ⟨k,hk,rfl,HW,o⟩:=hrel
 replace K1:=cL o K1
 replace K2:=cL o K2
 replace XR:=yD (kC XR.out o)
 by_cases hlt:k < l.length
 · have X:=(kD.yX HL.out hlt).1;have ce:=Av k;have dl:=Int.ofNat_lt.2 hlt;obtain ⟨qb,qo,rfl,Y,ae,ah,b7,b9,bx,qr,ap,aq,ay,bd,be,ba⟩:=kD.get6 (HL.out.1.below o) (i:=k) bH3 rfl;have R:=λq=>lk_yes hlt (idxOf_hit (p:=kLo n t) hlt q HW.out);have H:=λq=>kAs (p:=kLo n t) hlt q HW.out;generalize l[k]=x at *;have HD:=yD R;have HX:=yD H;clear R H;obtain ⟨a6,bn,b5,G,ag,ak,am,ar,bk,bg,bp,bu,bq⟩:=yO qr;simp only [Am,and_true] at G;obtain ⟨rfl,rfl,rfl,rfl,rfl,rfl⟩:=G;obtain ⟨ac,az,rfl,a8⟩:=kD.sl am;obtain ⟨ai,bl,rfl,bt⟩:=kD.sl ar;obtain ⟨aj,bf,rfl,cc⟩:=kD.sl bg;have HR:=yD (show jI.rd wr _ x.1 from ⟨ag,X⟩);clear X;go_upto_region 4 with fail;have FX:=yD (λ(W:Ar) (hW:Qb wr W)=>cLs8 hW K1 K2 ap aq ay bd be ba);refine kK (λW=>Qb wr W) [Tt,Tt,Tt,Tt,Tt,Tt,Tt,Tt,Ff,Tt,Tt,Tt,Tt,Tt,Tt,Tt,Tt,Ff,Tt] bG6 bG6 qY (bR.drew) ?_;intro wS E;iterate 8
    all_goals refine ky ?_
   all_goals first | refine wkB (jq (kD.raw.below ak E) (HN.out.1.below ((tQ EB (tQ o E))))) (λwS1 E=>?_) | refine ky ?_
   all_goals (refine jy λb O=>?_;cases b <;> try simp only [jw] at O)
   iterate 7
    all_goals refine ky ?_
   all_goals first | refine wkB (kYl (kD.raw.below ag E)) (λwS1 E=>?_) | refine ky ?_
   all_goals (refine jy λb dr=>?_;cases b <;> try simp only [jw] at dr)
   all_goals refine kS ?_
   all_goals have EG:=(tQ EB (tQ o E))
   all_goals have av:w.heap.size + 3<=wr.heap.size:=bB5
   all_goals cases hv:kLo n t x
   all_goals first
     | (exfalso;simp only [kLo,Ad,Aa,Ae,Ag,Ab,Ac,Aj,Ak,Ah,Ai,Al,O,dr] at hv;exact Bc hv)
     | have L:=yD (HD.out hv)
     | have L:=yD (HX.out hv)
   all_goals clear HD HX hv
   all_goals first
     | (go_wp2;go_roundw;(case rel=>exact ⟨k + 1,by omega,by go_num,L,(tQ o E)⟩);(case measure=>simp [Bd];omega);done)
     | skip
   replace ap:=cL E ap;replace aq:=cL E aq;replace ay:=cL E ay;replace bd:=cL E bd;replace be:=cL E be;replace ba:=cL E ba;replace K1:=cL E K1;have RX:=HR.out.below E;have ax:=Ba E;have ab:=yD (kC (kC XR.out E) bR);clear E XR HR;go_wp2_with fail;refine (kBf (RX.below bI)).mono ?_;rintro e V ⟨cd,rfl,O2,af⟩;obtain ⟨v0,v1,v2,rfl,fl,d8,d7,fv,d9,fu,fn⟩:=jX O2.raw;obtain ⟨a0,p0,rfl,_⟩:=kD.sl d8;obtain ⟨a1,p1,rfl,_⟩:=kD.sl d7;obtain ⟨a2,p2,rfl,_⟩:=kD.sl d9;clear fl d8 d7 fv d9 fu fn;have EF:Qb w V:=EG.trans (Below.mono (Aw bI af) EG.size);have I:=yD O2;have al:=EG.size;have F:=kC ab.out (Aw bI af);clear O2 af RX ab EG;obtain ⟨R0,F0,R1,F1,R2,F2,R3,F3,R4,F4⟩:=xG;go_wp2;refine Ay (v:=.tuple #[.agg #[Qs a0 x.1.1 p0,Qs a1 x.1.2.1 p1,Qs a2 x.1.2.2.1 p2,Qn x.1.2.2.2.1,Qn x.1.2.2.2.2],.bool true]) fK rfl ⟨[_,_,_,_,_],by rw [L.out.1],?_,?_⟩
   · rw [L.out.2];exact (kD.own.out I.out fC).wide gB
   repeat (first|(with_reducible exact EF) | refine Aq ?_ sP _)
 obtain ⟨L,EG,F,du,R0,F0,R1,F1,R2,F2,R3,F3,R4,F4⟩:=AL
 go_wp2
 refine Ay (v:=.tuple #[.agg #[.slice none 0 0,.slice none 0 0,.slice none 0 0,Qn 0,Qn 0],.bool false]) fK rfl ⟨[_,_,_,_,_],by rw [L.out.1],?_,?_⟩
 · rw [L.out.2];exact kRp
 repeat (first|(with_reducible exact EG) | refine Aq ?_ sP _)
def kQu {w:Ar} {cs:Au Ap} {x:kz} (hx:kT.rd w cs x) {cn:Au Ap} {n:kg} (hn:kN.rd w cn n) {t:Int} :
    Az prog 83 #[.agg cs.toArray,.agg cn.toArray,.int .i64 t] w λe w'=>∃ ds,e=.returned (.tuple #[.agg ds.toArray,.bool (lkOk n t x.2)])/\jI.own w' ds (lkD n t x.2) (jb w.heap.size w'.heap.size)/\Qb w w':=by
 have HN:=yD hn
 obtain ⟨sv,rfl,e8,aw⟩:=jN hx.1
 have Z:=yD (show (kD.slice 127 jH).rd w [sv] x.2 from ⟨aw,hx.2.2⟩)
 obtain ⟨c,l⟩:=x
 have HL:Hid ((kD.slice 127 jH).rd w [sv] l):=Z
 clear Z
 obtain ⟨nv,rfl,a5⟩:=kX hn.1
 obtain ⟨an,au,rfl,ln⟩:=kD.sl a5
 obtain ⟨aa,ao,rfl,la⟩:=kD.sl aw
 clear hn hx a5 e8 aw
 show Az prog 83 _ w λe w'=>∃ ds,e=.returned (.tuple #[.agg ds.toArray,.bool (lkOk n t l)])/\jI.own w' ds (lkD n t l) (jb w.heap.size w'.heap.size)/\Qb w w'
 go_enter func83,ntmps83
 go_wp2
 generalize J:World.alloc (World.alloc (World.alloc w _) _) _=N
 obtain ⟨EB,U,K1,K2,XR⟩:=DR
 clear J
 replace HL:=yD (kD.rd.below HL.out EB)
 go_loopw [13] (λi wr=>∃ k:Nat,k<=l.length/\i=.int .i64 k/\Hid (∀ j,(h:j < k)->(h2:j < l.length)->kLo n t l[j]=false)/\Qb N wr) (λi _=>l.length - (Bd i).toNat)
 case atStart=>exact ⟨0,Nat.zero_le _,rfl,yD (λ_ h=>by omega),bR⟩
 obtain ⟨k,hk,rfl,HW,o⟩:=hrel
 replace K1:=cL o K1
 replace K2:=cL o K2
 replace XR:=yD (kC XR.out o)
 by_cases hlt:k < l.length
 · have X:=(kD.yX HL.out hlt).1;have ce:=Av k;have dl:=Int.ofNat_lt.2 hlt;obtain ⟨qb,qo,rfl,Y,ae,ah,b7,b9,bx,qr,ap,aq,ay,bd,be,ba⟩:=kD.get6 (HL.out.1.below o) (i:=k) bH3 rfl;have R:=λq=>lk_yes hlt (idxOf_hit (p:=kLo n t) hlt q HW.out);have H:=λq=>kAs (p:=kLo n t) hlt q HW.out;generalize l[k]=x at *;have HD:=yD R;have HX:=yD H;clear R H;obtain ⟨a6,bn,b5,G,ag,ak,am,ar,bk,bg,bp,bu,bq⟩:=yO qr;simp only [Am,and_true] at G;obtain ⟨rfl,rfl,rfl,rfl,rfl,rfl⟩:=G;obtain ⟨ac,az,rfl,a8⟩:=kD.sl am;obtain ⟨ai,bl,rfl,bt⟩:=kD.sl ar;obtain ⟨aj,bf,rfl,cc⟩:=kD.sl bg;have HR:=yD (show jI.rd wr _ x.1 from ⟨ag,X⟩);clear X;go_upto_region 4 with fail;generalize D:World.alloc wr _=wC;obtain ⟨EC,M0,M1,M2,M3,M4,M5⟩:=DX;replace K2:=cL EC K2;clear D;have FX:=yD (λ(W:Ar) (hW:Qb wC W)=>cLs7 hW K2 M0 M1 M2 M3 M4 M5);refine kr (λW=>Qb wC W) [Tt,Tt,Tt,Tt,Ff,Tt,Tt,Tt,Tt,Ff,Tt] bR ?_;intro wS E;iterate 4
    all_goals refine ky ?_
   all_goals first | refine wkB (ze (kD.raw.below ak (tQ EC E)) (HN.out.1.below ((tQ EB ((tQ o (tQ EC E))))))) (λwS1 E=>?_) | refine ky ?_
   all_goals (refine jy λb c3=>?_;cases b <;> try simp only [jw] at c3)
   iterate 3
    all_goals refine ky ?_
   all_goals first | refine wkB (kYt (kD.raw.below ag (tQ EC E))) (λwS1 E=>?_) | refine ky ?_
   all_goals (refine jy λb ad=>?_;cases b <;> try simp only [jw] at ad)
   all_goals refine kS ?_
   all_goals have EG:=(tQ EB ((tQ o (tQ EC E))))
   all_goals have av:w.heap.size + 3<=wr.heap.size:=bB5
   all_goals cases hv:kLo n t x
   all_goals first
     | (exfalso;simp only [kLo,Ad,Aa,Ae,Ag,Ab,Ac,Aj,Ak,Ah,Ai,Al,c3,ad] at hv;exact Bc hv)
     | have L:=yD (HD.out hv)
     | have L:=yD (HX.out hv)
   all_goals clear HD HX hv
   all_goals first
     | (go_wp2;go_roundw;(case rel=>exact ⟨k + 1,by omega,by go_num,L,((tQ o (tQ EC E)))⟩);(case measure=>simp [Bd];omega);done)
     | skip
   replace M0:=cL E M0;replace M1:=cL E M1;replace M2:=cL E M2;replace M3:=cL E M3;replace M4:=cL E M4;replace M5:=cL E M5;have RX:=HR.out.below (tQ EC E);have ax:=Ba (tQ EC E);have ab:=yD (kC (kC XR.out (tQ EC E)) bR);clear E XR HR;go_wp2_with fail;refine (kFc (RX.below bI)).mono ?_;rintro e V ⟨cd,rfl,O2,af⟩;obtain ⟨v0,v1,v2,rfl,fl,d8,d7,fv,d9,fu,fn⟩:=jX O2.raw;obtain ⟨a0,p0,rfl,_⟩:=kD.sl d8;obtain ⟨a1,p1,rfl,_⟩:=kD.sl d7;obtain ⟨a2,p2,rfl,_⟩:=kD.sl d9;clear fl d8 d7 fv d9 fu fn;have EF:Qb w V:=EG.trans (Below.mono (Aw bI af) EG.size);have I:=yD O2;have al:=EG.size;have F:=kC ab.out (Aw bI af);clear O2 af RX ab EG;obtain ⟨R0,F0,R1,F1,R2,F2,R3,F3,R4,F4⟩:=xG;go_wp2;refine Ay (v:=.tuple #[.agg #[Qs a0 x.1.1 p0,Qs a1 x.1.2.1 p1,Qs a2 x.1.2.2.1 p2,Qn x.1.2.2.2.1,Qn x.1.2.2.2.2],.bool true]) fV rfl ⟨[_,_,_,_,_],by rw [L.out.1],?_,?_⟩
   · rw [L.out.2];exact (kD.own.out I.out fC).wide gB
   repeat (first|(with_reducible exact EF) | refine Aq ?_ sP _)
 obtain ⟨L,EG,F,du,R0,F0,R1,F1,R2,F2,R3,F3,R4,F4⟩:=AL
 go_wp2
 refine Ay (v:=.tuple #[.agg #[.slice none 0 0,.slice none 0 0,.slice none 0 0,Qn 0,Qn 0],.bool false]) fV rfl ⟨[_,_,_,_,_],by rw [L.out.1],?_,?_⟩
 · rw [L.out.2];exact kRp
 repeat (first|(with_reducible exact EG) | refine Aq ?_ sP _)
def isK (n:kg) (k:kPr):Bool:=eqN k.1 n
def kBt (l:Au kPr) (n:kg):Int:=if idxOf (isK n) l < 0 then 0 else (l.getD (idxOf (isK n) l).toNat ([],0)).2
def kPf (l:Au kPr) (n:kg):Au UInt8:=if kBt l n=0 then [] else kFz (digest [kBt l n])
section
variable {l:Au kPr} {n:kg} {k:Nat}
def sec_yes (hk:k < l.length) (h:idxOf (isK n) l=k):kBt l n=l[k].2:=by
 unfold kBt;rw [h,Bb,ja hk,if_neg bH3]
def sec_rng {w:Ar} {vl:Ap} (hl:(kD.slice 190 kKy).raw w [vl] l):-9223372036854775808<=kBt l n/\kBt l n<=9223372036854775807:=by
 by_cases h:idxOf (isK n) l < 0
 · unfold kBt;rw [if_pos h];omega
 obtain ⟨j,hj,I⟩:=idxOf_ge h;rw [sec_yes hj I];obtain ⟨al,pl,rfl,ll⟩:=kD.sl hl;obtain ⟨qb,qo,E,Y,ae,qr,_,_⟩:=kD.get2 hl hj rfl;obtain ⟨v0,he,_,_,h3⟩:=kXw qr;exact h3
def keyDig_no (h:kBt l n=0):kPf l n=[]:=by unfold kPf;rw [if_pos h]
def keyDig_yes (h:¬ kBt l n=0):kPf l n=[]++kFz (digest [kBt l n]):=by unfold kPf;rw [if_neg h];rfl
def keyDig_len:(kPf l n).length<=6:=by
 unfold kPf;split
 · simp
 exact kJd _
end
def jAy {w:Ar} {vl:Ap} {l:(Au kPr)} (hl:(kD.slice 190 kKy).raw w [vl] l) {cn:Au Ap} {n:kg} (hn:kN.raw w cn n) :
    Az prog 225 #[vl,.agg cn.toArray] w (bQ w (.int .i64 (idxOf (isK n) l))):=by
 obtain ⟨al,pl,rfl,ll⟩:=kD.sl hl
 have Hn:=yD hn
 obtain ⟨Z,rfl,V⟩:=kX hn
 obtain ⟨X,I,rfl,aa⟩:=kD.sl V
 go_enter func225,ntmps225
 go_wp2
 generalize J:World.alloc w _=N
 obtain ⟨EB,D⟩:=y8
 clear J
 replace hl:=hl.below EB
 go_loopw [5] (λi wr=>∃ k:Nat,k<=l.length/\i=.int .i64 k/\Hid (∀ j,(h:j < k)->(h2:j < l.length)->(isK n) l[j]=false)/\Qb N wr) (λi _=>l.length - (Bd i).toNat)
 case atStart=>exact ⟨0,Nat.zero_le _,rfl,yD (λ_ h=>by omega),bR⟩
 obtain ⟨k,hk,rfl,HN,o⟩:=hrel
 replace D:=cL o D
 by_cases hlt:k < l.length
 · obtain ⟨qb,qo,rfl,Y,ae,qr,ap,aq⟩:=kD.get2 (hl.below o) (i:=k) bH3 rfl;obtain ⟨R,H⟩:=D5;generalize l[k]=x at *;have HD:=yD R;have HX:=yD H;clear R H;obtain ⟨U,F⟩:=x;obtain ⟨a6,G,ag,ak,am⟩:=kXw qr;simp only [Am,and_true] at G;obtain ⟨rfl,rfl⟩:=G;obtain ⟨ac,az,rfl,a8⟩:=kD.sl ak;go_upto_region 4 with fail;have FX:=yD (λ(W:Ar) (hW:Qb wr W)=>kOb hW D ap aq);refine kK (λW=>Qb wr W) [Tt,Tt,Tt,Tt,Tt,Tt,Ff] bG6 bG6 qY (bR.drew) ?_;intro wS E;iterate 6
    all_goals refine ky ?_
   all_goals first | refine wkB (jq (kD.raw.below ag E) (kD.raw.below Hn.out ((tQ EB (tQ o E))))) (λwS1 E=>?_) | refine ky ?_
   all_goals refine kS ?_
   all_goals cases cm:eqN U n
   all_goals have EG:=(tQ o E)
   all_goals first
     | (have L:=yD (HD.out (show _=true by simp only [isK,Ad,Aa,Ae,Ag,Ab,Ac,Aj,Ak,Ah,Ai,Al,cm]));clear HD HX;go_wp2;go_ret;exact ⟨jV L.out.symm,(tQ EB EG)⟩)
     | (have L:=yD (HX.out (show _=false by simp only [isK,Ad,Aa,Ae,Ag,Ab,Ac,Aj,Ak,Ah,Ai,Al,cm]));clear HD HX;go_wp2;go_roundw;(case rel=>exact ⟨k + 1,by omega,by go_num,L,EG⟩);(case measure=>simp [Bd];omega))
 exact iR
def kEr {w:Ar} {vl:Ap} {l:Au kPr} (hl:(kD.slice 190 kKy).raw w [vl] l) {cn:Au Ap} {n:kg} (hn:kN.raw w cn n) :
    Az prog 210 #[vl,.agg cn.toArray] w (bQ w (.int .i64 (kBt l n))):=by
 obtain ⟨al,pl,rfl,ll⟩:=kD.sl hl
 have HL:=yD hl;have HN:=yD hn
 obtain ⟨nv,rfl,a5⟩:=kX hn
 obtain ⟨an,au,rfl,ln⟩:=kD.sl a5
 clear hl hn a5
 go_enter func210,ntmps210
 go_upto_region 1 with fail
 generalize J:World.alloc w _=N
 have EB:Qb w N:=by rw [<- J];exact bI
 have K0:Qd N w 0 (.slice an n.length au):=wF
 clear J
 go_wp2_with fail
 refine (jAy (HL.out.below EB) (HN.out.below EB) (cn:=[.slice an n.length au])).mono ?_
 rintro e w1 ⟨rfl,hb⟩
 have E1:=(tQ EB hb)
 clear hb EB K0
 by_cases hi:idxOf (isK n) l < 0
 · have L:Hid (kBt l n=0):=yD (by unfold kBt;rw [if_pos hi]);go_wp2;go_ret;exact ⟨jV L.out.symm,E1⟩
 obtain ⟨j,hj,I⟩:=idxOf_ge hi
 have L:=yD (sec_yes hj I)
 obtain ⟨qb,qo,E,Y,ae,qr,ap,aq⟩:=kD.get2 (HL.out.below E1) hj rfl
 obtain rfl:=E
 rw [I]
 clear hi I
 generalize l[j]=x at *
 obtain ⟨U,F⟩:=x
 obtain ⟨v0,G,ag,ak,am⟩:=kXw qr
 simp only [Am,and_true] at G
 obtain ⟨rfl,rfl⟩:=G
 have c8:(j:Int) < l.length:=bH3
 have bz:¬ ((j:Int) < 0):=bH3
 have o:=Av j
 go_wp2
 go_ret
 exact ⟨jV L.out.symm,E1⟩
def kUe {w:Ar} {vl:Ap} {l:Au kPr} (hl:(kD.slice 190 kKy).raw w [vl] l) {cn:Au Ap} {n:kg} (hn:kN.raw w cn n) :
    Az prog 205 #[vl,.agg cn.toArray] w (kBx 5 kD.byte (kPf l n) w):=by
 obtain ⟨al,pl,rfl,ll⟩:=kD.sl hl
 have HL:=yD hl;have HN:=yD hn
 have HR:=yD (show I64q (kBt l n) from sec_rng hl)
 obtain ⟨nv,rfl,a5⟩:=kX hn
 obtain ⟨an,au,rfl,ln⟩:=kD.sl a5
 clear hl hn a5
 go_enter func205,ntmps205
 go_upto_region 1 with fail
 generalize J:World.alloc w _=N
 have EB:Qb w N:=by rw [<- J];exact bI
 have K0:Qd N w 0 (.slice an n.length au):=wF
 clear J
 go_wp2_with fail
 refine (kEr (HL.out.below EB) (HN.out.below EB) (cn:=[.slice an n.length au])).mono ?_
 rintro e w1 ⟨rfl,hb⟩
 have E1:=(tQ EB hb)
 clear hb EB K0
 by_cases h0:kBt l n=0
 · have L:=yD (keyDig_no h0);have D:(kBt l n==0)=true:=bE9;go_wp2;go_ret;exact ⟨_,rfl,(kD.kQ.void:kD.kQ 5 kD.byte _ _ [] _).cast L.out.symm,(by repeat (first|(with_reducible exact E1) | refine Below.alloc ?_ (by have:=Ba E1;simp;try omega) _ | refine Below.drew ?_ | refine Aq ?_ (by have:=Ba E1;simp;try omega) _))⟩
 have L:=yD (keyDig_yes h0)
 have D:(kBt l n==0)=false:=bE9
 generalize kBt l n=s at *
 have o:=((litq (w:=(w1.alloc (.cells #[] 5))) (x:=s) (e:=3) HR.out).own vL).raw
 have RV:=((kD.kQ.void (e:=5) (r:=kD.byte) (w:=World.alloc (w1.alloc (.cells #[] 5)) (.cells #[.int .i64 s] 3)) (a:=some ⟨w1.heap.size,0,none⟩) (S:=λ_=>False)).own (Nat.zero_le _)).rd
 clear h0
 go_wp2_with fail
 refine (kQc bG0).mono ?_
 rintro e V ⟨rfl,hw⟩
 obtain rfl:=hw.symm
 go_wp2_with fail
 refine (kEb RV).mono ?_
 rintro e w3 ⟨v3,rfl,O3,ap⟩
 obtain ⟨a3,n3,c3,Z,bg⟩:=O3.parts;obtain rfl:=Z
 have E3:Qb w w3:=E1.trans (Aw (by repeat (first|(with_reducible exact bR) | refine Below.alloc ?_ (by have:=E1.size;simp;try omega) _)) (ap.mono (by have:=E1.size;simp;omega)))
 have ai:=yD (O3.wide (T:=jb w.heap.size w3.heap.size) (λj hj=>⟨by have h1:=hj.1;have h2:=E1.size;(try simp at h1);omega,hj.2⟩))
 clear O3 ap o RV
 go_wp2
 go_ret
 exact ⟨_,rfl,ai.out.cast L.out.symm,E3⟩
def lenN (m:Nat) (x:jd):Prop :=
  (x.1.length<=m/\True)/\(True/\(x.2.1.2.length<=m/\True))/\(x.2.2.1.length<=m/\∀ y∈x.2.2.1,True/\(y.2.1.length<=m/\True))/\(x.2.2.2.1.length<=m/\True)/\(x.2.2.2.2.1.length<=m/\True)/\(x.2.2.2.2.2.1.length<=m/\True)/\True
def lenN.mono {m k:Nat} {x:jd} (h:lenN m x) (hk:m<=k):lenN k x:=by
 obtain ⟨⟨a,_⟩,⟨_,b,_⟩,⟨c,d⟩,⟨e,_⟩,⟨f,_⟩,⟨g,_⟩,_⟩:=h;exact ⟨⟨by omega,trivial⟩,⟨trivial,by omega,trivial⟩,⟨by omega,λy hy=>⟨trivial,by have:=(d y hy).2.1;omega,trivial⟩⟩,⟨by omega,trivial⟩,⟨by omega,trivial⟩,⟨by omega,trivial⟩,trivial⟩
def lenN_mk {m:Nat} {x:jd} (a:x.1.length<=m) (b:x.2.1.2.length<=m) (c:x.2.2.1.length<=m) (d:∀ y∈x.2.2.1,y.2.1.length<=m) (e:x.2.2.2.1.length<=m) (f:x.2.2.2.2.1.length<=m) (g:x.2.2.2.2.2.1.length<=m):lenN m x :=
  ⟨⟨a,trivial⟩,⟨trivial,b,trivial⟩,⟨c,λy hy=>⟨trivial,d y hy,trivial⟩⟩,⟨e,trivial⟩,⟨f,trivial⟩,⟨g,trivial⟩,trivial⟩
def lenT (t:kCd):Prop:=∀ k (h:k < t.2.2.2.length),t.2.2.2[k].2.1.length<=2000000
end Go.Proofs.YtjhfdpopkkmigabGreat

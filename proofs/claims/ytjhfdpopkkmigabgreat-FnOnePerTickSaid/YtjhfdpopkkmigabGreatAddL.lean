/-
  A node that produces data.
-/
import Derived.Test.YtjhfdpopkkmigabGreatVRoute
set_option linter.unusedVariables false
set_option linter.defProp false
set_option linter.unusedSimpArgs false
set_option linter.unnecessarySimpa false
set_option maxRecDepth 100000
set_option maxHeartbeats 4000000
open Bool renaming true->Tt,false->Ff
open Go renaming frozen_of_row->Aa,World->Aq,Value->Ar
open Bool renaming not_false->Ab,and_false->Ac,false_and->Ad,not_true->Ae,and_true->Ag,true_and->Ah,or_false->Ai,false_or->Aj,or_true->Ak,true_or->Al,not_not->Am
open List.cons renaming injEq->Ap
open _root_ renaming List->Au,ge_iff_le->Aw
open Go.RowKit.Below renaming size->Av
namespace Go.Proofs.YtjhfdpopkkmigabGreat
open Go.RowKit _root_.Go.Proofs.Tryz
def yf (n:kg) (f:Int) (m:kZ):Bool:=(m.2.1==f) && eqN m.1 n
def kFt {w:Aq} {vl:Ar} {l:(Au kZ)} (hl:(kD.slice 166 kR).raw w [vl] l) {cn:Au Ar} {n:kg} (hn:kN.raw w cn n) {f:Int} :
    Calls prog 195 #[vl,.agg cn.toArray,.int .i64 f] w (bQ w (.int .i64 (idxOf (yf n f) l))):=by
 obtain ⟨al,pl,rfl,ll⟩:=kD.sl hl
 have Hn:=yD hn
 obtain ⟨Z,rfl,V⟩:=kX hn
 obtain ⟨X,I,rfl,aa⟩:=kD.sl V
 go_enter func195,ntmps195
 go_wp2
 generalize J:World.alloc w _=N
 obtain ⟨EB,D⟩:=y8
 clear J
 replace hl:=hl.below EB
 go_loopw [7] (λi wr=>∃ k:Nat,k<=l.length/\i=.int .i64 k/\Hid (∀ j,(h:j < k)->(h2:j < l.length)->(yf n f) l[j]=false)/\Qb N wr) (λi _=>l.length - (intOf i).toNat)
 case atStart=>exact ⟨0,Nat.zero_le _,rfl,yD (λ_ h=>by omega),bR⟩
 obtain ⟨k,hk,rfl,HN,o⟩:=hrel
 replace D:=cL o D
 by_cases hlt:k < l.length
 · obtain ⟨qb,qo,rfl,Y,ae,ah,qr,ap,aq,ay⟩:=kD.kAn (hl.below o) (i:=k) bH3 rfl;obtain ⟨R,H⟩:=D5;generalize l[k]=x at *;have HD:=yD R;have HX:=yD H;clear R H;obtain ⟨U,F,x2⟩:=x;obtain ⟨a6,G,ag,ak,am,ar⟩:=yV qr;simp only [Ap,and_true] at G;obtain ⟨rfl,rfl,rfl⟩:=G;obtain ⟨ac,az,rfl,a8⟩:=kD.sl ak;go_upto_region 4 with fail;have FX:=yD (λ(W:Aq) (hW:Qb wr W)=>kEe hW D ap aq ay);refine kK (λW=>Qb wr W) [Tt,Tt,Tt,Tt,Tt,Tt,Tt,Tt,Tt,Tt,Tt,Tt,Tt,Tt,Ff,Tt] bG6 bG6 qY (bR.drew) ?_;intro wS E;iterate 7
    all_goals refine ky ?_
   all_goals (refine jy λb ax=>?_;cases b <;> try simp only [jw] at ax)
   iterate 6
    all_goals refine ky ?_
   all_goals first | refine wkB (jq (kD.raw.below ag E) (kD.raw.below Hn.out ((tQ EB (tQ o E))))) (λwS1 E=>?_) | refine ky ?_
   all_goals (refine jy λb cz=>?_;cases b <;> try simp only [jw] at cz)
   all_goals refine kS ?_
   all_goals have EG:=(tQ o E)
   all_goals first
     | (have L:=yD (HD.out (show _=true by simp only [yf,Ae,Ab,Ag,Ah,Ac,Ad,Ak,Al,Ai,Aj,Am,ax,cz]));clear HD HX;go_wp2;go_ret;exact ⟨jV L.out.symm,(tQ EB EG)⟩)
     | (have L:=yD (HX.out (show _=false by simp only [yf,Ae,Ab,Ag,Ah,Ac,Ad,Ak,Al,Ai,Aj,Am,ax,cz]));clear HD HX;go_wp2;go_roundw;(case rel=>exact ⟨k + 1,by omega,by go_num,L,EG⟩);(case measure=>simp [intOf];omega))
 exact iR
def kQs {w:Aq} {Y:Au Ar} {m:kZ} (hm:kR.raw w Y m) {f:Int} {R:Nat} (G:Qc w R 0 (.int .i64 f)) {n:kg} {c7:Ar} {Bn:Nat} (nr:kN.raw w [c7] n) (U:Qc w Bn 0 c7) :
    Calls prog 201 (#[.agg Y.toArray]++#[.pointer (some ⟨R,0,none⟩),.pointer (some ⟨Bn,0,none⟩)]) w (bQ w (.bool (yf n f m))):=by
 have Hm:=yD hm
 obtain ⟨X,rfl,O,F,Z,V⟩:=yV hm
 obtain ⟨o,I,rfl,ac⟩:=kD.sl F
 obtain ⟨H,av,a5⟩:=kX nr
 simp only [Ap,and_true] at av
 obtain rfl:=av
 obtain ⟨du,ae,rfl,af⟩:=kD.sl a5
 show Calls prog 201 #[_,_,_] w _
 go_enter func201,ntmps201
 go_upto_region 1 with fail
 generalize J:World.alloc w _=N
 have EB:Qb w N:=by rw [<- J];exact bI
 have D:Qd N w 0 (.slice o (m.1).length I):=wF
 have aa:Qd N w 1 (.int .i64 m.2.1):=wF
 have ab:Qd N w 2 (.int .i64 m.2.2):=wF
 clear J
 replace G:=cL EB G
 replace U:=cL EB U
 have FX:=yD (λ(W:Aq) (hW:Qb N W)=>cLs5 hW D aa ab G U)
 refine kr (λW=>Qb N W) [Tt,Tt,Tt,Tt,Tt,Tt,Tt,Tt,Ff,Tt,Tt] bR ?_
 intro wS E
 iterate 4
  all_goals refine ky ?_
 all_goals (refine jy λb co=>?_;cases b <;> try simp only [jw] at co)
 iterate 3
  all_goals refine ky ?_
 all_goals first | refine wkB (ze (kD.raw.below O (tQ EB E)) (kD.raw.below nr (tQ EB E))) (λwS1 E=>?_) | refine ky ?_
 all_goals refine ky ?_
 all_goals (refine jy λb ad=>?_;cases b <;> try simp only [jw] at ad)
 all_goals refine kS ?_
 all_goals have EG:=(tQ EB E)
 all_goals first
   | (have L:=yD (show (yf n f m)=false by simp only [yf,Ae,Ab,Ag,Ah,Ac,Ad,Ak,Al,Ai,Aj,Am,co,ad]);go_wp2;go_ret;exact ⟨kW L.out.symm,EG⟩)
   | (have L:=yD (show (yf n f m)=true by simp only [yf,Ae,Ab,Ag,Ah,Ac,Ad,Ak,Al,Ai,Aj,Am,co,ad]);go_wp2;go_ret;exact ⟨kW L.out.symm,EG⟩)
def kHq:jK prog 201:=zP func201 bG6 bG6
def kSi {w:Aq} {vl:Ar} {l:(Au kZ)} (hl:(kD.slice 166 kR).raw w [vl] l) {cn:Au Ar} {n:kg} (hn:kN.raw w cn n) {f:Int} :
    Calls prog 173 #[vl,.agg cn.toArray,.int .i64 f] w (bQ w (.int .i64 (idxOf (yf n f) l))):=by
 obtain ⟨al,pl,rfl,ll⟩:=kD.sl hl
 have Hn:=yD hn
 obtain ⟨Z,rfl,V⟩:=kX hn
 obtain ⟨X,I,rfl,aa⟩:=kD.sl V
 go_enter func173,ntmps173
 go_upto_region 1 with fail
 generalize J:World.alloc (World.alloc w _) _=N
 obtain ⟨EB,D⟩:=y8
 have o:Qc N (w.heap.size + 1) 0 (.int .i64 f):=wF
 clear J
 go_wp2_with fail
 refine (kJw (yf n f) kHq (kD.raw.below hl EB) ?_).mono ?_
 · intro wr hb i h cs hr;exact kQs hr (cL hb o) (kD.raw.below Hn.out (tQ EB hb)) (cL hb D)
 exact iT
def kKj (l:Au kZ) (k:Nat) (x:kZ):Bool:=!(!kAp x.1 || (!inR x.2.1 1 6 || (!inR x.2.2 1 50 || decide (idxOf (yf x.1 x.2.1) (l.take k) ≥ 0))))
def kRr (l:Au kZ):Bool:=zi (λj=>kKj l j (l.getD j ([],0,0))) l.length && decide (l.length<=24)
def vMeass_bad {l:Au kZ} {k:Nat} (h:k < l.length) (q:kKj l k l[k]=false):kRr l=false:=by
 unfold kRr;rw [kDe h rT];rfl
def vMeass_next {l:Au kZ} {k:Nat} (h:k < l.length) (q:kKj l k l[k]=true) (a:zi (λj=>kKj l j (l.getD j ([],0,0))) k=true):zi (λj=>kKj l j (l.getD j ([],0,0))) (k + 1)=true :=
  kBe a rT
def vMeass_good {l:Au kZ} {k:Nat} (q:zi (λj=>kKj l j (l.getD j ([],0,0))) k=true) (h:¬ k < l.length) (hk:k<=l.length):kRr l=decide (l.length<=24):=by
 obtain rfl:k=l.length:=bH3;unfold kRr;rw [q];rfl
def kJi {w:Aq} {vl:Ar} {l:Au kZ} (hl:(kD.slice 166 kR).raw w [vl] l) :
    Calls prog 209 #[vl] w (bQ w (.bool (kRr l))):=by
 obtain ⟨al,pl,rfl,ll⟩:=kD.sl hl
 have b0:=kD.kCt hl
 go_enter func209,ntmps209
 go_wp2
 go_loopw [3] (λi wr=>∃ k:Nat,k<=l.length/\i=.int .i64 k/\Hid (zi (λj=>kKj l j (l.getD j ([],0,0))) k=true)/\Qb w wr) (λi _=>l.length - (intOf i).toNat)
 case atStart=>exact ⟨0,Nat.zero_le _,rfl,yD rfl,bR⟩
 obtain ⟨k,hk,rfl,HN,o⟩:=hrel
 by_cases hlt:k < l.length
 · obtain ⟨qb,qo,rfl,Y,ae,ah,qr,ap,aq,ay⟩:=kD.kAn (hl.below o) (i:=k) bH3 rfl;have au:=yD (kD.kGa (hl.below o) hk);have hb:=λq=>vMeass_bad hlt q;have hx:=λq=>vMeass_next hlt q HN.out;generalize l[k]=x at *;have HB:=yD hb;have HX:=yD hx;clear hb hx;obtain ⟨U,F,x2⟩:=x;obtain ⟨a6,G,ag,ak,am,ar⟩:=yV qr;simp only [Ap,and_true] at G;obtain ⟨rfl,rfl,rfl⟩:=G;obtain ⟨ac,az,rfl,a8⟩:=kD.sl ak;obtain ⟨b4,ce,br,ab⟩:=DJ;go_upto_region 4 with fail;have FX:=yD (λ(W:Aq) (hW:Qb wr W)=>kOb hW ap aq ay);refine kK (λW=>Qb wr W) [Tt,Tt,Tt,Tt,Tt,Ff,Tt,Tt,Tt,Tt,Tt,Tt,Tt,Ff,Tt,Tt,Tt,Tt,Tt,Tt,Tt,Tt,Ff,Tt,Tt,Tt,Tt,Tt,Tt,Tt,Tt,Tt,Tt,Tt,Tt,Tt,Tt,Tt,Tt,Ff,Tt,Tt] bG6 bG6 qY (bR.drew) ?_;intro wS E;iterate 5
    all_goals refine ky ?_
   all_goals first | refine wkB (yg (kD.raw.below ag E)) (λwS1 E=>?_) | refine ky ?_
   all_goals refine ky ?_
   all_goals (refine jy λb ax=>?_;cases b <;> try simp only [jw] at ax)
   iterate 5
    all_goals refine ky ?_
   all_goals first | refine wkC (yA) ?_ | refine ky ?_
   all_goals refine ky ?_
   all_goals refine ky ?_
   all_goals (refine jy λb V=>?_;cases b <;> try simp only [jw] at V)
   iterate 5
    all_goals refine ky ?_
   all_goals first | refine wkC (yA) ?_ | refine ky ?_
   all_goals refine ky ?_
   all_goals refine ky ?_
   all_goals (refine jy λb H=>?_;cases b <;> try simp only [jw] at H)
   iterate 13
    all_goals refine ky ?_
   all_goals first | refine wkB (kFt (kD.raw.below au.out E) (kD.raw.below ag E)) (λwS1 E=>?_) | refine ky ?_
   all_goals refine ky ?_
   all_goals (refine jy λb D=>?_;cases b <;> try simp only [jw] at D)
   all_goals refine kS ?_
   all_goals have EG:=o.trans (Below.mono E o.size)
   all_goals first
     | (have L:=yD (HB.out (show _=false by simp only [kKj,Ae,Ab,Ag,Ah,Ac,Ad,Ak,Al,Ai,Aj,Am,Aw,ax,V,H,D]));clear HB HX HN au;go_wp2;go_ret;exact ⟨kW L.out.symm,EG⟩)
     | (have L:=yD (HX.out (show _=true by simp only [kKj,Ae,Ab,Ag,Ah,Ac,Ad,Ak,Al,Ai,Aj,Am,Aw,ax,V,H,D]));clear HB HX HN au;go_wp2;go_roundw;(case rel=>exact ⟨k + 1,by omega,by go_num,L,EG⟩);(case measure=>simp [intOf];omega))
 have L:=yD (vMeass_good HN.out hlt hk)
 go_wp2
 go_ret
 exact ⟨kW fG,o⟩
def kQm (l:Au jT) (k:Nat) (x:jT):Bool:=!(!kKk x || decide (idxOf (isD x.1) (l.take k) ≥ 0))
def restN (x:jd):Bool:=(((((decide ((x.1.length:Int)<=8) && kLv x.2.1) && kRq x.2.2.1) && kCo x.2.2.2.2.1) && kRr x.2.2.2.2.2.1) && decide ((x.2.2.2.1.length:Int)<=24)) && decide (0<=x.2.2.2.2.2.2)
def kFp (x:jd):Bool:=zi (λj=>kQm x.1 j (x.1.getD j kLu)) x.1.length && restN x
def nodeOk_bad {x:jd} {k:Nat} (h:k < x.1.length) (q:kQm x.1 k x.1[k]=false):kFp x=false:=by
 unfold kFp;rw [kDe h rT];rfl
def nodeOk_next {l:Au jT} {k:Nat} (h:k < l.length) (q:kQm l k l[k]=true) (a:zi (λj=>kQm l j (l.getD j kLu)) k=true):zi (λj=>kQm l j (l.getD j kLu)) (k + 1)=true :=
  kBe a rT
def nodeOk_good {x:jd} {k:Nat} (q:zi (λj=>kQm x.1 j (x.1.getD j kLu)) k=true) (h:¬ k < x.1.length) (hk:k<=x.1.length):kFp x=restN x:=by
 obtain rfl:k=x.1.length:=bH3;unfold kFp;rw [q];rfl
def kUa {w:Aq} {cx:Au Ar} {x:jd} (hx:yB.raw w cx x) :
    Calls prog 177 #[.agg cx.toArray] w (bQ w (.bool (kFp x))):=by
 obtain ⟨gb,gd,gv,gu,gs,gq,rfl,Z,ba,bq,bm,bj,bu,b2,dg,eg⟩:=yY hx
 obtain ⟨dx,dv,rfl,gl⟩:=kD.sl Z
 obtain ⟨dy,dw,rfl,gt⟩:=kD.sl bm
 obtain ⟨e7,e1,rfl,g8⟩:=kD.sl bj
 obtain ⟨e4,e0,rfl,hm⟩:=kD.sl bu
 obtain ⟨eu,er,rfl,hs⟩:=kD.sl b2
 obtain ⟨en,eh,rfl,hh⟩:=kD.sl dg
 have hl:=Z
 have b0:=kD.kCt hl
 have H1:=yD ba
 have H4:=yD bj
 have H6:=yD b2
 have U:=yD dg
 clear hx Z ba bq bm bj bu b2 dg eg
 go_enter func177,ntmps177
 go_wp2
 generalize J:World.alloc w _=N
 obtain ⟨EB,K0,K1,K2,K3,K4,K5,K6,K7⟩:=xJ
 clear J
 replace hl:=hl.below EB
 go_loopw [3] (λi wr=>∃ k:Nat,k<=x.1.length/\i=.int .i64 k/\Hid (zi (λj=>kQm x.1 j (x.1.getD j kLu)) k=true)/\Qb N wr) (λi _=>x.1.length - (intOf i).toNat)
 case atStart=>exact ⟨0,Nat.zero_le _,rfl,yD rfl,bR⟩
 obtain ⟨k,hk,rfl,HN,o⟩:=hrel
 obtain ⟨K0,K1⟩:=IJ
 replace K2:=cL o K2
 replace K3:=cL o K3
 replace K4:=cL o K4
 replace K5:=cL o K5
 replace K6:=cL o K6
 replace K7:=cL o K7
 by_cases hlt:k < x.1.length
 · have au:=yD (kD.kGa (hl.below o) hk);have hb:=λq=>nodeOk_bad (x:=x) hlt q;have F:=λq=>nodeOk_next hlt q HN.out;obtain ⟨qb,qo,rfl,Y,ae,ah,b7,b9,qr,ap,aq,ay,bd,be⟩:=kD.get5 (hl.below o) (i:=k) bH3 rfl;generalize x.1[k]=z at *;have HB:=yD hb;have HX:=yD F;clear hb F;obtain ⟨a6,bn,b5,G,ag,ak,am,ar,bk,bg,bp⟩:=jX qr;simp only [Ap,and_true] at G;obtain ⟨rfl,rfl,rfl,rfl,rfl⟩:=G;obtain ⟨ac,az,rfl,a8⟩:=kD.sl ak;obtain ⟨ai,bl,rfl,bt⟩:=kD.sl am;obtain ⟨aj,bf,rfl,cc⟩:=kD.sl bk;have b4:=Int.ofNat_lt.2 hlt;have ce:=Int.natCast_nonneg k;have br:(k:Int)<=(dv:Int):=bH3;have ab:k<=dv:=bH3;go_upto_region 4 with fail;have FX:=yD (λ(W:Aq) (hW:Qb wr W)=>kIy hW K0 ap aq ay bd be);refine kK (λW=>Qb wr W) [Tt,Tt,Tt,Tt,Tt,Ff,Tt,Tt,Tt,Tt,Tt,Tt,Tt,Tt,Tt,Tt,Tt,Tt,Ff,Tt,Tt] bG6 bG6 qY (bR.drew) ?_;intro wS E;iterate 5
    all_goals refine ky ?_
   all_goals first | refine wkB (kDw (kD.raw.below qr E)) (λwS1 E=>?_) | refine ky ?_
   all_goals refine ky ?_
   all_goals (refine jy λb ax=>?_;cases b <;> try simp only [jw] at ax)
   iterate 10
    all_goals refine ky ?_
   all_goals first | refine wkB (kOk (kD.raw.below au.out E) (kD.raw.below ag E)) (λwS1 E=>?_) | refine ky ?_
   all_goals refine ky ?_
   all_goals (refine jy λb D=>?_;cases b <;> try simp only [jw] at D)
   all_goals refine kS ?_
   all_goals have EG:=(tQ o E)
   all_goals first
     | (have L:=yD (HB.out (show _=false by simp only [kQm,Ae,Ab,Ag,Ah,Ac,Ad,Ak,Al,Ai,Aj,Am,Aw,ax,D]));clear HB HX HN au;go_wp2;go_ret;exact ⟨kW L.out.symm,(tQ EB EG)⟩)
     | (have L:=yD (HX.out (show _=true by simp only [kQm,Ae,Ab,Ag,Ah,Ac,Ad,Ak,Al,Ai,Aj,Am,Aw,ax,D]));clear HB HX HN au;go_wp2;go_roundw;(case rel=>exact ⟨k + 1,by omega,by go_num,L,EG⟩);(case measure=>simp [intOf];omega))
 have L:=yD (nodeOk_good (x:=x) HN.out hlt hk)
 have du:¬ (k:Int) < x.1.length:=bH3
 go_upto_region 6 with fail
 have FX:=yD (λ(W:Aq) (hW:Qb wr W)=>cLs8 hW K0 K1 K2 K3 K4 K5 K6 K7)
 refine kr (λW=>Qb wr W) [Tt,Tt,Tt,Tt,Tt,Tt,Tt,Ff,Tt,Tt,Tt,Tt,Ff,Tt,Tt,Tt,Tt,Ff,Tt,Tt,Tt,Tt,Ff,Tt,Tt,Tt,Tt,Tt,Tt,Tt,Tt,Tt,Tt,Tt,Tt,Tt] bR ?_
 intro wS E
 iterate 4
  all_goals refine ky ?_
 all_goals (refine jy λb co=>?_;cases b <;> try simp only [jw] at co)
 all_goals refine ky ?_
 all_goals refine ky ?_
 all_goals first | refine wkB (kJj (kD.raw.below H1.out ((tQ EB o).trans (E.mono (Av (tQ EB o)))))) (λwS1 E=>?_) | refine ky ?_
 all_goals refine ky ?_
 all_goals (refine jy λb O=>?_;cases b <;> try simp only [jw] at O)
 all_goals refine ky ?_
 all_goals refine ky ?_
 all_goals first | refine wkB (kOw (kD.raw.below H4.out ((tQ EB o).trans (E.mono (Av (tQ EB o)))))) (λwS1 E=>?_) | refine ky ?_
 all_goals refine ky ?_
 all_goals (refine jy λb d6=>?_;cases b <;> try simp only [jw] at d6)
 all_goals refine ky ?_
 all_goals refine ky ?_
 all_goals first | refine wkB (kEp (kD.raw.below H6.out ((tQ EB o).trans (E.mono (Av (tQ EB o)))))) (λwS1 E=>?_) | refine ky ?_
 all_goals refine ky ?_
 all_goals (refine jy λb an=>?_;cases b <;> try simp only [jw] at an)
 all_goals refine ky ?_
 all_goals refine ky ?_
 all_goals first | refine wkB (kJi (kD.raw.below U.out ((tQ EB o).trans (E.mono (Av (tQ EB o)))))) (λwS1 E=>?_) | refine ky ?_
 all_goals refine ky ?_
 all_goals (refine jy λb I=>?_;cases b <;> try simp only [jw] at I)
 iterate 5
  all_goals refine ky ?_
 all_goals (refine jy λb H=>?_;cases b <;> try simp only [jw] at H)
 iterate 4
  all_goals refine ky ?_
 all_goals (refine jy λb R=>?_;cases b <;> try simp only [jw] at R)
 all_goals refine kS ?_
 all_goals have EG:=(tQ EB (tQ o E))
 all_goals first
   | (have X:=yD (show kFp x=false by rw [L.out];simp only [restN,Ae,Ab,Ag,Ah,Ac,Ad,Ak,Al,Ai,Aj,Am,co,O,d6,an,I,H,R]);go_wp2;go_ret;exact ⟨kW X.out.symm,EG⟩)
   | (have X:=yD (show kFp x=true by rw [L.out];simp only [restN,Ae,Ab,Ag,Ah,Ac,Ad,Ak,Al,Ai,Aj,Am,co,O,d6,an,I,H,R]);go_wp2;go_ret;exact ⟨kW X.out.symm,EG⟩)
def Touch.cellAt {S:Nat->Prop} {w w':Aq} {b i:Nat} {v:Ar} (h:Touch S w w') (hb:¬ S b) (k:Qc w b i v):Qc w' b i v:=by
 exact aA
def kRl (t:jT) (x:jd):jd:=(x.1++[t],x.2)
def kPn (t:jT) (x:jd):Bool:=kFp (kRl t x)
def addL (t:jT) (x:jd):jd:=if kPn t x then kRl t x else x
def addL_no {t:jT} {x:jd} (h:kFp (kRl t x)=false):addL t x=x/\kPn t x=false:=by unfold addL kPn;rw [h];exact ⟨rfl,rfl⟩
def addL_yes {t:jT} {x:jd} (h:kFp (kRl t x)=true):addL t x=kRl t x/\kPn t x=true:=by unfold addL kPn;rw [h];exact ⟨rfl,rfl⟩
def nodeOk_len {x:jd} (h:kFp x=true):x.1.length<=8:=by
 unfold kFp restN at h;simp only [Bool.and_eq_true,decide_eq_true_eq] at h;have:=h.2.1.1.1.1.1.1;omega
def kZp {α β:Type} {r:kD α} {q:kD β} {w:Aq} {cs ds:Au Ar} {x:α} {y:β} (h:r.raw w cs x) (k:q.raw w ds y):(kD.pair r q).raw w (cs++ds) (x,y) :=
  ⟨cs,ds,λ_=>True,λ_=>True,rfl,h,k,λ_ _=>trivial,λ_ _=>trivial,λh=>Bool.noConfusion h⟩
def kWb {w:Aq} {cx:Au Ar} {x:jd} (hx:yB.rd w cx x) {ct:Au Ar} {t:jT} (ht:jI.rd w ct t) :
    Calls prog 131 #[.agg cx.toArray,.agg ct.toArray] w λe w'=>∃ cs,e=.returned (.tuple #[.agg cs.toArray,.bool (kPn t x)])/\yB.own w' cs (addL t x) (jb w.heap.size w'.heap.size)/\Qb w w':=by
 have HX:=yD hx
 have b5:=yD ht
 have bc:x.1.length<=16777216:=hx.2.1.1
 obtain ⟨gb,gd,gv,gu,gs,gq,rfl,Z,ba,bq,bm,bj,bu,b2,dg,eg⟩:=yY hx.1
 obtain ⟨dx,dv,rfl,gl⟩:=kD.sl Z
 obtain ⟨dy,dw,rfl,gt⟩:=kD.sl bm
 obtain ⟨e7,e1,rfl,g8⟩:=kD.sl bj
 obtain ⟨e4,e0,rfl,hm⟩:=kD.sl bu
 obtain ⟨eu,er,rfl,hs⟩:=kD.sl b2
 obtain ⟨en,eh,rfl,hh⟩:=kD.sl dg
 obtain ⟨jx,jp,js,rfl,fl,d8,d7,fv,d9,fu,fn⟩:=jX ht.1
 obtain ⟨g1,g6,rfl,jn⟩:=kD.sl d8
 obtain ⟨hr,g9,rfl,j0⟩:=kD.sl d7
 obtain ⟨hp,hn,rfl,jz⟩:=kD.sl d9
 clear hx ht Z ba bq bm bj bu b2 dg eg fl d8 d7 fv d9 fu fn
 go_enter func131,ntmps131
 go_wp2_with fail
 generalize J:World.alloc (World.alloc (World.alloc w _) _) _=N
 obtain ⟨EB,K0,K1,K2,K3,K4,K5,K6,K7⟩:=xJ
 have D0:Qc N (w.heap.size + 1) 0 (.slice g1 t.1.length g6):=wF
 have D1:Qc N (w.heap.size + 1) 1 (.slice hr t.2.1.length g9):=wF
 have D2:Qc N (w.heap.size + 1) 2 (.slice hp t.2.2.1.length hn):=wF
 have D3:Qc N (w.heap.size + 1) 3 (.int .i64 t.2.2.2.1):=wF
 have D4:Qc N (w.heap.size + 1) 4 (.int .i64 t.2.2.2.2):=wF
 have XR:Hid (Qr N (w.heap.size + 1 + 1) #[.slice none 0 0,Qn 0,.slice none 0 0,.slice none 0 0,.slice none 0 0,.slice none 0 0,.slice none 0 0,Qn 0] 33):=yD tX
 have bk:w.heap.size + 3<=N.heap.size:=bF5
 clear J
 refine (kMa (HX.out.below EB)).mono ?_
 rintro e w1 ⟨bv,ds,mid,rfl,O1,R1,ax,b7,O⟩
 have RW:=kZp O1.kBi R1.raw
 obtain ⟨jt,c9,c4,cz,de,c3,bn,a4,ef,fk,gp,g5,aq,bo,bh,br⟩:=yY (show yB.raw w1 _ x from RW)
 simp only [List.cons_append,List.nil_append,Ap] at bn
 obtain ⟨rfl,rfl⟩:=bn
 obtain ⟨be,ae,rfl,_⟩:=kD.sl gp
 obtain ⟨bd,Y,rfl,_⟩:=kD.sl g5
 obtain ⟨au,L,rfl,_⟩:=kD.sl aq
 obtain ⟨ao,G,rfl,_⟩:=kD.sl bo
 obtain ⟨am,ac,rfl,_⟩:=kD.sl bh
 obtain ⟨oa,on,oc,ho,a1⟩:=O1.parts;obtain rfl:=ho
 have I:=yD O1;have HR:=yD R1
 have bf:=O.size
 have E1:=(tQ EB O)
 replace XR:=yD (kC XR.out O)
 obtain ⟨K0,K1,K2⟩:=DZ
 replace K3:=cL O K3
 replace K4:=cL O K4
 replace K5:=cL O K5
 replace K6:=cL O K6
 replace K7:=cL O K7
 replace D0:=cL O D0
 replace D1:=cL O D1
 replace D2:=cL O D2
 replace D3:=cL O D3
 replace D4:=cL O D4
 clear O1 R1 RW O EB a4 ef fk gp g5 aq bo bh br
 go_upto_region 2 with fail
 generalize D:World.alloc w1 _=wC
 have an:Qb w1 wC:=tL
 have XM:Hid (Qr wC w1.heap.size #[.slice oa on oc,Qn x.2.1.1,Qs be x.2.1.2 ae,Qs bd x.2.2.1 Y,Qs au x.2.2.2.1 L,Qs ao x.2.2.2.2.1 G,Qs am x.2.2.2.2.2.1 ac,Qn x.2.2.2.2.2.2] 33):=yD bA0
 have aw:w1.heap.size + 1<=wC.heap.size:=bF9
 clear D
 have EC:=(tQ E1 an)
 replace XR:=yD (kC XR.out an)
 replace I:=yD (I.out.below an)
 replace HR:=yD (HR.out.below an)
 have M0:=kE XM.out (j:=0) rfl
 replace K0:=cL an K0
 replace K1:=cL an K1
 replace K2:=cL an K2
 replace K3:=cL an K3
 replace K4:=cL an K4
 replace K5:=cL an K5
 replace K6:=cL an K6
 replace K7:=cL an K7
 replace D0:=cL an D0
 replace D1:=cL an D1
 replace D2:=cL an D2
 replace D3:=cL an D3
 replace D4:=cL an D4
 have FX:=yD (λ(W:Aq) (hW:Qb wC W)=>kIy hW M0 D0 D1 D2 D3 D4)
 refine zM (λW=>Qb wC W) [Tt,Tt,Tt,Ff,Ff] bG6 bG6 qY (bR.drew) ?_
 intro wS E
 iterate 3
  all_goals refine ky ?_
 all_goals first|(refine kJ rfl E ?_)|(refine kw rfl (λK H=>?_);go_simp;refine (kBf (b5.out.below (tQ EC E))).mono ?_;rintro e wT ⟨tc,rfl,OT,al⟩;obtain ⟨fp,cg,cm,rfl,b6,eb,ej,ft,em,b0,a7⟩:=jX OT.raw;obtain ⟨bi,cv,rfl,ha⟩:=kD.sl eb;obtain ⟨bz,a5,rfl,cl⟩:=kD.sl ej;obtain ⟨bb,av,rfl,ch⟩:=kD.sl em;clear b6 eb ej ft em b0 a7;have f2:=al.size;have cw:=E.size;have b8:=yD OT;replace E:=(tQ E al);refine H _ _ E ?_;clear H K al OT)
 all_goals refine jG ?_
 all_goals first|(refine kJ rfl E ?_)|(refine kw rfl (λK H=>?_);go_simp;refine H _ _ (E.alloc E.size _) ?_;clear H K)
 all_goals refine jG ?_
 all_goals refine yG ?_
 replace XR:=yD (kC XR.out E)
 replace XM:=yD (kC XM.out E)
 replace I:=yD (I.out.below E)
 replace HR:=yD (HR.out.below E)
 have ET:=(tQ EC E)
 have U:=E.size
 replace K0:=cL E K0
 replace K1:=cL E K1
 replace K2:=cL E K2
 replace K3:=cL E K3
 replace K4:=cL E K4
 replace K5:=cL E K5
 replace K6:=cL E K6
 replace K7:=cL E K7
 go_wp2_with (at_builtin;refine kD.kBy rfl _ _ 24 rfl (r:=jI) (e:=70) underlying24 kQr rfl bH2 bH2 I.out bH5 bH5 rfl b8.out rfl nX bH3 ?_)
 intro v2 V hown ap
 have R:=yD hown;have aa:=yD ap
 obtain ⟨va,vn,vc,hv,ah⟩:=hown.parts;obtain rfl:=hv
 have a9:=ap.size
 simp at a9
 clear hown ap
 have TU:Touch (jb N.heap.size mid) wT V:=(Touch.of_below (bR.alloc nL _)).trans (aa.out.wide (λk h=>h.2))
 have a2:=TU.kC XM.out (λq=>by have q1:=q.1;have q2:=q.2;omega)
 have N0:=kE a2 (j:=0) rfl
 have NF:=Aa V w1.heap.size 0 _ _ a2
 have az:vn<=16777217:=by have:=ah.out;simp at this;omega
 go_upto_region 3 with fail
 generalize cd:World.setCell V ⟨w1.heap.size,0,none⟩ _=w3
 have TW:Touch (λk=>k=w1.heap.size) V w3:=by rw [<- cd];exact kD.zR [_] V _ 0
 have F:Hid (Qr w3 w1.heap.size #[.slice va vn vc,Qn x.2.1.1,Qs be x.2.1.2 ae,Qs bd x.2.2.1 Y,Qs au x.2.2.2.1 L,Qs ao x.2.2.2.2.1 G,Qs am x.2.2.2.2.2.1 ac,Qn x.2.2.2.2.2.2] 33):=yD (by
   rw [<- cd];have y0:=heap_setCell_same _ (w1.heap.size) 0 _ 33 (.slice va vn vc) a2;exact y0)
 clear cd
 have TA:Touch (λk=>jb N.heap.size mid k\/k=w1.heap.size) wT w3:=(TU.wide (λk h=>.inl h)).trans (TW.wide (λk h=>.inr h))
 have ay:=TW.size
 have o:=yD (TA.kC XR.out (λq=>by rcases q with q | q;(have q1:=q.1;omega);omega))
 have a3:=yD (HR.out.touch TA (λi p q=>by have p1:=p.1;have p2:=p.2;rcases q with q | q;(have q2:=q.2;omega);omega))
 have ai:=yD (R.out.touch TW (λi p q=>by rcases p with p | p | p;(have p2:=p.2;omega);(have p1:=p.1;omega);(have p1:=p.1;omega)))
 have E3:=ET.trans (TA.below (B:=w.heap.size) (by have:=ET.size;omega) (λi q=>by rcases q with q | q;(have q1:=q.1;omega);omega))
 replace K0:=TA.cellAt gW K0
 replace K1:=TA.cellAt gW K1
 replace K2:=TA.cellAt gW K2
 replace K3:=TA.cellAt gW K3
 replace K4:=TA.cellAt gW K4
 replace K5:=TA.cellAt gW K5
 replace K6:=TA.cellAt gW K6
 replace K7:=TA.cellAt gW K7
 clear TU a2 N0 NF TW TA XR XM I HR R aa E ET
 have ab:Hid (x.1.length < 16777216->yB.own w3 [.slice va vn vc,Qn x.2.1.1,Qs be x.2.1.2 ae,Qs bd x.2.2.1 Y,Qs au x.2.2.2.1 L,Qs ao x.2.2.2.2.1 G,Qs am x.2.2.2.2.2.1 ac,Qn x.2.2.2.2.2.2] (kRl t x) (jb N.heap.size w3.heap.size)):=yD (λhl=>kD.jh (r:=kD.slice 70 jI) (q:=(kD.pair kT (kD.pair (kD.slice 93 kH) (kD.pair (kD.slice 121 jD) (kD.pair (kD.slice 144 kY) (kD.pair (kD.slice 166 kR) kD.int)))))) (cs:=[.slice va vn vc]) (ds:=[.int .i64 x.2.1.1,.slice be x.2.1.2.length ae,.slice bd x.2.2.1.length Y,.slice au x.2.2.2.1.length L,.slice ao x.2.2.2.2.1.length G,.slice am x.2.2.2.2.2.1.length ac,.int .i64 x.2.2.2.2.2.2]) (x:=x.1++[t]) (y:=x.2) (S:=jb N.heap.size w3.heap.size) (ai.out.own bA1) a3.out (λi p=>by rcases p with p | p | p;exact ⟨p.1,by have:=p.2;omega⟩;exact ⟨by have:=p.1;omega,by have:=p.2;omega⟩;exact ⟨by have:=p.1;omega,by have:=p.2;omega⟩) (λi p=>⟨by have:=p.1;omega,by have:=p.2;omega⟩) (λi p q=>by have q1:=q.1;have q2:=q.2;rcases p with p | p | p;(have p2:=p.2;omega);(have p1:=p.1;omega);(have p1:=p.1;omega)))
 have X:Hid (yB.raw w3 [.slice va vn vc,Qn x.2.1.1,Qs be x.2.1.2 ae,Qs bd x.2.2.1 Y,Qs au x.2.2.2.1 L,Qs ao x.2.2.2.2.1 G,Qs am x.2.2.2.2.2.1 ac,Qn x.2.2.2.2.2.2] (kRl t x)):=yD (kZp ai.out.kBi a3.out.raw)
 clear ai a3
 have M0:=kE F.out (j:=0) rfl
 have M1:=kE F.out (j:=1) rfl
 have M2:=kE F.out (j:=2) rfl
 have M3:=kE F.out (j:=3) rfl
 have M4:=kE F.out (j:=4) rfl
 have M5:=kE F.out (j:=5) rfl
 have M6:=kE F.out (j:=6) rfl
 have M7:=kE F.out (j:=7) rfl
 go_wp2_with fail
 refine (kUa X.out).mono ?_
 rintro e w4 ⟨rfl,ad⟩
 have E4:=(tQ E3 ad)
 have b1:=ad.size
 replace o:=yD (kC o.out ad)
 replace ab:=yD (λhl=>(ab.out hl).below ad)
 replace K0:=cL ad K0
 replace M0:=cL ad M0
 replace K1:=cL ad K1
 replace M1:=cL ad M1
 replace K2:=cL ad K2
 replace M2:=cL ad M2
 replace K3:=cL ad K3
 replace M3:=cL ad M3
 replace K4:=cL ad K4
 replace M4:=cL ad M4
 replace K5:=cL ad K5
 replace M5:=cL ad M5
 replace K6:=cL ad K6
 replace M6:=cL ad M6
 replace K7:=cL ad K7
 replace M7:=cL ad M7
 clear ad X F E3
 cases hv:kFp (kRl t x)
 · have HQ:=yD (addL_no hv);clear hv ab;go_wp2_with fail;refine (kHi (HX.out.below E4)).mono ?_;rintro e w8 ⟨tc,rfl,O8,ar⟩;obtain ⟨da,c2,dh,c8,dd,df,rfl,ag,af,cf,a6,ak,aj,a8,bl,ce⟩:=yY O8.raw;obtain ⟨dz,b4,rfl,c6⟩:=kD.sl ag;obtain ⟨d0,ck,rfl,c7⟩:=kD.sl a6;obtain ⟨dq,b3,rfl,c5⟩:=kD.sl ak;obtain ⟨dj,co,rfl,db⟩:=kD.sl aj;obtain ⟨dt,cc,rfl,c1⟩:=kD.sl a8;obtain ⟨bt,bw,rfl,dc⟩:=kD.sl bl;clear ag af cf a6 ak aj a8 bl ce;have bx:=yD O8;have E8:=(tQ E4 ar);have b9:=ar.size;have X8:=kC o.out ar;clear O8 ar o;have R0:=kE (b:=w.heap.size + 1 + 1) X8 (j:=0) rfl;have F0:=Aa w8 (w.heap.size + 1 + 1) 0 _ _ X8;have R1:=kE (b:=w.heap.size + 1 + 1) X8 (j:=1) rfl;have F1:=Aa w8 (w.heap.size + 1 + 1) 1 _ _ X8;have R2:=kE (b:=w.heap.size + 1 + 1) X8 (j:=2) rfl;have F2:=Aa w8 (w.heap.size + 1 + 1) 2 _ _ X8;have R3:=kE (b:=w.heap.size + 1 + 1) X8 (j:=3) rfl;have F3:=Aa w8 (w.heap.size + 1 + 1) 3 _ _ X8;have R4:=kE (b:=w.heap.size + 1 + 1) X8 (j:=4) rfl;have F4:=Aa w8 (w.heap.size + 1 + 1) 4 _ _ X8;have R5:=kE (b:=w.heap.size + 1 + 1) X8 (j:=5) rfl;have F5:=Aa w8 (w.heap.size + 1 + 1) 5 _ _ X8;have R6:=kE (b:=w.heap.size + 1 + 1) X8 (j:=6) rfl;have F6:=Aa w8 (w.heap.size + 1 + 1) 6 _ _ X8;have R7:=kE (b:=w.heap.size + 1 + 1) X8 (j:=7) rfl;have F7:=Aa w8 (w.heap.size + 1 + 1) 7 _ _ X8;go_wp2;refine bodyPost_ret (v:=.tuple #[.agg #[Qs dz x.1 b4,Qn x.2.1.1,Qs d0 x.2.1.2 ck,Qs dq x.2.2.1 b3,Qs dj x.2.2.2.1 co,Qs dt x.2.2.2.2.1 cc,Qs bt x.2.2.2.2.2.1 bw,Qn x.2.2.2.2.2.2],.bool false]) dH rfl ⟨[_,_,_,_,_,_,_,_],by rw [HQ.out.2],?_,?_⟩
   · rw [HQ.out.1];exact (kD.own.out bx.out fC).wide gB
   repeat (first|(with_reducible exact E8) | refine Below.setCell ?_ sP _)
 have HQ:=yD (addL_yes hv)
 have bg:=yD (nodeOk_len hv)
 have bp:=yD (ab.out (by have:=bg.out;simp [kRl] at this;omega))
 clear hv ab
 have R0:=kE (b:=w.heap.size + 1 + 1) o.out (j:=0) rfl
 have F0:=Aa w4 (w.heap.size + 1 + 1) 0 _ _ o.out
 have R1:=kE (b:=w.heap.size + 1 + 1) o.out (j:=1) rfl
 have F1:=Aa w4 (w.heap.size + 1 + 1) 1 _ _ o.out
 have R2:=kE (b:=w.heap.size + 1 + 1) o.out (j:=2) rfl
 have F2:=Aa w4 (w.heap.size + 1 + 1) 2 _ _ o.out
 have R3:=kE (b:=w.heap.size + 1 + 1) o.out (j:=3) rfl
 have F3:=Aa w4 (w.heap.size + 1 + 1) 3 _ _ o.out
 have R4:=kE (b:=w.heap.size + 1 + 1) o.out (j:=4) rfl
 have F4:=Aa w4 (w.heap.size + 1 + 1) 4 _ _ o.out
 have R5:=kE (b:=w.heap.size + 1 + 1) o.out (j:=5) rfl
 have F5:=Aa w4 (w.heap.size + 1 + 1) 5 _ _ o.out
 have R6:=kE (b:=w.heap.size + 1 + 1) o.out (j:=6) rfl
 have F6:=Aa w4 (w.heap.size + 1 + 1) 6 _ _ o.out
 have R7:=kE (b:=w.heap.size + 1 + 1) o.out (j:=7) rfl
 have F7:=Aa w4 (w.heap.size + 1 + 1) 7 _ _ o.out
 go_wp2
 refine bodyPost_ret (v:=.tuple #[.agg #[.slice va vn vc,Qn x.2.1.1,Qs be x.2.1.2 ae,Qs bd x.2.2.1 Y,Qs au x.2.2.2.1 L,Qs ao x.2.2.2.2.1 G,Qs am x.2.2.2.2.2.1 ac,Qn x.2.2.2.2.2.2],.bool true]) dH rfl ⟨[_,_,_,_,_,_,_,_],by rw [HQ.out.2],?_,?_⟩
 · rw [HQ.out.1];exact (kD.own.out bp.out fC).wide fE
 repeat (first|(with_reducible exact E4) | refine Below.setCell ?_ sP _)
end Go.Proofs.YtjhfdpopkkmigabGreat

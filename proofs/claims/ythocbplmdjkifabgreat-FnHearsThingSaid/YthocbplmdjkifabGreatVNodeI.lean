/-
  Nodes that are valid: the program; both as the laws want them.
-/
import Derived.Test.YthocbplmdjkifabGreatVRoute
set_option linter.unusedVariables false
set_option linter.defProp false
set_option linter.unusedSimpArgs false
set_option linter.unnecessarySimpa false
set_option maxRecDepth 100000
set_option maxHeartbeats 4000000
open Bool renaming true->Tt,false->Ff
open _root_ renaming ge_iff_le->Aa,List->Ad
open Go.RowKit.Below renaming size->Ab,mono->Ak
open Int renaming natCast_nonneg->Ac,ofNat_lt->Ag
open Go renaming World->Ae,Value->Ah,Calls->Ai
open Go.RowKit renaming intOf->Aj
namespace Go.Proofs.YthocbplmdjkifabGreat
open Go.RowKit _root_.Go.Proofs.Tryz
variable {k:Nat} {l:Ad kM} {w:Ae} {vl:Ah} {x:ja} {f c:Int} {cn cx:Ad Ah} {n:kU}
def yg (n:kU) (f:Int) (m:kM):Bool:=(m.2.1==f) && eqN m.1 n
def kHw (hl:Cf.raw w [vl] l) (hn:kQ.raw w cn n) :
    Ai prog 119 #[vl,.agg cn.toArray,.int .i64 f] w (bQ w (.int .i64 (idxOf (yg n f) l))):=by
 obtain ⟨al,pl,rfl,ll⟩:=kD.sl hl;have Hn:=yD hn;obtain ⟨Y,rfl,H⟩:=kT hn;obtain ⟨N,E,rfl,Z⟩:=kD.sl H;go_enter func119,ntmps119;go_wp2;refine MJ λX U EB=>?_;refine EE λV=>?_;clear U;replace hl:=hl.below EB;go_loopw [7] (λi wr=>∃ k:Nat,k<=l.length/\i=.int .i64 k/\Hid (∀ j,(h:j < k)->(h2:j < l.length)->(yg n f) l[j]=false)/\Qb X wr) (λi _=>l.length - (Aj i).toNat);case atStart=>exact ⟨0,Nat.zero_le _,rfl,yD (λ_ h=>by omega),bR⟩
 obtain ⟨k,hk,rfl,HN,D⟩:=hrel;replace V:=cL D V;by_cases hlt:k < l.length
 · obtain ⟨qb,qo,rfl,ah,aj,ao,qr,a2,a4,a5⟩:=kD.zx (hl.below D) (i:=k) bJ5 rfl;refine AU λR J=>?_;generalize l[k]=x at *;refine aN R J λHD HX=>?_;clear R J;obtain ⟨x0,x1,x2⟩:=x;obtain ⟨rfl,rfl,au,az,aw,bi⟩:=jy qr;obtain ⟨ai,a6,rfl,bb⟩:=kD.sl az;go_upto_region 4 with fail;refine xS V a2 a4 a5 λFX=>?_;refine IE λwS I=>?_;all_goals (refine jo λb af=>?_;cases b <;> try simp only [jm] at af)
   all_goals ((iterate 6 refine kZ ?_);(first | refine wkB (zb (kD.raw.below au I) (kD.raw.below Hn.out ((tQ EB (tQ D I))))) (λwS1 I=>?_) | refine kZ ?_);refine jo λb F=>?_;cases b <;> try simp only [jm] at F)
   all_goals (refine kR ?_;have G:=(tQ D I))
   all_goals first|(have L:=yD (HD.out (show _=true by simp only [yg,Q0,af,F]));clear HD HX;go_wp2;go_ret;exact ⟨jS L.symm,(tQ EB G)⟩)|(have L:=yD (HX.out (show _=false by simp only [yg,Q0,af,F]));clear HD HX;refine Qg ?_;exact ⟨k + 1,by omega,by go_num,L,G⟩)
 exact QV
def kUs {cm:Ad Ah} {m:kM} (hm:kL.raw w cm m) {H:Nat} (D:Qc w H 0 (Qn f)) {b7:Ah} {Bn:Nat} (nr:kQ.raw w [b7] n) (ae:Qc w Bn 0 b7) :
    Ai prog 166 (#[.agg cm.toArray]++#[.pointer (Qa H),.pointer (Qa Bn)]) w (bQ w (.bool (yg n f m))):=by
 have Hm:=yD hm;obtain ⟨ak,rfl,aa,E,O,J⟩:=kFg hm;obtain ⟨af,ag,rfl,am⟩:=kD.sl E;have ab:=kEx nr;obtain ⟨dz,R,rfl,ai⟩:=kD.sl ab;show Ai prog 166 #[_,_,_] w _;go_enter func166,ntmps166;go_upto_region 1 with fail;refine oM λX EB N=>?_;obtain ⟨F,V,aj⟩:=kBc N;clear N;refine aL EB D ae λD ae=>?_;refine JP λFX=>?_;refine q8 λwS I=>?_;all_goals (refine jo λb Z=>?_;cases b <;> try simp only [jm] at Z)
 all_goals ((iterate 3 refine kZ ?_);(first | refine wkB (yI (kD.raw.below aa (tQ EB I)) (kD.raw.below nr (tQ EB I))) (λwS1 I=>?_) | refine kZ ?_);refine kZ ?_;refine jo λb ac=>?_;cases b <;> try simp only [jm] at ac)
 all_goals (refine kR ?_;have G:=(tQ EB I))
 all_goals (obtain ⟨vq,qv⟩:∃ qc,(yg n f m)=qc:=⟨_,rfl⟩;have L:=yD qv;simp only [yg,Q0,Z,ac] at qv;subst qv;go_wp2;go_ret;exact ⟨kJ L.symm,G⟩)
def kKb:jL prog 166:=yK func166 bI9 bI9
def kFd (hl:Cf.raw w [vl] l) (hn:kQ.raw w cn n) :
    Ai prog 100 #[vl,.agg cn.toArray,.int .i64 f] w (bQ w (.int .i64 (idxOf (yg n f) l))):=by
 obtain ⟨al,pl,rfl,ll⟩:=kD.sl hl;have Hn:=yD hn;obtain ⟨Y,rfl,H⟩:=kT hn;obtain ⟨N,E,rfl,Z⟩:=kD.sl H;go_enter func100,ntmps100;go_upto_region 1 with fail;refine fK λX U EB=>?_;refine EE λV=>?_;have F:Qc X (w.heap.size + 1) 0 (Qn f):=bA9;clear U;go_wp2_with fail;refine (kNd (yg n f) kKb (kD.raw.below hl EB) ?_).mono ?_
 · intro wr hb i h cs hr;exact kUs hr (cL hb F) (kD.raw.below Hn.out (tQ EB hb)) (cL hb V)
 exact PO
def kGd (l:Ad kM) (k:Nat) (x:kM):Bool:=!(!zX x.1 || (!inR x.2.1 1 6 || (!inR x.2.2 1 50 || decide (idxOf (yg x.1 x.2.1) (l.take k) ≥ 0))))
def kHn (l:Ad kM):Bool:=zf (λj=>kGd l j (l.getD j ([],0,0))) l.length && decide (l.length<=24)
def jAx (h:k < l.length) (q:kGd l k l[k]=false):kHn l=false:=by
 unfold kHn;rw [kEw h sW];rfl
def kXu (h:k < l.length) (q:kGd l k l[k]=true) (a:zf (λj=>kGd l j (l.getD j ([],0,0))) k=true):zf (λj=>kGd l j (l.getD j ([],0,0))) (k + 1)=true :=
  kCi a sW
def kXv (q:zf (λj=>kGd l j (l.getD j ([],0,0))) k=true) (h:¬ k < l.length) (hk:k<=l.length):kHn l=decide (l.length<=24):=by
 obtain rfl:k=l.length:=bJ5;unfold kHn;rw [q];rfl
def kMf (hl:Cf.raw w [vl] l) :
    Ai prog 285 #[vl] w (bQ w (.bool (kHn l))):=by
 obtain ⟨al,pl,rfl,ll⟩:=kD.sl hl;have ae:=kD.kBx hl;go_enter func285,ntmps285;go_wp2;go_loopw [3] (λi wr=>∃ k:Nat,k<=l.length/\i=.int .i64 k/\Hid (zf (λj=>kGd l j (l.getD j ([],0,0))) k=true)/\Qb w wr) (λi _=>l.length - (Aj i).toNat);case atStart=>exact ⟨0,Nat.zero_le _,rfl,yD rfl,bR⟩
 obtain ⟨k,hk,rfl,HN,D⟩:=hrel;by_cases hlt:k < l.length
 · obtain ⟨qb,qo,rfl,ah,aj,ao,qr,a2,a4,a5⟩:=kD.zx (hl.below D) (i:=k) bJ5 rfl;refine FK λag=>?_;have hb:=λq=>jAx hlt q;have hx:=λq=>kXu hlt q HN.out;generalize l[k]=x at *;refine aN hb hx λHB HX=>?_;clear hb hx;obtain ⟨x0,x1,x2⟩:=x;obtain ⟨rfl,rfl,au,az,aw,bi⟩:=jy qr;obtain ⟨ai,a6,rfl,bb⟩:=kD.sl az;refine A8 λbg dt cz=>?_;go_upto_region 4 with fail;refine AL λFX wS I=>?_;all_goals ((first | refine wkB (zM (kD.raw.below au I)) (λwS1 I=>?_) | refine kZ ?_);refine kZ ?_;refine jo λb af=>?_;cases b <;> try simp only [jm] at af)
   all_goals ((iterate 5 refine kZ ?_);(first | refine wkC (yQ) ?_ | refine kZ ?_);refine kZ ?_;refine kZ ?_;refine jo λb V=>?_;cases b <;> try simp only [jm] at V)
   all_goals ((iterate 5 refine kZ ?_);(first | refine wkC (yQ) ?_ | refine kZ ?_);refine kZ ?_;refine kZ ?_;refine jo λb U=>?_;cases b <;> try simp only [jm] at U)
   all_goals ((iterate 13 refine kZ ?_);(first | refine wkB (kHw (kD.raw.below ag.out I) (kD.raw.below au I)) (λwS1 I=>?_) | refine kZ ?_);refine kZ ?_;refine jo λb E=>?_;cases b <;> try simp only [jm] at E)
   all_goals (refine kR ?_;have G:=D.trans (Ak I D.size))
   all_goals first|(have L:=yD (HB.out (show _=false by simp only [kGd,Q0,Aa,af,V,U,E]));clear HB HX HN ag;go_wp2;go_ret;exact ⟨kJ L.symm,G⟩)|(have L:=yD (HX.out (show _=true by simp only [kGd,Q0,Aa,af,V,U,E]));clear HB HX HN ag;refine Qg ?_;exact ⟨k + 1,by omega,by go_num,L,G⟩)
 have L:=yD (kXv HN.out hlt hk);exact L6
def kMq (hl:Cf.raw w [vl] l) :
    Ai prog 80 #[vl] w (bQ w (.bool (kHn l))):=by
 obtain ⟨al,pl,rfl,ll⟩:=kD.sl hl;have ae:=kD.kBx hl;go_enter func80,ntmps80;go_wp2;go_loopw [7] (λi wr=>∃ k:Nat,k<=l.length/\i=.int .i64 k/\Hid (zf (λj=>kGd l j (l.getD j ([],0,0))) k=true)/\Qb w wr) (λi _=>l.length - (Aj i).toNat);case atStart=>exact ⟨0,Nat.zero_le _,rfl,yD rfl,bR⟩
 obtain ⟨k,hk,rfl,HN,D⟩:=hrel;by_cases hlt:k < l.length
 · obtain ⟨qb,qo,rfl,ah,aj,ao,qr,a2,a4,a5⟩:=kD.zx (hl.below D) (i:=k) bJ5 rfl;refine FK λag=>?_;have hb:=λq=>jAx hlt q;have hx:=λq=>kXu hlt q HN.out;generalize l[k]=x at *;refine aN hb hx λHB HX=>?_;clear hb hx;obtain ⟨x0,x1,x2⟩:=x;obtain ⟨rfl,rfl,au,az,aw,bi⟩:=jy qr;obtain ⟨ai,a6,rfl,bb⟩:=kD.sl az;refine A8 λbg dt cz=>?_;go_upto_region 4 with fail;refine oM λwC EC N=>?_;obtain ⟨M0,M1,M2⟩:=kBc N;refine CU N λFX=>?_;clear N;refine GU λwS I=>?_;all_goals (refine kZ ?_;refine kZ ?_;(first | refine wkB (kAg (kD.raw.below au (tQ EC I))) (λwS1 I=>?_) | refine kZ ?_);refine kZ ?_;refine jo λb Z=>?_;cases b <;> try simp only [jm] at Z)
   all_goals (refine kZ ?_;refine kZ ?_;(first | refine wkC (yP) ?_ | refine kZ ?_);refine kZ ?_;refine kZ ?_;refine jo λb ac=>?_;cases b <;> try simp only [jm] at ac)
   all_goals (refine kZ ?_;refine kZ ?_;(first | refine wkC (yP) ?_ | refine kZ ?_);refine kZ ?_;refine kZ ?_;refine jo λb V=>?_;cases b <;> try simp only [jm] at V)
   all_goals ((iterate 7 refine kZ ?_);(first | refine wkB (kFd (kD.raw.below ag.out (tQ EC I)) (kD.raw.below au (tQ EC I))) (λwS1 I=>?_) | refine kZ ?_);refine kZ ?_;refine jo λb H=>?_;cases b <;> try simp only [jm] at H)
   all_goals (refine kR ?_;have G:=D.trans (Ak (tQ EC I) D.size))
   all_goals first|(have L:=yD (HB.out (show _=false by simp only [kGd,Q0,Aa,Z,ac,V,H]));clear HB HX HN ag;go_wp2;go_ret;exact ⟨kJ L.symm,G⟩)|(have L:=yD (HX.out (show _=true by simp only [kGd,Q0,Aa,Z,ac,V,H]));clear HB HX HN ag;refine Qg ?_;exact ⟨k + 1,by omega,by go_num,L,G⟩)
 have L:=yD (kXv HN.out hlt hk);exact L6
def kKs (l:Ad jK) (k:Nat) (x:jK):Bool:=!(!kBr x || decide (idxOf (isD x.1) (l.take k) ≥ 0))
def kYe (x:ja):Bool:=(((((decide ((x.1.length:Int)<=8) && kCv x.2.1) && kEq x.2.2.1) && kCt x.2.2.2.2.1) && kHn x.2.2.2.2.2.1) && decide ((x.2.2.2.1.length:Int)<=24)) && decide (0<=x.2.2.2.2.2.2)
def kBs (x:ja):Bool:=zf (λj=>kKs x.1 j (x.1.getD j kTn)) x.1.length && kYe x
def jCp (h:k < x.1.length) (q:kKs x.1 k x.1[k]=false):kBs x=false:=by
 unfold kBs;rw [kEw h sW];rfl
def kYi {l:Ad jK} (h:k < l.length) (q:kKs l k l[k]=true) (a:zf (λj=>kKs l j (l.getD j kTn)) k=true):zf (λj=>kKs l j (l.getD j kTn)) (k + 1)=true :=
  kCi a sW
def kYj (q:zf (λj=>kKs x.1 j (x.1.getD j kTn)) k=true) (h:¬ k < x.1.length) (hk:k<=x.1.length):kBs x=kYe x:=by
 obtain rfl:k=x.1.length:=bJ5;unfold kBs;rw [q];rfl
def kYv (hx:jc.raw w cx x) :
    Ai prog 251 #[.agg cx.toArray] w (bQ w (.bool (kBs x))):=by
 obtain ⟨el,e1,f3,f1,fw,fu,rfl,ac,bc,bl,bj,bf,bp,bt,c6,dp⟩:=yF hx;obtain ⟨dg,dd,rfl,en,dj,di,rfl,e4,d4,dz,rfl,fx,eb,d9,rfl,fz,d3,dy,rfl,f5,dx,dr,rfl,fy⟩:=kD.sx ac (kD.sx bj (kD.sx bf (kD.sx bp (kD.sx bt (kD.sl c6)))));have hl:=ac;have ae:=kD.kBx hl;refine aN bc bf λH1 H4=>?_;refine aN bt c6 λH6 O=>?_;clear hx ac bc bl bj bf bp bt c6 dp;go_enter func251,ntmps251;go_wp2;refine oM λX EB N=>?_;obtain ⟨Y,K1,K2,K3,K4,K5,K6,K7⟩:=jX N;clear N;replace hl:=hl.below EB;go_loopw [3] (λi wr=>∃ k:Nat,k<=x.1.length/\i=.int .i64 k/\Hid (zf (λj=>kKs x.1 j (x.1.getD j kTn)) k=true)/\Qb X wr) (λi _=>x.1.length - (Aj i).toNat);case atStart=>exact ⟨0,Nat.zero_le _,rfl,yD rfl,bR⟩
 obtain ⟨k,hk,rfl,HN,D⟩:=hrel;refine aJ D Y K1 K2 λY K1 K2=>?_;replace K3:=cL D K3;replace K4:=cL D K4;replace K5:=cL D K5;replace K6:=cL D K6;replace K7:=cL D K7;by_cases hlt:k < x.1.length
 · refine FK λag=>?_;have hb:=λq=>jCp (x:=x) hlt q;have H:=λq=>kYi hlt q HN.out;obtain ⟨qb,qo,rfl,ah,aj,ao,cc,cf,qr,a2,a4,a5,be,bo⟩:=kD.get5 (hl.below D) (i:=k) bJ5 rfl;generalize x.1[k]=z at *;refine aN hb H λHB HX=>?_;clear hb H;obtain ⟨rfl,rfl,au,az,aw,bi,bk,bq,b5⟩:=kBa qr;obtain ⟨ai,a6,rfl,bb,ar,bd,rfl,b2,ax,b3,rfl,b8⟩:=kD.sx az (kD.sx aw (kD.sl bk));have bg:=Ag.2 hlt;have dt:=Ac k;have cz:(k:Int)<=(dd:Int):=bJ5;go_upto_region 4 with fail;have FX:=yD (λ(W:Ae) (hW:Qb wr W)=>kPa hW Y a2 a4 a5 be bo);refine kN (λW=>Qb wr W) [Tt,Tt,Tt,Tt,Tt,Ff,Tt,Tt,Tt,Tt,Tt,Tt,Tt,Tt,Tt,Tt,Tt,Tt,Ff,Tt,Tt] bI9 bI9 sD (bR.drew) ?_;refine PM λwS I=>?_;all_goals ((first | refine wkB (kDx (kD.raw.below qr I)) (λwS1 I=>?_) | refine kZ ?_);refine kZ ?_;refine jo λb af=>?_;cases b <;> try simp only [jm] at af)
   all_goals ((iterate 10 refine kZ ?_);(first | refine wkB (kRq (kD.raw.below ag.out I) (kD.raw.below au I)) (λwS1 I=>?_) | refine kZ ?_);refine kZ ?_;refine jo λb R=>?_;cases b <;> try simp only [jm] at R)
   all_goals (refine kR ?_;have G:=(tQ D I))
   all_goals first|(have L:=yD (HB.out (show _=false by simp only [kKs,Q0,Aa,af,R]));clear HB HX HN ag;go_wp2;go_ret;exact ⟨kJ L.symm,(tQ EB G)⟩)|(have L:=yD (HX.out (show _=true by simp only [kKs,Q0,Aa,af,R]));clear HB HX HN ag;refine Qg ?_;exact ⟨k + 1,by omega,by go_num,L,G⟩)
 have L:=yD (kYj (x:=x) HN.out hlt hk);have b4:¬ (k:Int) < x.1.length:=bJ5;go_upto_region 6 with fail;refine DV λFX=>?_;refine q8 λwS I=>?_;all_goals (refine jo λb Z=>?_;cases b <;> try simp only [jm] at Z)
 all_goals (refine kZ ?_;refine kZ ?_;(first | refine wkB (kMg (kD.raw.below H1.out ((tQ EB D).trans (I.mono (Ab (tQ EB D)))))) (λwS1 I=>?_) | refine kZ ?_);refine kZ ?_;refine jo λb b1=>?_;cases b <;> try simp only [jm] at b1)
 all_goals (refine kZ ?_;refine kZ ?_;(first | refine wkB (kSk (kD.raw.below H4.out ((tQ EB D).trans (I.mono (Ab (tQ EB D)))))) (λwS1 I=>?_) | refine kZ ?_);refine kZ ?_;refine jo λb E=>?_;cases b <;> try simp only [jm] at E)
 all_goals (refine kZ ?_;refine kZ ?_;(first | refine wkB (kGu (kD.raw.below H6.out ((tQ EB D).trans (I.mono (Ab (tQ EB D)))))) (λwS1 I=>?_) | refine kZ ?_);refine kZ ?_;refine jo λb ak=>?_;cases b <;> try simp only [jm] at ak)
 all_goals (refine kZ ?_;refine kZ ?_;(first | refine wkB (kMf (kD.raw.below O.out ((tQ EB D).trans (I.mono (Ab (tQ EB D)))))) (λwS1 I=>?_) | refine kZ ?_);refine kZ ?_;refine jo λb J=>?_;cases b <;> try simp only [jm] at J)
 all_goals ((iterate 5 refine kZ ?_);refine jo λb ck=>?_;cases b <;> try simp only [jm] at ck)
 all_goals ((iterate 4 refine kZ ?_);refine jo λb F=>?_;cases b <;> try simp only [jm] at F)
 all_goals (refine kR ?_;have G:=(tQ EB (tQ D I)))
 all_goals first|(have HV:=yD (show kBs x=false by rw [L.out];simp only [kYe,Q0,Z,b1,E,ak,J,ck,F]);go_wp2;go_ret;exact ⟨kJ HV.symm,G⟩)|(have HV:=yD (show kBs x=true by rw [L.out];simp only [kYe,Q0,Z,b1,E,ak,J,ck,F]);go_wp2;go_ret;exact ⟨kJ HV.symm,G⟩)
def vStore_rng {l:List kW} (h:inR c 0 8=false):kCv (c,l)=false:=by unfold kCv;simp only;rw [h,Bool.false_and,Bool.and_false]
def vStore_len {l:List kW} (h:¬ (l.length:Int)<=c):kCv (c,l)=false:=by unfold kCv;simp only;rw [decide_eq_false h,Bool.and_false,Bool.and_false]
def vStore_yes {l:Ad kW} (q:zf (λj=>kSt l j (l.getD j jAl)) k=true) (h:¬ k < l.length) (hk:k<=l.length) (h1:inR c 0 8=true) (h2:(l.length:Int)<=c):kCv (c,l)=true:=by
 rw [kXp q h hk,h1,decide_eq_true h2];rfl
def kMr {cs:Ad Ah} {x:kr} (hx:kS.raw w cs x) :
    Ai prog 77 #[.agg cs.toArray] w (bQ w (.bool (kCv x))):=by
 obtain ⟨sv,rfl,eo,hl⟩:=jM hx;obtain ⟨aa,pl,rfl,la⟩:=kD.sl hl;obtain ⟨c,l⟩:=x;replace hl:Cn.raw w [Qs aa l pl] l:=hl;have ae:=kD.kBx hl;replace la:l.length<=9223372036854775807:=la;clear hx eo;go_enter func77,ntmps77;go_upto_region 1 with fail;refine oM λX EB N=>?_;obtain ⟨Y,K1⟩:=yA N;clear N;replace hl:=hl.below EB;have HR:=yD (vStore_rng (c:=c) (l:=l));have HL:=yD (vStore_len (c:=c) (l:=l));have HG:=yD (λ(k:Nat)=>vStore_yes (c:=c) (l:=l) (k:=k));by_cases hr:inR c 0 8=true;case neg =>
  have cw:inR c 0 8=false:=bG9;have L:=yD (HR.out cw);exact IW hr cw
 by_cases hc:(l.length:Int)<=c;case neg =>
  have L:=yD (HL.out hc);have hd:decide ((l.length:Int) > c)=true:=bJ0;have ab:decide (c < (l.length:Int))=true:=bJ0;have ac:c < (l.length:Int):=bJ5;exact IW hc hr
 have a7:=yD (λk q h hk=>HG.out k q h hk hr hc);have hd:decide ((l.length:Int) > c)=false:=bJ0;have ab:decide (c < (l.length:Int))=false:=bJ0;go_wp2_with fail;refine yP.mono ?_;refine fO λw1 F=>?_;obtain rfl:=F.symm;rw [hr];clear HR HL HG hc hr;go_wp2;clear hd ab;go_loopw [20] (λi wr=>∃ k:Nat,k<=l.length/\i=.int .i64 k/\Hid (zf (λj=>kSt l j (l.getD j jAl)) k=true)/\Qb X wr) (λi _=>l.length - (Aj i).toNat);case atStart=>exact ⟨0,Nat.zero_le _,rfl,yD rfl,bK⟩
 obtain ⟨k,hk,rfl,HN,D⟩:=hrel;replace K1:=cL D K1;by_cases hlt:k < l.length
 · refine FK λag=>?_;have hb:=λq=>jAo (c:=c) hlt q;have H:=λq=>kXo hlt q HN.out;obtain ⟨qb,qo,rfl,ah,aj,ao,cc,cf,b9,qr,a2,a4,a5,be,bo,aq⟩:=kD.get6 (hl.below D) (i:=k) bJ5 rfl;generalize l[k]=x at *;refine aN hb H λHB HX=>?_;clear hb H;obtain ⟨rfl,rfl,rfl,au,az,aw,bi,bk,bq,b5,bj,bt⟩:=yM qr;obtain ⟨ai,a6,rfl,bb,ar,bd,rfl,b2,ax,b3,rfl,b8⟩:=kD.sx aw (kD.sx bi (kD.sl bq));refine A8 λbg dt cz=>?_;go_upto_region 6 with fail;refine oM λwC EC N=>?_;replace K1:=cL EC K1;obtain ⟨M0,M1,M2,M3,M4,M5⟩:=kYd N;clear N;have FX:=yD (λ(W:Ae) (hW:Qb wC W)=>cLs7 hW K1 M0 M1 M2 M3 M4 M5);refine kX (λW=>Qb wC W) [Tt,Tt,Ff,Tt,Tt,Tt,Tt,Tt,Tt,Ff,Ff,Tt] bR ?_;intro wS I;all_goals (refine kZ ?_;refine kZ ?_;(first | refine wkB (kFz (kD.raw.below au (tQ EC I))) (λwS1 I=>?_) | refine kZ ?_);refine kZ ?_;refine jo λb Z=>?_;cases b <;> try simp only [jm] at Z)
   all_goals ((iterate 4 refine kZ ?_);(first|(refine kI rfl I ?_)|(refine ku rfl (λK E=>?_);go_simp;refine E _ _ I ?_;clear E K));refine jD ?_;(first|(refine kI rfl I ?_)|(refine ku rfl (λK E=>?_);go_simp;refine (kKo (isC x.1.1) kGn (kD.raw.below ag.out (tQ EC I)) ?_).mono ?_;(· intro bm V i hi ic O;exact kLq O (kD.raw.below qr ((tQ EC I).trans (V.mono (Ab (tQ EC I))))) (cL V (cL I M0)) (cL V (cL I M1)) (cL V (cL I M2)) (cL V (cL I M3)) (cL V (cL I M4)) (cL V (cL I M5)));rintro e wS1 ⟨rfl,af⟩;replace I:=(tQ I af);refine E _ _ I ?_;clear E K af));refine jD ?_;refine jo λb am=>?_;cases b <;> try simp only [jm] at am)
   all_goals (refine kR ?_;have G:=D.trans (Ak (tQ EC I) D.size);have J:decide (idxOf (isC x.1.1) (l.take k) ≥ 0)=decide (0<=idxOf (isC x.1.1) (l.take k)):=rfl)
   all_goals first|(have L:=yD (HB.out (show _=false by simp only [kSt,Q0,Aa,Z,am]));clear HB HX HN ag;go_wp2;go_ret;exact ⟨kJ L.symm,(tQ EB G)⟩)|(have L:=yD (HX.out (show _=true by simp only [kSt,Q0,Aa,Z,am]));clear HB HX HN ag;refine Qg ?_;exact ⟨k + 1,by omega,by go_num,L,G⟩)
 have L:=yD (a7.out k HN.out hlt hk);have b4:¬ (k:Int) < l.length:=bJ5;go_wp2;go_ret;exact ⟨kJ L.symm,(tQ EB D)⟩
def kIb (l:Ad kF) (k:Nat) (x:kF):Bool:=!((((!zX x.1 || ((x.1.length:Int)==0)) || ((x.2.1.length:Int)==0)) || !inR x.2.2 0 100000) || decide (idxOf (jR x.1) (l.take k) ≥ 0))
def okPendI_no {l:Ad kF} {x:kF} (h:kIb l k x=false):kEf l k x=false:=by
 unfold kIb at h;unfold kEf;cases hz:((x.2.1.length:Int)==0)
 · rw [hz] at h;generalize zX x.1=b1 at *;generalize ((x.1.length:Int)==0)=b2 at *;generalize inR x.2.2 0 100000=O at *;generalize decide (idxOf (jR x.1) (l.take k) ≥ 0)=L at *;generalize kTr x.2.1=R at *;revert h;cases b1 <;> cases b2 <;> cases O <;> cases L <;> cases R <;> decide
 have e:kTr x.2.1=false:=by
  have h0:x.2.1.length=0:=by have:=eq_of_beq hz;omega
  unfold kTr;rw [h0];rfl
 rw [e];generalize zX x.1=b1 at *;generalize ((x.1.length:Int)==0)=b2 at *;generalize inR x.2.2 0 100000=O at *;generalize decide (idxOf (jR x.1) (l.take k) ≥ 0)=L at *;cases b1 <;> cases b2 <;> cases O <;> cases L <;> decide
def kPl {l:Ad kF} {x:kF} (h:kIb l k x=true):kEf l k x=kTr x.2.1/\0 < x.2.1.length:=by
 unfold kIb at h;unfold kEf;have hz:0 < x.2.1.length:=by
  cases hz:((x.2.1.length:Int)==0);simp at hz;exact List.length_pos_iff.2 hz;rw [hz] at h;simp at h
 refine ⟨?_,hz⟩;generalize zX x.1=b1 at *;generalize ((x.1.length:Int)==0)=b2 at *;generalize inR x.2.2 0 100000=O at *;generalize decide (idxOf (jR x.1) (l.take k) ≥ 0)=L at *;generalize kTr x.2.1=R at *;generalize ((x.2.1.length:Int)==0)=b6 at *;revert h;cases b1 <;> cases b2 <;> cases O <;> cases L <;> cases R <;> cases b6 <;> decide
def vPends_yes {l:Ad kF} (q:zf (λj=>kEf l j (l.getD j ([],[],0))) k=true) (h:¬ k < l.length) (hk:k<=l.length):kEq l=decide ((l.length:Int)<=12):=by
 rw [kXt q h hk,Bool.eq_iff_iff];simp;omega
def kSx {l:Ad kF} (hl:Ce.raw w [vl] l) :
    Ai prog 78 #[vl] w (bQ w (.bool (kEq l))):=by
 obtain ⟨al,pl,rfl,ll⟩:=kD.sl hl;have ae:=kD.kBx hl;go_enter func78,ntmps78;go_wp2;go_loopw [9] (λi wr=>∃ k:Nat,k<=l.length/\i=.int .i64 k/\Hid (zf (λj=>kEf l j (l.getD j ([],[],0))) k=true)/\Qb w wr) (λi _=>l.length - (Aj i).toNat);case atStart=>exact ⟨0,Nat.zero_le _,rfl,yD rfl,bR⟩
 obtain ⟨k,hk,rfl,HN,D⟩:=hrel;by_cases hlt:k < l.length
 · refine FK λag=>?_;have hb:=λq=>jAs hlt q;have H:=λq=>kXs hlt q HN.out;obtain ⟨qb,qo,rfl,ah,aj,ao,qr,a2,a4,a5⟩:=kD.zx (hl.below D) (i:=k) bJ5 rfl;generalize l[k]=x at *;have HB:Hid (kIb l k x=false->kEq l=false):=yD (λq=>hb (okPendI_no q));have HX:Hid (kIb l k x=true->0 < x.2.1.length/\(kTr x.2.1=false->kEq l=false)/\(kTr x.2.1=true->zf (λj=>kEf l j (l.getD j ([],[],0))) (k + 1)=true)):=yD (λq=>⟨(kPl q).2,λp=>hb ((kPl q).1.trans p),λp=>H ((kPl q).1.trans p)⟩);clear hb H;obtain ⟨rfl,au,az,aw,bi⟩:=jV qr;obtain ⟨ai,a6,rfl,bb,ar,bd,rfl,b2⟩:=kD.sx az (kD.sl aw);refine A8 λbg dt cz=>?_;go_upto_region 4 with fail;refine oM λwC EC N=>?_;obtain ⟨M0,M1,M2⟩:=kBc N;refine CU N λFX=>?_;clear N;refine kN (λW=>Qb wC W) [Tt,Tt,Ff,Tt,Tt,Tt,Tt,Tt,Tt,Tt,Tt,Tt,Tt,Tt,Tt,Tt,Tt,Tt,Tt,Tt,Ff,Tt,Tt,Tt,Tt,Tt,Tt,Tt,Tt,Ff,Tt,Tt] bI9 bI9 sD (bR.drew) ?_;intro wS I;all_goals (refine kZ ?_;refine kZ ?_;(first | refine wkB (kAg (kD.raw.below au (tQ EC I))) (λwS1 I=>?_) | refine kZ ?_);refine kZ ?_;refine jo λb Z=>?_;cases b <;> try simp only [jm] at Z)
   all_goals ((iterate 6 refine kZ ?_);refine jo λb am=>?_;cases b <;> try simp only [jm] at am)
   all_goals ((iterate 5 refine kZ ?_);refine jo λb bu=>?_;cases b <;> try simp only [jm] at bu)
   all_goals (refine kZ ?_;refine kZ ?_;(first | refine wkC (yP) ?_ | refine kZ ?_);refine kZ ?_;refine kZ ?_;refine jo λb O=>?_;cases b <;> try simp only [jm] at O)
   all_goals ((iterate 5 refine kZ ?_);(first | refine wkB (kFy (kD.raw.below ag.out (tQ EC I)) (kD.raw.below au (tQ EC I))) (λwS1 I=>?_) | refine kZ ?_);refine kZ ?_;refine jo λb R=>?_;cases b <;> try simp only [jm] at R)
   all_goals (refine kR ?_;have G:=(tQ D (tQ EC I)))
   all_goals first
     | (have L:=yD (HB.out (show kIb l k x=false by simp only [kIb,Q0,Aa,Z,am,bu,O,R]));clear HB HX HN ag;go_wp2;go_ret;exact ⟨kJ L.symm,G⟩)
     | have L:=yD (HX.out (show kIb l k x=true by simp only [kIb,Q0,Aa,Z,am,bu,O,R]))
   all_goals try clear HB HX
   have C1:=M1;have pn:=yD aw;have aa:=yD L.1;have ax:=yD L.2.1;have av:=yD L.2.2;clear L Z am bu O R HN ag;generalize x.2.1=P at *;have M1:=cL I C1;go_wp2;clear M1;go_loopw [49] (λi wq=>∃ j:Nat,j<=P.length/\i=.int .i64 j/\Hid (zf (λj=>kOh P j (P.getD j (0,0,0))) j=true)/\Qb wC wq) (λi _=>P.length - (Aj i).toNat);case atStart=>exact ⟨0,Nat.zero_le _,rfl,yD rfl,I⟩
   obtain ⟨j,J,rfl,HM,hq⟩:=hrel;replace C1:=cL hq C1;by_cases aq:j < P.length
   · have dc:=Ag.2 aq;have dh:=Ac j;obtain ⟨pb,po,rfl,bl,ce,ch,pr,ak,a9,ba⟩:=kD.zx (pn.below (tQ EC hq)) (i:=j) bJ5 rfl;have hb:=λq=>ax.out (vAsk_bad aq q);have H:=λq=>jFj aq q HM.out;by_cases h0:0 < j
     · obtain ⟨i,hi⟩:∃ i,j - 1=i:=⟨_,rfl⟩;have hil:i < P.length:=bJ5;have F:=yD (jGj (l:=P) (x:=P[j]) h0 hi hil);have bh:(j:Int) - 1=(i:Int):=bJ5;obtain ⟨yb,yo,yE,bm,br,bo,yr,E,bc,a1⟩:=kD.zx (pn.below (tQ EC hq)) hil rfl;simp only [Option.some.injEq,Addr.mk.injEq,and_true] at yE;obtain ⟨rfl,rfl⟩:=yE;generalize P[i]=u at *;obtain ⟨rfl,rfl,rfl,bp,bj,bv⟩:=yJ yr;clear yr;have hw:IntKind.i64.wrap (i:Int)=i:=IntWalk.i64_in _ bJ5;have bq:=Ac i;have Y:=Ag.2 hil;clear hi;have hp:decide ((j:Int) > 0)=true:=bJ0;generalize P[j]=y at *;have HB:=yD hb;have HX:=yD H;clear hb H;obtain ⟨rfl,rfl,rfl,ay,ap,a8⟩:=yJ pr;go_upto_region 9 with fail;refine jZ ?_;intro wD ED N _;have D1:=cL ED C1;replace E:=cL ED E;obtain ⟨N0,N1,N2⟩:=kBc N;clear N;have FX:=yD (λ(W:Ae) (hW:Qb wD W)=>kRf hW D1 N0 N1 N2 E);refine kN (λW=>Qb wD W) [Tt,Tt,Ff,Tt,Tt,Tt,Tt,Ff,Tt,Tt,Tt,Tt,Tt,Tt,Tt,Tt,Tt,Tt,Tt,Tt,Tt,Tt,Tt,Tt,Tt,Tt] bI9 bI9 sD (bR.drew) ?_;intro wS I;all_goals (refine kZ ?_;refine kZ ?_;(first | refine wkC (yP) ?_ | refine kZ ?_);refine kZ ?_;refine jo λb Z=>?_;cases b <;> try simp only [jm] at Z)
       all_goals (refine kZ ?_;refine kZ ?_;(first | refine wkC (yP) ?_ | refine kZ ?_);refine kZ ?_;refine kZ ?_;refine jo λb ac=>?_;cases b <;> try simp only [jm] at ac)
       all_goals (refine kZ ?_;refine kZ ?_;refine jo λb V=>?_;cases b <;> try simp only [jm] at V)
       all_goals ((iterate 11 refine kZ ?_);refine jo λb U=>?_;cases b <;> try simp only [jm] at U)
       all_goals (refine kR ?_;have EQ:=(tQ hq (tQ ED I)))
       all_goals first|(have L:=yD (HB.out (show _=false by rw [F.out];simp only [okA,Q0,Aa,Z,ac,V,U]));clear HB HX HM F;have G:=(tQ D (tQ EC EQ));go_wp2;go_ret;exact ⟨kJ L.symm,G⟩)|(have L:=yD (HX.out (show _=true by rw [F.out];simp only [okA,Q0,Aa,Z,ac,V,U]));clear HB HX HM F;refine Qg ?_;exact ⟨j + 1,by omega,by go_num,L,EQ⟩)
     have F:=yD (jCm (l:=P) (x:=P[j]) h0);have hp:decide ((j:Int) > 0)=false:=bJ0;generalize P[j]=y at *;refine aN hb H λHB HX=>?_;clear hb H;obtain ⟨rfl,rfl,rfl,ay,ap,a8⟩:=yJ pr;go_upto_region 9 with fail;refine oM λwD ED N=>?_;have D1:=cL ED C1;obtain ⟨N0,N1,N2⟩:=kBc N;clear N;have FX:=yD (λ(W:Ae) (hW:Qb wD W)=>kIm hW D1 N0 N1 N2);refine kN (λW=>Qb wD W) [Tt,Tt,Ff,Tt,Tt,Tt,Tt,Ff,Tt,Tt,Tt,Tt,Tt,Tt,Tt,Tt,Tt,Tt,Tt,Tt,Tt,Tt,Tt,Tt,Tt,Tt] bI9 bI9 sD (bR.drew) ?_;intro wS I;all_goals (refine kZ ?_;refine kZ ?_;(first | refine wkC (yP) ?_ | refine kZ ?_);refine kZ ?_;refine jo λb Z=>?_;cases b <;> try simp only [jm] at Z)
     all_goals (refine kZ ?_;refine kZ ?_;(first | refine wkC (yP) ?_ | refine kZ ?_);refine kZ ?_;refine kZ ?_;refine jo λb ac=>?_;cases b <;> try simp only [jm] at ac)
     all_goals (refine kZ ?_;refine kZ ?_;refine jo λb V=>?_;cases b <;> try simp only [jm] at V)
     all_goals ((iterate 11 refine kZ ?_);refine jo λb U=>?_;cases b <;> try simp only [jm] at U)
     all_goals (refine kR ?_;have EQ:=(tQ hq (tQ ED I)))
     all_goals first|(have L:=yD (HB.out (show _=false by rw [F.out];simp only [okA0,Q0,Aa,Z,ac,V,U]));clear HB HX HM F;have G:=(tQ D (tQ EC EQ));go_wp2;go_ret;exact ⟨kJ L.symm,G⟩)|(have L:=yD (HX.out (show _=true by rw [F.out];simp only [okA0,Q0,Aa,Z,ac,V,U]));clear HB HX HM F;refine Qg ?_;exact ⟨j + 1,by omega,by go_num,L,EQ⟩)
   have L:=yD (av.out ((jFk HM.out aq J).trans (by have:=aa.out;simpa using this)));have G:=(tQ D (tQ EC hq));have X:¬ (j:Int) < P.length:=bJ5;exact iI L G
 have L:=yD (vPends_yes HN.out hlt hk);have b4:¬ (k:Int) < l.length:=bJ5;exact iF L D
def kOm (hx:jc.raw w cx x) :
    Ai prog 29 #[.agg cx.toArray] w (bQ w (.bool (kBs x))):=by
 obtain ⟨el,e1,f3,f1,fw,fu,rfl,ac,bc,bl,bj,bf,bp,bt,c6,dp⟩:=yF hx;obtain ⟨dg,dd,rfl,en,dj,di,rfl,e4,d4,dz,rfl,fx,eb,d9,rfl,fz,d3,dy,rfl,f5,dx,dr,rfl,fy⟩:=kD.sx ac (kD.sx bj (kD.sx bf (kD.sx bp (kD.sx bt (kD.sl c6)))));have hl:=ac;have ae:=kD.kBx hl;refine aN bc bf λH1 H4=>?_;refine aN bt c6 λH6 O=>?_;clear hx ac bc bl bj bf bp bt c6 dp;go_enter func29,ntmps29;go_wp2;refine oM λX EB N=>?_;obtain ⟨Y,K1,K2,K3,K4,K5,K6,K7⟩:=jX N;clear N;replace hl:=hl.below EB;go_loopw [8] (λi wr=>∃ k:Nat,k<=x.1.length/\i=.int .i64 k/\Hid (zf (λj=>kKs x.1 j (x.1.getD j kTn)) k=true)/\Qb X wr) (λi _=>x.1.length - (Aj i).toNat);case atStart=>exact ⟨0,Nat.zero_le _,rfl,yD rfl,bR⟩
 obtain ⟨k,hk,rfl,HN,D⟩:=hrel;refine aJ D Y K1 K2 λY K1 K2=>?_;replace K3:=cL D K3;replace K4:=cL D K4;replace K5:=cL D K5;replace K6:=cL D K6;replace K7:=cL D K7;by_cases hlt:k < x.1.length
 · refine FK λag=>?_;have hb:=λq=>jCp (x:=x) hlt q;have H:=λq=>kYi hlt q HN.out;obtain ⟨qb,qo,rfl,ah,aj,ao,cc,cf,qr,a2,a4,a5,be,bo⟩:=kD.get5 (hl.below D) (i:=k) bJ5 rfl;generalize x.1[k]=z at *;refine aN hb H λHB HX=>?_;clear hb H;obtain ⟨rfl,rfl,au,az,aw,bi,bk,bq,b5⟩:=kBa qr;obtain ⟨ai,a6,rfl,bb,ar,bd,rfl,b2,ax,b3,rfl,b8⟩:=kD.sx az (kD.sx aw (kD.sl bk));have bg:=Ag.2 hlt;have dt:=Ac k;have cz:(k:Int)<=(dd:Int):=bJ5;go_upto_region 4 with fail;refine oM λwC EC N=>?_;replace Y:=cL EC Y;obtain ⟨M0,M1,M2,M3,M4⟩:=jP N;clear N;have FX:=yD (λ(W:Ae) (hW:Qb wC W)=>kPa hW Y M0 M1 M2 M3 M4);refine kN (λW=>Qb wC W) [Tt,Ff,Tt,Tt,Tt,Tt,Tt,Tt,Tt,Tt,Ff,Tt,Tt] bI9 bI9 sD (bR.drew) ?_;intro wS I;all_goals (refine kZ ?_;(first | refine wkB (kFz (kD.raw.below qr (tQ EC I))) (λwS1 I=>?_) | refine kZ ?_);refine kZ ?_;refine jo λb a1=>?_;cases b <;> try simp only [jm] at a1)
   all_goals ((iterate 6 refine kZ ?_);(first | refine wkB (kRz (kD.raw.below ag.out (tQ EC I)) (kD.raw.below au (tQ EC I))) (λwS1 I=>?_) | refine kZ ?_);refine kZ ?_;refine jo λb ab=>?_;cases b <;> try simp only [jm] at ab)
   all_goals (refine kR ?_;have G:=(tQ D (tQ EC I)))
   all_goals first|(have L:=yD (HB.out (show _=false by simp only [kKs,Q0,Aa,a1,ab]));clear HB HX HN ag;go_wp2;go_ret;exact ⟨kJ L.symm,(tQ EB G)⟩)|(have L:=yD (HX.out (show _=true by simp only [kKs,Q0,Aa,a1,ab]));clear HB HX HN ag;refine Qg ?_;exact ⟨k + 1,by omega,by go_num,L,G⟩)
 have L:=yD (kYj (x:=x) HN.out hlt hk);have b4:¬ (k:Int) < x.1.length:=bJ5;go_upto_region 7 with fail;refine DV λFX=>?_;refine q8 λwS I=>?_;all_goals (refine jo λb Z=>?_;cases b <;> try simp only [jm] at Z)
 all_goals (refine kZ ?_;refine kZ ?_;(first | refine wkB (kMr (kD.raw.below H1.out ((tQ EB D).trans (I.mono (Ab (tQ EB D)))))) (λwS1 I=>?_) | refine kZ ?_);refine kZ ?_;refine jo λb b1=>?_;cases b <;> try simp only [jm] at b1)
 all_goals (refine kZ ?_;refine kZ ?_;(first | refine wkB (kSx (kD.raw.below H4.out ((tQ EB D).trans (I.mono (Ab (tQ EB D)))))) (λwS1 I=>?_) | refine kZ ?_);refine kZ ?_;refine jo λb E=>?_;cases b <;> try simp only [jm] at E)
 all_goals (refine kZ ?_;refine kZ ?_;(first | refine wkB (kUv (kD.raw.below H6.out ((tQ EB D).trans (I.mono (Ab (tQ EB D)))))) (λwS1 I=>?_) | refine kZ ?_);refine kZ ?_;refine jo λb ak=>?_;cases b <;> try simp only [jm] at ak)
 all_goals (refine kZ ?_;refine kZ ?_;(first | refine wkB (kMq (kD.raw.below O.out ((tQ EB D).trans (I.mono (Ab (tQ EB D)))))) (λwS1 I=>?_) | refine kZ ?_);refine kZ ?_;refine jo λb J=>?_;cases b <;> try simp only [jm] at J)
 all_goals ((iterate 5 refine kZ ?_);refine jo λb ck=>?_;cases b <;> try simp only [jm] at ck)
 all_goals ((iterate 4 refine kZ ?_);refine jo λb F=>?_;cases b <;> try simp only [jm] at F)
 all_goals (refine kR ?_;have G:=(tQ EB (tQ D I)))
 all_goals first|(have HV:=yD (show kBs x=false by rw [L.out];simp only [kYe,Q0,Aa,Z,b1,E,ak,J,ck,F]);go_wp2;go_ret;exact ⟨kJ HV.symm,G⟩)|(have HV:=yD (show kBs x=true by rw [L.out];simp only [kYe,Q0,Aa,Z,b1,E,ak,J,ck,F]);go_wp2;go_ret;exact ⟨kJ HV.symm,G⟩)
end Go.Proofs.YthocbplmdjkifabGreat

/-
  Data found by their names: in a list, in a content store.
-/
import Derived.Test.YthocbplmdjkifabGreatPMt
set_option linter.unusedVariables false
set_option linter.defProp false
set_option linter.unusedSimpArgs false
set_option linter.unnecessarySimpa false
set_option maxRecDepth 100000
set_option maxHeartbeats 4000000
open Bool renaming true->Tt,false->Ff
open Go renaming Value->Aa,World->Ac,Calls->Ad,run_convert_bytes_back->Ai,FuncId->Ak
open _root_ renaming List->Ab,ByteArray->Ae
open ByteArray renaming empty->Ag
open Bool renaming eq_iff_iff->Ah
open Go.RowKit renaming intOf->Aj
namespace Go.Proofs.YthocbplmdjkifabGreat
open Go.RowKit _root_.Go.Proofs.Tryz
variable {w:Ac} {cn cm cr cx cy:Ab Aa} {cp:Array Aa} {n m:kU} {vl va b7 N:Aa} {l:Ab kDf} {g:Ak} {r:kDf} {x y:jK} {S:Nat->Prop} {s:Ae} {Bn:Nat} {t:Int}
def eqS (s t:Ae):Bool:=t.toList==s.toList
def hasS (p:Ab Ae) (s:Ae):Bool:=decide (0<=idxOf (eqS s) p)
def kFl (r:kDf) (s:Ae):Bool:=isLet s && !hasS r.1 s
def kKp (r:kDf):Bool:=(kFj r.1 && kFj r.2) && zf (λj=>!kFl r (r.2.getD j Ag)) r.2.length
def allows (n m:kU) (r:kDf):Bool:=(kKp r && kGz r.1 n []) && kGz r.2 m (ptB r.1 n [])
def jDp (l:Ab kDf) (n m:kU):Int:=idxOf (allows n m) l
def kAw (l:Ab kDf) (n m:kU):Bool:=decide (jDp l n m ≥ 0)
def eqS_comm (s t:Ae):eqS s t=(s.toList==t.toList):=by unfold eqS;rw [Ah];simp only [beq_iff_eq];exact ⟨Eq.symm,Eq.symm⟩
section
variable {r:kDf} {k:Nat}
def kQf (h:(kFj r.1 && kFj r.2)=false):kKp r=false:=by unfold kKp;rw [h];rfl
def jFe (h:k < r.2.length) (q:kFl r r.2[k]=true):kKp r=false:=by
 unfold kKp;rw [kEw h tX];simp
def jAq (h:k < r.2.length) (q:kFl r r.2[k]=false) (a:zf (λj=>!kFl r (r.2.getD j Ag)) k=true):zf (λj=>!kFl r (r.2.getD j Ag)) (k + 1)=true :=
  kCi a tX
def jAr (v:(kFj r.1 && kFj r.2)=true) (q:zf (λj=>!kFl r (r.2.getD j Ag)) k=true) (h:¬ k < r.2.length) (hk:k<=r.2.length):kKp r=true:=by
 obtain rfl:k=r.2.length:=bJ5;unfold kKp;rw [q,v];rfl
end
def jIc {cl:Ab Aa} {l:kAk} (hl:zZ.raw w cl l) :
    Ad prog 300 #[.agg cl.toArray,.string s] w (bQ w (.bool (hasS l s))):=by
 obtain ⟨pv,rfl,ay⟩:=kDt hl;obtain ⟨al,pl,rfl,ll⟩:=kD.sl ay;have HL:=yD ay;clear ay hl;go_enter func300,ntmps300;go_wp2;refine MJ λX U EB=>?_;have Y:Qd X w 0 (Qs al l pl):=bA9;clear U;go_loopw [5] (λi wr=>∃ k:Nat,k<=l.length/\i=.int .i64 k/\Hid (∀ j,(h:j < k)->(h2:j < l.length)->eqS s l[j]=false)/\Qb X wr) (λi _=>l.length - (Aj i).toNat);case atStart=>exact ⟨0,Nat.zero_le _,rfl,yD (λ_ h=>by omega),bR⟩
 obtain ⟨k,hk,rfl,HN,D⟩:=hrel;have G:=(tQ EB D);replace Y:=cL D Y;by_cases hlt:k < l.length
 · obtain ⟨qb,qo,rfl,ah,qr,a2⟩:=kD.kAu (HL.below G) hlt rfl;obtain ⟨he,bn⟩:=kD.zQ qr;obtain rfl:ah=_:=by simpa using he
   have R:=λq=>idxOf_hit (p:=eqS s) hlt q HN.out;have J:=λq=>kAl (p:=eqS s) hlt q HN.out;generalize l[k]=x at *;refine aN R J λHD HX=>?_;clear R J he qr;cases hv:eqS s x
   · have L:=yD (HX.out hv);have a9:(x.toList==s.toList)=false:=hv;clear hv HD HX;exact iI L D
   have L:=yD (HD.out hv);have a9:(x.toList==s.toList)=true:=hv;clear hv HD HX;go_wp2;go_ret;exact ⟨kJ (show _=hasS l s by unfold hasS;rw [L.out];simp),G⟩
 refine uP λL=>?_;go_wp2;go_ret;exact ⟨kJ (show _=hasS l s by unfold hasS;rw [L.out];rfl),G⟩
def Index_str_c {l:Ab Ae} (hl:Cg.raw w [vl] l) :
    Ad prog 313 #[vl,.string s] w λe w'=>e=.returned (.int .i64 (idxOf (eqS s) l))/\Qb w w':=by
 obtain ⟨al,pl,rfl,ll⟩:=kD.sl hl;have HL:=yD hl;clear hl;go_enter func313,ntmps313;go_wp2;obtain ⟨X,U⟩:∃ X,X=w:=⟨_,rfl⟩;have EB:Qb w X:=by rw [U];exact bR
 rw [<- U];clear U;go_loopw [8] (λi wr=>∃ k:Nat,k<=l.length/\i=.int .i64 k/\Hid (∀ j,(h:j < k)->(h2:j < l.length)->eqS s l[j]=false)/\Qb X wr) (λi _=>l.length - (Aj i).toNat);case atStart=>exact ⟨0,Nat.zero_le _,rfl,yD (λ_ h=>by omega),bR⟩
 obtain ⟨k,hk,rfl,HN,D⟩:=hrel;have G:=(tQ EB D);by_cases hlt:k < l.length
 · obtain ⟨qb,qo,rfl,ah,qr,a2⟩:=kD.kAu (HL.below G) hlt rfl;obtain ⟨he,bn⟩:=kD.zQ qr;obtain rfl:ah=_:=by simpa using he
   have R:=λq=>idxOf_hit (p:=eqS s) hlt q HN.out;have J:=λq=>kAl (p:=eqS s) hlt q HN.out;generalize l[k]=x at *;refine aN R J λHD HX=>?_;clear R J he qr;cases hv:eqS s x
   · have L:=yD (HX.out hv);have a9:(s.toList==x.toList)=false:=by rw [<- eqS_comm];exact hv
     clear hv HD HX;exact iI L D
   have L:=yD (HD.out hv);have a9:(s.toList==x.toList)=true:=by rw [<- eqS_comm];exact hv
   clear hv HD HX;go_wp2;exact uR G
 exact PE G
def jEg {l:Ab Ae} (hl:Cg.raw w [vl] l) :
    Ad prog 309 #[vl,.string s] w (bQ w (.bool (hasS l s))):=by
 go_enter func309,ntmps309;go_wp2_with fail;refine (Index_str_c hl).mono ?_;refine fO λw1 hb=>?_;go_wp2;go_ret;exact ⟨kJ rfl,hb⟩
def kOb (hr:kFi.raw w cr r):Ad prog 281 #[.agg cr.toArray] w (bQ w (.bool (kKp r))):=by
 obtain ⟨el,a8,rfl,ac,bc,bl,bj⟩:=kHu hr;obtain ⟨dg,dd,rfl,en,ax,au,rfl,ba⟩:=kD.sx bc (kD.sl bj);refine aN ac bl λH0 H2=>?_;have H3:=yD bj;clear hr ac bc bl bj;go_enter func281,ntmps281;go_upto_region 1 with fail;refine oM λX EB N=>?_;obtain ⟨Y,K1⟩:=yA N;clear N;go_wp2_with fail;refine (kDg (H0.below EB)).mono ?_;refine fO λw1 O=>?_;refine aL O Y K1 λY K1=>?_;have E1:=(tQ EB O);clear O EB;cases an:kFj r.1
 · have L:=yD (kQf (r:=r) (by rw [an];rfl));go_wp2;exact iZ L E1
 go_wp2_with fail;refine (kDg (H2.below E1)).mono ?_;refine fO λw2 V=>?_;refine aL V Y K1 λY K1=>?_;have E2:=(tQ E1 V);clear V E1;cases a9:kFj r.2
 · have L:=yD (kQf (r:=r) bH2);clear an a9;go_wp2;exact iZ L E2
 have HV:Hid ((kFj r.1 && kFj r.2)=true):=yD bH2;clear an a9;go_wp2;go_loopw [3] (λi wr=>∃ k:Nat,k<=r.2.length/\i=.int .i64 k/\Hid (zf (λj=>!kFl r (r.2.getD j Ag)) k=true)/\Qb w2 wr) (λi _=>r.2.length - (Aj i).toNat);case atStart=>exact ⟨0,Nat.zero_le _,rfl,yD rfl,bR⟩
 obtain ⟨k,hk,rfl,HN,D⟩:=hrel;have G:=(tQ E2 D);refine aL D Y K1 λY K1=>?_;by_cases hlt:k < r.2.length
 · obtain ⟨qb,qo,rfl,ah,qr,a2⟩:=kD.kAu (H3.below G) hlt rfl;obtain ⟨he,bn⟩:=kD.zQ qr;obtain rfl:ah=_:=by simpa using he
   have R:=λq=>jFe hlt q;have J:=λq=>jAq hlt q HN.out;generalize r.2[k]=s at *;refine aN R J λHD HX=>?_;clear R J he qr;go_upto_region 6 with fail;refine OV Y K1 a2 λFX=>?_;refine kN (λW=>Qb wr W) [Tt,Tt,Tt,Tt,Tt,Tt,Ff,Tt,Tt,Tt,Tt,Tt,Tt,Tt,Tt,Tt,Ff,Tt,Tt] bI9 bI9 sD (bR.drew) ?_;refine uC λwS I=>?_;all_goals ((first | refine wkC (kJo bn) ?_ | refine kZ ?_);refine jo λb af=>?_;cases b <;> try simp only [jm] at af)
   all_goals ((iterate 8 refine kZ ?_);(first | refine wkB (jIc (H0.below (tQ G I))) (λwS1 I=>?_) | refine kZ ?_);refine kZ ?_;refine jo λb F=>?_;cases b <;> try simp only [jm] at F)
   all_goals (refine kR ?_;have ER:=(tQ D I);have EF:=(tQ G I))
   all_goals first|(have L:=yD (HD.out (show kFl r s=true by simp only [kFl,Q0,af,F]));clear HD HX;go_wp2;go_ret;exact ⟨kJ L.symm,EF⟩)|(have L:=yD (HX.out (show kFl r s=false by simp only [kFl,Q0,af,F]));clear HD HX;refine Qg ?_;exact ⟨k + 1,by omega,by go_num,L,ER⟩)
 have L:=yD (jAr HV.out HN.out hlt hk);exact iF L G
def kZi (hr:kFi.raw w cr r):Ad prog 293 #[.agg cr.toArray] w (bQ w (.bool (kKp r))):=by
 obtain ⟨el,a8,rfl,ac,bc,bl,bj⟩:=kHu hr;obtain ⟨dg,dd,rfl,en,ax,au,rfl,ba⟩:=kD.sx bc (kD.sl bj);refine aN ac bl λH0 H2=>?_;refine aN bc bj λH1 H3=>?_;clear hr ac bc bl bj;go_enter func293,ntmps293;go_upto_region 1 with fail;refine oM λX EB N=>?_;obtain ⟨Y,K1⟩:=yA N;clear N;go_wp2_with fail;refine (kGe (H0.below EB)).mono ?_;refine fO λw1 O=>?_;refine aL O Y K1 λY K1=>?_;have E1:=(tQ EB O);clear O EB;cases an:kFj r.1
 · have L:=yD (kQf (r:=r) (by rw [an];rfl));go_wp2;exact iZ L E1
 go_wp2_with fail;refine (kGe (H2.below E1)).mono ?_;refine fO λw2 V=>?_;refine aL V Y K1 λY K1=>?_;have E2:=(tQ E1 V);clear V E1;cases a9:kFj r.2
 · have L:=yD (kQf (r:=r) bH2);clear an a9;go_wp2;exact iZ L E2
 have HV:Hid ((kFj r.1 && kFj r.2)=true):=yD bH2;clear an a9;go_wp2;go_loopw [19] (λi wr=>∃ k:Nat,k<=r.2.length/\i=.int .i64 k/\Hid (zf (λj=>!kFl r (r.2.getD j Ag)) k=true)/\Qb w2 wr) (λi _=>r.2.length - (Aj i).toNat);case atStart=>exact ⟨0,Nat.zero_le _,rfl,yD rfl,bR⟩
 obtain ⟨k,hk,rfl,HN,D⟩:=hrel;have G:=(tQ E2 D);refine aL D Y K1 λY K1=>?_;by_cases hlt:k < r.2.length
 · obtain ⟨qb,qo,rfl,ah,qr,a2⟩:=kD.kAu (H3.below G) hlt rfl;obtain ⟨he,bn⟩:=kD.zQ qr;obtain rfl:ah=_:=by simpa using he
   have R:=λq=>jFe hlt q;have J:=λq=>jAq hlt q HN.out;generalize r.2[k]=s at *;refine aN R J λHD HX=>?_;clear R J he qr;go_upto_region 6 with fail;have FX:=yD (λ(W:Ac) (hW:Qb wr W)=>kNa hW Y K1);refine kX (λW=>Qb wr W) [Tt,Ff,Tt,Tt,Tt,Tt,Tt,Ff,Tt,Tt] bR ?_;intro wS I;all_goals (refine kZ ?_;(first | refine wkC (kHr bn) ?_ | refine kZ ?_);refine jo λb ai=>?_;cases b <;> try simp only [jm] at ai)
   all_goals ((iterate 4 refine kZ ?_);(first | refine wkB (jEg (H1.below (tQ G I))) (λwS1 I=>?_) | refine kZ ?_);refine kZ ?_;refine jo λb b1=>?_;cases b <;> try simp only [jm] at b1)
   all_goals (refine kR ?_;have ER:=(tQ D I);have EF:=(tQ G I))
   all_goals first|(have L:=yD (HD.out (show kFl r s=true by simp only [kFl,Q0,ai,b1]));clear HD HX;go_wp2;go_ret;exact ⟨kJ L.symm,EF⟩)|(have L:=yD (HX.out (show kFl r s=false by simp only [kFl,Q0,ai,b1]));clear HD HX;refine Qg ?_;exact ⟨k + 1,by omega,by go_num,L,ER⟩)
 have L:=yD (jAr HV.out HN.out hlt hk);exact iF L G
def kVw (hr:kFi.raw w cr r) (hn:kQ.raw w cn n) (hm:kQ.raw w cm m) :
    Ad prog 274 #[.agg cr.toArray,.agg cn.toArray,.agg cm.toArray] w (bQ w (.bool (allows n m r))):=by
 have HR:=yD hr;have HN:=yD hn;have HM:=yD hm;obtain ⟨el,a8,rfl,ac,bc,bl,bj⟩:=kHu hr;obtain ⟨dg,dd,rfl,en,ax,au,rfl,ba⟩:=kD.sx bc (kD.sl bj);obtain ⟨iv,rfl,a3⟩:=kT hn;obtain ⟨f7,gd,rfl,i3⟩:=kD.sl a3;obtain ⟨bd,rfl,ab⟩:=kT hm;obtain ⟨b0,af,rfl,ay⟩:=kD.sl ab;refine aN ac bl λH0 H2=>?_;refine J8 λL bg=>?_;clear hr hn hm ac bc bl bj a3 ab;go_enter func274,ntmps274;go_upto_region 1 with fail;refine nA λX U=>?_;refine iD λEB=>?_;refine GG λY K1 K2 K3=>?_;clear U;go_wp2_with fail;have Z:=((litB (w:=X) (e:=283)).own (Nat.zero_le _)).rd;have BX:Below X X (World.alloc X (.cells #[] 283)):=bR.alloc nL _;have E:=(tQ EB BX);refine (kYc (H0.below E) (HN.below E) (cn:=[.slice f7 n.length gd]) (l:=[]) Z bJ6).mono ?_;refine eD λw1 v1 O1 O=>?_;refine aH O1 λa1 n1 c1 an a5=>?_;obtain rfl:=an;replace Y:=cL (tQ BX O) Y;replace K1:=cL (tQ BX O) K1;replace K3:=cL (tQ BX O) K3;have E1:=(tQ E O);have R1:=yD ((O1.own bE7).rd);clear O O1 EB E K2 BX Z;generalize kGz r.1 n []=N at *;generalize ptB r.1 n []=D at *;go_wp2_with fail;refine (kYc (H2.below E1) (HM.below E1) (cn:=[.slice b0 m.length af]) R1.out bJ5).mono ?_;refine eD λw2 v2 O2 V=>?_;refine aH O2 λa2 n2 c2 a9 a6=>?_;obtain rfl:=a9;refine aL V Y K1 λY K1=>?_;have E2:=(tQ E1 V);clear V O2 E1 K3 R1;generalize kGz r.2 m D=W at *;go_wp2_with fail;refine (kOb (HR.below E2)).mono ?_;exact OQ
def kWv (hr:kFi.raw w cr r) (hn:kQ.raw w cn n) (hm:kQ.raw w cm m) :
    Ad prog 269 #[.agg cr.toArray,.agg cn.toArray,.agg cm.toArray] w (bQ w (.bool (allows n m r))):=by
 have HR:=yD hr;have HN:=yD hn;have HM:=yD hm;obtain ⟨el,a8,rfl,ac,bc,bl,bj⟩:=kHu hr;obtain ⟨dg,dd,rfl,en,ax,au,rfl,ba⟩:=kD.sx bc (kD.sl bj);obtain ⟨iv,rfl,a3⟩:=kT hn;obtain ⟨f7,gd,rfl,i3⟩:=kD.sl a3;obtain ⟨bd,rfl,ab⟩:=kT hm;obtain ⟨b0,af,rfl,ay⟩:=kD.sl ab;refine aN ac bl λH0 H2=>?_;refine J8 λL bg=>?_;clear hr hn hm ac bc bl bj a3 ab;go_enter func269,ntmps269;go_upto_region 1 with fail;refine nA λX U=>?_;refine iD λEB=>?_;refine GG λY K1 K2 K3=>?_;clear U;go_wp2_with fail;have Z:=((kD.ko.void (e:=283) (r:=zP) (w:=X) (a:=none) (S:=λ_=>False)).own (Nat.zero_le _)).rd;have BX:=Below.refl X X;have E:=EB;refine (kYl (H0.below E) (HN.below E) (cn:=[.slice f7 n.length gd]) (l:=[]) Z bJ6).mono ?_;refine eD λw1 v1 O1 O=>?_;refine aH O1 λa1 n1 c1 an a5=>?_;obtain rfl:=an;replace Y:=cL (tQ BX O) Y;replace K1:=cL (tQ BX O) K1;replace K3:=cL (tQ BX O) K3;have E1:=(tQ E O);have R1:=yD ((O1.own bE7).rd);clear O O1 EB E K2 BX Z;generalize kGz r.1 n []=N at *;generalize ptB r.1 n []=D at *;go_wp2_with fail;refine (kYl (H2.below E1) (HM.below E1) (cn:=[.slice b0 m.length af]) R1.out bJ5).mono ?_;refine eD λw2 v2 O2 V=>?_;refine aH O2 λa2 n2 c2 a9 a6=>?_;obtain rfl:=a9;refine aL V Y K1 λY K1=>?_;have E2:=(tQ E1 V);clear V O2 E1 K3 R1;generalize kGz r.2 m D=W at *;go_wp2_with fail;refine (kZi (HR.below E2)).mono ?_;exact OQ
def kMi (hl:Cr.raw w [vl] l) (hn:kQ.raw w cn n) (hm:kQ.raw w cm m) :
    Ad prog 241 #[vl,.agg cn.toArray,.agg cm.toArray] w (bQ w (.int .i64 (idxOf (allows n m) l))):=by
 obtain ⟨al,pl,rfl,ll⟩:=kD.sl hl;have Hn:=yD hn;obtain ⟨Y,rfl,H⟩:=kT hn;obtain ⟨N,E,rfl,Z⟩:=kD.sl H;have Hm:=yD hm;obtain ⟨ak,rfl,aa⟩:=kT hm;obtain ⟨af,ag,rfl,am⟩:=kD.sl aa;go_enter func241,ntmps241;go_wp2;refine fK λX U EB=>?_;refine EE λV=>?_;have F:Qc X (w.heap.size + 1) 0 (Qs af m ag):=bA9;clear U;replace hl:=hl.below EB;go_loopw [7] (λi wr=>∃ k:Nat,k<=l.length/\i=.int .i64 k/\Hid (∀ j,(h:j < k)->(h2:j < l.length)->(allows n m) l[j]=false)/\Qb X wr) (λi _=>l.length - (Aj i).toNat);case atStart=>exact ⟨0,Nat.zero_le _,rfl,yD (λ_ h=>by omega),bR⟩
 obtain ⟨k,hk,rfl,HN,D⟩:=hrel;replace V:=cL D V;replace F:=cL D F;by_cases hlt:k < l.length
 · obtain ⟨qb,qo,rfl,ah,aj,qr,a2,a4⟩:=kD.kRc (hl.below D) (i:=k) bJ5 rfl;refine AU λR J=>?_;generalize l[k]=x at *;refine aN R J λHD HX=>?_;clear R J;obtain ⟨x0,x1⟩:=x;obtain ⟨au,az,aw,bi⟩:=RRule_rawL qr;obtain ⟨ai,a6,rfl,bb,ar,bd,rfl,b2⟩:=kD.sx az (kD.sl bi);go_upto_region 4 with fail;have FX:=yD (λ(W:Ac) (hW:Qb wr W)=>kIm hW V F a2 a4);refine q9 λwS I=>?_;all_goals ((first | refine wkB (kVw (kD.raw.below qr I) (kD.raw.below Hn.out ((tQ EB (tQ D I)))) (kD.raw.below Hm.out ((tQ EB (tQ D I))))) (λwS1 I=>?_) | refine kZ ?_);refine kR ?_)
   all_goals cases av:allows n m (x0,x1)
   all_goals have G:=(tQ D I)
   all_goals first|(have L:=yD (HD.out (show _=true by simp only [Q0,av]));clear HD HX;go_wp2;go_ret;exact ⟨jS L.symm,(tQ EB G)⟩)|(have L:=yD (HX.out (show _=false by simp only [Q0,av]));clear HD HX;refine Qg ?_;exact ⟨k + 1,by omega,by go_num,L,G⟩)
 exact QV
def kLr (hr:kFi.raw w cr r) (nr:kQ.raw w [b7] n) (ae:Qc w Bn 0 b7) {ea:Aa} {Bm:Nat} (mr:kQ.raw w [ea] m) (Y:Qc w Bm 0 ea) :
    Ad prog 268 (#[.agg cr.toArray]++#[.pointer (Qa Bn),.pointer (Qa Bm)]) w (bQ w (.bool (allows n m r))):=by
 have Hr:=yD hr;obtain ⟨ac,D,rfl,O,H,aa,E⟩:=kHu hr;obtain ⟨aj,af,rfl,ag,ah,U,rfl,J⟩:=kD.sx H (kD.sl E);have ab:=kEx nr;obtain ⟨dz,R,rfl,ai⟩:=kD.sl ab;have gh:=kEx mr;obtain ⟨gj,al,rfl,ak⟩:=kD.sl gh;show Ad prog 268 #[_,_,_] w _;go_enter func268,ntmps268;go_upto_region 1 with fail;refine oM λX EB N=>?_;obtain ⟨F,V⟩:=yA N;clear N;refine aL EB ae Y λae Y=>?_;have FX:=yD (λ(W:Ac) (hW:Qb X W)=>kIm hW F V ae Y);refine J7 ?_;refine uB λwS I=>?_;all_goals ((first | refine wkB (kWv (kD.raw.below Hr.out (tQ EB I)) (kD.raw.below nr (tQ EB I)) (kD.raw.below mr (tQ EB I))) (λwS1 I=>?_) | refine kZ ?_);refine jo λb Z=>?_;cases b <;> try simp only [jm] at Z)
 all_goals (refine kR ?_;have G:=(tQ EB I))
 all_goals (obtain ⟨vq,qv⟩:∃ qc,(allows n m r)=qc:=⟨_,rfl⟩;have L:=yD qv;simp only [Q0,Z] at qv;subst qv;go_wp2;go_ret;exact ⟨kJ L.symm,G⟩)
def kGo:jL prog 268:=yK func268 bI9 bI9
def kMs (hl:Cr.raw w [vl] l) (hn:kQ.raw w cn n) (hm:kQ.raw w cm m) :
    Ad prog 235 #[vl,.agg cn.toArray,.agg cm.toArray] w (bQ w (.int .i64 (idxOf (allows n m) l))):=by
 obtain ⟨al,pl,rfl,ll⟩:=kD.sl hl;have Hn:=yD hn;obtain ⟨Y,rfl,H⟩:=kT hn;obtain ⟨N,E,rfl,Z⟩:=kD.sl H;have Hm:=yD hm;obtain ⟨ak,rfl,aa⟩:=kT hm;obtain ⟨af,ag,rfl,am⟩:=kD.sl aa;go_enter func235,ntmps235;go_upto_region 1 with fail;refine fK λX U EB=>?_;refine EE λV=>?_;have F:Qc X (w.heap.size + 1) 0 (Qs af m ag):=bA9;clear U;go_wp2_with fail;refine (kXj (allows n m) kGo (kD.raw.below hl EB) ?_).mono ?_
 · intro wr hb i h cs hr;exact kLr hr (kD.raw.below Hn.out (tQ EB hb)) (cL hb V) (kD.raw.below Hm.out (tQ EB hb)) (cL hb F)
 exact PO
def jEv (hl:Cr.raw w [vl] l) (hn:kQ.raw w cn n) (hm:kQ.raw w cm m) :
    Ad prog 180 #[vl,.agg cn.toArray,.agg cm.toArray] w (bQ w (.bool (kAw l n m))):=by
 obtain ⟨al,pl,rfl,ll⟩:=kD.sl hl;have Hn:=yD hn;obtain ⟨Y,rfl,H⟩:=kT hn;obtain ⟨N,E,rfl,Z⟩:=kD.sl H;have Hm:=yD hm;obtain ⟨ak,rfl,aa⟩:=kT hm;obtain ⟨af,ag,rfl,am⟩:=kD.sl aa;go_enter func180,ntmps180;go_upto_region 1 with fail;refine fK λX U EB=>?_;refine EE λV=>?_;refine IP λF FX=>?_;clear U;refine uB λwS I=>?_;all_goals ((first | refine wkB (kMi (kD.raw.below hl (tQ EB I)) (kD.raw.below Hn.out (tQ EB I)) (kD.raw.below Hm.out (tQ EB I))) (λwS1 I=>?_) | refine kZ ?_);refine kZ ?_;refine jo λb D=>?_;cases b <;> try simp only [jm] at D)
 all_goals (refine kR ?_;have G:=(tQ EB I))
 all_goals (obtain ⟨vq,qv⟩:∃ qc,(kAw l n m)=qc:=⟨_,rfl⟩;have L:=yD qv;simp only [kAw,jDp,ge_iff_le,Q0,D] at qv;subst qv;go_wp2;go_ret;exact ⟨kJ L.symm,G⟩)
def kSb (hl:Cr.raw w [vl] l) (hn:kQ.raw w cn n) (hm:kQ.raw w cm m) :
    Ad prog 176 #[vl,.agg cn.toArray,.agg cm.toArray] w (bQ w (.bool (kAw l n m))):=by
 obtain ⟨al,pl,rfl,ll⟩:=kD.sl hl;have Hn:=yD hn;obtain ⟨Y,rfl,H⟩:=kT hn;obtain ⟨N,E,rfl,Z⟩:=kD.sl H;have Hm:=yD hm;obtain ⟨ak,rfl,aa⟩:=kT hm;obtain ⟨af,ag,rfl,am⟩:=kD.sl aa;go_enter func176,ntmps176;go_upto_region 1 with fail;refine fK λX U EB=>?_;refine EE λV=>?_;refine IP λF FX=>?_;clear U;refine uB λwS I=>?_;all_goals ((first | refine wkB (kMs (kD.raw.below hl (tQ EB I)) (kD.raw.below Hn.out (tQ EB I)) (kD.raw.below Hm.out (tQ EB I))) (λwS1 I=>?_) | refine kZ ?_);refine kZ ?_;refine jo λb D=>?_;cases b <;> try simp only [jm] at D)
 all_goals (refine kR ?_;have G:=(tQ EB I))
 all_goals (obtain ⟨vq,qv⟩:∃ qc,(kAw l n m)=qc:=⟨_,rfl⟩;have L:=yD qv;simp only [kAw,jDp,ge_iff_le,Q0,D] at qv;subst qv;go_wp2;go_ret;exact ⟨kJ L.symm,G⟩)
def kNf {a b:Ab kM} (hg:jL prog g) (ac:Cf.raw w [va] a) (a3:Cf.raw w [N] b)
    (ag:∀ wr,Qb w wr->∀ (cs ds:Ab Aa) (x y:kM),kL.raw wr cs x->kL.raw wr ds y->Ad prog g (#[.agg cs.toArray,.agg ds.toArray]++cp) wr (λe w'=>e=.returned (.bool (decide (x=y)))/\Qb wr w')) :
    Ad prog 209 #[va,N,.func (.func g) #[] cp] w (bQ w (.bool (decide (a=b)))):=by
 obtain ⟨aa,H,rfl,la,ab,R,rfl,lb⟩:=kD.sx ac (kD.sl a3);have al:=yD ag;clear ag;unfold jL at hg;go_enter func209,ntmps209;by_cases hl:a.length=b.length;case neg =>
  exact fF
 refine lJ λhz HL=>?_;clear hl;go_wp2;go_loopw [17] (λi wr=>∃ k:Nat,k<=a.length/\i=.int .i64 k/\Hid (a.take k=b.take k)/\Qb w wr) (λi _=>a.length - (Aj i).toNat);case atStart=>exact ⟨0,Nat.zero_le _,rfl,yD rfl,bR⟩
 obtain ⟨k,hk,rfl,HN,D⟩:=hrel;by_cases hlt:k < a.length
 · have af:k < b.length:=bD1;obtain ⟨pb,po,rfl,bl,ce,ch,pr,ak,a9,ba⟩:=kD.zx (ac.below D) (i:=k) bJ5 rfl;obtain ⟨qb,qo,rfl,ah,aj,ao,qr,a2,a4,a5⟩:=kD.zx (a3.below D) (i:=k) bJ5 rfl;refine lG λhne E=>?_;generalize a[k]=x at *;generalize b[k]=y at *;refine OD λHD HX HR d7=>?_;clear hne E;obtain ⟨rfl,rfl,ay,ap,a8,bc⟩:=jy pr;obtain ⟨bx,bz,rfl,bf⟩:=kD.sl ap;obtain ⟨rfl,rfl,au,az,aw,bi⟩:=jy qr;obtain ⟨ai,a6,rfl,bb⟩:=kD.sl az;exact eT
 exact NZ
def kVo {a b:Ab jH} (hg:jL prog g) (ac:Ch.raw w [va] a) (a3:Ch.raw w [N] b)
    (ag:∀ wr,Qb w wr->∀ (cs ds:Ab Aa) (x y:jH),jA.raw wr cs x->jA.raw wr ds y->Ad prog g (#[.agg cs.toArray,.agg ds.toArray]++cp) wr (λe w'=>e=.returned (.bool (decide (x=y)))/\Qb wr w')) :
    Ad prog 207 #[va,N,.func (.func g) #[] cp] w (bQ w (.bool (decide (a=b)))):=by
 obtain ⟨aa,H,rfl,la,ab,R,rfl,lb⟩:=kD.sx ac (kD.sl a3);have al:=yD ag;clear ag;unfold jL at hg;go_enter func207,ntmps207;by_cases hl:a.length=b.length;case neg =>
  exact fF
 refine lJ λhz HL=>?_;clear hl;go_wp2;go_loopw [17] (λi wr=>∃ k:Nat,k<=a.length/\i=.int .i64 k/\Hid (a.take k=b.take k)/\Qb w wr) (λi _=>a.length - (Aj i).toNat);case atStart=>exact ⟨0,Nat.zero_le _,rfl,yD rfl,bR⟩
 obtain ⟨k,hk,rfl,HN,D⟩:=hrel;by_cases hlt:k < a.length
 · have af:k < b.length:=bD1;obtain ⟨pb,po,rfl,bl,ce,ch,pr,ak,a9,ba⟩:=kD.zx (ac.below D) (i:=k) bJ5 rfl;obtain ⟨qb,qo,rfl,ah,aj,ao,qr,a2,a4,a5⟩:=kD.zx (a3.below D) (i:=k) bJ5 rfl;refine lG λhne E=>?_;generalize a[k]=x at *;generalize b[k]=y at *;refine OD λHD HX HR d7=>?_;clear hne E;obtain ⟨rfl,rfl,ay,ap,a8,bc⟩:=yS pr;obtain ⟨bx,bz,rfl,bf⟩:=kD.sl ap;obtain ⟨rfl,rfl,au,az,aw,bi⟩:=yS qr;obtain ⟨ai,a6,rfl,bb⟩:=kD.sl az;exact eT
 exact NZ
def kJh {a b:Ab kF} (hg:jL prog g) (ac:Ce.raw w [va] a) (a3:Ce.raw w [N] b)
    (ag:∀ wr,Qb w wr->∀ (cs ds:Ab Aa) (x y:kF),kH.raw wr cs x->kH.raw wr ds y->Ad prog g (#[.agg cs.toArray,.agg ds.toArray]++cp) wr (λe w'=>e=.returned (.bool (decide (x=y)))/\Qb wr w')) :
    Ad prog 204 #[va,N,.func (.func g) #[] cp] w (bQ w (.bool (decide (a=b)))):=by
 obtain ⟨aa,H,rfl,la,ab,R,rfl,lb⟩:=kD.sx ac (kD.sl a3);have al:=yD ag;clear ag;unfold jL at hg;go_enter func204,ntmps204;by_cases hl:a.length=b.length;case neg =>
  exact fF
 refine lJ λhz HL=>?_;clear hl;go_wp2;go_loopw [17] (λi wr=>∃ k:Nat,k<=a.length/\i=.int .i64 k/\Hid (a.take k=b.take k)/\Qb w wr) (λi _=>a.length - (Aj i).toNat);case atStart=>exact ⟨0,Nat.zero_le _,rfl,yD rfl,bR⟩
 obtain ⟨k,hk,rfl,HN,D⟩:=hrel;by_cases hlt:k < a.length
 · have af:k < b.length:=bD1;obtain ⟨pb,po,rfl,bl,ce,ch,pr,ak,a9,ba⟩:=kD.zx (ac.below D) (i:=k) bJ5 rfl;obtain ⟨qb,qo,rfl,ah,aj,ao,qr,a2,a4,a5⟩:=kD.zx (a3.below D) (i:=k) bJ5 rfl;refine lG λhne E=>?_;generalize a[k]=x at *;generalize b[k]=y at *;refine OD λHD HX HR d7=>?_;clear hne E;obtain ⟨rfl,ay,ap,a8,bc⟩:=jV pr;obtain ⟨bx,bz,rfl,bf,dr,dy,rfl,bh⟩:=kD.sx ap (kD.sl a8);obtain ⟨rfl,au,az,aw,bi⟩:=jV qr;obtain ⟨ai,a6,rfl,bb,ar,bd,rfl,b2⟩:=kD.sx az (kD.sl aw);exact eT
 exact NZ
def kPd {a b:Ab jI} (hg:jL prog g) (ac:Cj.raw w [va] a) (a3:Cj.raw w [N] b)
    (ag:∀ wr,Qb w wr->∀ (cs ds:Ab Aa) (x y:jI),jG.raw wr cs x->jG.raw wr ds y->Ad prog g (#[.agg cs.toArray,.agg ds.toArray]++cp) wr (λe w'=>e=.returned (.bool (decide (x=y)))/\Qb wr w')) :
    Ad prog 144 #[va,N,.func (.func g) #[] cp] w (bQ w (.bool (decide (a=b)))):=by
 obtain ⟨aa,H,rfl,la,ab,R,rfl,lb⟩:=kD.sx ac (kD.sl a3);have al:=yD ag;clear ag;unfold jL at hg;go_enter func144,ntmps144;by_cases hl:a.length=b.length;case neg =>
  exact fF
 refine lJ λhz HL=>?_;clear hl;go_wp2;go_loopw [17] (λi wr=>∃ k:Nat,k<=a.length/\i=.int .i64 k/\Hid (a.take k=b.take k)/\Qb w wr) (λi _=>a.length - (Aj i).toNat);case atStart=>exact ⟨0,Nat.zero_le _,rfl,yD rfl,bR⟩
 obtain ⟨k,hk,rfl,HN,D⟩:=hrel;by_cases hlt:k < a.length
 · have af:k < b.length:=bD1;obtain ⟨pb,po,rfl,bl,ce,pr,ak,a9⟩:=kD.kRc (ac.below D) (i:=k) bJ5 rfl;obtain ⟨qb,qo,rfl,ah,aj,qr,a2,a4⟩:=kD.kRc (a3.below D) (i:=k) bJ5 rfl;refine lG λhne E=>?_;generalize a[k]=x at *;generalize b[k]=y at *;refine OD λHD HX HR d7=>?_;clear hne E;obtain ⟨rfl,ay,ap,a8⟩:=kCj pr;obtain ⟨bx,bz,rfl,bf⟩:=kD.sl ap;obtain ⟨rfl,au,az,aw⟩:=kCj qr;obtain ⟨ai,a6,rfl,bb⟩:=kD.sl az;exact eT
 exact NZ
def kXl {a b:Ab jK} (hg:jL prog g) (ac:Cm.raw w [va] a) (a3:Cm.raw w [N] b)
    (ag:∀ wr,Qb w wr->∀ (cs ds:Ab Aa) (x y:jK),jC.raw wr cs x->jC.raw wr ds y->Ad prog g (#[.agg cs.toArray,.agg ds.toArray]++cp) wr (λe w'=>e=.returned (.bool (decide (x=y)))/\Qb wr w')) :
    Ad prog 140 #[va,N,.func (.func g) #[] cp] w (bQ w (.bool (decide (a=b)))):=by
 obtain ⟨aa,H,rfl,la,ab,R,rfl,lb⟩:=kD.sx ac (kD.sl a3);have al:=yD ag;clear ag;unfold jL at hg;go_enter func140,ntmps140;by_cases hl:a.length=b.length;case neg =>
  exact fF
 refine lJ λhz HL=>?_;clear hl;go_wp2;go_loopw [17] (λi wr=>∃ k:Nat,k<=a.length/\i=.int .i64 k/\Hid (a.take k=b.take k)/\Qb w wr) (λi _=>a.length - (Aj i).toNat);case atStart=>exact ⟨0,Nat.zero_le _,rfl,yD rfl,bR⟩
 obtain ⟨k,hk,rfl,HN,D⟩:=hrel;by_cases hlt:k < a.length
 · have af:k < b.length:=bD1;obtain ⟨pb,po,rfl,bl,ce,ch,d0,dx,pr,ak,a9,ba,ae,U⟩:=kD.get5 (ac.below D) (i:=k) bJ5 rfl;obtain ⟨qb,qo,rfl,ah,aj,ao,cc,cf,qr,a2,a4,a5,be,bo⟩:=kD.get5 (a3.below D) (i:=k) bJ5 rfl;refine lG λhne E=>?_;generalize a[k]=x at *;generalize b[k]=y at *;refine OD λHD HX HR d7=>?_;clear hne E;obtain ⟨rfl,rfl,ay,ap,a8,bc,an,a7,bm⟩:=kBa pr;obtain ⟨bx,bz,rfl,bf,dr,dy,rfl,bh,dp,d1,rfl,bn⟩:=kD.sx ap (kD.sx a8 (kD.sl an));obtain ⟨rfl,rfl,au,az,aw,bi,bk,bq,b5⟩:=kBa qr;obtain ⟨ai,a6,rfl,bb,ar,bd,rfl,b2,ax,b3,rfl,b8⟩:=kD.sx az (kD.sx aw (kD.sl bk));exact eT
 exact NZ
def kNx {a b:Ab kW} (hg:jL prog g) (ac:Cn.raw w [va] a) (a3:Cn.raw w [N] b)
    (ag:∀ wr,Qb w wr->∀ (cs ds:Ab Aa) (x y:kW),kz.raw wr cs x->kz.raw wr ds y->Ad prog g (#[.agg cs.toArray,.agg ds.toArray]++cp) wr (λe w'=>e=.returned (.bool (decide (x=y)))/\Qb wr w')) :
    Ad prog 202 #[va,N,.func (.func g) #[] cp] w (bQ w (.bool (decide (a=b)))):=by
 obtain ⟨aa,H,rfl,la,ab,R,rfl,lb⟩:=kD.sx ac (kD.sl a3);have al:=yD ag;clear ag;unfold jL at hg;go_enter func202,ntmps202;by_cases hl:a.length=b.length;case neg =>
  exact fF
 refine lJ λhz HL=>?_;clear hl;go_wp2;go_loopw [17] (λi wr=>∃ k:Nat,k<=a.length/\i=.int .i64 k/\Hid (a.take k=b.take k)/\Qb w wr) (λi _=>a.length - (Aj i).toNat);case atStart=>exact ⟨0,Nat.zero_le _,rfl,yD rfl,bR⟩
 obtain ⟨k,hk,rfl,HN,D⟩:=hrel;by_cases hlt:k < a.length
 · have af:k < b.length:=bD1;obtain ⟨pb,po,rfl,bl,ce,ch,d0,dx,e8,pr,ak,a9,ba,ae,U,bg⟩:=kD.get6 (ac.below D) (i:=k) bJ5 rfl;obtain ⟨qb,qo,rfl,ah,aj,ao,cc,cf,b9,qr,a2,a4,a5,be,bo,aq⟩:=kD.get6 (a3.below D) (i:=k) bJ5 rfl;refine lG λhne E=>?_;generalize a[k]=x at *;generalize b[k]=y at *;refine OD λHD HX HR d7=>?_;clear hne E;obtain ⟨rfl,rfl,rfl,ay,ap,a8,bc,an,a7,bm,bp,br⟩:=yM pr;obtain ⟨bx,bz,rfl,bf,dr,dy,rfl,bh,dp,d1,rfl,bn⟩:=kD.sx a8 (kD.sx bc (kD.sl a7));obtain ⟨rfl,rfl,rfl,au,az,aw,bi,bk,bq,b5,bj,bt⟩:=yM qr;obtain ⟨ai,a6,rfl,bb,ar,bd,rfl,b2,ax,b3,rfl,b8⟩:=kD.sx aw (kD.sx bi (kD.sl bq));exact eT
 exact NZ
def jDy {P:Program} {src e dst:TypeId} (hs:P.underlying src=some (.slice e)) (he:P.underlying e=some (.int .u8)) (hd:P.underlying dst=some .string) {xs:Ab UInt8} {a:Option Addr} {len cap:Nat} (h:(kD.slice e kD.byte).raw w [.slice a len cap] xs) :
    (convert src dst (.slice a len cap)).run P w=.ok (.string ⟨xs.toArray⟩) w:=by
 obtain ⟨aa,E,hv,_⟩:=kD.kBw h;simp only [List.cons.injEq,Value.slice.injEq,and_true] at hv;obtain ⟨rfl,rfl,rfl⟩:=hv;by_cases h0:xs=[]
 · subst h0;cases a with
   | none=>have h2:=run_convert_bytes_string w src dst e none 0 cap hs he hd;exact h2.trans rfl
   | some a=>exact Ai w src dst e a cap [] hs he hd (λj J=>by simp at J)
 have hp:0 < xs.length:=List.length_pos_iff.2 h0;obtain ⟨b,off,rfl,_⟩:=kD.kAu h hp rfl;refine Ai w src dst e ⟨b,off,none⟩ cap xs hs he hd (λj J=>?_);obtain ⟨b',off',D,c0,hr,hc⟩:=kD.kAu h J rfl;simp only [Option.some.injEq,Addr.mk.injEq,and_true] at D;obtain ⟨rfl,rfl⟩:=D;have hq:=kD.kKe hr;obtain rfl:c0=_:=by simpa using hq
 have F:(⟨b,off,none⟩:Addr).add j=⟨b,off + j,none⟩:=sP;rw [F];exact hc
def bytes_eq (a b:Ab UInt8):((⟨a.toArray⟩:Ae).toList==(⟨b.toArray⟩:Ae).toList)=decide (a=b):=by
 rw [kTh,Ah];simp
def kVz {a b:Ab UInt8} (ac:Cc.raw w [va] a) (a3:Cc.raw w [N] b) :
    Ad prog 242 #[va,N] w (bQ w (.bool (decide (a=b)))):=by
 obtain ⟨aa,H,rfl,la,ab,R,rfl,lb⟩:=kD.sx ac (kD.sl a3);have h1:=jDy (P:=prog) (dst:=9) underlying22 underlying5 underlying9 ac;have h2:=jDy (P:=prog) (dst:=9) underlying22 underlying5 underlying9 a3;have HE:=yD (bytes_eq a b);generalize D:(⟨a.toArray⟩:Ae)=sa at *;generalize E:(⟨b.toArray⟩:Ae)=sb at *;clear D E ac a3;go_enter func242,ntmps242;go_wp2;go_ret;exact ⟨kJ HE.out,bR⟩
def kVm {a b:Ab UInt8} (ac:Cc.raw w [va] a) (a3:Cc.raw w [N] b) :
    Ad prog 201 #[va,N] w (bQ w (.bool (decide (a=b)))):=by
 obtain ⟨aa,H,rfl,la,ab,R,rfl,lb⟩:=kD.sx ac (kD.sl a3);go_enter func201,ntmps201;by_cases hl:a.length=b.length;case neg =>
  exact fF
 refine lJ λhz HL=>?_;clear hl;go_wp2;go_loopw [13] (λi wr=>∃ k:Nat,k<=a.length/\i=.int .i64 k/\Hid (a.take k=b.take k)/\Qb w wr) (λi _=>a.length - (Aj i).toNat);case atStart=>exact ⟨0,Nat.zero_le _,rfl,yD rfl,bR⟩
 exact M8
def vInt (x y:yw):Bool:=((eqN x.1 y.1 && (x.2.1==y.2.1)) && (x.2.2.1==y.2.2.1)) && (x.2.2.2==y.2.2.2)
def vInt_eq (x y:yw):vInt x y=decide (x=y):=by
 obtain ⟨x0,x1,x2,x3⟩:=x;obtain ⟨y0,y1,y2,y3⟩:=y;rw [Ah];simp [vInt,eqN,and_assoc]
def kOa (x y:jK):Bool:=(((eqN x.1 y.1 && decide (x.2.1=y.2.1)) && eqN x.2.2.1 y.2.2.1) && (x.2.2.2.1==y.2.2.2.1)) && (x.2.2.2.2==y.2.2.2.2)
def vData_eq (x y:jK):kOa x y=decide (x=y):=by
 obtain ⟨x0,x1,x2,x3,x4⟩:=x;obtain ⟨y0,y1,y2,y3,y4⟩:=y;rw [Ah];simp [kOa,eqN,and_assoc]
def kZq (hx:jC.raw w cx x) (hy:jC.raw w cy y) :
    Ad prog 141 #[.agg cx.toArray,.agg cy.toArray] w (bQ w (.bool (kOa x y))):=by
 have Hx:=yD hx;obtain ⟨ay,bl,bd,rfl,Y,O,ag,am,an,ax,a2⟩:=jT hx;obtain ⟨az,ar,rfl,aq,bi,bh,rfl,bk,bg,be,rfl,bf⟩:=kD.sx O (kD.sx ag (kD.sl an));have Hy:=yD hy;obtain ⟨a3,bn,bo,rfl,ae,ai,al,ao,ap,au,a1⟩:=jT hy;obtain ⟨aw,av,rfl,a6,bq,br,rfl,bp,a9,ba,rfl,bm⟩:=kD.sx ai (kD.sx al (kD.sl ap));go_enter func141,ntmps141;go_upto_region 1 with fail;refine y9 λX EB ah J U aa ac F V aj a5 a8 FX=>?_;refine q8 λwS I=>?_;all_goals ((first | refine wkB (yI (kD.raw.below Y (tQ EB I)) (kD.raw.below ae (tQ EB I))) (λwS1 I=>?_) | refine kZ ?_);refine jo λb D=>?_;cases b <;> try simp only [jm] at D)
 all_goals ((iterate 4 refine kZ ?_);(first | refine wkB (kVm (kD.raw.below ag (tQ EB I)) (kD.raw.below al (tQ EB I))) (λwS1 I=>?_) | refine kZ ?_);refine kZ ?_;refine jo λb ab=>?_;cases b <;> try simp only [jm] at ab)
 all_goals ((iterate 4 refine kZ ?_);(first | refine wkB (yI (kD.raw.below am (tQ EB I)) (kD.raw.below ao (tQ EB I))) (λwS1 I=>?_) | refine kZ ?_);refine kZ ?_;refine jo λb ak=>?_;cases b <;> try simp only [jm] at ak)
 all_goals ((iterate 6 refine kZ ?_);refine jo λb H=>?_;cases b <;> try simp only [jm] at H)
 all_goals ((iterate 6 refine kZ ?_);refine jo λb R=>?_;cases b <;> try simp only [jm] at R)
 all_goals (refine kR ?_;have G:=(tQ EB I))
 all_goals (obtain ⟨vq,qv⟩:∃ qc,(kOa x y)=qc:=⟨_,rfl⟩;have L:=yD qv;simp only [kOa,Q0,D,ab,ak,H,R] at qv;subst qv;go_wp2;go_ret;exact ⟨kJ L.symm,G⟩)
def kOn (hx:jC.raw w cx x) (hy:jC.raw w cy y) :
    Ad prog 141 #[.agg cx.toArray,.agg cy.toArray] w (bQ w (.bool (decide (x=y)))):=by
 have h:=kZq hx hy;rw [vData_eq] at h;exact h
def isD (n:kU) (x:jK):Bool:=eqN x.1 n
def fresh (t:Int) (x:jK):Bool:=decide (t<=x.2.2.2.1)
def kTn:jK:=([],[],[],0,0)
def kQo {α β:Type} {e:TypeId} {r:kD α} {q:kD β} {ds:Ab Aa} {y:β} (h:q.own w ds y S):(kD.pair (kD.slice e r) q).own w ([.slice none 0 0]++ds) ([],y) S :=
  kD.ji (A:=λ_=>False) (B:=S) kD.jr h (λ_ h=>h.elim) (λ_ h=>h) (λ_ h _=>h)
def voidD_own:jC.own w [.slice none 0 0,.slice none 0 0,.slice none 0 0,Qn 0,Qn 0] kTn S :=
  kQo (kQo (kQo (kD.ji (A:=λ_=>False) (B:=λ_=>False) (cs:=[.int .i64 0]) (ds:=[.int .i64 0]) (kD.flat.own (kD.jB (n:=0) bJ5)) (kD.flat.own (kD.jB (n:=0) bJ5)) (λ_ h=>h.elim) (λ_ h=>h.elim) (λ_ h _=>h))))
def kRq {l:Ab jK} (hl:Cm.raw w [vl] l) (hn:kQ.raw w cn n) :
    Ad prog 51 #[vl,.agg cn.toArray] w (bQ w (.int .i64 (idxOf (isD n) l))):=by
 obtain ⟨al,pl,rfl,ll⟩:=kD.sl hl;have Hn:=yD hn;obtain ⟨Y,rfl,H⟩:=kT hn;obtain ⟨N,E,rfl,Z⟩:=kD.sl H;go_enter func51,ntmps51;go_wp2;refine TC λX EB F=>?_;replace hl:=hl.below EB;go_loopw [5] (λi wr=>∃ k:Nat,k<=l.length/\i=.int .i64 k/\Hid (∀ j,(h:j < k)->(h2:j < l.length)->(isD n) l[j]=false)/\Qb X wr) (λi _=>l.length - (Aj i).toNat);case atStart=>exact ⟨0,Nat.zero_le _,rfl,yD (λ_ h=>by omega),bR⟩
 obtain ⟨k,hk,rfl,HN,D⟩:=hrel;replace F:=cL D F;by_cases hlt:k < l.length
 · obtain ⟨qb,qo,rfl,ah,aj,ao,cc,cf,qr,a2,a4,a5,be,bo⟩:=kD.get5 (hl.below D) (i:=k) bJ5 rfl;refine AU λR J=>?_;generalize l[k]=x at *;refine aN R J λHD HX=>?_;clear R J;obtain ⟨x0,x1,x2,x3,x4⟩:=x;obtain ⟨rfl,rfl,au,az,aw,bi,bk,bq,b5⟩:=kBa qr;obtain ⟨ai,a6,rfl,bb,ar,bd,rfl,b2,ax,b3,rfl,b8⟩:=kD.sx az (kD.sx aw (kD.sl bk));go_upto_region 4 with fail;have FX:=yD (λ(W:Ac) (hW:Qb wr W)=>kPa hW F a2 a4 a5 be bo);refine q9 λwS I=>?_;all_goals ((first | refine wkB (zb (kD.raw.below au I) (kD.raw.below Hn.out ((tQ EB (tQ D I))))) (λwS1 I=>?_) | refine kZ ?_);refine kR ?_)
   all_goals cases av:eqN x0 n
   all_goals have G:=(tQ D I)
   all_goals first|(have L:=yD (HD.out (show _=true by simp only [isD,Q0,av]));clear HD HX;go_wp2;go_ret;exact ⟨jS L.symm,(tQ EB G)⟩)|(have L:=yD (HX.out (show _=false by simp only [isD,Q0,av]));clear HD HX;refine Qg ?_;exact ⟨k + 1,by omega,by go_num,L,G⟩)
 exact QV
def jDh (hx:jC.raw w cx x) (nr:kQ.raw w [b7] n) (ae:Qc w Bn 0 b7) :
    Ad prog 94 (#[.agg cx.toArray]++#[.pointer (Qa Bn)]) w (bQ w (.bool (isD n x))):=by
 have Hx:=yD hx;obtain ⟨ay,bl,bd,rfl,Y,O,ag,am,an,ax,a2⟩:=jT hx;obtain ⟨az,ar,rfl,aq,bi,bh,rfl,bk,bg,be,rfl,bf⟩:=kD.sx O (kD.sx ag (kD.sl an));have ab:=kEx nr;obtain ⟨dz,R,rfl,ai⟩:=kD.sl ab;show Ad prog 94 #[_,_] w _;go_enter func94,ntmps94;go_upto_region 1 with fail;refine oM λX EB N=>?_;obtain ⟨ah,J,U,aa,ac⟩:=jP N;clear N;replace ae:=cL EB ae;have FX:=yD (λ(W:Ac) (hW:Qb X W)=>kPa hW ah J U aa ac ae);refine J7 ?_;refine uB λwS I=>?_;all_goals ((first | refine wkB (yI (kD.raw.below Y (tQ EB I)) (kD.raw.below nr (tQ EB I))) (λwS1 I=>?_) | refine kZ ?_);refine jo λb Z=>?_;cases b <;> try simp only [jm] at Z)
 all_goals (refine kR ?_;have G:=(tQ EB I))
 all_goals (obtain ⟨vq,qv⟩:∃ qc,(isD n x)=qc:=⟨_,rfl⟩;have L:=yD qv;simp only [isD,Q0,Z] at qv;subst qv;go_wp2;go_ret;exact ⟨kJ L.symm,G⟩)
def kMz:jL prog 94:=yK func94 bI9 bI9
def kRz {l:Ab jK} (hl:Cm.raw w [vl] l) (hn:kQ.raw w cn n) :
    Ad prog 37 #[vl,.agg cn.toArray] w (bQ w (.int .i64 (idxOf (isD n) l))):=by
 obtain ⟨al,pl,rfl,ll⟩:=kD.sl hl;have Hn:=yD hn;obtain ⟨Y,rfl,H⟩:=kT hn;obtain ⟨N,E,rfl,Z⟩:=kD.sl H;go_enter func37,ntmps37;go_upto_region 1 with fail;refine TC λX EB F=>?_;go_wp2_with fail;refine (kNe (isD n) kMz (kD.raw.below hl EB) ?_).mono ?_
 · intro wr hb i h cs hr;exact jDh hr (kD.raw.below Hn.out (tQ EB hb)) (cL hb F)
 exact PO
def kRx (hx:jC.raw w cx x) :
    Ad prog 137 #[.agg cx.toArray,.int .i64 t] w (bQ w (.bool (fresh t x))):=by
 obtain ⟨v0,v1,v2,rfl,ac,bc,bl,bj,bf,bp,bt⟩:=jT hx;have L:=yD (show fresh t x=decide (t<=x.2.2.2.1) from rfl);clear hx ac bc bl bj bf bp bt;go_enter func137,ntmps137;go_wp2;go_ret;exact ⟨kJ L.symm,bK⟩
def kSa (hx:jC.raw w cx x) :
    Ad prog 131 #[.agg cx.toArray,.int .i64 t] w (bQ w (.bool (fresh t x))):=by
 obtain ⟨v0,v1,v2,rfl,ac,bc,bl,bj,bf,bp,bt⟩:=jT hx;have L:=yD (show fresh t x=decide (t<=x.2.2.2.1) from rfl);clear hx ac bc bl bj bf bp bt;go_enter func131,ntmps131;go_wp2;go_ret;exact ⟨kJ L.symm,bK⟩
end Go.Proofs.YthocbplmdjkifabGreat

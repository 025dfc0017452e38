/-
  A pattern and a name: what the letters stand for.
-/
import Derived.Test.YthocbplmdjkifabGreatPat
set_option linter.unusedVariables false
set_option linter.defProp false
set_option linter.unusedSimpArgs false
set_option linter.unnecessarySimpa false
set_option maxRecDepth 100000
set_option maxHeartbeats 4000000
open ByteArray renaming empty->Aa
open _root_ renaming if_neg->Ab,List->Ad,ByteArray->Ae,if_pos->Ah
open Bool renaming false_ne_true->Ac
open Go renaming Value->Ag,World->Al,Calls->Am
open Go.RowKit.Below renaming size->Ai
open Int renaming natCast_nonneg->Aj,toNat_natCast->Ak
namespace Go.Proofs.YthocbplmdjkifabGreat
open Go.RowKit _root_.Go.Proofs.Tryz
variable {w:Al} {l x:Ad zn} {vl va:Ag} {cp cn:Ad Ag} {j:Nat} {s:Ae} {p:kAk} {n:kU}
def isB (s:Ae) (b:zn):Bool:=b.1.toList==s.toList
def kDz (s:Ae) (n:kU) (i:Nat) (out:Ad zn):Nat × Ad zn :=
  if kId s=true then (1,out) else
  if n.length<=i then (2,out) else
  if kJn s=true then (0,out) else
  if isLet s=true then
    (if idxOf (isB s) out < 0 then (0,out++[(s,n.getD i Aa)]) else
     if ((out.getD (idxOf (isB s) out).toNat (Aa,Aa)).2.toList==(n.getD i Aa).toList)=true then (0,out) else (2,out)) else
  if (s.toList==(n.getD i Aa).toList)=true then (0,out) else (2,out)
def mAt (p:kAk) (n:kU) (l:Ad zn):Nat->Nat × Ad zn
  | 0=>(0,l)
  | k + 1=>if (mAt p n l k).1=0 then kDz (p.getD k Aa) n k (mAt p n l k).2 else mAt p n l k
def kGz (p:kAk) (n:kU) (l:Ad zn):Bool:=(kFj p && zX n) && (((mAt p n l p.length).1==1) || (((mAt p n l p.length).1==0) && (n.length==p.length)))
def ptB (p:kAk) (n:kU) (l:Ad zn):Ad zn:=if kGz p n l=true then (mAt p n l p.length).2 else l
section
variable {p:kAk} {n:kU} {l out out2:Ad zn} {k:Nat} {s:Ae}
def mAt_stay (h:(mAt p n l k).1≠0):∀ d,mAt p n l (k + d)=mAt p n l k
  | 0=>rfl
  | d + 1=>by
    have ih:=mAt_stay h d;show (if (mAt p n l (k + d)).1=0 then _ else mAt p n l (k + d))=_;rw [ih,Ab h]
def mAt_go {t3:Nat} {out3:Ad zn} (hk:k < p.length) (h:mAt p n l k=(0,out)) (hs:kDz p[k] n k out=(t3,out3)):mAt p n l (k + 1)=(t3,out3):=by
 show (if (mAt p n l k).1=0 then kDz (p.getD k Aa) n k (mAt p n l k).2 else _)=_;rw [h,jY hk];exact hs
def mAt_end (hk:k < p.length) (h:mAt p n l k=(0,out)) {t:Nat} (ht:t≠0) (hs:kDz p[k] n k out=(t,out2)):mAt p n l p.length=(t,out2):=by
 have h1:=mAt_go hk h hs;have h2:=mAt_stay (p:=p) (n:=n) (l:=l) (k:=k + 1) (by rw [h1];exact ht) (p.length - (k + 1));rw [show k + 1 + (p.length - (k + 1))=p.length by omega] at h2;rw [h2,h1]
def kQq (h:(kFj p && zX n)=false):kGz p n l=false/\ptB p n l=l:=by
 have:kGz p n l=false:=by unfold kGz;rw [h];rfl
 exact ⟨this,by unfold ptB;rw [Ab sU]⟩
def m_fail (hk:k < p.length) (h:mAt p n l k=(0,out)) (hs:kDz p[k] n k out=(2,out2)):kGz p n l=false/\ptB p n l=l:=by
 have e:=mAt_end hk h bJ4 hs;have:kGz p n l=false:=by unfold kGz;rw [e];simp
 exact ⟨this,by unfold ptB;rw [Ab sU]⟩
def m_done (hv:(kFj p && zX n)=true) (hk:k < p.length) (h:mAt p n l k=(0,out)) (hs:kDz p[k] n k out=(1,out2)):kGz p n l=true/\ptB p n l=out2:=by
 have e:=mAt_end hk h bJ4 hs;have:kGz p n l=true:=by unfold kGz;rw [e,hv];rfl
 exact ⟨this,by unfold ptB;rw [Ah this,e]⟩
def m_over (hv:(kFj p && zX n)=true) (hk:¬ k < p.length) (em:k<=p.length) (h:mAt p n l k=(0,out)) (hn:n.length=p.length):kGz p n l=true/\ptB p n l=out:=by
 obtain rfl:k=p.length:=bJ5;have:kGz p n l=true:=by unfold kGz;rw [h,hv,hn];simp
 exact ⟨this,by unfold ptB;rw [Ah this,h]⟩
def m_long (hk:¬ k < p.length) (em:k<=p.length) (h:mAt p n l k=(0,out)) (hn:n.length≠p.length):kGz p n l=false/\ptB p n l=l:=by
 obtain rfl:k=p.length:=bJ5;have:kGz p n l=false:=by unfold kGz;rw [h];simp [hn]
 exact ⟨this,by unfold ptB;rw [Ab sU]⟩
def ms_star2 (h:kId s=true):kDz s n k out=(1,out):=by unfold kDz;rw [if_pos h]
def ms_short (h:kId s=false) (h2:n.length<=k):kDz s n k out=(2,out):=by unfold kDz;rw [if_neg tV,if_pos h2]
def ms_star1 (h:kId s=false) (h2:k < n.length) (h3:kJn s=true):kDz s n k out=(0,out):=by unfold kDz;rw [if_neg tV,if_neg bJ5,if_pos h3]
def ms_new (h:kId s=false) (h2:k < n.length) (h3:kJn s=false) (h4:isLet s=true) (h5:idxOf (isB s) out < 0):kDz s n k out=(0,out++[(s,n[k])]):=by
 unfold kDz;rw [Ab tV,Ab bJ5,Ab tK,Ah h4,Ah h5,jY h2]
def ms_old (h:kId s=false) (h2:k < n.length) (h3:kJn s=false) (h4:isLet s=true) (J:j < out.length) (h5:idxOf (isB s) out=j) (h6:(out[j].2.toList==n[k].toList)=true):kDz s n k out=(0,out):=by
 unfold kDz;rw [Ab tV,Ab bJ5,Ab tK,Ah h4,Ab (by rw [h5];omega),h5,Ak,jY J,jY h2,Ah h6]
def ms_other (h:kId s=false) (h2:k < n.length) (h3:kJn s=false) (h4:isLet s=true) (J:j < out.length) (h5:idxOf (isB s) out=j) (h6:(out[j].2.toList==n[k].toList)=false):kDz s n k out=(2,out):=by
 unfold kDz;rw [Ab tV,Ab bJ5,Ab tK,Ah h4,Ab (by rw [h5];omega),h5,Ak,jY J,jY h2,Ab (by rw [h6];exact Ac)]
def ms_same (h:kId s=false) (h2:k < n.length) (h3:kJn s=false) (h4:isLet s=false) (h6:(s.toList==n[k].toList)=true):kDz s n k out=(0,out):=by
 unfold kDz;rw [Ab tV,Ab bJ5,Ab tK,Ab (by rw [h4];exact Ac),jY h2,Ah h6]
def ms_diff (h:kId s=false) (h2:k < n.length) (h3:kJn s=false) (h4:isLet s=false) (h6:(s.toList==n[k].toList)=false):kDz s n k out=(2,out):=by
 unfold kDz;rw [Ab tV,Ab bJ5,Ab tK,Ab (by rw [h4];exact Ac),jY h2,Ab (by rw [h6];exact Ac)]
def mStep_len:(kDz s n k out).2.length<=out.length + 1:=by
 unfold kDz;split;simp;split;simp;split;simp;split
 · split;simp;split <;> simp
 split <;> simp
def mAt_len:∀ k,(mAt p n l k).2.length<=l.length + k
  | 0=>Nat.le_refl _
  | k + 1=>by
    have ih:=mAt_len k;show (if (mAt p n l k).1=0 then kDz (p.getD k Aa) n k (mAt p n l k).2 else mAt p n l k).2.length<=_;split;have:=mStep_len (s:=p.getD k Aa) (n:=n) (k:=k) (out:=(mAt p n l k).2);omega
    · omega
def mB_len (hp:p.length<=6\/kFj p=false):(ptB p n l).length<=l.length + 6:=by
 unfold ptB;split
 · rename_i h
   have:=mAt_len (p:=p) (n:=n) (l:=l) p.length;rcases hp with hp | hp;omega;unfold kGz at h;rw [hp] at h;cases h
 omega
def jAv (h:kFj p=true):p.length<=6:=by unfold kFj at h;simp only [Bool.and_eq_true,decide_eq_true_eq] at h;exact h.2
def mB_len6:(ptB p n l).length<=l.length + 6:=by
 cases h:kFj p;exact mB_len (.inr h);exact mB_len (.inl (jAv h))
end
def kRg {g:FuncId} {cp:Array Ag} (p:zn->Bool) (hg:jL prog g) (ha:Ct.raw w [va] x)
    (ag:∀ wr,Qb w wr->∀ (i:Nat) (h:i < x.length) cs,zP.raw wr cs x[i]->Am prog g (#[.agg cs.toArray]++cp) wr (λe w'=>e=.returned (.bool (p x[i]))/\Qb wr w')) :
    Am prog 306 #[va,.func (.func g) #[] cp] w (bQ w (.int .i64 (idxOf p x))):=by
 obtain ⟨aa,H,rfl,la⟩:=kD.sl ha;have al:=yD ag;clear ag;unfold jL at hg;go_enter func306,ntmps306;exact NH
def kPy:zP.kEy:=kD.kPr kD.kDl kD.kDl
def kEb (ha:Ct.rd w [va] x):Am prog 304 #[va] w (kAo 283 zP x w):=by
 obtain ⟨aa,H,rfl,la⟩:=kD.sl ha.1;have HA:=yD ha;have E:=λ(W:Al) (a:Option Addr) (n c:Nat)=>Lib.run_eql_slice_nil (P:=prog) W 273 283 a n c 0 0 underlying273;cases aa with
 | none =>
   have hx:x=[]:=by
     cases x with
     | nil=>rfl
     | cons y ys =>
       exact UK
   subst hx;clear ha;go_enter func304,ntmps304;go_wp2;go_ret;exact ⟨_,rfl,kD.ko.nil,bR⟩
 | some a =>
   have hb:x.length<=16777216:=ha.2.1;clear ha;go_enter func304,ntmps304;have O0:kD.ko 283 zP (w.alloc (.cells #[] 283)) (.slice (Qa w) 0 0) [] (λk=>k=w.heap.size):=kD.yf (cs:=[]) (xs:=[]) (T:=λ_=>False) bJ6 bJ6 rfl (λ_ h=>h.elim) rfl;go_wp2_with (at_builtin;refine kD.yH rfl _ _ 273 rfl (r:=zP) (e:=283) underlying273 kJx rfl bJ4 bJ4 kPy (B:=w.heap.size) O0 bJ7 bJ7 (HA.alloc _) tO bJ6 bJ0 ?_);exact UN
def jIo {cb:Ad Ag} {b:zn} (hb:zP.raw w cb b) {D:Nat} (A:Qc w D 0 (.string s)) :
    Am prog 307 (#[.agg cb.toArray]++#[.pointer (Qa D)]) w (bQ w (.bool (isB s b))):=by
 obtain ⟨J,b1⟩:=b;obtain ⟨rfl,a3,ek⟩:=kVl hb;clear hb;have L:=yD (show isB s (J,b1)=(J.toList==s.toList) from rfl);show Am prog 307 #[_,_] w _;go_enter func307,ntmps307;go_upto_region 1 with fail;refine MJ λX U EB=>?_;have Y:Qd X w 0 (.string J):=bA9;clear U;replace A:=cL EB A;exact iF L EB
def kOz:jL prog 307:=yK func307 bI9 bI9
def jHt (hl:Ct.raw w [vl] l) :
    Am prog 310 #[vl,.string s] w λe w'=>e=.returned (.int .i64 (idxOf (isB s) l))/\w'=w:=by
 obtain ⟨al,pl,rfl,ll⟩:=kD.sl hl;go_enter func310,ntmps310;go_wp2;go_loop [5] (λi=>∃ k:Nat,k<=l.length/\i=.int .i64 k/\Hid (∀ j,(h:j < k)->(h2:j < l.length)->isB s l[j]=false)) (λi=>l.length - (intOf i).toNat);case atStart=>exact ⟨0,Nat.zero_le _,rfl,yD (λ_ h=>by omega)⟩
 obtain ⟨k,hk,rfl,HN⟩:=hrel;by_cases hlt:k < l.length
 · obtain ⟨qb,qo,rfl,ah,aj,qr,a2,a4⟩:=kD.kRc hl hlt rfl;have R:=λq=>idxOf_hit (p:=isB s) hlt q HN.out;have J:=λq=>kAl (p:=isB s) hlt q HN.out;generalize l[k]=x at *;refine aN R J λHD HX=>?_;clear R J;obtain ⟨x0,x1⟩:=x;obtain ⟨rfl,rfl,au,az⟩:=kMa qr;cases hv:isB s (x0,x1)
   · have L:=yD (HX.out hv);have a9:(x0.toList==s.toList)=false:=hv;clear hv HD HX;go_wp2;go_round;case rel=>exact ⟨k + 1,by omega,by go_num,L⟩
     simp [intOf];omega
   have L:=yD (HD.out hv);have a9:(x0.toList==s.toList)=true:=hv;clear hv HD HX;go_wp2;exact FZ
 refine uP λL=>?_;exact DT
def kPv {α:Type} {p:α->Bool} {x:Ad α} (h:¬ idxOf p x < 0):∃ j:Nat,j < x.length/\idxOf p x=(j:Int):=by
 unfold idxOf at h ⊢;cases hf:x.findIdx? p with
 | none=>rw [hf] at h;exact absurd bJ4 h
 | some i=>exact ⟨i,(List.findIdx?_eq_some_iff_getElem.1 hf).1,rfl⟩
def jDd {s:ByteArray} (h:isLet s=true):s.size=2:=by unfold isLet at h;simp only [Bool.and_eq_true,decide_eq_true_eq] at h;exact h.1
def jHh {t:Ae} (hs:s.size<=Big) (ht:t.size<=Big):zP.flat [.string s,.string t] (s,t):=kD.yh (cs:=[.string s]) (ds:=[.string t]) (kD.kFr hs) (kD.kFr ht)
def litB {e:TypeId}:kD.ko e zP (w.alloc (.cells #[] e)) (.slice (Qa w) 0 0) [] (λk=>k=w.heap.size) :=
  kD.yf (e:=e) (r:=zP) (w:=w) (cs:=[]) (xs:=[]) (T:=λ_=>False) (S:=λk=>k=w.heap.size) bJ6 bJ6 rfl (λ_ h=>h.elim) rfl
def kYc (hp:zZ.raw w cp p) (hn:kQ.raw w cn n) (hl:Ct.rd w [vl] l) (b1:l.length<=1000) :
    Am prog 295 #[.agg cp.toArray,.agg cn.toArray,vl] w λe w'=>∃ v,e=.returned (.tuple #[v,.bool (kGz p n l)])/\kD.ko 283 zP w' v (ptB p n l) (jW w w')/\Qb w w':=by
 obtain ⟨pv,rfl,ay⟩:=kDt hp;obtain ⟨ap,bh,rfl,lp⟩:=kD.sl ay;obtain ⟨nv,rfl,ab⟩:=kT hn;obtain ⟨an,am,rfl,ln,al,b8,rfl,ll⟩:=kD.sx ab (kD.sl hl.1);refine aN ay ab λHP HN=>?_;have bj:=yD hp;have ai:=yD hn;have HL:=yD hl;clear hp hn ay ab hl;go_enter func295,ntmps295;go_upto_region 1 with fail;refine QG λX EB zB Y K1=>?_;have O0:=litB (w:=X) (e:=283);go_wp2_with (at_builtin;refine kD.yH rfl _ _ 273 rfl (r:=zP) (e:=283) underlying273 kJx rfl bJ4 bJ4 kPy (B:=X.heap.size) O0 bJ7 bJ7 (HL.below (by repeat (first|(with_reducible exact EB) | refine Below.alloc ?_ (by have:=Ai EB;simp;try omega) _ | refine Below.drew ?_ | refine Below.setCell ?_ (by have:=Ai EB;simp;try omega) _))) tO bJ6 bJ0 ?_);intro v2 w2 hown D hz;have G:Hid (kD.ko 283 zP w2 v2 l (jW X w2)):=yD (by simpa using hown);have E2:Qb X w2:=Below.trans (bR.alloc nL _) D;refine aH hown λa8 n8 c8 a6 b7=>?_;obtain rfl:=a6;refine aL E2 Y K1 λY K1=>?_;have E:=(tQ EB E2);have z2:=E2.size;clear hown D O0 E2 hz EB;go_wp2_with fail;refine (kDg (bj.below E)).mono ?_;refine fO λw3 ag=>?_;refine aL ag Y K1 λY K1=>?_;refine EN ag λG E z3=>?_;clear ag;cases ba:kFj p
 · have M:=yD (kQq (p:=p) (n:=n) (l:=l) (by rw [ba];rfl));exact V8
 go_wp2_with fail;refine (zM (ai.below E)).mono ?_;refine fO λw4 N=>?_;refine aL N Y K1 λY K1=>?_;refine EN N λG E z4=>?_;clear N;cases ar:zX n
 · have M:=yD (kQq (p:=p) (n:=n) (l:=l) (by rw [ar];simp));exact V8
 have HV:Hid ((kFj p && zX n)=true):=yD (by rw [ba,ar];rfl);have b3:=jAv ba;have aw:=yD ar;have O0:=litB (w:=w4) (e:=283);go_wp2_with (at_builtin;refine kD.yH rfl _ _ 273 rfl (r:=zP) (e:=283) underlying273 kJx rfl bJ4 bJ4 kPy (B:=w4.heap.size) O0 bJ7 bJ7 (HL.below (by repeat (first|(with_reducible exact E) | refine Below.alloc ?_ (by have:=Ai E;simp;try omega) _ | refine Below.drew ?_ | refine Below.setCell ?_ (by have:=Ai E;simp;try omega) _))) tO bJ6 bJ0 ?_);intro v5 w5 hown D hz;have bo:Hid (kD.ko 283 zP w5 v5 l (jW w4 w5)):=yD (by simpa using hown);have E5:Qb w4 w5:=Below.trans (bR.alloc nL _) D;have b0:=yD (cL E5 Y);have bm:=yD (cL E5 K1);have L:=G.below E5;clear G;have G:=yD L;have H:=(tQ E E5);have z5:=E5.size;clear hown D O0 E5 hz Y K1 L E;go_wp2;go_loopw [9,10] (λv i wr=>∃ (k:Nat) (out:Ad zn),k<=p.length/\k<=n.length/\i=.int .i64 k/\Hid (mAt p n l k=(0,out))/\out.length<=l.length + k/\Hid (kD.ko 283 zP wr v out (jW w4 wr))/\Below w4 w5 wr) (λ_ i _=>p.length - (intOf i).toNat);case atStart=>exact ⟨0,l,Nat.zero_le _,Nat.zero_le _,rfl,yD rfl,by omega,bo,bR⟩
 clear bo;obtain ⟨k,out,hk,b4,rfl,HA,eh,F,D⟩:=hrel;refine aH F λoa on oc ho ak=>?_;obtain rfl:=ho;refine IQ H λER zr Y K1=>?_;have R:=yD (G.keep (w':=wr) (λj J _=>D.block j (by have:=J.2;omega)));by_cases hlt:k < p.length
 · obtain ⟨sb,so,rfl,c0,sr,As⟩:=kD.kAu (HP.below ER) hlt rfl;obtain ⟨he,bn⟩:=kD.zQ sr;obtain rfl:c0=_:=by simpa using he
   refine IV λmf md mg=>?_;generalize p[k]=s at *;refine aN mf md λMF MD=>?_;have a3:=yD mg;clear mf md mg he sr;cases h2:kId s;case true =>
    have d2:(s.toList==[42,42])=true:=h2;have M:=yD (MD.out _ (ms_star2 h2));exact KG
   have d2:(s.toList==[42,42])=false:=h2;have H2:=yD h2;clear h2;by_cases Z:k < n.length;case neg =>
    have bp:(k:Int) ≥ n.length:=bJ5;have M:=yD (MF.out _ (ms_short (s:=s) H2.out (show n.length<=k by omega)));exact V9
   have bp:¬ ((k:Int) ≥ n.length):=bJ5;obtain ⟨bt,b5,rfl,c1,tr,Bn⟩:=kD.kAu (HN.below ER) Z rfl;obtain ⟨he,bu⟩:=kD.zQ tr;obtain rfl:c1=_:=by simpa using he
   refine wB λa5 bl b6 bf be bi bk=>?_;generalize n[k]=t at *;clear he tr;cases h1:kJn s;case true =>
    have bv:(s.toList==[42])=true:=h1;have MG:=yD (a3.out _ (bl.out h1));clear h1;exact EG
   have bv:(s.toList==[42])=false:=h1;have H1:=yD h1;clear h1;go_wp2_with fail;refine (kJo bn).mono ?_;refine fO λw6 hw=>?_;obtain rfl:=hw.symm;cases V:isLet s;case false =>
    cases hq:(s.toList==t.toList)
    · have M:=yD (MF.out _ (bk.out H1.out V hq));clear V;exact V9
    have MG:=yD (a3.out _ (bi.out H1.out V hq));clear V;exact EG
   have aa:=yD V;clear V;have bq:=jDd aa.out;go_wp2_with fail;refine (jHt ((F.own bE7).raw)).mono ?_;refine fO λw7 hw=>?_;obtain rfl:=hw.symm;by_cases hi:idxOf (isB s) out < 0
   · have MG:=yD (a3.out _ (b6.out H1.out aa.out hi));go_wp2_with (at_builtin;refine kD.jN rfl _ _ 273 rfl (r:=zP) (e:=283) underlying273 kJx rfl bJ4 bJ4 (B:=w4.heap.size) F.out bJ7 bJ7 rfl ((jHh (s:=s) (t:=t) bE7 bE7) _) rfl (λ_ _ h=>h) vD (λ_ h=>h.elim) bJ5 bJ5 ?_);intro v8 w8 av ao bz;refine aH av λiu bx b2 a6 br=>?_;exact JF
   obtain ⟨j,J,af⟩:=kPv hi;have bd:=yD (λq=>bf.out H1.out aa.out j J af q);have bc:=yD (λq=>be.out H1.out aa.out j J af q);obtain ⟨qb,qo,ch,ah,aj,qr,a2,a4⟩:=kD.kRc (F.own bE7).raw J rfl;obtain rfl:=ch;rw [af];clear bf be af hi;generalize out[j]=q at *;obtain ⟨q0,q1⟩:=q;obtain ⟨rfl,rfl,au,az⟩:=kMa qr;have aq:=ak.out;have a7:(j:Int) < on:=bJ5;have dh:=Aj j;have bw:¬ ((j:Int) < 0):=bJ5;clear aq;go_upto_region 18 with fail;refine OV K1 Bn a4 λFX=>?_;refine kN (λW=>Qb wr W) [true,true,true,true,true,true,true,true,true,true,true] bI9 bI9 sD (bR.drew) ?_;intro wS I;all_goals ((iterate 10 refine kZ ?_);refine jo λb ac=>?_;cases b <;> try simp only [jm] at ac)
   all_goals (refine kR ?_;have bb:=F.below I;have L:=R.below I;have a9:=(tQ ER I);have O:=D.trans (I.mono bJ5);have zS:=I.size;clear F R D ER I)
   all_goals first|(have M:=yD (MF.out _ (bc.out (show (q1.toList==t.toList)=false by simp only [ac,Bool.not_true,Bool.not_false])));(try clear ac);go_wp2;(refine bodyPost_ret (v:=.tuple #[.slice a8 n8 c8,.bool false]) rV rfl ?_);exact ⟨_,by rw [M.1],(L.cast M.2.symm).wide pJ,a9⟩)|(have MG:=yD (a3.out _ (bd.out (show (q1.toList==t.toList)=true by simp only [ac,Bool.not_true,Bool.not_false])));(try clear ac);go_wp2;go_roundw;(case rel=>exact ⟨k + 1,_,by omega,by omega,by go_num,MG,by omega,yD (bb.wide vD),O⟩);(case measure=>simp [intOf];omega))
 by_cases c6:n.length=p.length
 · have M:=yD (m_over HV.out hlt hk HA.out c6);have a1:((n.length:Int) != p.length)=false:=bJ0;have bg:(n.length != p.length)=false:=bJ0;clear c6;exact KG
 have M:=yD (m_long hlt hk HA.out c6);have a1:((n.length:Int) != p.length)=true:=bJ0;have bg:(n.length != p.length)=true:=bJ0;exact V9
def kYl (hp:zZ.raw w cp p) (hn:kQ.raw w cn n) (hl:Ct.rd w [vl] l) (b1:l.length<=1000) :
    Am prog 292 #[.agg cp.toArray,.agg cn.toArray,vl] w λe w'=>∃ v,e=.returned (.tuple #[v,.bool (kGz p n l)])/\kD.ko 283 zP w' v (ptB p n l) (jW w w')/\Qb w w':=by
 obtain ⟨pv,rfl,ay⟩:=kDt hp;obtain ⟨ap,bh,rfl,lp⟩:=kD.sl ay;obtain ⟨nv,rfl,ab⟩:=kT hn;obtain ⟨an,am,rfl,ln,al,b8,rfl,ll⟩:=kD.sx ab (kD.sl hl.1);refine aN ay ab λHP HN=>?_;have bj:=yD hp;have ai:=yD hn;have HL:=yD hl;clear hp hn ay ab hl;go_enter func292,ntmps292;go_upto_region 1 with fail;refine QG λX EB zB Y K1=>?_;go_wp2_with fail;refine (kEb (HL.below EB)).mono ?_;refine eD λw2 v2 hown E2=>?_;refine aH hown λa8 n8 c8 a6 b7=>?_;obtain rfl:=a6;have G:=yD hown;refine aL E2 Y K1 λY K1=>?_;have E:=(tQ EB E2);have z2:=E2.size;clear hown E2 EB;go_wp2_with fail;refine (kGe (bj.below E)).mono ?_;refine fO λw3 ag=>?_;refine aL ag Y K1 λY K1=>?_;refine EN ag λG E z3=>?_;clear ag;cases ba:kFj p
 · have M:=yD (kQq (p:=p) (n:=n) (l:=l) (by rw [ba];rfl));exact KH
 go_wp2_with fail;refine (kAg (ai.below E)).mono ?_;refine fO λw4 N=>?_;refine aL N Y K1 λY K1=>?_;refine EN N λG E z4=>?_;clear N;cases ar:zX n
 · have M:=yD (kQq (p:=p) (n:=n) (l:=l) (by rw [ar];simp));exact KH
 have HV:Hid ((kFj p && zX n)=true):=yD (by rw [ba,ar];rfl);have b3:=jAv ba;refine aN ar Y λaw b0=>?_;have bm:=yD K1;have O:=yD (G.wide (T:=jW X w4) vD);clear G;go_wp2;clear Y K1;go_loopw [8,27] (λv i wr=>∃ (k:Nat) (out:Ad zn),k<=p.length/\k<=n.length/\i=.int .i64 k/\Hid (mAt p n l k=(0,out))/\out.length<=l.length + k/\Hid (kD.ko 283 zP wr v out (jW X wr))/\Below X w4 wr) (λ_ i _=>p.length - (intOf i).toNat);case atStart=>exact ⟨0,l,Nat.zero_le _,Nat.zero_le _,rfl,yD rfl,by omega,O,bR⟩
 clear O;obtain ⟨k,out,hk,b4,rfl,HA,eh,F,D⟩:=hrel;refine aH F λoa on oc ho ak=>?_;obtain rfl:=ho;refine IQ E λER zr Y K1=>?_;by_cases hlt:k < p.length
 · obtain ⟨sb,so,rfl,c0,sr,As⟩:=kD.kAu (HP.below ER) hlt rfl;obtain ⟨he,bn⟩:=kD.zQ sr;obtain rfl:c0=_:=by simpa using he
   refine IV λmf md mg=>?_;generalize p[k]=s at *;refine aN mf md λMF MD=>?_;have a3:=yD mg;clear mf md mg he sr;go_upto_region 7 with fail;generalize R:World.alloc wr _=wC;have EC:Qb wr wC:=by rw [<- R];exact bK
   have KC:Qd wC wr 0 (.string s):=bB0;have zC:wr.heap.size + 1<=wC.heap.size:=bI2;clear R As;refine aL EC Y K1 λY K1=>?_;replace F:=yD ((F.below EC).wide (T:=jW X wC) vD);replace ER:=(tQ ER EC);replace D:=D.trans (EC.mono bJ5);clear EC;cases h2:kId s;case true =>
    have d2:(s.toList==[42,42])=true:=h2;have M:=yD (MD.out _ (ms_star2 h2));exact KI
   have d2:(s.toList==[42,42])=false:=h2;have H2:=yD h2;clear h2;by_cases Z:k < n.length;case neg =>
    have bp:(k:Int) ≥ n.length:=bJ5;have M:=yD (MF.out _ (ms_short (s:=s) H2.out (show n.length<=k by omega)));exact MX
   have bp:¬ ((k:Int) ≥ n.length):=bJ5;have bo:(k:Int) < n.length:=bJ5;obtain ⟨bt,b5,rfl,c1,tr,Bn⟩:=kD.kAu (HN.below ER) Z rfl;obtain ⟨he,bu⟩:=kD.zQ tr;obtain rfl:c1=_:=by simpa using he
   refine wB λa5 bl b6 bf be bi bk=>?_;generalize n[k]=t at *;clear he tr;go_wp2_with fail;refine (kRg (isB s) kOz ((F.own bE7).raw) ?_).mono ?_
   · intro wx hb i h cs hr;exact jIo hr (cL hb KC)
   refine fO λw6 bg=>?_;have z6:=bg.size;refine aJ bg KC Y K1 λKC Y K1=>?_;replace F:=yD ((F.below bg).wide (T:=jW X w6) vD);replace ER:=(tQ ER bg);replace D:=D.trans (bg.mono bJ5);clear bg Bn;cases h1:kJn s;case true =>
    have bv:(s.toList==[42])=true:=h1;have MG:=yD (a3.out _ (bl.out h1));clear h1;exact QP
   have bv:(s.toList==[42])=false:=h1;have H1:=yD h1;clear h1;go_wp2_with fail;refine (kHr bn).mono ?_;refine fO λw7 hw=>?_;obtain rfl:=hw.symm;cases V:isLet s;case false =>
    cases hq:(s.toList==t.toList)
    · have M:=yD (MF.out _ (bk.out H1.out V hq));clear V;exact MX
    have MG:=yD (a3.out _ (bi.out H1.out V hq));clear V;exact QP
   have aa:=yD V;clear V;have bq:=jDd aa.out;by_cases hi:idxOf (isB s) out < 0
   · have MG:=yD (a3.out _ (b6.out H1.out aa.out hi));go_wp2_with (at_builtin;refine kD.jN rfl _ _ 273 rfl (r:=zP) (e:=283) underlying273 kJx rfl bJ4 bJ4 (B:=X.heap.size) F.out bJ7 bJ7 rfl ((jHh (s:=s) (t:=t) bE7 bE7) _) rfl (λ_ _ h=>h) vD (λ_ h=>h.elim) bJ5 bJ5 ?_);intro v8 w8 av ao bz;obtain ⟨iu,bx,b2,a6,br⟩:=av.parts;exact JF
   obtain ⟨j,J,af⟩:=kPv hi;have bd:=yD (λq=>bf.out H1.out aa.out j J af q);have bc:=yD (λq=>be.out H1.out aa.out j J af q);obtain ⟨qb,qo,ch,ah,aj,qr,a2,a4⟩:=kD.kRc (F.own bE7).raw J rfl;obtain rfl:=ch;rw [af];clear bf be af hi;generalize out[j]=q at *;obtain ⟨q0,q1⟩:=q;obtain ⟨rfl,rfl,au,az⟩:=kMa qr;have aq:=ak.out;have a7:(j:Int) < on:=bJ5;have fq:j < on:=bJ5;have dh:=Aj j;have bw:¬ ((j:Int) < 0):=bJ5;clear aq;cases hq:(q1.toList==t.toList)
   · have M:=yD (MF.out _ (bc.out hq));exact MX
   have MG:=yD (a3.out _ (bd.out hq));clear bd bc;exact EG
 by_cases c6:n.length=p.length
 · have M:=yD (m_over HV.out hlt hk HA.out c6);have a1:¬ ((n.length:Int) > p.length):=bJ5;clear c6;exact KI
 have M:=yD (m_long hlt hk HA.out c6);have a1:((n.length:Int) > p.length):=bJ5;go_wp2_with fail;refine (kEb (HL.below ER)).mono ?_;refine eD λw9 v9 O9 H=>?_;refine aH O9 λa9 n9 c9 bb I=>?_;obtain rfl:=bb;exact TG
end Go.Proofs.YthocbplmdjkifabGreat

/-
  How long a node's lists are. No program in sight.
-/
import Derived.Test.YtonmjkmaadgceabGreatDrawX
set_option linter.unusedVariables false
set_option linter.defProp false
set_option linter.unusedSimpArgs false
set_option linter.unnecessarySimpa false
set_option maxRecDepth 100000
set_option maxHeartbeats 4000000
open Bool renaming true->Tt,false->Ff
open ByteArray renaming empty->Aa
open Bool renaming not_false->Ab,and_false->Ac,false_and->Ad,not_true->Ae,and_true->Ag,true_and->Ah,or_false->Ai,false_or->Aj,or_true->Ak,true_or->Al,not_not->Am
open _root_ renaming ByteArray->Ap,List->Av
open Go renaming World->Aq,Value->Ar,Calls->Aw
open List.cons renaming injEq->Au
open Go.RowKit renaming intOf->Ay
namespace Go.Proofs.YtonmjkmaadgceabGreat
open Go.RowKit _root_.Go.Proofs.Tryz
def isLet (s:Ap):Bool:=decide (s.size=2) && (decide (kCj s 0=63) && inR (kCj s 1) 97 122)
def isLet_no {s:ByteArray} (h:¬ s.size=2):isLet s=false:=by unfold isLet;rw [decide_eq_false h];rfl
def isLet_no0 {s:ByteArray} (h:¬ kCj s 0=63):isLet s=false:=by unfold isLet;rw [decide_eq_false h];simp
def isLet_yes {s:ByteArray} (h:s.size=2) (h0:kCj s 0=63):isLet s=inR (kCj s 1) 97 122:=by unfold isLet;rw [decide_eq_true h,decide_eq_true h0];rfl
def kKh {w:Aq} {s:Ap} (hs:s.size<=maxLen):Aw prog 201 #[.string s] w λe w'=>e=.returned (.bool (isLet s))/\w'=w:=by
 go_enter func201,ntmps201;by_cases h2:s.size=2;case neg =>
  have L:=yD (isLet_no h2);have hz:((s.size:Int)==2)=false:=bC4;exact lI
 have hz:((s.size:Int)==2)=true:=bC4;have g0:=kJe (s:=s) (k:=0) bC9;have g1:=kJe (s:=s) (k:=1) bC9;have r1:=kNo s 1;have bm:0 < s.size:=bC9;have dj:1 < s.size:=bC9;by_cases h0:kCj s 0=63;case neg =>
  have L:=yD (isLet_no0 h0);have o:¬ ((s[0].toNat:Int)=63):=by rw [<- g0];exact h0
  have E:((s[0].toNat:Int)==63)=false:=bB8;clear g1 r1;exact lI
 have L:=yD (isLet_yes h2 h0);have o:((s[0].toNat:Int)=63):=by rw [<- g0];exact h0
 have E:((s[0].toNat:Int)==63)=true:=bB8;have HG:=yD g1;clear g1 g0 h0;go_wp2_with fail;refine jo.mono ?_;rintro e Y ⟨rfl,hw⟩;obtain rfl:=hw.symm;go_wp2;go_ret;exact ⟨kX (by rw [L.out,HG.out,show wrap64 (s[1].toNat:Int)=s[1].toNat from (by have:=s[1].toNat_lt;unfold wrap64;omega)]),rfl⟩
def star1 (s:Ap):Bool:=s.toList==[42]
def star2 (s:Ap):Bool:=s.toList==[42,42]
def kEr (n k:Nat) (s:Ap):Bool:=((!kCk s && !star1 s) && !isLet s) && (!star2 s || decide ((k:Int) < (n:Int) - 1))
def patBadI (n k:Nat) (s:Ap):Bool:=((!kCk s && !star1 s) && !isLet s) && (!star2 s || ((k:Int) != (n:Int) - 1))
def kLt (p:kBn):Bool:=yh (λj=>!kEr p.length j (p.getD j Aa)) p.length && decide (p.length<=6)
def patBadI_eq {n k:Nat} (h:k < n) (s:ByteArray):patBadI n k s=kEr n k s:=by
 unfold patBadI kEr;have:((k:Int) != (n:Int) - 1)=decide ((k:Int) < (n:Int) - 1):=by rw [Bool.eq_iff_iff];simp;omega
 rw [this]
def vPat_bad {p:kBn} {k:Nat} (h:k < p.length) (q:kEr p.length k p[k]=true):kLt p=false:=by
 unfold kLt;rw [kCx h qK];rfl
def vPat_next {p:kBn} {k:Nat} (h:k < p.length) (q:kEr p.length k p[k]=false) (a:yh (λj=>!kEr p.length j (p.getD j Aa)) k=true):yh (λj=>!kEr p.length j (p.getD j Aa)) (k + 1)=true :=
  kAu a qK
def vPat_good {p:kBn} {k:Nat} (q:yh (λj=>!kEr p.length j (p.getD j Aa)) k=true) (h:¬ k < p.length) (hk:k<=p.length):kLt p=decide (p.length<=6):=by
 obtain rfl:k=p.length:=bC9;unfold kLt;rw [q];rfl
def kDk {w:Aq} {cp:Av Ar} {p:kBn} (hp:zR.raw w cp p):Aw prog 200 #[.agg cp.toArray] w (bQ w (.bool (kLt p))):=by
 obtain ⟨av,rfl,ad⟩:=kFv hp;obtain ⟨aa,al,rfl,la⟩:=kD.sl ad;clear hp;go_enter func200,ntmps200;go_wp2;generalize D:World.alloc w _=N;have EB:Qb w N:=by rw [<- D];exact bF
 have K0:Qd N w 0 (.slice aa p.length al):=tK;clear D;replace ad:=ad.below EB;go_loopw [3] (λi wr=>∃ k:Nat,k<=p.length/\i=.int .i64 k/\Hid (yh (λj=>!kEr p.length j (p.getD j Aa)) k=true)/\Qb N wr) (λi _=>p.length - (Ay i).toNat);case atStart=>exact ⟨0,Nat.zero_le _,rfl,yD rfl,bR⟩
 obtain ⟨k,hk,rfl,HN,o⟩:=hrel;replace K0:=cL o K0;have I:=(tQ EB o);by_cases hlt:k < p.length
 · obtain ⟨ba,H,rfl,c0,hr,A0⟩:=kD.kCv (ad.below o) hlt rfl;obtain ⟨he,ax⟩:=kD.zi hr;obtain rfl:c0=_:=by simpa using he
   clear he hr;have hb:=λq=>vPat_bad hlt q;have hx:=λq=>vPat_next hlt q HN.out;have J:=patBadI_eq hlt p[k];generalize p[k]=s at *;have HB:=yD hb;have HX:=yD hx;have ac:=yD ax;have HI:=yD J;clear hb hx ax J;have co:IntKind.i64.wrap ((p.length:Int) - 1)=(p.length:Int) - 1:=IntWalk.i64_in _ bC9;go_upto_region 5 with fail;have FX:=yD (λ(W:Aq) (hW:Qb wr W)=>cL hW K0);refine jE (λW=>Qb wr W) [Tt,Ff,Tt,Tt,Tt,Tt,Tt,Tt,Tt,Ff,Tt,Tt,Tt,Tt,Tt,Tt,Tt,Tt,Tt,Tt,Tt,Tt,Tt,Tt] bR ?_;intro wS E;all_goals refine ku ?_
   all_goals first | refine wkC (kJj ac.out) ?_ | refine ku ?_
   all_goals refine ku ?_
   all_goals (refine jy λb a1=>?_;cases b <;> try simp only [jw] at a1)
   iterate 3
    all_goals refine ku ?_
   all_goals (refine jy λb aw=>?_;cases b <;> try simp only [jw] at aw)
   all_goals refine ku ?_
   all_goals first | refine wkC (kKh ac.out) ?_ | refine ku ?_
   all_goals refine ku ?_
   all_goals refine ku ?_
   all_goals (refine jy λb a6=>?_;cases b <;> try simp only [jw] at a6)
   all_goals refine ku ?_
   all_goals refine ku ?_
   all_goals (refine jy λb G=>?_;cases b <;> try simp only [jw] at G)
   iterate 7
    all_goals refine ku ?_
   all_goals (refine jy λb ab=>?_;cases b <;> try simp only [jw] at ab)
   all_goals refine kS ?_
   all_goals have F:=(tQ I E)
   all_goals have ER:=(tQ o E)
   all_goals first
     | (have L:=yD (HB.out (show kEr p.length k s=true by simp only [kEr,star1,star2,decide_not,Ae,Ab,Ag,Ah,Ac,Ad,Ak,Al,Ai,Aj,Am,a1,aw,a6,G,ab]));clear HB HX;go_wp2;go_ret;exact ⟨kX L.out.symm,F⟩)
     | (have L:=yD (HX.out (show kEr p.length k s=false by simp only [kEr,star1,star2,decide_not,Ae,Ab,Ag,Ah,Ac,Ad,Ak,Al,Ai,Aj,Am,a1,aw,a6,G,ab]));clear HB HX;go_wp2;go_roundw;(case rel=>exact ⟨k + 1,by omega,by go_num,L,ER⟩);(case measure=>simp [Ay];omega))
 have L:=yD (vPat_good HN.out hlt hk);go_wp2;go_ret;exact ⟨kX (by rw [L.out];simp;try omega),I⟩
def idxOf_ge {α:Type} {p:α->Bool} {x:Av α} (h:¬ idxOf p x < 0):∃ j:Nat,j < x.length/\idxOf p x=(j:Int):=by
 unfold idxOf at h ⊢;cases hf:x.findIdx? p with
 | none=>rw [hf] at h;exact absurd bC8 h
 | some i=>exact ⟨i,(List.findIdx?_eq_some_iff_getElem.1 hf).1,rfl⟩
def eqS (s t:Ap):Bool:=t.toList==s.toList
def hasS (p:Av Ap) (s:Ap):Bool:=decide (0<=idxOf (eqS s) p)
def kGi (r:kJv) (s:Ap):Bool:=isLet s && !hasS r.1 s
def kQv (r:kJv):Bool:=(kLt r.1 && kLt r.2) && yh (λj=>!kGi r (r.2.getD j Aa)) r.2.length
section
variable {r:kJv} {k:Nat}
def kXc (h:(kLt r.1 && kLt r.2)=false):kQv r=false:=by unfold kQv;rw [h];rfl
def vRule_bad (h:k < r.2.length) (q:kGi r r.2[k]=true):kQv r=false:=by
 unfold kQv;rw [kCx h qK];simp
def vRule_next (h:k < r.2.length) (q:kGi r r.2[k]=false) (a:yh (λj=>!kGi r (r.2.getD j Aa)) k=true):yh (λj=>!kGi r (r.2.getD j Aa)) (k + 1)=true :=
  kAu a qK
def vRule_good (v:(kLt r.1 && kLt r.2)=true) (q:yh (λj=>!kGi r (r.2.getD j Aa)) k=true) (h:¬ k < r.2.length) (hk:k<=r.2.length):kQv r=true:=by
 obtain rfl:k=r.2.length:=bC9;unfold kQv;rw [q,v];rfl
end
def kZp {w:Aq} {cl:Av Ar} {l:kBn} (hl:zR.raw w cl l) {s:Ap} :
    Aw prog 202 #[.agg cl.toArray,.string s] w (bQ w (.bool (hasS l s))):=by
 obtain ⟨E,rfl,a7⟩:=kFv hl
 obtain ⟨al,pl,rfl,ll⟩:=kD.sl a7
 have HL:=yD a7
 clear a7 hl
 go_enter func202,ntmps202
 go_wp2
 generalize D:World.alloc w _=N
 have EB:Qb w N:=by rw [<- D];exact bF
 have K0:Qd N w 0 (.slice al l.length pl):=tK
 clear D
 go_loopw [5] (λi wr=>∃ k:Nat,k<=l.length/\i=.int .i64 k/\Hid (∀ j,(h:j < k)->(h2:j < l.length)->eqS s l[j]=false)/\Qb N wr) (λi _=>l.length - (Ay i).toNat)
 case atStart=>exact ⟨0,Nat.zero_le _,rfl,yD (λ_ h=>by omega),bR⟩
 obtain ⟨k,hk,rfl,HN,o⟩:=hrel
 have F:=(tQ EB o)
 replace K0:=cL o K0
 by_cases hlt:k < l.length
 · obtain ⟨qb,qo,rfl,ae,qr,ar⟩:=kD.kCv (HL.out.below F) hlt rfl;obtain ⟨he,ax⟩:=kD.zi qr;obtain rfl:ae=_:=by simpa using he
   have I:=λq=>idxOf_hit (p:=eqS s) hlt q HN.out;have H:=λq=>kBx (p:=eqS s) hlt q HN.out;generalize l[k]=x at *;have HD:=yD I;have HX:=yD H;clear I H he qr;cases hv:eqS s x
   · have L:=yD (HX.out hv);have az:(x.toList==s.toList)=false:=hv;clear hv HD HX;go_wp2;go_roundw;case rel=>exact ⟨k + 1,by omega,by go_num,L,o⟩
     simp [Ay];omega
   have L:=yD (HD.out hv);have az:(x.toList==s.toList)=true:=hv;clear hv HD HX;go_wp2;go_ret;exact ⟨kX (show _=hasS l s by unfold hasS;rw [L.out];simp),F⟩
 have L:=yD (idxOf_miss hlt HN.out)
 go_wp2
 go_ret
 exact ⟨kX (show _=hasS l s by unfold hasS;rw [L.out];rfl),F⟩
def kSb {w:Aq} {cr:Av Ar} {r:kJv} (hr:kLd.raw w cr r):Aw prog 187 #[.agg cr.toArray] w (bQ w (.bool (kQv r))):=by
 obtain ⟨d4,a1,rfl,ad,a3,bi,a9⟩:=kYu hr;obtain ⟨cw,b6,rfl,d6⟩:=kD.sl a3;obtain ⟨ap,al,rfl,a2⟩:=kD.sl a9;have H0:=yD ad;have H2:=yD bi;have H1:=yD a3;have H3:=yD a9;clear hr ad a3 bi a9;go_enter func187,ntmps187;go_upto_region 1 with fail;generalize D:World.alloc w _=N;have EB:Qb w N:=by rw [<- D];exact bF
 have K0:Qd N w 0 (.slice cw r.1.length b6):=tK;have K1:Qd N w 1 (.slice ap r.2.length al):=tK;clear D;go_wp2_with fail;refine (kDk (H0.out.below EB)).mono ?_;rintro e Y ⟨rfl,O⟩;replace K0:=cL O K0;replace K1:=cL O K1;have E1:=(tQ EB O);clear O EB;cases ab:kLt r.1
 · have L:=yD (kXc (r:=r) (by rw [ab];rfl));go_wp2;go_ret;exact ⟨kX L.out.symm,E1⟩
 go_wp2_with fail;refine (kDk (H2.out.below E1)).mono ?_;rintro e V ⟨rfl,ak⟩;replace K0:=cL ak K0;replace K1:=cL ak K1;have E2:=(tQ E1 ak);clear ak E1;cases az:kLt r.2
 · have L:=yD (kXc (r:=r) (by rw [ab,az];rfl));clear ab az;go_wp2;go_ret;exact ⟨kX L.out.symm,E2⟩
 have U:Hid ((kLt r.1 && kLt r.2)=true):=yD (by rw [ab,az];rfl);clear ab az;go_wp2;go_loopw [3] (λi wr=>∃ k:Nat,k<=r.2.length/\i=.int .i64 k/\Hid (yh (λj=>!kGi r (r.2.getD j Aa)) k=true)/\Qb V wr) (λi _=>r.2.length - (Ay i).toNat);case atStart=>exact ⟨0,Nat.zero_le _,rfl,yD rfl,bR⟩
 obtain ⟨k,hk,rfl,HN,o⟩:=hrel;have F:=(tQ E2 o);replace K0:=cL o K0;replace K1:=cL o K1;by_cases hlt:k < r.2.length
 · obtain ⟨qb,qo,rfl,ae,qr,ar⟩:=kD.kCv (H3.out.below F) hlt rfl;obtain ⟨he,ax⟩:=kD.zi qr;obtain rfl:ae=_:=by simpa using he
   have I:=λq=>vRule_bad hlt q;have H:=λq=>vRule_next hlt q HN.out;generalize r.2[k]=s at *;have HD:=yD I;have HX:=yD H;clear I H he qr;go_upto_region 6 with fail;have FX:=yD (λ(W:Aq) (hW:Qb wr W)=>kJd hW K0 K1 ar);refine kM (λW=>Qb wr W) [Tt,Tt,Tt,Tt,Tt,Tt,Ff,Tt,Tt,Tt,Tt,Tt,Tt,Tt,Tt,Tt,Ff,Tt,Tt] bC3 bC3 pK (bR.drew) ?_;intro wS E;iterate 6
    all_goals refine ku ?_
   all_goals first | refine wkC (kKh ax) ?_ | refine ku ?_
   all_goals (refine jy λb aw=>?_;cases b <;> try simp only [jw] at aw)
   iterate 8
    all_goals refine ku ?_
   all_goals first | refine wkB (kZp (H0.out.below (tQ F E))) (λwS1 E=>?_) | refine ku ?_
   all_goals refine ku ?_
   all_goals (refine jy λb G=>?_;cases b <;> try simp only [jw] at G)
   all_goals refine kS ?_
   all_goals have ER:=(tQ o E)
   all_goals have R:=(tQ F E)
   all_goals first
     | (have L:=yD (HD.out (show kGi r s=true by simp only [kGi,Ae,Ab,Ag,Ah,Ac,Ad,Ak,Al,Ai,Aj,Am,aw,G]));clear HD HX;go_wp2;go_ret;exact ⟨kX L.out.symm,R⟩)
     | (have L:=yD (HX.out (show kGi r s=false by simp only [kGi,Ae,Ab,Ag,Ah,Ac,Ad,Ak,Al,Ai,Aj,Am,aw,G]));clear HD HX;go_wp2;go_roundw;(case rel=>exact ⟨k + 1,by omega,by go_num,L,ER⟩);(case measure=>simp [Ay];omega))
 have L:=yD (vRule_good U.out HN.out hlt hk);go_wp2;go_ret;exact ⟨kX L.out.symm,F⟩
def kTv (x y:jN):Bool:=(((eqN x.1 y.1 && decide (x.2.1=y.2.1)) && eqN x.2.2.1 y.2.2.1) && (x.2.2.2.1==y.2.2.2.1)) && (x.2.2.2.2==y.2.2.2.2)
def vData_eq (x y:jN):kTv x y=decide (x=y):=by
 obtain ⟨x0,x1,x2,x3,x4⟩:=x;obtain ⟨y0,y1,y2,y3,y4⟩:=y;rw [Bool.eq_iff_iff];simp [kTv,eqN,and_assoc]
def isD (n:ko) (x:jN):Bool:=eqN x.1 n
def fresh (t:Int) (x:jN):Bool:=decide (t<=x.2.2.2.1)
def voidD:jN:=([],[],[],0,0)
def kWp {w:Aq} {vl:Ar} {l:(Av jN)} (hl:(kD.slice 68 jJ).raw w [vl] l) {cn:Av Ar} {n:ko} (hn:kU.raw w cn n) :
    Aw prog 189 #[vl,.agg cn.toArray] w (bQ w (.int .i64 (idxOf (isD n) l))):=by
 obtain ⟨al,pl,rfl,ll⟩:=kD.sl hl
 have Hn:=yD hn
 obtain ⟨X,rfl,R⟩:=kZ hn
 obtain ⟨U,J,rfl,aa⟩:=kD.sl R
 go_enter func189,ntmps189
 go_wp2
 generalize D:World.alloc w _=N
 obtain ⟨EB,G⟩:=BF
 clear D
 replace hl:=hl.below EB
 go_loopw [5] (λi wr=>∃ k:Nat,k<=l.length/\i=.int .i64 k/\Hid (∀ j,(h:j < k)->(h2:j < l.length)->(isD n) l[j]=false)/\Qb N wr) (λi _=>l.length - (Ay i).toNat)
 case atStart=>exact ⟨0,Nat.zero_le _,rfl,yD (λ_ h=>by omega),bR⟩
 obtain ⟨k,hk,rfl,HN,o⟩:=hrel
 replace G:=cL o G
 by_cases hlt:k < l.length
 · obtain ⟨qb,qo,rfl,ae,af,ah,cc,ck,qr,ar,ax,a2,an,a4⟩:=kD.get5 (hl.below o) (i:=k) bC9 rfl;obtain ⟨I,H⟩:=CK;generalize l[k]=x at *;have HD:=yD I;have HX:=yD H;clear I H;obtain ⟨x0,x1,x2,x3,x4⟩:=x;obtain ⟨bg,dc,b2,Z,aj,ap,ao,au,bq,bh,cq⟩:=jb qr;simp only [Au,and_true] at Z;obtain ⟨rfl,rfl,rfl,rfl,rfl⟩:=Z;obtain ⟨ac,ay,rfl,bd⟩:=kD.sl ap;obtain ⟨ai,bc,rfl,bl⟩:=kD.sl ao;obtain ⟨am,bu,rfl,ce⟩:=kD.sl bq;go_upto_region 4 with fail;have FX:=yD (λ(W:Aq) (hW:Qb wr W)=>kKa hW G ar ax a2 an a4);refine kM (λW=>Qb wr W) [Tt,Tt,Tt,Tt,Tt,Tt,Ff] bC3 bC3 pK (bR.drew) ?_;intro wS E;iterate 6
    all_goals refine ku ?_
   all_goals first | refine wkB (zN (kD.raw.below aj E) (kD.raw.below Hn.out ((tQ EB (tQ o E))))) (λwS1 E=>?_) | refine ku ?_
   all_goals refine kS ?_
   all_goals cases ad:eqN x0 n
   all_goals have F:=(tQ o E)
   all_goals first
     | (have L:=yD (HD.out (show _=true by simp only [isD,Ae,Ab,Ag,Ah,Ac,Ad,Ak,Al,Ai,Aj,Am,ad]));clear HD HX;go_wp2;go_ret;exact ⟨jT L.out.symm,(tQ EB F)⟩)
     | (have L:=yD (HX.out (show _=false by simp only [isD,Ae,Ab,Ag,Ah,Ac,Ad,Ak,Al,Ai,Aj,Am,ad]));clear HD HX;go_wp2;go_roundw;(case rel=>exact ⟨k + 1,by omega,by go_num,L,F⟩);(case measure=>simp [Ay];omega))
 exact iI
def kVm {w:Aq} {cx:Av Ar} {x:jN} (hx:jJ.raw w cx x) {n:ko} {ck:Ar} {Bn:Nat} (nr:kU.raw w [ck] n) (U:Qc w Bn 0 ck) :
    Aw prog 85 (#[.agg cx.toArray]++#[.pointer (some ⟨Bn,0,none⟩)]) w (bQ w (.bool (isD n x))):=by
 have Hx:=yD hx
 obtain ⟨ar,a7,a2,rfl,ab,Z,ac,ae,V,al,ap⟩:=jb hx
 obtain ⟨aa,R,rfl,an⟩:=kD.sl Z
 obtain ⟨aj,ah,rfl,a5⟩:=kD.sl ac
 obtain ⟨ag,X,rfl,a3⟩:=kD.sl V
 obtain ⟨H,ak,a8⟩:=kZ nr
 simp only [Au,and_true] at ak
 obtain rfl:=ak
 obtain ⟨ee,am,rfl,ao⟩:=kD.sl a8
 show Aw prog 85 #[_,_] w _
 go_enter func85,ntmps85
 go_upto_region 1 with fail
 generalize D:World.alloc w _=N
 obtain ⟨EB,J,I,o,Y,ai⟩:=DL
 clear D
 replace U:=cL EB U
 have FX:=yD (λ(W:Aq) (hW:Qb N W)=>kKa hW J I o Y ai U)
 refine jE (λW=>Qb N W) [Tt,Tt,Tt,Ff,Tt] bR ?_
 intro wS E
 iterate 3
  all_goals refine ku ?_
 all_goals first | refine wkB (kAo (kD.raw.below ab (tQ EB E)) (kD.raw.below nr (tQ EB E))) (λwS1 E=>?_) | refine ku ?_
 all_goals (refine jy λb O=>?_;cases b <;> try simp only [jw] at O)
 all_goals refine kS ?_
 all_goals have F:=(tQ EB E)
 all_goals first
   | (have L:=yD (show (isD n x)=false by simp only [isD,Ae,Ab,Ag,Ah,Ac,Ad,Ak,Al,Ai,Aj,Am,O]);go_wp2;go_ret;exact ⟨kX L.out.symm,F⟩)
   | (have L:=yD (show (isD n x)=true by simp only [isD,Ae,Ab,Ag,Ah,Ac,Ad,Ak,Al,Ai,Aj,Am,O]);go_wp2;go_ret;exact ⟨kX L.out.symm,F⟩)
def kIj:jI prog 85:=zQ func85 bC3 bC3
def kWy {w:Aq} {vl:Ar} {l:(Av jN)} (hl:(kD.slice 68 jJ).raw w [vl] l) {cn:Av Ar} {n:ko} (hn:kU.raw w cn n) :
    Aw prog 36 #[vl,.agg cn.toArray] w (bQ w (.int .i64 (idxOf (isD n) l))):=by
 obtain ⟨al,pl,rfl,ll⟩:=kD.sl hl
 have Hn:=yD hn
 obtain ⟨X,rfl,R⟩:=kZ hn
 obtain ⟨U,J,rfl,aa⟩:=kD.sl R
 go_enter func36,ntmps36
 go_upto_region 1 with fail
 generalize D:World.alloc w _=N
 obtain ⟨EB,G⟩:=BF
 clear D
 go_wp2_with fail
 refine (kQr (isD n) kIj (kD.raw.below hl EB) ?_).mono ?_
 · intro wr hb i h cs hr;exact kVm hr (kD.raw.below Hn.out (tQ EB hb)) (cL hb G)
 exact iJ
def kWv {w:Aq} {cx:Av Ar} {x:jN} (hx:jJ.raw w cx x) {t:Int} :
    Aw prog 82 #[.agg cx.toArray,.int .i64 t] w (bQ w (.bool (fresh t x))):=by
 obtain ⟨v0,v1,v2,rfl,ad,a3,bi,a9,az,ba,bm⟩:=jb hx
 have L:=yD (show fresh t x=decide (t<=x.2.2.2.1) from rfl)
 clear hx ad a3 bi a9 az ba bm
 go_enter func82,ntmps82
 go_wp2
 go_ret
 exact ⟨kX L.out.symm,bF⟩
def kWz {w:Aq} {cx:Av Ar} {x:jN} (hx:jJ.raw w cx x) {t:Int} :
    Aw prog 66 #[.agg cx.toArray,.int .i64 t] w (bQ w (.bool (fresh t x))):=by
 obtain ⟨v0,v1,v2,rfl,ad,a3,bi,a9,az,ba,bm⟩:=jb hx
 have L:=yD (show fresh t x=decide (t<=x.2.2.2.1) from rfl)
 clear hx ad a3 bi a9 az ba bm
 go_enter func66,ntmps66
 go_wp2
 go_ret
 exact ⟨kX L.out.symm,bF⟩
def isK (n:ko) (k:kNu):Bool:=eqN k.1 n
def kBq (l:Av kNu) (n:ko):Int:=if idxOf (isK n) l < 0 then 0 else (l.getD (idxOf (isK n) l).toNat ([],0)).2
def kNi (l:Av kNu) (n:ko):Av UInt8:=if kBq l n=0 then [] else kFb (digest [kBq l n])
section
variable {l:Av kNu} {n:ko} {k:Nat}
def sec_yes (hk:k < l.length) (h:idxOf (isK n) l=k):kBq l n=l[k].2:=by
 unfold kBq;rw [h,Int.toNat_natCast,jS hk,if_neg bC9]
def sec_rng {w:Aq} {vl:Ar} (hl:(kD.slice 173 kJg).raw w [vl] l):-9223372036854775808<=kBq l n/\kBq l n<=9223372036854775807:=by
 by_cases h:idxOf (isK n) l < 0
 · unfold kBq;rw [if_pos h];omega
 obtain ⟨j,I,F⟩:=idxOf_ge h;rw [sec_yes I F];obtain ⟨al,pl,rfl,ll⟩:=kD.sl hl;obtain ⟨qb,qo,H,ae,af,qr,_,_⟩:=kD.get2 hl I rfl;obtain ⟨v0,he,_,_,h3⟩:=kWe qr;exact h3
def keyDig_no (h:kBq l n=0):kNi l n=[]:=by unfold kNi;rw [if_pos h]
def keyDig_yes (h:¬ kBq l n=0):kNi l n=[]++kFb (digest [kBq l n]):=by unfold kNi;rw [if_neg h];rfl
def keyDig_len:(kNi l n).length<=6:=by
 unfold kNi;split
 · simp
 exact kHr _
end
def kZd {w:Aq} {vl:Ar} {l:(Av kNu)} (hl:(kD.slice 173 kJg).raw w [vl] l) {cn:Av Ar} {n:ko} (hn:kU.raw w cn n) :
    Aw prog 206 #[vl,.agg cn.toArray] w (bQ w (.int .i64 (idxOf (isK n) l))):=by
 obtain ⟨al,pl,rfl,ll⟩:=kD.sl hl
 have Hn:=yD hn
 obtain ⟨X,rfl,R⟩:=kZ hn
 obtain ⟨U,J,rfl,aa⟩:=kD.sl R
 go_enter func206,ntmps206
 go_wp2
 generalize D:World.alloc w _=N
 obtain ⟨EB,G⟩:=BF
 clear D
 replace hl:=hl.below EB
 go_loopw [5] (λi wr=>∃ k:Nat,k<=l.length/\i=.int .i64 k/\Hid (∀ j,(h:j < k)->(h2:j < l.length)->(isK n) l[j]=false)/\Qb N wr) (λi _=>l.length - (Ay i).toNat)
 case atStart=>exact ⟨0,Nat.zero_le _,rfl,yD (λ_ h=>by omega),bR⟩
 obtain ⟨k,hk,rfl,HN,o⟩:=hrel
 replace G:=cL o G
 by_cases hlt:k < l.length
 · obtain ⟨qb,qo,rfl,ae,af,qr,ar,ax⟩:=kD.get2 (hl.below o) (i:=k) bC9 rfl;obtain ⟨I,H⟩:=CK;generalize l[k]=x at *;have HD:=yD I;have HX:=yD H;clear I H;obtain ⟨x0,x1⟩:=x;obtain ⟨bg,Z,aj,ap,ao⟩:=kWe qr;simp only [Au,and_true] at Z;obtain ⟨rfl,rfl⟩:=Z;obtain ⟨ac,ay,rfl,bd⟩:=kD.sl ap;go_upto_region 4 with fail;have FX:=yD (λ(W:Aq) (hW:Qb wr W)=>kJd hW G ar ax);refine kM (λW=>Qb wr W) [Tt,Tt,Tt,Tt,Tt,Tt,Ff] bC3 bC3 pK (bR.drew) ?_;intro wS E;iterate 6
    all_goals refine ku ?_
   all_goals first | refine wkB (zN (kD.raw.below aj E) (kD.raw.below Hn.out ((tQ EB (tQ o E))))) (λwS1 E=>?_) | refine ku ?_
   all_goals refine kS ?_
   all_goals cases ad:eqN x0 n
   all_goals have F:=(tQ o E)
   all_goals first
     | (have L:=yD (HD.out (show _=true by simp only [isK,Ae,Ab,Ag,Ah,Ac,Ad,Ak,Al,Ai,Aj,Am,ad]));clear HD HX;go_wp2;go_ret;exact ⟨jT L.out.symm,(tQ EB F)⟩)
     | (have L:=yD (HX.out (show _=false by simp only [isK,Ae,Ab,Ag,Ah,Ac,Ad,Ak,Al,Ai,Aj,Am,ad]));clear HD HX;go_wp2;go_roundw;(case rel=>exact ⟨k + 1,by omega,by go_num,L,F⟩);(case measure=>simp [Ay];omega))
 exact iI
def kEb {w:Aq} {vl:Ar} {l:Av kNu} (hl:(kD.slice 173 kJg).raw w [vl] l) {cn:Av Ar} {n:ko} (hn:kU.raw w cn n) :
    Aw prog 194 #[vl,.agg cn.toArray] w (bQ w (.int .i64 (kBq l n))):=by
 obtain ⟨al,pl,rfl,ll⟩:=kD.sl hl
 have HL:=yD hl;have HN:=yD hn
 obtain ⟨nv,rfl,a8⟩:=kZ hn
 obtain ⟨an,G,rfl,ln⟩:=kD.sl a8
 clear hl hn a8
 go_enter func194,ntmps194
 go_upto_region 1 with fail
 generalize D:World.alloc w _=N
 have EB:Qb w N:=by rw [<- D];exact bF
 have K0:Qd N w 0 (.slice an n.length G):=tK
 clear D
 go_wp2_with fail
 refine (kZd (HL.out.below EB) (HN.out.below EB) (cn:=[.slice an n.length G])).mono ?_
 rintro e Y ⟨rfl,hb⟩
 have E1:=(tQ EB hb)
 clear hb EB K0
 by_cases hi:idxOf (isK n) l < 0
 · have L:Hid (kBq l n=0):=yD (by unfold kBq;rw [if_pos hi]);go_wp2;go_ret;exact ⟨jT L.out.symm,E1⟩
 obtain ⟨j,I,F⟩:=idxOf_ge hi
 have L:=yD (sec_yes I F)
 obtain ⟨qb,qo,H,ae,af,qr,ar,ax⟩:=kD.get2 (HL.out.below E1) I rfl
 obtain rfl:=H
 rw [F]
 clear hi F
 generalize l[j]=x at *
 obtain ⟨x0,x1⟩:=x
 obtain ⟨v0,Z,aj,ap,ao⟩:=kWe qr
 simp only [Au,and_true] at Z
 obtain ⟨rfl,rfl⟩:=Z
 have ce:(j:Int) < l.length:=bC9
 have ch:¬ ((j:Int) < 0):=bC9
 have o:=Int.natCast_nonneg j
 go_wp2
 go_ret
 exact ⟨jT L.out.symm,E1⟩
def kSg {w:Aq} {vl:Ar} {l:Av kNu} (hl:(kD.slice 173 kJg).raw w [vl] l) {cn:Av Ar} {n:ko} (hn:kU.raw w cn n) :
    Aw prog 188 #[vl,.agg cn.toArray] w (kBs 5 kD.byte (kNi l n) w):=by
 obtain ⟨al,pl,rfl,ll⟩:=kD.sl hl
 have HL:=yD hl;have HN:=yD hn
 have HR:=yD (show I64q (kBq l n) from sec_rng hl)
 obtain ⟨nv,rfl,a8⟩:=kZ hn
 obtain ⟨an,G,rfl,ln⟩:=kD.sl a8
 clear hl hn a8
 go_enter func188,ntmps188
 go_upto_region 1 with fail
 generalize D:World.alloc w _=N
 have EB:Qb w N:=by rw [<- D];exact bF
 have K0:Qd N w 0 (.slice an n.length G):=tK
 clear D
 go_wp2_with fail
 refine (kEb (HL.out.below EB) (HN.out.below EB) (cn:=[.slice an n.length G])).mono ?_
 rintro e Y ⟨rfl,hb⟩
 have E1:=(tQ EB hb)
 clear hb EB K0
 by_cases h0:kBq l n=0
 · have L:=yD (keyDig_no h0);have E:(kBq l n==0)=true:=bA2;go_wp2;go_ret;exact ⟨_,rfl,(kD.kR.void:kD.kR 5 kD.byte _ _ [] _).cast L.out.symm,(by repeat (first|(with_reducible exact E1) | refine Below.alloc ?_ (by have:=Below.size E1;simp;try omega) _ | refine Below.drew ?_ | refine Below.setCell ?_ (by have:=Below.size E1;simp;try omega) _))⟩
 have L:=yD (keyDig_yes h0)
 have E:(kBq l n==0)=false:=bA2
 generalize kBq l n=s at *
 have o:=((litq (w:=(Y.alloc (.cells #[] 5))) (x:=s) (e:=3) HR.out).own sM).raw
 have RV:=((kD.kR.void (e:=5) (r:=kD.byte) (w:=World.alloc (Y.alloc (.cells #[] 5)) (.cells #[.int .i64 s] 3)) (a:=some ⟨Y.heap.size,0,none⟩) (S:=λ_=>False)).own (Nat.zero_le _)).rd
 clear h0
 go_wp2_with fail
 refine (kOh bB8).mono ?_
 rintro e V ⟨rfl,hw⟩
 obtain rfl:=hw.symm
 go_wp2_with fail
 refine (kDl RV).mono ?_
 rintro e w3 ⟨v3,rfl,O3,ar⟩
 obtain ⟨a3,n3,c3,ac,bn⟩:=O3.parts;obtain rfl:=ac
 have E3:Qb w w3:=E1.trans (Below.trans (by repeat (first|(with_reducible exact bR) | refine Below.alloc ?_ (by have:=E1.size;simp;try omega) _)) (ar.mono (by have:=E1.size;simp;omega)))
 have ai:=yD (O3.wide (T:=jX w.heap.size w3.heap.size) (λj I=>⟨by have h1:=I.1;have h2:=E1.size;(try simp at h1);omega,I.2⟩))
 clear O3 ar o RV
 go_wp2
 go_ret
 exact ⟨_,rfl,ai.out.cast L.out.symm,E3⟩
def lenN (m:Nat) (x:yB):Prop :=
  (x.1.length<=m/\True)/\(True/\(x.2.1.2.length<=m/\True))/\(x.2.2.1.length<=m/\∀ y∈x.2.2.1,True/\(y.2.1.length<=m/\True))/\(x.2.2.2.1.length<=m/\True)/\(x.2.2.2.2.1.length<=m/\True)/\(x.2.2.2.2.2.1.length<=m/\True)/\True
def lenN.mono {m k:Nat} {x:yB} (h:lenN m x) (hk:m<=k):lenN k x:=by
 obtain ⟨⟨a,_⟩,⟨_,b,_⟩,⟨c,d⟩,⟨e,_⟩,⟨f,_⟩,⟨g,_⟩,_⟩:=h;exact ⟨⟨by omega,trivial⟩,⟨trivial,by omega,trivial⟩,⟨by omega,λy hy=>⟨trivial,by have:=(d y hy).2.1;omega,trivial⟩⟩,⟨by omega,trivial⟩,⟨by omega,trivial⟩,⟨by omega,trivial⟩,trivial⟩
def lenN_mk {m:Nat} {x:yB} (a:x.1.length<=m) (b:x.2.1.2.length<=m) (c:x.2.2.1.length<=m) (d:∀ y∈x.2.2.1,y.2.1.length<=m) (e:x.2.2.2.1.length<=m) (f:x.2.2.2.2.1.length<=m) (g:x.2.2.2.2.2.1.length<=m):lenN m x :=
  ⟨⟨a,trivial⟩,⟨trivial,b,trivial⟩,⟨c,λy hy=>⟨trivial,d y hy,trivial⟩⟩,⟨e,trivial⟩,⟨f,trivial⟩,⟨g,trivial⟩,trivial⟩
def lenT (t:kCa):Prop:=∀ k (h:k < t.2.2.2.length),t.2.2.2[k].2.1.length<=2000000
end Go.Proofs.YtonmjkmaadgceabGreat

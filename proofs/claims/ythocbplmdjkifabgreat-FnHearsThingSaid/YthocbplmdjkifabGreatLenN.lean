/-
  How long a node's lists are. No program in sight.
-/
import Derived.Test.YthocbplmdjkifabGreatLook
set_option linter.unusedVariables false
set_option linter.defProp false
set_option linter.unusedSimpArgs false
set_option linter.unnecessarySimpa false
set_option maxRecDepth 100000
set_option maxHeartbeats 4000000
open Bool renaming true->Tt,false->Ff
open Go renaming Value->Aa,World->Ac,Calls->Ad
open _root_ renaming List->Ab
namespace Go.Proofs.YthocbplmdjkifabGreat
open Go.RowKit _root_.Go.Proofs.Tryz
variable {cn ct cx:Ab Aa} {w:Ac} {n:kU} {l:Ab kKn} {vl:Aa} {now:Int} {t:jQ} {x:jK}
def isK (n:kU) (k:kKn):Bool:=eqN k.1 n
def zz (l:Ab kKn) (n:kU):Int:=if idxOf (isK n) l < 0 then 0 else (l.getD (idxOf (isK n) l).toNat ([],0)).2
def verS (l:Ab kKn) (x:jK):Bool:=verify (zz l x.2.2.1) x
def kLp (l:Ab kKn) (n:kU):Ab UInt8:=if zz l n=0 then [] else kEi (digest [zz l n])
section
variable {l:Ab kKn} {n:kU} {k:Nat}
def sec_no (h:idxOf (isK n) l=-1):zz l n=0:=by simp [zz,h]
def jIe (hk:k < l.length) (h:idxOf (isK n) l=k):zz l n=l[k].2:=by
 unfold zz;rw [h,Int.toNat_natCast,jY hk,if_neg bJ5]
def kUc (hl:Co.raw w [vl] l):-9223372036854775808<=zz l n/\zz l n<=9223372036854775807:=by
 by_cases h:idxOf (isK n) l < 0;unfold zz;rw [if_pos h];omega;obtain ⟨j,J,af⟩:=kPv h;rw [jIe J af];obtain ⟨al,pl,rfl,ll⟩:=kD.sl hl;obtain ⟨qb,qo,ch,ah,aj,qr,_,_⟩:=kD.kRc hl J rfl;obtain ⟨v0,he,_,_,h3⟩:=RKey_raw qr;exact h3
def jGo (h:zz l n=0):kLp l n=[]:=by unfold kLp;rw [if_pos h]
def jDa (h:¬ zz l n=0):kLp l n=[]++kEi (digest [zz l n]):=by unfold kLp;rw [if_neg h];rfl
def kSw:(kLp l n).length<=6:=by
 unfold kLp;split;simp;exact kHm _
end
def jHs (hl:Co.raw w [vl] l) (hn:kQ.raw w cn n) :
    Ad prog 259 #[vl,.agg cn.toArray] w (bQ w (.int .i64 (idxOf (isK n) l))):=by
 obtain ⟨al,pl,rfl,ll⟩:=kD.sl hl;have Hn:=yD hn;obtain ⟨Y,rfl,H⟩:=kT hn;obtain ⟨N,E,rfl,Z⟩:=kD.sl H;go_enter func259,ntmps259;go_wp2;refine TC λX EB F=>?_;replace hl:=hl.below EB;go_loopw [5] (λi wr=>∃ k:Nat,k<=l.length/\i=.int .i64 k/\Hid (∀ j,(h:j < k)->(h2:j < l.length)->(isK n) l[j]=false)/\Qb X wr) (λi _=>l.length - (intOf i).toNat);case atStart=>exact ⟨0,Nat.zero_le _,rfl,yD (λ_ h=>by omega),bR⟩
 obtain ⟨k,hk,rfl,HN,D⟩:=hrel;replace F:=cL D F;by_cases hlt:k < l.length
 · obtain ⟨qb,qo,rfl,ah,aj,qr,a2,a4⟩:=kD.kRc (hl.below D) (i:=k) bJ5 rfl;refine AU λR J=>?_;generalize l[k]=x at *;refine aN R J λHD HX=>?_;clear R J;obtain ⟨x0,x1⟩:=x;obtain ⟨rfl,au,az,aw⟩:=kXh qr;obtain ⟨ai,a6,rfl,bb⟩:=kD.sl az;go_upto_region 4 with fail;refine OV F a2 a4 λFX=>?_;refine q9 λwS I=>?_;all_goals ((first | refine wkB (zb (kD.raw.below au I) (kD.raw.below Hn.out ((tQ EB (tQ D I))))) (λwS1 I=>?_) | refine kZ ?_);refine kR ?_)
   all_goals cases av:eqN x0 n
   all_goals have G:=(tQ D I)
   all_goals first|(have L:=yD (HD.out (show _=true by simp only [isK,Q0,av]));clear HD HX;go_wp2;go_ret;exact ⟨jS L.symm,(tQ EB G)⟩)|(have L:=yD (HX.out (show _=false by simp only [isK,Q0,av]));clear HD HX;refine Qg ?_;exact ⟨k + 1,by omega,by go_num,L,G⟩)
 exact QV
def kCw (hl:Co.raw w [vl] l) (hn:kQ.raw w cn n) :
    Ad prog 227 #[vl,.agg cn.toArray] w (bQ w (.int .i64 (zz l n))):=by
 obtain ⟨al,pl,rfl,ll⟩:=kD.sl hl;refine NW λHL HN=>?_;obtain ⟨nv,rfl,ab⟩:=kT hn;obtain ⟨an,am,rfl,ln⟩:=kD.sl ab;clear hl hn ab;go_enter func227,ntmps227;go_upto_region 1 with fail;refine TF λX U EB Y=>?_;clear U;go_wp2_with fail;refine (jHs (HL.below EB) (HN.below EB) (cn:=[.slice an n.length am])).mono ?_;refine fO λw1 hb=>?_;have E1:=(tQ EB hb);clear hb EB Y;by_cases hi:idxOf (isK n) l < 0
 · have L:Hid (zz l n=0):=yD (by unfold zz;rw [if_pos hi]);go_wp2;exact uR E1
 obtain ⟨j,J,af⟩:=kPv hi;have L:=yD (jIe J af);obtain ⟨qb,qo,ch,ah,aj,qr,a2,a4⟩:=kD.kRc (HL.below E1) J rfl;obtain rfl:=ch;rw [af];clear hi af;generalize l[j]=x at *;obtain ⟨x0,x1⟩:=x;obtain ⟨rfl,au,az,aw⟩:=kXh qr;have dc:(j:Int) < l.length:=bJ5;have dh:¬ ((j:Int) < 0):=bJ5;have d1:=Int.natCast_nonneg j;exact oK L E1
def kJy (hl:Co.raw w [vl] l) (hn:kQ.raw w cn n) :
    Ad prog 234 #[vl,.agg cn.toArray] w (bQ w (.int .i64 (zz l n))):=by
 obtain ⟨al,pl,rfl,ll⟩:=kD.sl hl;refine NW λHL HN=>?_;obtain ⟨nv,rfl,ab⟩:=kT hn;obtain ⟨an,am,rfl,ln⟩:=kD.sl ab;clear hl hn ab;go_enter func234,ntmps234;go_upto_region 1 with fail;refine TF λX U EB Y=>?_;clear U;go_wp2;go_loopw [9] (λi wr=>∃ k:Nat,k<=l.length/\i=.int .i64 k/\Hid (∀ j,(h:j < k)->(h2:j < l.length)->isK n l[j]=false)/\Qb X wr) (λi _=>l.length - (intOf i).toNat);case atStart=>exact ⟨0,Nat.zero_le _,rfl,yD (λ_ h=>by omega),bR⟩
 obtain ⟨k,hk,rfl,HW,D⟩:=hrel;have G:=(tQ EB D);replace Y:=cL D Y;by_cases hlt:k < l.length
 · obtain ⟨qb,qo,rfl,ah,aj,qr,a2,a4⟩:=kD.kRc (HL.below G) hlt rfl;have R:=λq=>jIe hlt (idxOf_hit (p:=isK n) hlt q HW.out);have J:=λq=>kAl (p:=isK n) hlt q HW.out;generalize l[k]=x at *;refine aN R J λHD HX=>?_;clear R J;obtain ⟨x0,x1⟩:=x;obtain ⟨rfl,au,az,aw⟩:=kXh qr;obtain ⟨ai,a6,rfl,bb⟩:=kD.sl az;go_upto_region 4 with fail;refine oM λwC EC N=>?_;replace Y:=cL EC Y;obtain ⟨M0,M1⟩:=yA N;clear N;have H:=(tQ G EC);have ae:=(tQ D EC);go_wp2_with fail;refine (yI (kD.raw.below au EC) (HN.below H) (ca:=[.slice ai x0.length a6]) (cb:=[.slice an n.length am])).mono ?_;refine fO λw2 V=>?_;replace M1:=cL V M1;have E2:=(tQ H V);have O:=(tQ ae V);clear V;cases hv:eqN x0 n
   · have L:=yD (HX.out hv);clear HD HX hv;exact iI L O
   have L:=yD (HD.out hv);clear HD HX hv;go_wp2;exact uR E2
 have L:=yD (sec_no (idxOf_miss (p:=isK n) hlt HW.out));exact oK L G
def kGh (l:Ab kKn) (n:kU) (t:Int) (x:jK):Bool:=((eqN x.1 n && fresh t x) && verS l x) && decide (x.2.1=kLp l n)
def kCq (t:jQ) (n:kU) (now:Int):Int:=if zz t.1 n=0 then -1 else idxOf (kGh t.1 n now) t.2.2.2
def isAn (n:kU) (a:kU):Bool:=eqN a n
def kUq (t:jQ) (n:kU):Bool:=decide (0<=idxOf (isAn n) t.2.2.1)
def fc_no (h:zz t.1 n=0):kCq t n now=-1:=by unfold kCq;rw [if_pos h]
def fc_yes (h:¬ zz t.1 n=0):kCq t n now=idxOf (kGh t.1 n now) t.2.2.2:=by unfold kCq;rw [if_neg h]
def kHk (hl:Co.raw w [vl] l) (hx:jC.rd w cx x) (hc:x.2.1.length<=2000000) :
    Ad prog 179 #[vl,.agg cx.toArray] w (bQ w (.bool (verS l x))):=by
 obtain ⟨al,pl,rfl,ll⟩:=kD.sl hl;have HL:=yD hl;have HX:=yD hx;have hy:=hx.1;obtain ⟨el,a8,e1,rfl,ac,bc,bl,bj,bf,bp,bt⟩:=jT hy;obtain ⟨dg,dd,rfl,en,ax,au,rfl,ba,dj,di,rfl,e4⟩:=kD.sx bc (kD.sx bl (kD.sl bf));have HK:=yD bj;have HR:=yD (kUc (n:=x.2.2.1) hl);clear hl hx hy ac bc bl bj bf bp bt;go_enter func179,ntmps179;go_upto_region 1 with fail;refine PH λX EB Y K1 K2 K3 K4 FX wS I=>?_;all_goals ((first | refine wkB (kCw (HL.below (tQ EB I)) (HK.below (tQ EB I)) (cn:=[.slice dj x.2.2.1.length di])) (λwS1 I=>?_) | refine kZ ?_);(first | refine wkB (kVu HR.out (HX.below (tQ EB I)) hc (cx:=[.slice dg x.1.length dd,.slice ax x.2.1.length au,.slice dj x.2.2.1.length di,.int .i64 x.2.2.2.1,.int .i64 x.2.2.2.2])) (λwS1 I=>?_) | refine kZ ?_);refine kZ ?_;refine kR ?_)
 have G:=(tQ EB I);exact xW G
def kOd (hl:Co.raw w [vl] l) (hn:kQ.raw w cn n) :
    Ad prog 243 #[vl,.agg cn.toArray] w (kAo 5 kD.byte (kLp l n) w):=by
 obtain ⟨al,pl,rfl,ll⟩:=kD.sl hl;refine NW λHL HN=>?_;have HR:=yD (show I64q (zz l n) from kUc hl);obtain ⟨nv,rfl,ab⟩:=kT hn;obtain ⟨an,am,rfl,ln⟩:=kD.sl ab;clear hl hn ab;go_enter func243,ntmps243;go_upto_region 1 with fail;refine TF λX U EB Y=>?_;clear U;go_wp2_with fail;refine (kCw (HL.below EB) (HN.below EB) (cn:=[.slice an n.length am])).mono ?_;refine fO λw1 hb=>?_;have E1:=(tQ EB hb);clear hb EB Y;by_cases h0:zz l n=0
 · have L:=yD (jGo h0);have aa:(zz l n==0)=true:=bG1;go_wp2;go_ret;exact ⟨_,rfl,(kD.ko.void:kD.ko 5 kD.byte _ _ [] _).cast L.symm,(by repeat (first|(with_reducible exact E1) | refine Below.alloc ?_ (by have:=Below.size E1;simp;try omega) _ | refine Below.drew ?_ | refine Below.setCell ?_ (by have:=Below.size E1;simp;try omega) _))⟩
 have L:=yD (jDa h0);have aa:(zz l n==0)=false:=bG1;generalize zz l n=s at *;have V:=((kLo (w:=(w1.alloc (.cells #[] 5))) (x:=s) (e:=3) HR.out).own wW).raw;have Z:=((kD.ko.void (e:=5) (r:=kD.byte) (w:=World.alloc (w1.alloc (.cells #[] 5)) (.cells #[.int .i64 s] 3)) (a:=some ⟨w1,0,none⟩) (S:=λ_=>False)).own (Nat.zero_le _)).rd;clear h0;go_wp2_with fail;refine (kTz (by simpa using V)).mono ?_;refine fO λw2 hw=>?_;obtain rfl:=hw.symm;go_wp2_with fail;refine (kGb Z).mono ?_;refine eD λw3 v3 O3 ag=>?_;refine aH O3 λa3 n3 c3 ar ba=>?_;exact I6
def kEh (hl:Co.raw w [vl] l) (hx:jC.rd w cx x) (hc:x.2.1.length<=2000000) :
    Ad prog 175 #[vl,.agg cx.toArray] w (bQ w (.bool (verS l x))):=by
 obtain ⟨al,pl,rfl,ll⟩:=kD.sl hl;have HL:=yD hl;have HX:=yD hx;have hy:=hx.1;obtain ⟨el,a8,e1,rfl,ac,bc,bl,bj,bf,bp,bt⟩:=jT hy;obtain ⟨dg,dd,rfl,en,ax,au,rfl,ba,dj,di,rfl,e4⟩:=kD.sx bc (kD.sx bl (kD.sl bf));have HK:=yD bj;have HR:=yD (kUc (n:=x.2.2.1) hl);clear hl hx hy ac bc bl bj bf bp bt;go_enter func175,ntmps175;go_upto_region 1 with fail;refine PH λX EB Y K1 K2 K3 K4 FX wS I=>?_;all_goals ((first | refine wkB (kJy (HL.below (tQ EB I)) (HK.below (tQ EB I)) (cn:=[.slice dj x.2.2.1.length di])) (λwS1 I=>?_) | refine kZ ?_);(first | refine wkB (kWs HR.out (HX.below (tQ EB I)) hc (cx:=[.slice dg x.1.length dd,.slice ax x.2.1.length au,.slice dj x.2.2.1.length di,.int .i64 x.2.2.2.1,.int .i64 x.2.2.2.2])) (λwS1 I=>?_) | refine kZ ?_);refine kZ ?_;refine kR ?_)
 have G:=(tQ EB I);exact xW G
def kZn (hl:Co.raw w [vl] l) (hn:kQ.raw w cn n) :
    Ad prog 239 #[vl,.agg cn.toArray] w (kAo 5 kD.byte (kLp l n) w):=by
 obtain ⟨al,pl,rfl,ll⟩:=kD.sl hl;refine NW λHL HN=>?_;have HR:=yD (show I64q (zz l n) from kUc hl);obtain ⟨nv,rfl,ab⟩:=kT hn;obtain ⟨an,am,rfl,ln⟩:=kD.sl ab;clear hl hn ab;go_enter func239,ntmps239;go_upto_region 1 with fail;refine TF λX U EB Y=>?_;clear U;go_wp2_with fail;refine (kJy (HL.below EB) (HN.below EB) (cn:=[.slice an n.length am])).mono ?_;refine fO λw1 hb=>?_;have E1:=(tQ EB hb);clear hb EB Y;by_cases h0:zz l n=0
 · have L:=yD (jGo h0);have aa:(zz l n==0)=true:=bG1;go_wp2;go_ret;exact ⟨_,rfl,(kD.ko.void:kD.ko 5 kD.byte _ _ [] _).cast L.symm,E1⟩
 have L:=yD (jDa h0);have aa:(zz l n==0)=false:=bG1;generalize zz l n=s at *;have V:=((kLo (w:=w1) (x:=s) (e:=3) HR.out).own wW).raw;have Z:=((kD.ko.void (e:=5) (r:=kD.byte) (w:=World.alloc w1 (.cells #[.int .i64 s] 3)) (a:=none) (S:=λ_=>False)).own (Nat.zero_le _)).rd;clear h0;go_wp2_with fail;refine (kUz (by simpa using V)).mono ?_;refine fO λw2 hw=>?_;obtain rfl:=hw.symm;go_wp2_with fail;refine (kGf Z).mono ?_;refine eD λw3 v3 O3 ag=>?_;refine aH O3 λa3 n3 c3 ar ba=>?_;exact I6
def kZp {ca:Ab Aa} {a:kU} (ha:kQ.raw w ca a) {b7:Aa} {Bn:Nat} (nr:kQ.raw w [b7] n) (ae:Qc w Bn 0 b7) :
    Ad prog 237 (#[.agg ca.toArray]++#[.pointer (Qa Bn)]) w (bQ w (.bool (isAn n a))):=by
 have Ha:=yD ha;obtain ⟨bd,rfl,a2⟩:=kT ha;obtain ⟨E,F,rfl,bb⟩:=kD.sl a2;have ab:=kEx nr;obtain ⟨dz,R,rfl,ai⟩:=kD.sl ab;show Ad prog 237 #[_,_] w _;go_enter func237,ntmps237;go_upto_region 1 with fail;refine MJ λX U EB=>?_;have ah:Qd X w 0 (Qs E a F):=bA9;clear U;replace ae:=cL EB ae;have FX:=yD (λ(W:Ac) (hW:Qb X W)=>kNa hW ah ae);refine kX (λW=>Qb X W) [Tt,Tt,Ff,Tt] bR ?_;intro wS I;all_goals (refine kZ ?_;refine kZ ?_;(first | refine wkB (yI (kD.raw.below Ha.out (tQ EB I)) (kD.raw.below nr (tQ EB I))) (λwS1 I=>?_) | refine kZ ?_);refine jo λb a1=>?_;cases b <;> try simp only [jm] at a1)
 all_goals (refine kR ?_;have G:=(tQ EB I))
 all_goals (obtain ⟨vq,qv⟩:∃ qc,(isAn n a)=qc:=⟨_,rfl⟩;have L:=yD qv;simp only [isAn,Q0,a1] at qv;subst qv;go_wp2;go_ret;exact ⟨kJ L.symm,G⟩)
def kLy:jL prog 237:=yK func237 bI9 bI9
def jDl (ht:jh.raw w ct t) (hn:kQ.raw w cn n) :
    Ad prog 177 #[.agg ct.toArray,.agg cn.toArray] w (bQ w (.bool (kUq t n))):=by
 obtain ⟨ed,et,e0,c6,rfl,bh,bu,bw,co⟩:=yt ht;obtain ⟨a7,b7,rfl,ez,bg,c2,rfl,ew,a8,cl,rfl,eu,bl,av,rfl,c8⟩:=kD.sx bh (kD.sx bu (kD.sx bw (kD.sl co)));refine aN bh bu λag dg=>?_;refine aN bw co λal da=>?_;obtain ⟨nv,rfl,ab⟩:=kT hn;obtain ⟨an,am,rfl,ln⟩:=kD.sl ab;have HN:=yD hn;clear ht hn ab bh bu bw co;go_enter func177,ntmps177;go_upto_region 1 with fail;refine fK λX U EB=>?_;refine tH λY K1 K2 K3 K4=>?_;clear U;go_wp2_with fail;refine (kRi (isAn n) kLy (al.below EB) ?_).mono ?_
 · intro wr hb i h cs hr;exact kZp hr (kD.raw.below HN.out (tQ EB hb)) (cL hb K4)
 refine fO λw1 O=>?_;have E1:=(tQ EB O);clear O;go_wp2;go_ret;exact ⟨kJ rfl,E1⟩
def jBp (ht:jh.raw w ct t) (hn:kQ.raw w cn n) :
    Ad prog 181 #[.agg ct.toArray,.agg cn.toArray] w (bQ w (.bool (kUq t n))):=by
 obtain ⟨ed,et,e0,c6,rfl,bh,bu,bw,co⟩:=yt ht;obtain ⟨a7,b7,rfl,ez,bg,c2,rfl,ew,a8,cl,rfl,eu,bl,av,rfl,c8⟩:=kD.sx bh (kD.sx bu (kD.sx bw (kD.sl co)));refine aN bh bu λag dg=>?_;refine aN bw co λal da=>?_;obtain ⟨nv,rfl,ab⟩:=kT hn;obtain ⟨an,am,rfl,ln⟩:=kD.sl ab;have HN:=yD hn;have HV:=yD (show kUq t n=decide (0<=idxOf (isAn n) t.2.2.1) from rfl);clear ht hn ab bh bu bw co;go_enter func181,ntmps181;go_upto_region 1 with fail;refine fK λX U EB=>?_;refine tH λY K1 K2 K3 K4=>?_;clear U;generalize t.2.2.1=l at *;go_wp2;go_loopw [5] (λi wr=>∃ k:Nat,k<=l.length/\i=.int .i64 k/\Hid (∀ j,(h:j < k)->(h2:j < l.length)->isAn n l[j]=false)/\Qb X wr) (λi _=>l.length - (intOf i).toNat);case atStart=>exact ⟨0,Nat.zero_le _,rfl,yD (λ_ h=>by omega),bR⟩
 obtain ⟨k,hk,rfl,HW,D⟩:=hrel;have G:=(tQ EB D);replace K2:=cL D K2;replace K4:=cL D K4;by_cases hlt:k < l.length
 · obtain ⟨qb,qo,rfl,ah,qr,a2⟩:=kD.kAu (al.below G) hlt rfl;have R:=λq=>idxOf_hit (p:=isAn n) hlt q HW.out;have J:=λq=>kAl (p:=isAn n) hlt q HW.out;generalize l[k]=x at *;refine aN R J λHD HX=>?_;clear R J;go_upto_region 4 with fail;refine OV K2 K4 a2 λFX=>?_;refine q9 λwS I=>?_;all_goals ((first | refine wkB (zb (kD.raw.below qr I) (HN.below (tQ G I)) (cb:=[.slice an n.length am])) (λwS1 I=>?_) | refine kZ ?_);refine kR ?_;have ER:=(tQ D I);have EF:=(tQ G I))
   all_goals cases hv:eqN x n
   · have L:=yD (HX.out hv);clear HD HX hv;exact iI L ER
   have L:=yD (HD.out hv);clear HD HX hv;go_wp2;go_ret;exact ⟨kJ (by rw [HV.out,L.out];simp),EF⟩
 have L:=yD (idxOf_miss hlt HW.out);go_wp2;go_ret;exact ⟨kJ (by rw [HV.out,L.out];rfl),G⟩
def kOp (ac:jh.rd w ct t) (hB:∀ k (h:k < t.2.2.2.length),t.2.2.2[k].2.1.length<=2000000) (hn:kQ.raw w cn n) :
    Ad prog 182 #[.agg ct.toArray,.agg cn.toArray,.int .i64 now] w (bQ w (.int .i64 (kCq t n now))):=by
 have ht:=ac.1;refine BP λcw bx=>?_;obtain ⟨ed,et,e0,c6,rfl,bh,bu,bw,co⟩:=yt ht;obtain ⟨a7,b7,rfl,ez,bg,c2,rfl,ew,a8,cl,rfl,eu,bl,av,rfl,c8⟩:=kD.sx bh (kD.sx bu (kD.sx bw (kD.sl co)));refine aN bh bu λag dg=>?_;refine aN bw co λal da=>?_;obtain ⟨nv,rfl,ab⟩:=kT hn;obtain ⟨an,am,rfl,ln⟩:=kD.sl ab;have HN:=yD hn;clear ht ac hB hn ab bh bu bw co;go_enter func182,ntmps182;go_upto_region 1 with fail;refine fK λX U EB=>?_;refine tH λY K1 K2 K3 K4=>?_;clear U;go_wp2_with fail;refine (kCw (ag.below EB) (HN.below EB) (cn:=[.slice an n.length am])).mono ?_;refine fO λw1 hb=>?_;have E1:=(tQ EB hb);refine aJ hb Y K1 K2 λY K1 K2=>?_;refine aL hb K3 K4 λK3 K4=>?_;clear hb EB;by_cases h0:zz t.1 n=0
 · have L:=yD (fc_no (now:=now) h0);have aa:(zz t.1 n==0)=true:=bG1;exact oK L E1
 have ap:=yD (fc_yes (now:=now) h0);have aa:(zz t.1 n==0)=false:=bG1;clear h0;go_wp2;clear aa;go_loopw [7] (λi wr=>∃ k:Nat,k<=t.2.2.2.length/\i=.int .i64 k/\Hid (∀ j,(h:j < k)->(h2:j < t.2.2.2.length)->kGh t.1 n now t.2.2.2[j]=false)/\Qb w1 wr) (λi _=>t.2.2.2.length - (intOf i).toNat);case atStart=>exact ⟨0,Nat.zero_le _,rfl,yD (λ_ h=>by omega),bR⟩
 obtain ⟨k,hk,rfl,HW,D⟩:=hrel;have G:=(tQ E1 D);refine aJ D Y K1 K2 λY K1 K2=>?_;replace K3:=cL D K3;replace K4:=cL D K4;by_cases hlt:k < t.2.2.2.length
 · obtain ⟨qb,qo,rfl,ah,aj,ao,cc,cf,qr,a2,a4,a5,be,bo⟩:=kD.get5 (da.below G) hlt rfl;have R:=λq=>idxOf_hit (p:=kGh t.1 n now) hlt q HW.out;have J:=λq=>kAl (p:=kGh t.1 n now) hlt q HW.out;have aq:=cw.out k hlt;have cq:=bx.out k hlt;generalize t.2.2.2[k]=x at *;refine aN R J λHD HX=>?_;clear R J;have a1:=yD (show jC.rd wr _ x from ⟨qr,aq⟩);obtain ⟨rfl,rfl,au,az,aw,bi,bk,bq,b5⟩:=kBa qr;obtain ⟨ai,a6,rfl,bb,ar,bd,rfl,b2,ax,b3,rfl,b8⟩:=kD.sx az (kD.sx aw (kD.sl bk));clear aq;go_upto_region 7 with fail;refine oM λwC EC N=>?_;refine aJ EC Y K1 K2 λY K1 K2=>?_;refine aL EC K3 K4 λK3 K4=>?_;obtain ⟨M0,M1,M2,M3,M4⟩:=jP N;clear N;have H:=(tQ G EC);have ae:=(tQ D EC);have FX:=yD (λ(W:Ac) (hW:Qb wC W)=>kYs hW Y K1 K2 K3 K4 M0 M1 M2 M3 M4);refine kN (λW=>Qb wC W) [Tt,Tt,Tt,Ff,Tt,Tt,Tt,Ff,Tt,Tt,Tt,Tt,Tt,Ff,Tt,Tt,Tt,Tt,Tt,Tt,Tt,Ff,Ff,Tt] bI9 bI9 sD (bR.drew) ?_;refine uB λwS I=>?_;all_goals ((first | refine wkB (zb (kD.raw.below au (tQ EC I)) (HN.below (tQ H I)) (ca:=[.slice ai x.1.length a6]) (cb:=[.slice an n.length am])) (λwS1 I=>?_) | refine kZ ?_);refine jo λb Z=>?_;cases b <;> try simp only [jm] at Z)
   all_goals (refine kZ ?_;refine kZ ?_;(first | refine wkB (kRx (a1.below (tQ EC I)).1 (cx:=[.slice ai x.1.length a6,.slice ar x.2.1.length bd,.slice ax x.2.2.1.length b3,.int .i64 x.2.2.2.1,.int .i64 x.2.2.2.2])) (λwS1 I=>?_) | refine kZ ?_);refine kZ ?_;refine jo λb b1=>?_;cases b <;> try simp only [jm] at b1)
   all_goals ((iterate 3 refine kZ ?_);(first | refine wkB (kHk (ag.below (tQ H I)) (a1.below (tQ EC I)) cq (cx:=[.slice ai x.1.length a6,.slice ar x.2.1.length bd,.slice ax x.2.2.1.length b3,.int .i64 x.2.2.2.1,.int .i64 x.2.2.2.2])) (λwS1 I=>?_) | refine kZ ?_);refine kZ ?_;refine jo λb F=>?_;cases b <;> try simp only [jm] at F)
   all_goals ((iterate 5 refine kZ ?_);(first|(refine kI rfl I ?_)|(refine ku rfl (λK E=>?_);go_simp;refine (kOd (ag.below (tQ H I)) (HN.below (tQ H I)) (cn:=[.slice an n.length am])).mono ?_;rintro e wS1 ⟨vk,rfl,OK,af⟩;obtain ⟨ak,nk,ck,V,ay⟩:=OK.parts;obtain rfl:=V;have RK:=(OK.own qW).raw;clear OK;replace I:=(tQ I af);refine E _ _ I ?_;clear E K af));refine jD ?_;(first|(refine kI rfl I ?_)|(refine ku rfl (λK E=>?_);go_simp;refine (kVz (kD.raw.below aw (tQ EC I)) RK).mono ?_;rintro e bm ⟨rfl,af⟩;replace I:=(tQ I af);refine E _ _ I ?_;clear E K af RK));refine jD ?_;refine jo λb O=>?_;cases b <;> try simp only [jm] at O)
   all_goals (refine kR ?_;have EF:=(tQ H I);have ER:=(tQ ae I);clear EC)
   all_goals first|(have L:=yD (HD.out (show kGh t.1 n now x=true by simp only [kGh,Q0,Z,b1,F,O]));clear HD HX;go_wp2;go_ret;exact ⟨jS (by rw [ap.out,L.out]),EF⟩)|(have L:=yD (HX.out (show kGh t.1 n now x=false by simp only [kGh,Q0,Z,b1,F,O]));clear HD HX;refine Qg ?_;exact ⟨k + 1,by omega,by go_num,L,ER⟩)
 have L:=yD (idxOf_miss hlt HW.out);go_wp2;go_ret;exact ⟨jS (by rw [ap.out,L.out]),G⟩
def kNr (hx:jC.rd w cx x) (cq:x.2.1.length<=2000000) {an:Option Addr} {am Bn:Nat} (hn:kQ.raw w [Qs an n am] n) (O:Qc w Bn 0 (Qs an n am))
    {U:Nat} (D:Qc w U 0 (Qn now)) {a7:Option Addr} {b7 R:Nat} (hk:Co.raw w [Qs a7 t.1 b7] t.1) (H:Qc w R 0 (Qs a7 t.1 b7)) :
    Ad prog 238 (#[.agg cx.toArray]++#[.pointer (Qa Bn),.pointer (Qa U),.pointer (Qa R)]) w (bQ w (.bool (kGh t.1 n now x))):=by
 have hy:=hx.1;obtain ⟨ab,aa,Y,rfl,au,az,aw,bi,bk,bq,b5⟩:=jT hy;obtain ⟨ai,a6,rfl,bb,ar,bd,rfl,b2,ax,b3,rfl,b8⟩:=kD.sx az (kD.sx aw (kD.sl bk));have a1:=yD hx;have HN:=yD hn;refine aN hk au λag G=>?_;have J:=yD aw;clear hx hn hk au az aw bi bk bq b5;show Ad prog 238 #[_,_,_,_] w _;go_enter func238,ntmps238;go_upto_region 1 with fail;refine oM λX EB N=>?_;obtain ⟨M0,M1,M2,M3,M4⟩:=jP N;clear N;refine aJ EB O D H λO D H=>?_;have FX:=yD (λ(W:Ac) (hW:Qb X W)=>cLs8 hW O D H M0 M1 M2 M3 M4);refine kN (λW=>Qb X W) [Tt,Tt,Tt,Ff,Tt,Tt,Tt,Ff,Tt,Tt,Tt,Tt,Tt,Ff,Tt,Tt,Tt,Tt,Tt,Tt,Tt,Ff,Ff,Tt,Tt] bI9 bI9 sD (bR.drew) ?_;refine uB λwS I=>?_;all_goals ((first | refine wkB (yI (G.below (tQ EB I)) (HN.below (tQ EB I)) (ca:=[.slice ai x.1.length a6]) (cb:=[.slice an n.length am])) (λwS1 I=>?_) | refine kZ ?_);refine jo λb Z=>?_;cases b <;> try simp only [jm] at Z)
 all_goals (refine kZ ?_;refine kZ ?_;(first | refine wkB (kSa (a1.below (tQ EB I)).1 (cx:=[.slice ai x.1.length a6,.slice ar x.2.1.length bd,.slice ax x.2.2.1.length b3,.int .i64 x.2.2.2.1,.int .i64 x.2.2.2.2])) (λwS1 I=>?_) | refine kZ ?_);refine kZ ?_;refine jo λb b1=>?_;cases b <;> try simp only [jm] at b1)
 all_goals ((iterate 3 refine kZ ?_);(first | refine wkB (kEh (ag.below (tQ EB I)) (a1.below (tQ EB I)) cq (cx:=[.slice ai x.1.length a6,.slice ar x.2.1.length bd,.slice ax x.2.2.1.length b3,.int .i64 x.2.2.2.1,.int .i64 x.2.2.2.2])) (λwS1 I=>?_) | refine kZ ?_);refine kZ ?_;refine jo λb F=>?_;cases b <;> try simp only [jm] at F)
 all_goals ((iterate 5 refine kZ ?_);(first|(refine kI rfl I ?_)|(refine ku rfl (λK E=>?_);go_simp;refine (kZn (ag.below (tQ EB I)) (HN.below (tQ EB I)) (cn:=[.slice an n.length am])).mono ?_;rintro e wS1 ⟨vk,rfl,OK,af⟩;obtain ⟨ak,nk,ck,V,ay⟩:=OK.parts;obtain rfl:=V;have RK:=(OK.own qW).raw;clear OK;replace I:=(tQ I af);refine E _ _ I ?_;clear E K af));refine jD ?_;(first|(refine kI rfl I ?_)|(refine ku rfl (λK E=>?_);go_simp;refine (kVm (J.below (tQ EB I)) RK).mono ?_;rintro e bm ⟨rfl,af⟩;replace I:=(tQ I af);refine E _ _ I ?_;clear E K af RK));refine jD ?_;refine kZ ?_;refine kZ ?_;refine kR ?_;have EF:=(tQ EB I))
 all_goals first|(have L:=yD (show kGh t.1 n now x=false by simp only [kGh,Q0,Z,b1,F]);go_wp2;go_ret;exact ⟨kJ L.symm,EF⟩)|(have L:=yD (show kGh t.1 n now x=decide (x.2.1=kLp t.1 n) by simp only [kGh,Q0,Z,b1,F]);go_wp2;go_ret;exact ⟨kJ L.symm,EF⟩)
def kHi:jL prog 238:=yK func238 bI9 bI9
def kOx (ac:jh.rd w ct t) (hB:∀ k (h:k < t.2.2.2.length),t.2.2.2[k].2.1.length<=2000000) (hn:kQ.raw w cn n) :
    Ad prog 178 #[.agg ct.toArray,.agg cn.toArray,.int .i64 now] w (bQ w (.int .i64 (kCq t n now))):=by
 have ht:=ac.1;refine BP λcw bx=>?_;obtain ⟨ed,et,e0,c6,rfl,bh,bu,bw,co⟩:=yt ht;obtain ⟨a7,b7,rfl,ez,bg,c2,rfl,ew,a8,cl,rfl,eu,bl,av,rfl,c8⟩:=kD.sx bh (kD.sx bu (kD.sx bw (kD.sl co)));refine aN bh bu λag dg=>?_;refine aN bw co λal da=>?_;obtain ⟨nv,rfl,ab⟩:=kT hn;obtain ⟨an,am,rfl,ln⟩:=kD.sl ab;have HN:=yD hn;clear ht ac hB hn ab bh bu bw co;go_enter func178,ntmps178;go_upto_region 1 with fail;refine nA λX U=>?_;refine iD λEB=>?_;refine tH λY K1 K2 K3 K4=>?_;have K5:X.cell? ⟨w.heap.size + 1 + 1,0,none⟩=some (.int .i64 now):=bA9;clear U;go_wp2_with fail;refine (kJy (ag.below EB) (HN.below EB) (cn:=[.slice an n.length am])).mono ?_;refine fO λw1 hb=>?_;have E1:=(tQ EB hb);refine aJ hb Y K1 K2 λY K1 K2=>?_;refine aJ hb K3 K4 K5 λK3 K4 K5=>?_;clear hb EB;by_cases h0:zz t.1 n=0
 · have L:=yD (fc_no (now:=now) h0);have aa:(zz t.1 n==0)=true:=bG1;go_wp2;exact uR E1
 have ap:=yD (fc_yes (now:=now) h0);have aa:(zz t.1 n==0)=false:=bG1;clear h0;go_wp2_with fail;refine (kNe (kGh t.1 n now) kHi (da.below E1) ?_).mono ?_
 · intro wr hb i h cs hr;exact kNr ⟨hr,cw.out i h⟩ (bx.out i h) (kD.raw.below HN.out (tQ E1 hb)) (cL hb K4) (cL hb K5) (kD.raw.below ag.out (tQ E1 hb)) (cL hb Y)
 refine fO λw2 V=>?_;have E2:=(tQ E1 V);clear V;exact oK ap E2
def kPn (m:Nat) (x:ja):Prop :=
  (x.1.length<=m/\True)/\(True/\(x.2.1.2.length<=m/\True))/\(x.2.2.1.length<=m/\∀ y∈x.2.2.1,True/\(y.2.1.length<=m/\True))/\(x.2.2.2.1.length<=m/\True)/\(x.2.2.2.2.1.length<=19/\True)/\(x.2.2.2.2.2.1.length<=m/\True)/\True
def kPn.mono {m k:Nat} {x:ja} (h:kPn m x) (hk:m<=k):kPn k x:=by
 obtain ⟨⟨a,_⟩,⟨_,b,_⟩,⟨c,d⟩,⟨e,_⟩,⟨f,_⟩,⟨g,_⟩,_⟩:=h;exact ⟨⟨by omega,trivial⟩,⟨trivial,by omega,trivial⟩,⟨by omega,λy hy=>⟨trivial,by have:=(d y hy).2.1;omega,trivial⟩⟩,⟨by omega,trivial⟩,⟨by omega,trivial⟩,⟨by omega,trivial⟩,trivial⟩
def lenN_mk {m:Nat} {x:ja} (a:x.1.length<=m) (b:x.2.1.2.length<=m) (c:x.2.2.1.length<=m) (d:∀ y∈x.2.2.1,y.2.1.length<=m) (e:x.2.2.2.1.length<=m) (f:x.2.2.2.2.1.length<=19) (g:x.2.2.2.2.2.1.length<=m):kPn m x :=
  ⟨⟨a,trivial⟩,⟨trivial,b,trivial⟩,⟨c,λy hy=>⟨trivial,d y hy,trivial⟩⟩,⟨e,trivial⟩,⟨f,trivial⟩,⟨g,trivial⟩,trivial⟩
def lenT (t:jQ):Prop:=∀ k (h:k < t.2.2.2.length),t.2.2.2[k].2.1.length<=2000000
end Go.Proofs.YthocbplmdjkifabGreat

/-
  Whether a name is pending.
-/
import Derived.Test.YtjhfdpopkkmigabGreatSortR
import Derived.Test.YtjhfdpopkkmigabGreatDrawO
set_option linter.unusedVariables false
set_option linter.defProp false
set_option linter.unusedSimpArgs false
set_option linter.unnecessarySimpa false
set_option maxRecDepth 100000
set_option maxHeartbeats 4000000
open Int renaming natCast_nonneg->Aa
open List renaming eq_nil_of_length_eq_zero->Ab,getElem?_cons_succ->Ai,getElem?_cons_zero->Aj,map_cons->Al,map_nil->Ar
open Go.IntWalk renaming i64_in->Ac
open _root_ renaming List->Ad,if_neg->Am,if_pos->Au,Array->Aw
open Go renaming Value->Ae,World->Ah,Calls->Ak,FuncId->Ap
open Go.IntKind renaming i64->Ag
open Go.Value.slice renaming injEq->Aq
open Go.RowKit renaming intOf->Av
namespace Go.Proofs.YtjhfdpopkkmigabGreat
open Go.RowKit _root_.Go.Proofs.Tryz
def kTu {α:Type} {key:α->Int} {n f p:Nat} {cu:Ad α} (h:p + 20<=n) (hf:n < f + p):∃ X,n < X + (p + 20)/\Srt.blocks key n f p cu=Srt.blocks key n X (p + 20) (Srt.kCb key p (p + 20) cu):=by
 obtain ⟨g,rfl⟩:∃ g,f=g + 1:=⟨f - 1,by omega⟩;exact ⟨g,by omega,by rw [Srt.blocks,Au h]⟩
def kXr {α:Type} {key:α->Int} {n f p:Nat} {cu:Ad α} (h:¬ p + 20<=n) (hp:p<=n) (hf:n < f + p):Srt.blocks key n f p cu=Srt.kCb key p n cu:=by
 obtain ⟨g,rfl⟩:∃ g,f=g + 1:=⟨f - 1,by omega⟩;rw [Srt.blocks,Am h]
def kZs {α:Type} {key:α->Int} {n s f p:Nat} {cu:Ad α} (hs:0 < s) (h:p + 2 * s<=n) (hf:n < f + p):∃ X,n < X + (p + 2 * s)/\Srt.pass key n s f p cu=Srt.pass key n s X (p + 2 * s) (Srt.symm key (2 * s) p (p + s) (p + 2 * s) cu):=by
 obtain ⟨g,rfl⟩:∃ g,f=g + 1:=⟨f - 1,by omega⟩;exact ⟨g,by omega,by rw [Srt.pass,Au h]⟩
def pass_mid {α:Type} {key:α->Int} {n s f p:Nat} {cu:Ad α} (h:¬ p + 2 * s<=n) (h2:p + s < n) (hf:n < f + p):Srt.pass key n s f p cu=Srt.symm key (n - p) p (p + s) n cu:=by
 obtain ⟨g,rfl⟩:∃ g,f=g + 1:=⟨f - 1,by omega⟩;rw [Srt.pass,Am h,Au h2]
def pass_end {α:Type} {key:α->Int} {n s f p:Nat} {cu:Ad α} (h:¬ p + 2 * s<=n) (h2:¬ p + s < n) (hp:p<=n) (hf:n < f + p):Srt.pass key n s f p cu=cu:=by
 obtain ⟨g,rfl⟩:∃ g,f=g + 1:=⟨f - 1,by omega⟩;rw [Srt.pass,Am h,Am h2]
def kTj {α:Type} {key:α->Int} {n s f:Nat} {cu:Ad α} (hs:0 < s) (h:s < n) (hf:n < f + s):∃ X,n < X + s * 2/\Srt.passes key n f s cu=Srt.passes key n X (s * 2) (Srt.pass key n s (n + 1) 0 cu):=by
 obtain ⟨g,rfl⟩:∃ g,f=g + 1:=⟨f - 1,by omega⟩;exact ⟨g,by omega,by rw [Srt.passes,Au h,Nat.mul_comm]⟩
def kWk {α:Type} {key:α->Int} {n s f:Nat} {cu:Ad α} (h:¬ s < n):Srt.passes key n f s cu=cu:=by
 cases f with
 | zero=>rfl
 | succ f=>rw [Srt.passes,Am h]
def kUl {w:Ah} {v:Ae} {g:Ap} {cp:Aw Ae}:Ak prog 198 #[v,.int .i64 (0:Nat),.int .i64 (0:Nat),.func (.func g) #[] cp] w λe w'=>e=.returned (.tuple #[])/\w'=w:=by
 go_enter func198,ntmps198;exact uC
def kTw {w:Ah} {v:Ae} {g:Ap} {cp:Aw Ae}:Ak prog 172 #[v,.int .i64 (0:Nat),.func (.func g) #[] cp] w λe w'=>e=.returned (.tuple #[])/\w'=w:=by
 go_enter func172,ntmps172;go_wp2;go_loopw [7,8] (λi j wr=>i=.int .i64 0/\j=.int .i64 20/\wr=w) (λi j _=>0);case atStart=>exact ⟨rfl,rfl,rfl⟩
 obtain ⟨rfl,rfl,hw⟩:=hrel;obtain rfl:=hw;go_wp2_with fail;refine kUl.mono ?_;exact uD
def jAx {w:Ah} {b n cap:Nat} {xs:Ad Int} {S:Nat->Prop} {g:Ap} {cp:Aw Ae} (key:Int->Int) (hg:jK prog g) (F:kFg key g cp S w) (h:kD.kQ 3 kD.int w (.slice (some ⟨b,0,none⟩) n cap) xs S) (hn:n=xs.length) (hlen:xs.length<=16777216) :
    Ak prog 172 #[.slice (some ⟨b,0,none⟩) n cap,.int .i64 (n:Nat),.func (.func g) #[] cp] w λe w'=>e=.returned (.tuple #[])/\kD.kQ 3 kD.int w' (.slice (some ⟨b,0,none⟩) n cap) (Srt.stable key xs) S/\Touch S w w':=by
 have au:=yD F
 obtain ⟨Z,O,bc,ah,cw⟩:=IV
 clear h F hlen hn hg
 have ac:(n:Int)<=16777216:=bH3
 have ae:=Aa n
 go_enter func172,ntmps172
 go_wp2
 go_loopw [7,8] (λi j wr=>∃ (p f:Nat) (cu:Ad Int),i=.int .i64 p/\j=.int .i64 ((p:Int) + 20)/\p<=n/\Hid (n < f + p)/\Hid (Srt.blocks key n f p cu=Srt.blocks key n (n + 1) 0 xs)/\Hid (cu.length=n)/\Hid (kD.kQ 3 kD.int wr (.slice (some ⟨b,0,none⟩) n cap) cu S)/\Hid (Touch S w wr)) (λi _ _=>n - (Av i).toNat)
 case atStart=>exact ⟨0,n + 1,xs,rfl,rfl,Nat.zero_le _,yD bH3,yD rfl,yD bc.out.symm,O,yD (Touch.refl _ _)⟩
 obtain ⟨p,f,cu,rfl,rfl,W,bh,HB,HL,I,L⟩:=hrel
 have bd:=Aa p
 by_cases hlt:p + 20<=n
 · have be:(p:Int) + 20<=n:=bH3;obtain ⟨X,E,o⟩:=kTu (key:=key) (cu:=cu) hlt bh.out;have J:=yD E;obtain ⟨q,hq⟩:∃ q,p + 20=q:=⟨_,rfl⟩;have ag:(p:Int) + 20=(q:Int):=bH3;rw [hq] at o;have H:=yD (o.symm.trans HB.out);clear o E;have ad:Ag.wrap (q:Int)=q:=Ac _ bH3;go_wp2_with fail;refine (kQp (n:=n) (b:=b) key Z.out (kBl au.out L.out) I.out HL.out.symm bB3 (a:=p) (z:=q) bH3 bB3).mono ?_;exact uE
 have be:¬ (p:Int) + 20<=n:=bH3
 have H:=yD (HB.out.symm.trans (kXr (key:=key) (cu:=cu) hlt W bh.out))
 go_wp2_with fail
 refine (kQp (n:=n) (b:=b) key Z.out (kBl au.out L.out) I.out HL.out.symm bB3 (a:=p) (z:=n) W bB3).mono ?_
 rintro e V ⟨rfl,O2,D⟩
 have N:Hid ((Srt.blocks key n (n + 1) 0 xs).length=n):=yD (by rw [Srt.kDt];exact bc.out.symm)
 have R:=yD (O2.cast H.out.symm);have aa:=yD (L.out.trans D);clear O2 D
 generalize Srt.blocks key n (n + 1) 0 xs=B at *
 clear hlt be H I L HL HB bh
 go_wp2
 go_loopw [6,7,8] (λi _ _ wr=>∃ (s f:Nat) (cu:Ad Int),i=.int .i64 s/\20<=s/\s<=33554432/\Hid (n < f + s)/\Hid (Srt.passes key n f s cu=Srt.passes key n (n + 1) 20 B)/\Hid (cu.length=n)/\Hid (kD.kQ 3 kD.int wr (.slice (some ⟨b,0,none⟩) n cap) cu S)/\Hid (Touch S w wr)) (λi _ _ _=>n - (Av i).toNat)
 case atStart=>exact ⟨20,n + 1,B,rfl,Nat.le_refl _,by omega,yD bH3,yD rfl,N,R,aa⟩
 obtain ⟨s,f,cu,rfl,ao,aq,bh,HB,HL,I,L⟩:=hrel
 have b8:(20:Int)<=s:=bH3
 by_cases hlt:s < n
 · have be:(s:Int) < n:=bH3;obtain ⟨X,E,o⟩:=kTj (key:=key) (cu:=cu) bH3 hlt bh.out;have J:=yD E;have bj:=yD (o.symm.trans HB.out);clear E o;obtain ⟨s2,bn⟩:∃ s2,2 * s=s2:=⟨_,rfl⟩;have ap:2 * (s:Int)=(s2:Int):=bH3;have am:(s:Int) * 2=(s2:Int):=bH3;have ak:Ag.wrap (s2:Int)=s2:=Ac _ bH3;have af:=Aa s2;go_wp2;go_loopw [7,8] (λi j wr=>∃ (p f2:Nat) (cv:Ad Int),i=.int .i64 p/\j=.int .i64 ((p:Int) + (s2:Int))/\p<=n/\Hid (n < f2 + p)/\Hid (Srt.pass key n s f2 p cv=Srt.pass key n s (n + 1) 0 cu)/\Hid (cv.length=n)/\Hid (kD.kQ 3 kD.int wr (.slice (some ⟨b,0,none⟩) n cap) cv S)/\Hid (Touch S w wr)) (λi _ _=>n - (Av i).toNat);case atStart=>exact ⟨0,n + 1,cu,rfl,by first | rfl|(simp;done) | go_num,Nat.zero_le _,yD bH3,yD rfl,HL,I,L⟩
   obtain ⟨p,f2,cv,rfl,rfl,W,G,ax,N,R,aa⟩:=hrel;have bd:=Aa p;obtain ⟨ps,bp⟩:∃ ps,p + s=ps:=⟨_,rfl⟩;have an:(p:Int) + (s:Int)=(ps:Int):=bH3;have al:Ag.wrap (ps:Int)=ps:=Ac _ bH3;obtain ⟨q,hq⟩:∃ q,p + s2=q:=⟨_,rfl⟩;have ag:(p:Int) + (s2:Int)=(q:Int):=bH3;have ad:Ag.wrap (q:Int)=q:=Ac _ bH3;by_cases ba:p + 2 * s<=n
   · have b6:(q:Int)<=n:=bH3;obtain ⟨f3,Y,o⟩:=kZs (key:=key) (cu:=cv) (by omega:0 < s) ba G.out;rw [bn,hq,bp] at o;have aj:=yD Y;have bb:=yD (o.symm.trans ax.out);clear Y o;go_wp2_with fail;refine (kVs (n:=n) (b:=b) key Z.out s2 (kBl au.out aa.out) R.out N.out.symm bC8 (a:=p) (m:=ps) (z:=q) bH3 bH3 bC8 bH3).mono ?_;exact uF
   have b6:¬ (q:Int)<=n:=bH3;by_cases hm:p + s < n
   · have b1:(ps:Int) < n:=bH3;have U:=yD ((pass_mid (key:=key) (cu:=cv) ba hm G.out).symm.trans ax.out);rw [bp] at U;go_wp2_with fail;refine (kVs (n:=n) (b:=b) key Z.out (n - p) (kBl au.out aa.out) R.out N.out.symm bC8 (a:=p) (m:=ps) (z:=n) bH3 bH3 bC8 bH3).mono ?_;exact uG
   exact uH
 exact uI
def kSv {w:Ah} {v:Ae} {xs:Ad Int} {S:Nat->Prop} {g:Ap} {cp:Aw Ae} (key:Int->Int) (hg:jK prog g) (F:kFg key g cp S w) (h:kD.kQ 3 kD.int w v xs S) (hlen:xs.length<=16777216) :
    Ak prog 126 #[v,.func (.func g) #[] cp] w λe w'=>e=.returned (.tuple #[])/\kD.kQ 3 kD.int w' v (Srt.stable key xs) S/\Touch S w w':=by
 rcases Nat.eq_zero_or_pos xs.length with h0 | h0
 · obtain ⟨a,cap,rfl⟩:=h.yw;obtain rfl:xs=[]:=Ab h0;have E:Srt.stable key ([]:Ad Int)=[]:=Ab (by rw [Srt.kFs];rfl);have I:=yD (h.cast E.symm);have o:=yD (kTw (w:=w) (v:=.slice a 0 cap) (g:=g) (cp:=cp));clear h F hg E;simp only [List.length_nil] at *;go_enter func126,ntmps126;exact uJ
 obtain ⟨b,cap,rfl,_⟩:=kD.zy h h0
 have HC:=yD (jAx key hg F h rfl hlen)
 clear h F hg hlen h0
 go_enter func126,ntmps126
 exact uK
def kQq {w:Ah} {v:Ae} {g:Ap} {cp:Aw Ae}:Ak prog 196 #[v,.int .i64 (0:Nat),.int .i64 (0:Nat),.func (.func g) #[] cp] w λe w'=>e=.returned (.tuple #[])/\w'=w:=by
 go_enter func196,ntmps196;exact uC
def kPz {w:Ah} {v:Ae} {g:Ap} {cp:Aw Ae}:Ak prog 170 #[v,.int .i64 (0:Nat),.func (.func g) #[] cp] w λe w'=>e=.returned (.tuple #[])/\w'=w:=by
 go_enter func170,ntmps170;go_wp2;go_loopw [7,8] (λi j wr=>i=.int .i64 0/\j=.int .i64 20/\wr=w) (λi j _=>0);case atStart=>exact ⟨rfl,rfl,rfl⟩
 obtain ⟨rfl,rfl,hw⟩:=hrel;obtain rfl:=hw;go_wp2_with fail;refine kQq.mono ?_;exact uD
def kVt {w:Ah} {b n cap:Nat} {xs:Ad jA} {S:Nat->Prop} {g:Ap} {cp:Aw Ae} (key:jA->Int) (hg:jK prog g) (F:kBs key g cp S w) (h:kD.kQ 144 kY w (.slice (some ⟨b,0,none⟩) n cap) xs S) (hn:n=xs.length) (hlen:xs.length<=16777216) :
    Ak prog 170 #[.slice (some ⟨b,0,none⟩) n cap,.int .i64 (n:Nat),.func (.func g) #[] cp] w λe w'=>e=.returned (.tuple #[])/\kD.kQ 144 kY w' (.slice (some ⟨b,0,none⟩) n cap) (Srt.stable key xs) S/\Touch S w w':=by
 have au:=yD F
 obtain ⟨Z,O,bc,ah,cw⟩:=IV
 clear h F hlen hn hg
 have ac:(n:Int)<=16777216:=bH3
 have ae:=Aa n
 go_enter func170,ntmps170
 go_wp2
 go_loopw [7,8] (λi j wr=>∃ (p f:Nat) (cu:Ad jA),i=.int .i64 p/\j=.int .i64 ((p:Int) + 20)/\p<=n/\Hid (n < f + p)/\Hid (Srt.blocks key n f p cu=Srt.blocks key n (n + 1) 0 xs)/\Hid (cu.length=n)/\Hid (kD.kQ 144 kY wr (.slice (some ⟨b,0,none⟩) n cap) cu S)/\Hid (Touch S w wr)) (λi _ _=>n - (Av i).toNat)
 case atStart=>exact ⟨0,n + 1,xs,rfl,rfl,Nat.zero_le _,yD bH3,yD rfl,yD bc.out.symm,O,yD (Touch.refl _ _)⟩
 obtain ⟨p,f,cu,rfl,rfl,W,bh,HB,HL,I,L⟩:=hrel
 have bd:=Aa p
 by_cases hlt:p + 20<=n
 · have be:(p:Int) + 20<=n:=bH3;obtain ⟨X,E,o⟩:=kTu (key:=key) (cu:=cu) hlt bh.out;have J:=yD E;obtain ⟨q,hq⟩:∃ q,p + 20=q:=⟨_,rfl⟩;have ag:(p:Int) + 20=(q:Int):=bH3;rw [hq] at o;have H:=yD (o.symm.trans HB.out);clear o E;have ad:Ag.wrap (q:Int)=q:=Ac _ bH3;go_wp2_with fail;refine (kMo (n:=n) (b:=b) key Z.out (kAo au.out L.out) I.out HL.out.symm bB3 (a:=p) (z:=q) bH3 bB3).mono ?_;exact uE
 have be:¬ (p:Int) + 20<=n:=bH3
 have H:=yD (HB.out.symm.trans (kXr (key:=key) (cu:=cu) hlt W bh.out))
 go_wp2_with fail
 refine (kMo (n:=n) (b:=b) key Z.out (kAo au.out L.out) I.out HL.out.symm bB3 (a:=p) (z:=n) W bB3).mono ?_
 rintro e V ⟨rfl,O2,D⟩
 have N:Hid ((Srt.blocks key n (n + 1) 0 xs).length=n):=yD (by rw [Srt.kDt];exact bc.out.symm)
 have R:=yD (O2.cast H.out.symm);have aa:=yD (L.out.trans D);clear O2 D
 generalize Srt.blocks key n (n + 1) 0 xs=B at *
 clear hlt be H I L HL HB bh
 go_wp2
 go_loopw [6,7,8] (λi _ _ wr=>∃ (s f:Nat) (cu:Ad jA),i=.int .i64 s/\20<=s/\s<=33554432/\Hid (n < f + s)/\Hid (Srt.passes key n f s cu=Srt.passes key n (n + 1) 20 B)/\Hid (cu.length=n)/\Hid (kD.kQ 144 kY wr (.slice (some ⟨b,0,none⟩) n cap) cu S)/\Hid (Touch S w wr)) (λi _ _ _=>n - (Av i).toNat)
 case atStart=>exact ⟨20,n + 1,B,rfl,Nat.le_refl _,by omega,yD bH3,yD rfl,N,R,aa⟩
 obtain ⟨s,f,cu,rfl,ao,aq,bh,HB,HL,I,L⟩:=hrel
 have b8:(20:Int)<=s:=bH3
 by_cases hlt:s < n
 · have be:(s:Int) < n:=bH3;obtain ⟨X,E,o⟩:=kTj (key:=key) (cu:=cu) bH3 hlt bh.out;have J:=yD E;have bj:=yD (o.symm.trans HB.out);clear E o;obtain ⟨s2,bn⟩:∃ s2,2 * s=s2:=⟨_,rfl⟩;have ap:2 * (s:Int)=(s2:Int):=bH3;have am:(s:Int) * 2=(s2:Int):=bH3;have ak:Ag.wrap (s2:Int)=s2:=Ac _ bH3;have af:=Aa s2;go_wp2;go_loopw [7,8] (λi j wr=>∃ (p f2:Nat) (cv:Ad jA),i=.int .i64 p/\j=.int .i64 ((p:Int) + (s2:Int))/\p<=n/\Hid (n < f2 + p)/\Hid (Srt.pass key n s f2 p cv=Srt.pass key n s (n + 1) 0 cu)/\Hid (cv.length=n)/\Hid (kD.kQ 144 kY wr (.slice (some ⟨b,0,none⟩) n cap) cv S)/\Hid (Touch S w wr)) (λi _ _=>n - (Av i).toNat);case atStart=>exact ⟨0,n + 1,cu,rfl,by first | rfl|(simp;done) | go_num,Nat.zero_le _,yD bH3,yD rfl,HL,I,L⟩
   obtain ⟨p,f2,cv,rfl,rfl,W,G,ax,N,R,aa⟩:=hrel;have bd:=Aa p;obtain ⟨ps,bp⟩:∃ ps,p + s=ps:=⟨_,rfl⟩;have an:(p:Int) + (s:Int)=(ps:Int):=bH3;have al:Ag.wrap (ps:Int)=ps:=Ac _ bH3;obtain ⟨q,hq⟩:∃ q,p + s2=q:=⟨_,rfl⟩;have ag:(p:Int) + (s2:Int)=(q:Int):=bH3;have ad:Ag.wrap (q:Int)=q:=Ac _ bH3;by_cases ba:p + 2 * s<=n
   · have b6:(q:Int)<=n:=bH3;obtain ⟨f3,Y,o⟩:=kZs (key:=key) (cu:=cv) (by omega:0 < s) ba G.out;rw [bn,hq,bp] at o;have aj:=yD Y;have bb:=yD (o.symm.trans ax.out);clear Y o;go_wp2_with fail;refine (kPw (n:=n) (b:=b) key Z.out s2 (kAo au.out aa.out) R.out N.out.symm bC8 (a:=p) (m:=ps) (z:=q) bH3 bH3 bC8 bH3).mono ?_;exact uF
   have b6:¬ (q:Int)<=n:=bH3;by_cases hm:p + s < n
   · have b1:(ps:Int) < n:=bH3;have U:=yD ((pass_mid (key:=key) (cu:=cv) ba hm G.out).symm.trans ax.out);rw [bp] at U;go_wp2_with fail;refine (kPw (n:=n) (b:=b) key Z.out (n - p) (kAo au.out aa.out) R.out N.out.symm bC8 (a:=p) (m:=ps) (z:=n) bH3 bH3 bC8 bH3).mono ?_;exact uG
   exact uH
 exact uI
def kPo {w:Ah} {v:Ae} {xs:Ad jA} {S:Nat->Prop} {g:Ap} {cp:Aw Ae} (key:jA->Int) (hg:jK prog g) (F:kBs key g cp S w) (h:kD.kQ 144 kY w v xs S) (hlen:xs.length<=16777216) :
    Ak prog 121 #[v,.func (.func g) #[] cp] w λe w'=>e=.returned (.tuple #[])/\kD.kQ 144 kY w' v (Srt.stable key xs) S/\Touch S w w':=by
 rcases Nat.eq_zero_or_pos xs.length with h0 | h0
 · obtain ⟨a,cap,rfl⟩:=h.yw;obtain rfl:xs=[]:=Ab h0;have E:Srt.stable key ([]:Ad jA)=[]:=Ab (by rw [Srt.kFs];rfl);have I:=yD (h.cast E.symm);have o:=yD (kPz (w:=w) (v:=.slice a 0 cap) (g:=g) (cp:=cp));clear h F hg E;simp only [List.length_nil] at *;go_enter func121,ntmps121;exact uJ
 obtain ⟨b,cap,rfl,_⟩:=kD.zy h h0
 have HC:=yD (kVt key hg F h rfl hlen)
 clear h F hg hlen h0
 go_enter func121,ntmps121
 exact uK
def Clone_int_0 {w:Ah} {va:Ae} {x:Ad Int} (ha:(kD.slice 3 kD.int).rd w [va] x):Ak prog 125 #[va] w (kBx 3 kD.int x w):=by
 obtain ⟨aa,ao,rfl,la⟩:=kD.sl ha.1;have HA:=yD ha;have D:=λ(W:Ah) (a:Option Addr) (n c:Nat)=>Lib.run_eql_slice_nil (P:=prog) W 49 3 a n c 0 0 underlying49;cases aa with
 | none =>
   have hx:x=[]:=by
     cases x with
     | nil=>rfl
     | cons y ys =>
       exact aJ
   subst hx;clear ha;go_enter func125,ntmps125;go_wp2;go_ret;exact ⟨_,rfl,kD.kQ.void,bR⟩
 | some a =>
   have hb:x.length<=16777216:=ha.2.1;clear ha;go_enter func125,ntmps125;have O0:kD.kQ 3 kD.int (w.alloc (.cells #[] 3)) (.slice (some ⟨w.heap.size,0,none⟩) 0 0) [] (λk=>k=w.heap.size):=kD.yJ (cs:=[]) (xs:=[]) (T:=λ_=>False) bH4 bH4 rfl (λ_ h=>h.elim) rfl;go_wp2_with (at_builtin;refine kD.yT rfl _ _ 49 rfl (r:=kD.int) (e:=3) underlying49 kAm rfl bH2 bH2 flatint (B:=w.heap.size) O0 bH5 bH5 (HA.out.alloc _) sG bH4 bG7 ?_);intro v2 V hown o hz;have I:=yD hown;obtain ⟨a2,c2,hv⟩:=hown.yw;obtain rfl:=hv;have EG:Qb w V:=Below.trans bI o;clear hown O0 o;go_wp2;go_ret;exact ⟨_,rfl,kD.kQ.cast I.out bH4,EG⟩
def kLf (l:Ad kZ) (n:kg) (fs:Ad Int):Ad Int:=Srt.sorted (zG l n) fs
def kNg (l:Ad kZ) (n:kg) (fs:Ad Int):(kLf l n fs).length=fs.length:=by
 unfold kLf;rw [<- Srt.kNd,Srt.kFs]
def cmpI_lt {a b:Int}:decide (kDs a b < 0)=decide (a < b):=by
 unfold kDs;by_cases h:a < b
 · rw [Au h];simp [h]
 rw [Am h];by_cases h2:b < a
 · rw [Au h2];simp [h]
 rw [Am h2];simp [h]
def sorted_snoc {α:Type} {key:α->Int} {l:Ad α} {k:Nat} (h:k < l.length):Srt.sorted key (l.take (k + 1))=Srt.put key (Srt.sorted key (l.take k)) l[k]:=by
 unfold Srt.sorted;rw [List.take_succ_eq_append_getElem h,List.foldl_append];rfl
def kHk {α:Type} {key:α->Int} {l:Ad α}:(Srt.sorted key l).length=l.length:=by rw [<- Srt.kNd,Srt.kFs]
def kWi {α:Type} {key:α->Int} {l:Ad α} {x:α} {k j:Nat} (hj:j + 1=k) (hl:j < l.length) (h:decide (key x < key l[j])=true):Srt.place key k l x=Srt.place key j l x:=by
 subst hj;rw [Srt.place,Au (by rw [Srt.zZ hl];exact of_decide_eq_true h)]
def kWg {α:Type} {key:α->Int} {l:Ad α} {x:α} {k j:Nat} (hj:j + 1=k) (hl:j < l.length) (h:decide (key x < key l[j])=false):Srt.place key k l x=k:=by
 subst hj;rw [Srt.place,Am (by rw [Srt.zZ hl];exact of_decide_eq_false h)]
def jBn {α:Type} {key:α->Int} {l:List α} {x:α} {k:Nat} (h:k=Srt.place key l.length l x):Srt.put key l x=l.take k++[x]++l.drop k:=by subst h;rfl
namespace kD
def kSc {α:Type} {r:kD α} {e:TypeId} {w:Ah} {a:Option Addr} {n cap:Nat} {xs:Ad α} {S:Nat->Prop} (h:kQ e r w (.slice a n cap) xs S):(n=0/\cap=0)\/∃ b,a=some ⟨b,0,none⟩:=by
 rcases h.2 with ⟨⟨a',h0⟩,_⟩|⟨b,cap',cur,cs,tl,h0,_⟩
 · simp only [Aq] at h0;exact .inl ⟨h0.2.1,h0.2.2⟩
 simp only [Aq] at h0;exact .inr ⟨b,h0.1⟩
def kUx {α:Type} {r:kD α} {e:TypeId} {w:Ah} {a:Option Addr} {c:Nat} (hc:c<=maxLen):(slice e r).rd w [.slice a 0 c] []:=⟨void_raw hc,Nat.zero_le _,by simp⟩
def kVd {α:Type} {r:kD α} {e:TypeId} {w:Ah} {b len cap k:Nat} {xs:Ad α} (h:(slice e r).rd w [.slice (some ⟨b,0,none⟩) len cap] xs) (hk:k<=xs.length):(slice e r).rd w [.slice (some ⟨b,0 + k * r.n,none⟩) (len - k) (cap - k)] (xs.drop k) :=
  ⟨drop_raw h.1 hk,by have:=h.2.1;simp;omega,λx hx=>h.2.2 x (List.mem_of_mem_drop hx)⟩
end kD
def kSl {w:Ah} {a b:Int} {l:Ad kZ} {n:kg} {D nv:Ae} {B1 X:Nat} (hl:(kD.slice 166 kR).raw w [D] l) (hn:kN.raw w [nv] n) (A0:Qc w B1 0 D) (A1:Qc w X 0 nv) :
    Ak prog 127 (#[.int .i64 a,.int .i64 b]++#[.pointer (some ⟨B1,0,none⟩),.pointer (some ⟨X,0,none⟩)]) w (bQ w (.int .i64 (kDs (zG l n a) (zG l n b)))):=by
 have HL:=yD hl
 have HN:=yD hn
 obtain ⟨H,o,a5⟩:=kX hn
 obtain rfl:nv=H:=bG0
 obtain ⟨na,np,rfl,_⟩:=kD.sl a5
 obtain ⟨la,lp,rfl,_⟩:=kD.sl hl
 clear a5 hl hn o
 show Ak prog 127 #[_,_,_,_] w _
 go_enter func127,ntmps127
 go_upto_region 1 with fail
 have FX:=yD (λ(W:Ah) (hW:Qb w W)=>kIz hW A0 A1)
 refine yN (λW=>Qb w W) [(0,true),(1,true),(2,true),(4,true),(5,true),(6,true),(3,false),(7,false),(8,false),(9,true)] bG6 bG6 qY (bR.drew) ?_
 intro wS E
 simp only [jB,Ai,Aj,Al,Ar]
 iterate 6
  all_goals refine ky ?_
 iterate 2
  all_goals first | refine wkB (kSo (kD.raw.below HL.out E) (kD.raw.below HN.out E)) (λwS1 E=>?_) | refine ky ?_
 all_goals first | refine wkC (kRa) ?_ | refine ky ?_
 all_goals refine ky ?_
 all_goals refine kS ?_
 go_wp2
 go_ret
 exact ⟨rfl,E⟩
def kOa:jK prog 127:=zP func127 bG6 bG6
def kUr {w:Ah} {vl:Ae} {l:Ad kZ} (hl:(kD.slice 166 kR).rd w [vl] l) {cn:Ad Ae} {n:kg} (hn:kN.rd w cn n) {vf:Ae} {fs:Ad Int} (hf:(kD.slice 3 kD.int).rd w [vf] fs) :
    Ak prog 58 #[vl,.agg cn.toArray,vf] w (kBb (kD.slice 3 kD.int) (kLf l n fs) w):=by
 have HL:=yD hl
 have HN:=yD hn
 have HF:=yD hf
 have gg:fs.length<=16777216:=hf.2.1
 obtain ⟨nv,rfl,a5⟩:=kX hn.1
 obtain ⟨na,np,rfl,_⟩:=kD.sl a5
 obtain ⟨la,lp,rfl,_⟩:=kD.sl hl.1
 obtain ⟨fa,fp,rfl,_⟩:=kD.sl hf.1
 clear a5 hl hn hf
 go_enter func58,ntmps58
 go_wp2_with fail
 generalize J:World.alloc (World.alloc w _) _=N
 have EB:Qb w N:=by rw [<- J];exact bI
 have K0:Qd N w 0 (.slice la l.length lp):=wF
 have K1:Qc N (w.heap.size + 1) 0 (.slice na n.length np):=wF
 clear J
 refine (Clone_int_0 (HF.out.below EB)).mono ?_
 rintro e w1 ⟨v1,rfl,O1,O⟩
 obtain ⟨oa,on,oc,ho,a1⟩:=O1.parts;obtain rfl:=ho
 have E1:=(tQ EB O)
 have I:=yD O1;have cm:=yD O
 have bf:=O.size;have bk:=EB.size
 clear O1 O
 have HC:Hid (kFg (zG l n) 127 #[.pointer (some ⟨w.heap.size,0,none⟩),.pointer (some ⟨w.heap.size + 1,0,none⟩)] (jb N.heap.size w1.heap.size) w1):=yD (λwr E x y c d hx hy=>by
   have e:=cm.out.trans (E.below cm.out.size (λi hi=>hi.1));obtain ⟨hc,_⟩:=kD.je hx;obtain ⟨hd,_⟩:=kD.je hy;obtain rfl:c=_:=by simpa using hc
   obtain rfl:d=_:=by simpa using hd
   exact (kSl (HL.out.1.below (tQ EB e)) (HN.out.1.below (tQ EB e)) (cL e K0) (cL e K1)).mono (λe2 V h=>⟨_,h.1,cmpI_lt,h.2⟩))
 clear K0 K1 EB
 go_wp2_with fail
 refine (kSv (zG l n) kOa HC.out I.out gg).mono ?_
 rintro e V ⟨rfl,O2,D⟩
 have E2:=E1.trans (D.below bH3 vI)
 have a9:=D.size
 have R:=yD ((O2.cast (Srt.kNd fs)).wide (T:=jb w.heap.size V.heap.size) mV)
 clear O2 D HC I
 go_wp2
 go_ret
 exact ⟨_,rfl,R.out.own mD,E2⟩
def jv {w:Ah} {v:Ae} {xs ys:Ad Int} {S:Nat->Prop} {B:Nat} {av:Option Addr} {len cap:Nat} (hown:kD.kQ 3 kD.int w v xs S) (hy:(kD.slice 3 kD.int).rd w [.slice av len cap] ys) (hSB:∀ k,S k->B<=k/\k < w.heap.size) (hB:B<=w.heap.size) (hlen:xs.length + ys.length<=1000000000) :
    ∃ v' w',(Builtin.append_ #[49,49] 49 #[v,.slice av len cap]).run prog w=.ok v' w'/\kD.kQ 3 kD.int w' v' (xs++ys) (jb B w'.heap.size)/\Below B w w'/\w.heap.size<=w'.heap.size :=
  kD.kNe (r:=kD.int) underlying49 kAm rfl (show 0 < 1 by omega) bH2 kD.yu hown hy hSB hB hlen
def kCf {w:Ah} {cs:Ad Ae} {x:Int} (hx:kD.is kD.int true w cs x (λ_=>True)) (hb:kD.bdd kD.int Big x) :
    (kD.slice 3 kD.int).rd (World.alloc w (.cells cs.toArray 3)) [.slice (some ⟨w.heap.size,0,none⟩) 1 1] [x] :=
  ((kD.yJ (e:=3) (r:=kD.int) (w:=w) (cs:=cs) (xs:=[x]) (T:=λ_=>True) (S:=λ_=>True) mZ tT (kD.kCx hx) (λ_ h=>h) trivial).own vL).rd
def kUb {w:Ah} {vl:Ae} {l:Ad kZ} (hl:(kD.slice 166 kR).rd w [vl] l) {cn:Ad Ae} {n:kg} (hn:kN.rd w cn n) {vf:Ae} {fs:Ad Int} (hf:(kD.slice 3 kD.int).rd w [vf] fs) :
    Ak prog 113 #[vl,.agg cn.toArray,vf] w (kBb (kD.slice 3 kD.int) (kLf l n fs) w):=by
 have HL:=yD hl
 have HN:=yD hn
 have HF:=yD hf
 have gg:fs.length<=16777216:=hf.2.1
 obtain ⟨nv,rfl,a5⟩:=kX hn.1
 obtain ⟨na,np,rfl,_⟩:=kD.sl a5
 obtain ⟨la,lp,rfl,_⟩:=kD.sl hl.1
 obtain ⟨fa,fp,rfl,_⟩:=kD.sl hf.1
 clear a5 hl hn hf
 go_enter func113,ntmps113
 go_wp2
 generalize J:World.alloc (World.alloc w _) _=N
 have EB:Qb w N:=by rw [<- J];exact bI
 have bk:=EB.size
 have K0:Qd N w 0 (.slice na n.length np):=wF
 clear J
 go_loopw [7,8] (λv i wr=>∃ (k:Nat),k<=fs.length/\i=.int .i64 k/\Hid (kD.kQ 3 kD.int wr v (Srt.sorted (zG l n) (fs.take k)) (jb w.heap.size wr.heap.size))/\Qb N wr) (λ_ i _=>fs.length - (Av i).toNat)
 case atStart=>exact ⟨0,Nat.zero_le _,rfl,yD kD.kQ.void,bR⟩
 obtain ⟨i,hi,rfl,I,o⟩:=hrel
 replace K0:=cL o K0
 obtain ⟨a,m,cap,ho,HM⟩:=I.out.parts;obtain rfl:=ho
 have bt:=o.size
 have cz:=Aa i
 by_cases hlt:i < fs.length
 · have cv:(i:Int) < fs.length:=bH3;have d1 : m <= 16777216 := by have h0 : m = i := (by rw [HM.out, kHk]; simp; omega); omega
   have b1:m<=cap/\cap<=9223372036854775807:=by have h1:=I.out.kBi;have h2:=HM.out;obtain ⟨h3,h4⟩:=kD.kCt h1;exact ⟨by omega,h4⟩
   obtain ⟨fb,fo,rfl,fc,fr,Af⟩:=kD.kCu (HF.out.1.below (tQ EB o)) hlt rfl;obtain ⟨az,G⟩:=kD.je fr;obtain rfl:fc=_:=by simpa using az
   have b4:=yD (sorted_snoc (key:=zG l n) hlt);have HX:=yD fr;clear az fr;generalize fs[i]=x at *;generalize b0:Srt.sorted (zG l n) (fs.take i)=LL at *;clear b0;go_wp2;go_loopw [9] (λq cc=>∃ (k:Nat),k<=m/\q=.int .i64 k/\Hid (Srt.place (zG l n) k LL x=Srt.place (zG l n) m LL x)/\Qb wr cc) (λq _=>(Av q).toNat);case atStart=>exact ⟨m,Nat.le_refl _,rfl,yD rfl,bR⟩
   obtain ⟨k,bu,rfl,HP,af⟩:=hrel;have am:=cL af K0;have Y:=cL af Af;have R:=yD (I.out.below af);have EQ:Qb N _:=(tQ o af);have ce:=Aa k;have bx:(k:Int)<=cap:=bH3;have a6:k<=cap:=bH3;by_cases hk:0 < k
   · obtain ⟨j,hj⟩:∃ j,j + 1=k:=⟨k - 1,by omega⟩;have c8:(k:Int) - 1=(j:Int):=bH3;obtain ⟨c6,bz⟩:=CB;have aj:j < LL.length:=bB6;have bv:(j:Int) < m:=bH3;have hp:decide ((k:Int) > 0)=true:=bG7;have ch:decide (0 < k)=true:=bE2;have ck:(0:Int) < k:=bH3;have HY:=yD (λq=>(kWi (key:=zG l n) (x:=x) hj aj q).symm.trans HP.out);have a4:=yD (λq=>(kWg (key:=zG l n) (x:=x) hj aj q).symm.trans HP.out);obtain ⟨ob,oo,rfl,br,ar,Ao⟩:=kD.kCu R.out.kBi aj rfl;obtain ⟨ay,bl⟩:=kD.je ar;obtain rfl:br=_:=by simpa using ay
     clear ay ar bl;generalize LL[j]=y at *;go_upto_region 6 with fail;refine yN (λW=>Qb wr W) [(0,true),(1,true),(2,true),(3,true),(4,true),(5,true),(6,true),(7,true),(8,true),(9,true),(11,true),(12,true),(13,true),(14,true),(15,true),(16,true),(10,false),(17,false),(18,true),(19,true)] bG6 bG6 qY (bR.drew) ?_;intro wS E;simp only [jB,Ai,Aj,Al,Ar];all_goals refine ky ?_
     all_goals refine ky ?_
     all_goals (refine jy λb al=>?_;cases b <;> try simp only [jw] at al)
     all_goals refine ky ?_
     all_goals first|(refine kJ rfl E ?_)|(refine jE (v:=?_) rfl (λW hW=>?_) ?_;rotate_left;(· have ag:=cL hW am;have ae:=cL hW Y;have ak:=cL hW Ao;clear hW;go_simp;try with_reducible rfl))
     all_goals refine jG ?_
     iterate 4
      all_goals refine ky ?_
     iterate 2
      all_goals first|(refine kJ rfl E ?_)|(refine jE (v:=?_) rfl (λW hW=>?_) ?_;rotate_left;(· have ag:=cL hW am;have ae:=cL hW Y;have ak:=cL hW Ao;clear hW;go_simp;try with_reducible rfl))
      all_goals refine jG ?_
      all_goals refine ky ?_
     all_goals refine ky ?_
     all_goals refine ky ?_
     all_goals first|(refine kJ rfl E ?_)|(refine jE (v:=?_) rfl (λW hW=>?_) ?_;rotate_left;(· have ag:=cL hW am;have ae:=cL hW Y;have ak:=cL hW Ao;clear hW;go_simp;try with_reducible rfl))
     all_goals refine jG ?_
     iterate 2
      all_goals first | refine wkB (kRv (kD.raw.below HL.out.1 ((tQ EB (tQ EQ E)))) (kD.raw.below HN.out.1 ((tQ EB (tQ EQ E))))) (λwS1 E=>?_) | refine ky ?_
     all_goals refine ky ?_
     all_goals (refine jy λb an=>?_;cases b <;> try simp only [jw] at an)
     all_goals refine kS ?_
     all_goals have ah:=yD (tQ af E)
     all_goals have ab:=ah.out
     all_goals replace Y:=cL E Y
     all_goals first
       | (have X:=yD (show decide (zG l n x < zG l n y)=true by first | exact an | simpa using an);have hw:=yD (HY.out X.out);clear HY a4 X an;go_wp2;go_roundw;(case rel=>exact ⟨j,by omega,rfl,hw,ah.out⟩);(case measure=>simp [Av];omega))
       | (have X:=yD (show decide (zG l n x < zG l n y)=false by first | exact an | simpa using an);have bj:=yD (a4.out X.out);clear HY a4 X an)
     have aa:=yD (b4.out.trans (jBn (show k=_ by rw [<- HM.out];exact bj.out)));have ai:=yD (I.out.below ab);generalize wS1=wq at *;exact xD
   have bq:k=0:=bH3;have hp:decide ((k:Int) > 0)=false:=bG7;have ck:¬ (0:Int) < k:=bH3;have bj:Hid (k=Srt.place (zG l n) m LL x):=yD (by rw [<- HP.out,bq];rfl);clear bq;go_upto_region 6 with fail;refine yN (λW=>Qb wr W) [(0,true),(1,true),(2,true),(3,true),(4,true),(5,true),(6,true),(7,true),(8,true),(9,true),(11,true),(12,true),(13,true),(14,true),(15,true),(16,true),(10,false),(17,false),(18,true),(19,true)] bG6 bG6 qY (bR.drew) ?_;intro wS E;simp only [jB,Ai,Aj,Al,Ar];all_goals refine ky ?_
   all_goals refine ky ?_
   all_goals (refine jy λb al=>?_;cases b <;> try simp only [jw] at al)
   iterate 13
    all_goals refine ky ?_
   iterate 2
    all_goals first|(refine kJ rfl E ?_)|(fail)
    all_goals refine jG ?_
   all_goals refine ky ?_
   all_goals (refine jy λb an=>?_;cases b <;> try simp only [jw] at an)
   all_goals refine kS ?_
   all_goals have ah:=yD (tQ af E)
   all_goals have ab:=ah.out
   all_goals replace Y:=cL E Y
   have aa:=yD (b4.out.trans (jBn (show k=_ by rw [<- HM.out];exact bj.out)));have ai:=yD (I.out.below ab);generalize wS=wq at *;exact xD
 obtain rfl:i=fs.length:=bH3
 have a9:=I.out
 rw [List.take_length] at a9
 have R:=yD a9;clear a9
 go_wp2
 go_ret
 exact ⟨_,rfl,R.out.own mD,(tQ EB o)⟩
def kRu {w:Ah} {vl:Ae} {l:Ad kF} (hl:(kD.slice 93 kH).raw w [vl] l) {cn:Ad Ae} {n:kg} (hn:kN.raw w cn n) :
    Ak prog 47 #[vl,.agg cn.toArray] w (bQ w (.bool (decide (0<=idxOf (jQ n) l)))):=by
 have HL:=yD hl
 have HN:=yD hn
 obtain ⟨la,lp,rfl,ll⟩:=kD.sl hl
 obtain ⟨av,rfl,Z⟩:=kX hn
 obtain ⟨na,np,rfl,_⟩:=kD.sl Z
 clear hl hn Z
 go_enter func47,ntmps47
 go_wp2_with fail
 refine (kCi (HL.out.below bI) (HN.out.below bI)).mono ?_
 exact iW
def kSn {w:Ah} {vl:Ae} {l:Ad kF} (hl:(kD.slice 93 kH).raw w [vl] l) {cn:Ad Ae} {n:kg} (hn:kN.raw w cn n) :
    Ak prog 29 #[vl,.agg cn.toArray] w (bQ w (.bool (decide (0<=idxOf (jQ n) l)))):=by
 have HL:=yD hl
 have HN:=yD hn
 obtain ⟨la,lp,rfl,ll⟩:=kD.sl hl
 obtain ⟨av,rfl,Z⟩:=kX hn
 obtain ⟨na,np,rfl,_⟩:=kD.sl Z
 clear hl hn Z
 go_enter func29,ntmps29
 go_wp2_with fail
 refine (kCg (HL.out.below bI) (HN.out.below bI)).mono ?_
 exact iW
end Go.Proofs.YtjhfdpopkkmigabGreat

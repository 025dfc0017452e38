/-
  Nodes: what is right, in plain words; what is right stays right. Plain.
-/
import Derived.Test.YtjhfdpopkkmigaaGreatSortR
import Derived.Test.YtjhfdpopkkmigaaGreatRecS
set_option linter.unusedVariables false
set_option linter.defProp false
set_option linter.unusedSimpArgs false
set_option linter.unnecessarySimpa false
set_option maxRecDepth 100000
set_option maxHeartbeats 4000000
open Int renaming natCast_nonneg->Aa
open List renaming eq_nil_of_length_eq_zero->Ab,getElem?_cons_succ->Ah,getElem?_cons_zero->Ai,pairwise_iff_getElem->Al,mem_take_iff_getElem->Am,map_cons->Ar,map_nil->Az
open Go.IntWalk renaming i64_in->Ac
open _root_ renaming List->Ad,if_neg->Au,if_pos->Bb,Array->Bd
open Go renaming Value->Ae,World->Aj,Calls->Ap,FuncId->Av
open Go.IntKind renaming i64->Ag
open Bool renaming and_eq_true->Ak,or_eq_false_iff->Aq,not_eq_false'->Aw,not_eq_true'->Ba
open Go.Value.slice renaming injEq->Ay
open Go.RowKit renaming intOf->Bc
namespace Go.Proofs.YtjhfdpopkkmigaaGreat
open Go.RowKit _root_.Go.Proofs.Tryz
def kSg {α:Type} {key:α->Int} {n f p:Nat} {cu:Ad α} (h:p + 20<=n) (hf:n < f + p):∃ R,n < R + (p + 20)/\Srt.blocks key n f p cu=Srt.blocks key n R (p + 20) (Srt.kBs key p (p + 20) cu):=by
 obtain ⟨g,rfl⟩:∃ g,f=g + 1:=⟨f - 1,by omega⟩;exact ⟨g,by omega,by rw [Srt.blocks,Bb h]⟩
def kWq {α:Type} {key:α->Int} {n f p:Nat} {cu:Ad α} (h:¬ p + 20<=n) (hp:p<=n) (hf:n < f + p):Srt.blocks key n f p cu=Srt.kBs key p n cu:=by
 obtain ⟨g,rfl⟩:∃ g,f=g + 1:=⟨f - 1,by omega⟩;rw [Srt.blocks,Au h]
def kYn {α:Type} {key:α->Int} {n s f p:Nat} {cu:Ad α} (hs:0 < s) (h:p + 2 * s<=n) (hf:n < f + p):∃ R,n < R + (p + 2 * s)/\Srt.pass key n s f p cu=Srt.pass key n s R (p + 2 * s) (Srt.symm key (2 * s) p (p + s) (p + 2 * s) cu):=by
 obtain ⟨g,rfl⟩:∃ g,f=g + 1:=⟨f - 1,by omega⟩;exact ⟨g,by omega,by rw [Srt.pass,Bb h]⟩
def pass_mid {α:Type} {key:α->Int} {n s f p:Nat} {cu:Ad α} (h:¬ p + 2 * s<=n) (h2:p + s < n) (hf:n < f + p):Srt.pass key n s f p cu=Srt.symm key (n - p) p (p + s) n cu:=by
 obtain ⟨g,rfl⟩:∃ g,f=g + 1:=⟨f - 1,by omega⟩;rw [Srt.pass,Au h,Bb h2]
def pass_end {α:Type} {key:α->Int} {n s f p:Nat} {cu:Ad α} (h:¬ p + 2 * s<=n) (h2:¬ p + s < n) (hp:p<=n) (hf:n < f + p):Srt.pass key n s f p cu=cu:=by
 obtain ⟨g,rfl⟩:∃ g,f=g + 1:=⟨f - 1,by omega⟩;rw [Srt.pass,Au h,Au h2]
def kRr {α:Type} {key:α->Int} {n s f:Nat} {cu:Ad α} (hs:0 < s) (h:s < n) (hf:n < f + s):∃ R,n < R + s * 2/\Srt.passes key n f s cu=Srt.passes key n R (s * 2) (Srt.pass key n s (n + 1) 0 cu):=by
 obtain ⟨g,rfl⟩:∃ g,f=g + 1:=⟨f - 1,by omega⟩;exact ⟨g,by omega,by rw [Srt.passes,Bb h,Nat.mul_comm]⟩
def kVk {α:Type} {key:α->Int} {n s f:Nat} {cu:Ad α} (h:¬ s < n):Srt.passes key n f s cu=cu:=by
 cases f with
 | zero=>rfl
 | succ f=>rw [Srt.passes,Au h]
def kSx {w:Aj} {v:Ae} {g:Av} {cp:Bd Ae}:Ap prog 212 #[v,.int .i64 (0:Nat),.int .i64 (0:Nat),.func (.func g) #[] cp] w λe w'=>e=.returned (.tuple #[])/\w'=w:=by
 go_enter func212,ntmps212;exact r9
def kSh {w:Aj} {v:Ae} {g:Av} {cp:Bd Ae}:Ap prog 179 #[v,.int .i64 (0:Nat),.func (.func g) #[] cp] w λe w'=>e=.returned (.tuple #[])/\w'=w:=by
 go_enter func179,ntmps179;go_wp2;go_loopw [7,8] (λi j wr=>i=.int .i64 0/\j=.int .i64 20/\wr=w) (λi j _=>0);case atStart=>exact ⟨rfl,rfl,rfl⟩
 obtain ⟨rfl,rfl,hw⟩:=hrel;obtain rfl:=hw;go_wp2_with fail;refine kSx.mono ?_;exact rF
def kZp {w:Aj} {b n cap:Nat} {xs:Ad Int} {S:Nat->Prop} {g:Av} {cp:Bd Ae} (key:Int->Int) (hg:jH prog g) (J:kEj key g cp S w) (h:kD.kU 3 kD.int w (.slice (some ⟨b,0,none⟩) n cap) xs S) (hn:n=xs.length) (hlen:xs.length<=16777216) :
    Ap prog 179 #[.slice (some ⟨b,0,none⟩) n cap,.int .i64 (n:Nat),.func (.func g) #[] cp] w λe w'=>e=.returned (.tuple #[])/\kD.kU 3 kD.int w' (.slice (some ⟨b,0,none⟩) n cap) (Srt.stable key xs) S/\Touch S w w':=by
 have av:=yD J
 obtain ⟨W,D,bl,ak,c0⟩:=J2
 clear h J hlen hn hg
 have ac:(n:Int)<=16777216:=bD1
 have af:=Aa n
 go_enter func179,ntmps179
 go_wp2
 go_loopw [7,8] (λi j wr=>∃ (p f:Nat) (cu:Ad Int),i=.int .i64 p/\j=.int .i64 ((p:Int) + 20)/\p<=n/\Hid (n < f + p)/\Hid (Srt.blocks key n f p cu=Srt.blocks key n (n + 1) 0 xs)/\Hid (cu.length=n)/\Hid (kD.kU 3 kD.int wr (.slice (some ⟨b,0,none⟩) n cap) cu S)/\Hid (Touch S w wr)) (λi _ _=>n - (Bc i).toNat)
 case atStart=>exact ⟨0,n + 1,xs,rfl,rfl,Nat.zero_le _,yD bD1,yD rfl,yD bl.out.symm,D,yD (Touch.refl _ _)⟩
 obtain ⟨p,f,cu,rfl,rfl,O,bn,HB,HL,L,U⟩:=hrel
 have ay:=Aa p
 by_cases hlt:p + 20<=n
 · have a7:(p:Int) + 20<=n:=bD1;obtain ⟨R,E,o⟩:=kSg (key:=key) (cu:=cu) hlt bn.out;have I:=yD E;obtain ⟨q,hq⟩:∃ q,p + 20=q:=⟨_,rfl⟩;have aj:(p:Int) + 20=(q:Int):=bD1;rw [hq] at o;have H:=yD (o.symm.trans HB.out);clear o E;have ad:Ag.wrap (q:Int)=q:=Ac _ bD1;go_wp2_with fail;refine (kPc (n:=n) (b:=b) key W.out (kBa av.out U.out) L.out HL.out.symm vQ (a:=p) (z:=q) bD1 vQ).mono ?_;exact rZ
 have a7:¬ (p:Int) + 20<=n:=bD1
 have H:=yD (HB.out.symm.trans (kWq (key:=key) (cu:=cu) hlt O bn.out))
 go_wp2_with fail
 refine (kPc (n:=n) (b:=b) key W.out (kBa av.out U.out) L.out HL.out.symm vQ (a:=p) (z:=n) O vQ).mono ?_
 rintro e V ⟨rfl,O2,T2⟩
 have aa:Hid ((Srt.blocks key n (n + 1) 0 xs).length=n):=yD (by rw [Srt.kDb];exact bl.out.symm)
 have Z:=yD (O2.cast H.out.symm);have F:=yD (U.out.trans T2);clear O2 T2
 generalize Srt.blocks key n (n + 1) 0 xs=B at *
 clear hlt a7 H L U HL HB bn
 go_wp2
 go_loopw [6,7,8] (λi _ _ wr=>∃ (s f:Nat) (cu:Ad Int),i=.int .i64 s/\20<=s/\s<=33554432/\Hid (n < f + s)/\Hid (Srt.passes key n f s cu=Srt.passes key n (n + 1) 20 B)/\Hid (cu.length=n)/\Hid (kD.kU 3 kD.int wr (.slice (some ⟨b,0,none⟩) n cap) cu S)/\Hid (Touch S w wr)) (λi _ _ _=>n - (Bc i).toNat)
 case atStart=>exact ⟨20,n + 1,B,rfl,Nat.le_refl _,by omega,yD bD1,yD rfl,aa,Z,F⟩
 obtain ⟨s,f,cu,rfl,aq,au,bn,HB,HL,L,U⟩:=hrel
 have cq:(20:Int)<=s:=bD1
 by_cases hlt:s < n
 · have a7:(s:Int) < n:=bD1;obtain ⟨R,E,o⟩:=kRr (key:=key) (cu:=cu) bD1 hlt bn.out;have I:=yD E;have a2:=yD (o.symm.trans HB.out);clear E o;obtain ⟨s2,bo⟩:∃ s2,2 * s=s2:=⟨_,rfl⟩;have ar:2 * (s:Int)=(s2:Int):=bD1;have ao:(s:Int) * 2=(s2:Int):=bD1;have am:Ag.wrap (s2:Int)=s2:=Ac _ bD1;have ag:=Aa s2;go_wp2;go_loopw [7,8] (λi j wr=>∃ (p f2:Nat) (cv:Ad Int),i=.int .i64 p/\j=.int .i64 ((p:Int) + (s2:Int))/\p<=n/\Hid (n < f2 + p)/\Hid (Srt.pass key n s f2 p cv=Srt.pass key n s (n + 1) 0 cu)/\Hid (cv.length=n)/\Hid (kD.kU 3 kD.int wr (.slice (some ⟨b,0,none⟩) n cap) cv S)/\Hid (Touch S w wr)) (λi _ _=>n - (Bc i).toNat);case atStart=>exact ⟨0,n + 1,cu,rfl,by first | rfl|(simp;done) | go_num,Nat.zero_le _,yD bD1,yD rfl,HL,L,U⟩
   obtain ⟨p,f2,cv,rfl,rfl,O,G,a1,aa,Z,F⟩:=hrel;have ay:=Aa p;obtain ⟨Y,ah⟩:∃ Y,p + s=Y:=⟨_,rfl⟩;have ap:(p:Int) + (s:Int)=(Y:Int):=bD1;have an:Ag.wrap (Y:Int)=Y:=Ac _ bD1;obtain ⟨q,hq⟩:∃ q,p + s2=q:=⟨_,rfl⟩;have aj:(p:Int) + (s2:Int)=(q:Int):=bD1;have ad:Ag.wrap (q:Int)=q:=Ac _ bD1;by_cases ba:p + 2 * s<=n
   · have X:(q:Int)<=n:=bD1;obtain ⟨f3,ab,o⟩:=kYn (key:=key) (cu:=cv) (by omega:0 < s) ba G.out;rw [bo,hq,ah] at o;have al:=yD ab;have a5:=yD (o.symm.trans a1.out);clear ab o;go_wp2_with fail;refine (kUn (n:=n) (b:=b) key W.out s2 (kBa av.out F.out) Z.out aa.out.symm vV (a:=p) (m:=Y) (z:=q) bD1 bD1 vV bD1).mono ?_;exact tJ
   have X:¬ (q:Int)<=n:=bD1;by_cases hm:p + s < n
   · have bc:(Y:Int) < n:=bD1;have N:=yD ((pass_mid (key:=key) (cu:=cv) ba hm G.out).symm.trans a1.out);rw [ah] at N;go_wp2_with fail;refine (kUn (n:=n) (b:=b) key W.out (n - p) (kBa av.out F.out) Z.out aa.out.symm vV (a:=p) (m:=Y) (z:=n) bD1 bD1 vV bD1).mono ?_;exact uA
   exact uB
 exact uC
def kQv {w:Aj} {v:Ae} {xs:Ad Int} {S:Nat->Prop} {g:Av} {cp:Bd Ae} (key:Int->Int) (hg:jH prog g) (J:kEj key g cp S w) (h:kD.kU 3 kD.int w v xs S) (hlen:xs.length<=16777216) :
    Ap prog 124 #[v,.func (.func g) #[] cp] w λe w'=>e=.returned (.tuple #[])/\kD.kU 3 kD.int w' v (Srt.stable key xs) S/\Touch S w w':=by
 rcases Nat.eq_zero_or_pos xs.length with h0 | h0
 · obtain ⟨a,cap,rfl⟩:=h.zW;obtain rfl:xs=[]:=Ab h0;have D:Srt.stable key ([]:Ad Int)=[]:=Ab (by rw [Srt.kEr];rfl);have L:=yD (h.cast D.symm);have o:=yD (kSh (w:=w) (v:=.slice a 0 cap) (g:=g) (cp:=cp));clear h J hg D;simp only [List.length_nil] at *;go_enter func124,ntmps124;exact uD
 obtain ⟨b,cap,rfl,_⟩:=kD.kAr h h0
 have HC:=yD (kZp key hg J h rfl hlen)
 clear h J hg hlen h0
 go_enter func124,ntmps124
 exact uE
def kPd {w:Aj} {v:Ae} {g:Av} {cp:Bd Ae}:Ap prog 210 #[v,.int .i64 (0:Nat),.int .i64 (0:Nat),.func (.func g) #[] cp] w λe w'=>e=.returned (.tuple #[])/\w'=w:=by
 go_enter func210,ntmps210;exact r9
def kOk {w:Aj} {v:Ae} {g:Av} {cp:Bd Ae}:Ap prog 177 #[v,.int .i64 (0:Nat),.func (.func g) #[] cp] w λe w'=>e=.returned (.tuple #[])/\w'=w:=by
 go_enter func177,ntmps177;go_wp2;go_loopw [7,8] (λi j wr=>i=.int .i64 0/\j=.int .i64 20/\wr=w) (λi j _=>0);case atStart=>exact ⟨rfl,rfl,rfl⟩
 obtain ⟨rfl,rfl,hw⟩:=hrel;obtain rfl:=hw;go_wp2_with fail;refine kPd.mono ?_;exact rF
def kUo {w:Aj} {b n cap:Nat} {xs:Ad kz} {S:Nat->Prop} {g:Av} {cp:Bd Ae} (key:kz->Int) (hg:jH prog g) (J:kBo key g cp S w) (h:kD.kU 131 kS w (.slice (some ⟨b,0,none⟩) n cap) xs S) (hn:n=xs.length) (hlen:xs.length<=16777216) :
    Ap prog 177 #[.slice (some ⟨b,0,none⟩) n cap,.int .i64 (n:Nat),.func (.func g) #[] cp] w λe w'=>e=.returned (.tuple #[])/\kD.kU 131 kS w' (.slice (some ⟨b,0,none⟩) n cap) (Srt.stable key xs) S/\Touch S w w':=by
 have av:=yD J
 obtain ⟨W,D,bl,ak,c0⟩:=J2
 clear h J hlen hn hg
 have ac:(n:Int)<=16777216:=bD1
 have af:=Aa n
 go_enter func177,ntmps177
 go_wp2
 go_loopw [7,8] (λi j wr=>∃ (p f:Nat) (cu:Ad kz),i=.int .i64 p/\j=.int .i64 ((p:Int) + 20)/\p<=n/\Hid (n < f + p)/\Hid (Srt.blocks key n f p cu=Srt.blocks key n (n + 1) 0 xs)/\Hid (cu.length=n)/\Hid (kD.kU 131 kS wr (.slice (some ⟨b,0,none⟩) n cap) cu S)/\Hid (Touch S w wr)) (λi _ _=>n - (Bc i).toNat)
 case atStart=>exact ⟨0,n + 1,xs,rfl,rfl,Nat.zero_le _,yD bD1,yD rfl,yD bl.out.symm,D,yD (Touch.refl _ _)⟩
 obtain ⟨p,f,cu,rfl,rfl,O,bn,HB,HL,L,U⟩:=hrel
 have ay:=Aa p
 by_cases hlt:p + 20<=n
 · have a7:(p:Int) + 20<=n:=bD1;obtain ⟨R,E,o⟩:=kSg (key:=key) (cu:=cu) hlt bn.out;have I:=yD E;obtain ⟨q,hq⟩:∃ q,p + 20=q:=⟨_,rfl⟩;have aj:(p:Int) + 20=(q:Int):=bD1;rw [hq] at o;have H:=yD (o.symm.trans HB.out);clear o E;have ad:Ag.wrap (q:Int)=q:=Ac _ bD1;go_wp2_with fail;refine (kKv (n:=n) (b:=b) key W.out (kAj av.out U.out) L.out HL.out.symm vQ (a:=p) (z:=q) bD1 vQ).mono ?_;exact rZ
 have a7:¬ (p:Int) + 20<=n:=bD1
 have H:=yD (HB.out.symm.trans (kWq (key:=key) (cu:=cu) hlt O bn.out))
 go_wp2_with fail
 refine (kKv (n:=n) (b:=b) key W.out (kAj av.out U.out) L.out HL.out.symm vQ (a:=p) (z:=n) O vQ).mono ?_
 rintro e V ⟨rfl,O2,T2⟩
 have aa:Hid ((Srt.blocks key n (n + 1) 0 xs).length=n):=yD (by rw [Srt.kDb];exact bl.out.symm)
 have Z:=yD (O2.cast H.out.symm);have F:=yD (U.out.trans T2);clear O2 T2
 generalize Srt.blocks key n (n + 1) 0 xs=B at *
 clear hlt a7 H L U HL HB bn
 go_wp2
 go_loopw [6,7,8] (λi _ _ wr=>∃ (s f:Nat) (cu:Ad kz),i=.int .i64 s/\20<=s/\s<=33554432/\Hid (n < f + s)/\Hid (Srt.passes key n f s cu=Srt.passes key n (n + 1) 20 B)/\Hid (cu.length=n)/\Hid (kD.kU 131 kS wr (.slice (some ⟨b,0,none⟩) n cap) cu S)/\Hid (Touch S w wr)) (λi _ _ _=>n - (Bc i).toNat)
 case atStart=>exact ⟨20,n + 1,B,rfl,Nat.le_refl _,by omega,yD bD1,yD rfl,aa,Z,F⟩
 obtain ⟨s,f,cu,rfl,aq,au,bn,HB,HL,L,U⟩:=hrel
 have cq:(20:Int)<=s:=bD1
 by_cases hlt:s < n
 · have a7:(s:Int) < n:=bD1;obtain ⟨R,E,o⟩:=kRr (key:=key) (cu:=cu) bD1 hlt bn.out;have I:=yD E;have a2:=yD (o.symm.trans HB.out);clear E o;obtain ⟨s2,bo⟩:∃ s2,2 * s=s2:=⟨_,rfl⟩;have ar:2 * (s:Int)=(s2:Int):=bD1;have ao:(s:Int) * 2=(s2:Int):=bD1;have am:Ag.wrap (s2:Int)=s2:=Ac _ bD1;have ag:=Aa s2;go_wp2;go_loopw [7,8] (λi j wr=>∃ (p f2:Nat) (cv:Ad kz),i=.int .i64 p/\j=.int .i64 ((p:Int) + (s2:Int))/\p<=n/\Hid (n < f2 + p)/\Hid (Srt.pass key n s f2 p cv=Srt.pass key n s (n + 1) 0 cu)/\Hid (cv.length=n)/\Hid (kD.kU 131 kS wr (.slice (some ⟨b,0,none⟩) n cap) cv S)/\Hid (Touch S w wr)) (λi _ _=>n - (Bc i).toNat);case atStart=>exact ⟨0,n + 1,cu,rfl,by first | rfl|(simp;done) | go_num,Nat.zero_le _,yD bD1,yD rfl,HL,L,U⟩
   obtain ⟨p,f2,cv,rfl,rfl,O,G,a1,aa,Z,F⟩:=hrel;have ay:=Aa p;obtain ⟨Y,ah⟩:∃ Y,p + s=Y:=⟨_,rfl⟩;have ap:(p:Int) + (s:Int)=(Y:Int):=bD1;have an:Ag.wrap (Y:Int)=Y:=Ac _ bD1;obtain ⟨q,hq⟩:∃ q,p + s2=q:=⟨_,rfl⟩;have aj:(p:Int) + (s2:Int)=(q:Int):=bD1;have ad:Ag.wrap (q:Int)=q:=Ac _ bD1;by_cases ba:p + 2 * s<=n
   · have X:(q:Int)<=n:=bD1;obtain ⟨f3,ab,o⟩:=kYn (key:=key) (cu:=cv) (by omega:0 < s) ba G.out;rw [bo,hq,ah] at o;have al:=yD ab;have a5:=yD (o.symm.trans a1.out);clear ab o;go_wp2_with fail;refine (kOi (n:=n) (b:=b) key W.out s2 (kAj av.out F.out) Z.out aa.out.symm vV (a:=p) (m:=Y) (z:=q) bD1 bD1 vV bD1).mono ?_;exact tJ
   have X:¬ (q:Int)<=n:=bD1;by_cases hm:p + s < n
   · have bc:(Y:Int) < n:=bD1;have N:=yD ((pass_mid (key:=key) (cu:=cv) ba hm G.out).symm.trans a1.out);rw [ah] at N;go_wp2_with fail;refine (kOi (n:=n) (b:=b) key W.out (n - p) (kAj av.out F.out) Z.out aa.out.symm vV (a:=p) (m:=Y) (z:=n) bD1 bD1 vV bD1).mono ?_;exact uA
   exact uB
 exact uC
def kNy {w:Aj} {v:Ae} {xs:Ad kz} {S:Nat->Prop} {g:Av} {cp:Bd Ae} (key:kz->Int) (hg:jH prog g) (J:kBo key g cp S w) (h:kD.kU 131 kS w v xs S) (hlen:xs.length<=16777216) :
    Ap prog 119 #[v,.func (.func g) #[] cp] w λe w'=>e=.returned (.tuple #[])/\kD.kU 131 kS w' v (Srt.stable key xs) S/\Touch S w w':=by
 rcases Nat.eq_zero_or_pos xs.length with h0 | h0
 · obtain ⟨a,cap,rfl⟩:=h.zW;obtain rfl:xs=[]:=Ab h0;have D:Srt.stable key ([]:Ad kz)=[]:=Ab (by rw [Srt.kEr];rfl);have L:=yD (h.cast D.symm);have o:=yD (kOk (w:=w) (v:=.slice a 0 cap) (g:=g) (cp:=cp));clear h J hg D;simp only [List.length_nil] at *;go_enter func119,ntmps119;exact uD
 obtain ⟨b,cap,rfl,_⟩:=kD.kAr h h0
 have HC:=yD (kUo key hg J h rfl hlen)
 clear h J hg hlen h0
 go_enter func119,ntmps119
 exact uE
def Clone_int_0 {w:Aj} {va:Ae} {x:Ad Int} (ha:(kD.slice 3 kD.int).rd w [va] x):Ap prog 123 #[va] w (kCl 3 kD.int x w):=by
 obtain ⟨aa,am,rfl,la⟩:=kD.sl ha.1;have HA:=yD ha;have D:=λ(W:Aj) (a:Option Addr) (n c:Nat)=>Lib.run_eql_slice_nil (P:=prog) W 51 3 a n c 0 0 underlying51;cases aa with
 | none =>
   have hx:x=[]:=by
     cases x with
     | nil=>rfl
     | cons y ys =>
       exact aD
   subst hx;clear ha;go_enter func123,ntmps123;go_wp2;go_ret;exact ⟨_,rfl,kD.kU.void,bR⟩
 | some a =>
   have hb:x.length<=16777216:=ha.2.1;clear ha;go_enter func123,ntmps123;have O0:kD.kU 3 kD.int (w.alloc (.cells #[] 3)) (.slice (some ⟨w.heap.size,0,none⟩) 0 0) [] (λk=>k=w.heap.size):=kD.yO (cs:=[]) (xs:=[]) (T:=λ_=>False) bD2 bD2 rfl (λ_ h=>h.elim) rfl;go_wp2_with (at_builtin;refine kD.yU rfl _ _ 51 rfl (r:=kD.int) (e:=3) underlying51 kAi rfl bD0 bD0 flatint (B:=w.heap.size) O0 bD3 bD3 (HA.out.alloc _) qV bD2 bC6 ?_);intro v2 V hown o hz;have L:=yD hown;obtain ⟨a2,c2,hv⟩:=hown.zW;obtain rfl:=hv;have F:Qb w V:=Below.trans bG o;clear hown O0 o;go_wp2;go_ret;exact ⟨_,rfl,kD.kU.cast L.out bD2,F⟩
def kJs (l:Ad kT) (n:kr) (fs:Ad Int):Ad Int:=Srt.sorted (yw l n) fs
def kLm (l:Ad kT) (n:kr) (fs:Ad Int):(kJs l n fs).length=fs.length:=by
 unfold kJs;rw [<- Srt.kLi,Srt.kEr]
def cmpI_lt {a b:Int}:decide (kDa a b < 0)=decide (a < b):=by
 unfold kDa;by_cases h:a < b
 · rw [Bb h];simp [h]
 rw [Au h];by_cases h2:b < a
 · rw [Bb h2];simp [h]
 rw [Au h2];simp [h]
def sorted_snoc {α:Type} {key:α->Int} {l:Ad α} {k:Nat} (h:k < l.length):Srt.sorted key (l.take (k + 1))=Srt.put key (Srt.sorted key (l.take k)) l[k]:=by
 unfold Srt.sorted;rw [List.take_succ_eq_append_getElem h,List.foldl_append];rfl
def kGj {α:Type} {key:α->Int} {l:Ad α}:(Srt.sorted key l).length=l.length:=by rw [<- Srt.kLi,Srt.kEr]
def kVi {α:Type} {key:α->Int} {l:Ad α} {x:α} {k j:Nat} (I:j + 1=k) (hl:j < l.length) (h:decide (key x < key l[j])=true):Srt.place key k l x=Srt.place key j l x:=by
 subst I;rw [Srt.place,Bb (by rw [Srt.zM hl];exact of_decide_eq_true h)]
def kVg {α:Type} {key:α->Int} {l:Ad α} {x:α} {k j:Nat} (I:j + 1=k) (hl:j < l.length) (h:decide (key x < key l[j])=false):Srt.place key k l x=k:=by
 subst I;rw [Srt.place,Au (by rw [Srt.zM hl];exact of_decide_eq_false h)]
def jAe {α:Type} {key:α->Int} {l:List α} {x:α} {k:Nat} (h:k=Srt.place key l.length l x):Srt.put key l x=l.take k++[x]++l.drop k:=by subst h;rfl
namespace kD
def kQb {α:Type} {r:kD α} {e:TypeId} {w:Aj} {a:Option Addr} {n cap:Nat} {xs:Ad α} {S:Nat->Prop} (h:kU e r w (.slice a n cap) xs S):(n=0/\cap=0)\/∃ b,a=some ⟨b,0,none⟩:=by
 rcases h.2 with ⟨⟨a',h0⟩,_⟩|⟨b,cap',cur,cs,tl,h0,_⟩
 · simp only [Ay] at h0;exact .inl ⟨h0.2.1,h0.2.2⟩
 simp only [Ay] at h0;exact .inr ⟨b,h0.1⟩
def kTl {α:Type} {r:kD α} {e:TypeId} {w:Aj} {a:Option Addr} {c:Nat} (hc:c<=maxLen):(slice e r).rd w [.slice a 0 c] []:=⟨void_raw hc,Nat.zero_le _,by simp⟩
def kTs {α:Type} {r:kD α} {e:TypeId} {w:Aj} {b len cap k:Nat} {xs:Ad α} (h:(slice e r).rd w [.slice (some ⟨b,0,none⟩) len cap] xs) (hk:k<=xs.length):(slice e r).rd w [.slice (some ⟨b,0 + k * r.n,none⟩) (len - k) (cap - k)] (xs.drop k) :=
  ⟨drop_raw h.1 hk,by have:=h.2.1;simp;omega,λx hx=>h.2.2 x (List.mem_of_mem_drop hx)⟩
end kD
def kQm {w:Aj} {a b:Int} {l:Ad kT} {n:kr} {D nv:Ae} {B1 B2:Nat} (hl:(kD.slice 149 kL).raw w [D] l) (hn:kW.raw w [nv] n) (A0:Qc w B1 0 D) (A1:Qc w B2 0 nv) :
    Ap prog 125 (#[.int .i64 a,.int .i64 b]++#[.pointer (some ⟨B1,0,none⟩),.pointer (some ⟨B2,0,none⟩)]) w (bQ w (.int .i64 (kDa (yw l n a) (yw l n b)))):=by
 have HL:=yD hl
 have HN:=yD hn
 obtain ⟨G,o,a9⟩:=ko hn
 obtain rfl:nv=G:=bC0
 obtain ⟨na,np,rfl,_⟩:=kD.sl a9
 obtain ⟨la,lp,rfl,_⟩:=kD.sl hl
 clear a9 hl hn o
 show Ap prog 125 #[_,_,_,_] w _
 go_enter func125,ntmps125
 go_upto_region 1 with fail
 have FX:=yD (λ(W:Aj) (hW:Qb w W)=>kHv hW A0 A1)
 refine jo (λW=>Qb w W) [(0,true),(1,true),(2,true),(4,true),(5,true),(6,true),(3,false),(7,false),(8,false),(9,true)] bC5 bC5 pY (bR.drew) ?_
 intro wS E
 simp only [jB,Ah,Ai,Ar,Az]
 iterate 6
  all_goals refine kX ?_
 iterate 2
  all_goals first | refine wkB (kQn (kD.raw.below HL.out E) (kD.raw.below HN.out E)) (λwS1 E=>?_) | refine kX ?_
 all_goals first | refine wkC (kPm) ?_ | refine kX ?_
 all_goals refine kX ?_
 all_goals refine kR ?_
 go_wp2
 go_ret
 exact ⟨rfl,E⟩
def kMf:jH prog 125:=yR func125 bC5 bC5
def kTd {w:Aj} {vl:Ae} {l:Ad kT} (hl:(kD.slice 149 kL).rd w [vl] l) {cn:Ad Ae} {n:kr} (hn:kW.rd w cn n) {vf:Ae} {fs:Ad Int} (hf:(kD.slice 3 kD.int).rd w [vf] fs) :
    Ap prog 51 #[vl,.agg cn.toArray,vf] w (kBm (kD.slice 3 kD.int) (kJs l n fs) w):=by
 have HL:=yD hl
 have HN:=yD hn
 have HF:=yD hf
 have bd:fs.length<=16777216:=hf.2.1
 obtain ⟨nv,rfl,a9⟩:=ko hn.1
 obtain ⟨na,np,rfl,_⟩:=kD.sl a9
 obtain ⟨la,lp,rfl,_⟩:=kD.sl hl.1
 obtain ⟨fa,fp,rfl,_⟩:=kD.sl hf.1
 clear a9 hl hn hf
 go_enter func51,ntmps51
 go_wp2_with fail
 generalize J:World.alloc (World.alloc w _) _=N
 have R:Qb w N:=by rw [<- J];exact bG
 have K0:Qd N w 0 (.slice la l.length lp):=tT
 have K1:Qc N (w.heap.size + 1) 0 (.slice na n.length np):=tT
 clear J
 refine (Clone_int_0 (HF.out.below R)).mono ?_
 rintro e w1 ⟨v1,rfl,O1,O⟩
 obtain ⟨oa,on,oc,ho,bh⟩:=O1.parts;obtain rfl:=ho
 have E1:=(tQ R O)
 have L:=yD O1;have o:=yD O
 have bj:=O.size;have bq:=R.size
 clear O1 O
 have HC:Hid (kEj (yw l n) 125 #[.pointer (some ⟨w.heap.size,0,none⟩),.pointer (some ⟨w.heap.size + 1,0,none⟩)] (jU N.heap.size w1.heap.size) w1):=yD (λwr E x y c d hx hy=>by
   have e:=o.out.trans (E.below o.out.size (λi hi=>hi.1));obtain ⟨hc,_⟩:=kD.jb hx;obtain ⟨hd,_⟩:=kD.jb hy;obtain rfl:c=_:=by simpa using hc
   obtain rfl:d=_:=by simpa using hd
   exact (kQm (HL.out.1.below (tQ R e)) (HN.out.1.below (tQ R e)) (cL e K0) (cL e K1)).mono (λe2 V h=>⟨_,h.1,cmpI_lt,h.2⟩))
 clear K0 K1 R
 go_wp2_with fail
 refine (kQv (yw l n) kMf HC.out L.out bd).mono ?_
 rintro e V ⟨rfl,O2,T2⟩
 have E2:=E1.trans (T2.below bD1 sP)
 have a7:=T2.size
 have Z:=yD ((O2.cast (Srt.kLi fs)).wide (T:=jU w.heap.size V.heap.size) mU)
 clear O2 T2 HC L
 go_wp2
 go_ret
 exact ⟨_,rfl,Z.out.own gK,E2⟩
def jm {w:Aj} {v:Ae} {xs ys:Ad Int} {S:Nat->Prop} {B:Nat} {av:Option Addr} {len cap:Nat} (hown:kD.kU 3 kD.int w v xs S) (hy:(kD.slice 3 kD.int).rd w [.slice av len cap] ys) (hSB:∀ k,S k->B<=k/\k < w.heap.size) (hB:B<=w.heap.size) (hlen:xs.length + ys.length<=1000000000) :
    ∃ v' w',(Builtin.append_ #[51,51] 51 #[v,.slice av len cap]).run prog w=.ok v' w'/\kD.kU 3 kD.int w' v' (xs++ys) (jU B w'.heap.size)/\Below B w w'/\w.heap.size<=w'.heap.size :=
  kD.kLj (r:=kD.int) underlying51 kAi rfl (show 0 < 1 by omega) bD0 kD.yg hown hy hSB hB hlen
def kBy {w:Aj} {cs:Ad Ae} {x:Int} (hx:kD.is kD.int true w cs x (λ_=>True)) (hb:kD.bdd kD.int Big x) :
    (kD.slice 3 kD.int).rd (World.alloc w (.cells cs.toArray 3)) [.slice (some ⟨w.heap.size,0,none⟩) 1 1] [x] :=
  ((kD.yO (e:=3) (r:=kD.int) (w:=w) (cs:=cs) (xs:=[x]) (T:=λ_=>True) (S:=λ_=>True) mH rY (kD.kDi hx) (λ_ h=>h) trivial).own sS).rd
def kSk {w:Aj} {vl:Ae} {l:Ad kT} (hl:(kD.slice 149 kL).rd w [vl] l) {cn:Ad Ae} {n:kr} (hn:kW.rd w cn n) {vf:Ae} {fs:Ad Int} (hf:(kD.slice 3 kD.int).rd w [vf] fs) :
    Ap prog 63 #[vl,.agg cn.toArray,vf] w (kBm (kD.slice 3 kD.int) (kJs l n fs) w):=by
 have HL:=yD hl
 have HN:=yD hn
 have HF:=yD hf
 have bd:fs.length<=16777216:=hf.2.1
 obtain ⟨nv,rfl,a9⟩:=ko hn.1
 obtain ⟨na,np,rfl,_⟩:=kD.sl a9
 obtain ⟨la,lp,rfl,_⟩:=kD.sl hl.1
 obtain ⟨fa,fp,rfl,_⟩:=kD.sl hf.1
 clear a9 hl hn hf
 go_enter func63,ntmps63
 go_wp2
 generalize J:World.alloc (World.alloc w _) _=N
 have R:Qb w N:=by rw [<- J];exact bG
 have bq:=R.size
 have K0:Qd N w 0 (.slice na n.length np):=tT
 clear J
 go_loopw [7,8] (λv i wr=>∃ (k:Nat),k<=fs.length/\i=.int .i64 k/\Hid (kD.kU 3 kD.int wr v (Srt.sorted (yw l n) (fs.take k)) (jU w.heap.size wr.heap.size))/\Qb N wr) (λ_ i _=>fs.length - (Bc i).toNat)
 case atStart=>exact ⟨0,Nat.zero_le _,rfl,yD kD.kU.void,bR⟩
 obtain ⟨i,hi,rfl,L,o⟩:=hrel
 replace K0:=cL o K0
 obtain ⟨a,m,cap,ho,HM⟩:=L.out.parts;obtain rfl:=ho
 have cg:=o.size
 have cw:=Aa i
 by_cases hlt:i < fs.length
 · have cv:(i:Int) < fs.length:=bD1;have eb : m <= 16777216 := by have h0 : m = i := (by rw [HM.out, kGj]; simp; omega); omega
   have b8:m<=cap/\cap<=9223372036854775807:=by have h1:=L.out.kAz;have h2:=HM.out;obtain ⟨h3,h4⟩:=kD.kBe h1;exact ⟨by omega,h4⟩
   obtain ⟨fb,fo,rfl,fc,fr,Af⟩:=kD.kCa (HF.out.1.below (tQ R o)) hlt rfl;obtain ⟨bp,ac⟩:=kD.jb fr;obtain rfl:fc=_:=by simpa using bp
   have bl:=yD (sorted_snoc (key:=yw l n) hlt);have HX:=yD fr;clear bp fr;generalize fs[i]=x at *;generalize b7:Srt.sorted (yw l n) (fs.take i)=LL at *;clear b7;go_wp2;go_loopw [9] (λq ca=>∃ (k:Nat),k<=m/\q=.int .i64 k/\Hid (Srt.place (yw l n) k LL x=Srt.place (yw l n) m LL x)/\Qb wr ca) (λq _=>(Bc q).toNat);case atStart=>exact ⟨m,Nat.le_refl _,rfl,yD rfl,bR⟩
   obtain ⟨k,bw,rfl,HP,ab⟩:=hrel;have ao:=cL ab K0;have ae:=cL ab Af;have Z:=yD (L.out.below ab);have EQ:Qb N _:=(tQ o ab);have bk:=Aa k;have b3:(k:Int)<=cap:=bD1;have b4:k<=cap:=bD1;by_cases hk:0 < k
   · obtain ⟨j,I⟩:∃ j,j + 1=k:=⟨k - 1,by omega⟩;have dn:(k:Int) - 1=(j:Int):=bD1;obtain ⟨co,b0⟩:=CL;have a4:j < LL.length:=vW;have bx:(j:Int) < m:=bD1;have hp:decide ((k:Int) > 0)=true:=bC6;have cf:decide (0 < k)=true:=bA5;have ck:(0:Int) < k:=bD1;have HY:=yD (λq=>(kVi (key:=yw l n) (x:=x) I a4 q).symm.trans HP.out);have a5:=yD (λq=>(kVg (key:=yw l n) (x:=x) I a4 q).symm.trans HP.out);obtain ⟨ob,oo,rfl,b6,ax,Ao⟩:=kD.kCa Z.out.kAz a4 rfl;obtain ⟨bf,b5⟩:=kD.jb ax;obtain rfl:b6=_:=by simpa using bf
     clear bf ax b5;generalize LL[j]=y at *;go_upto_region 6 with fail;refine jo (λW=>Qb wr W) [(0,true),(1,true),(2,true),(3,true),(4,true),(5,true),(6,true),(7,true),(8,true),(9,true),(11,true),(12,true),(13,true),(14,true),(15,true),(16,true),(10,false),(17,false),(18,true),(19,true)] bC5 bC5 pY (bR.drew) ?_;intro wS E;simp only [jB,Ah,Ai,Ar,Az];all_goals refine kX ?_
     all_goals refine kX ?_
     all_goals (refine jd λb au=>?_;cases b <;> try simp only [jc] at au)
     all_goals refine kX ?_
     all_goals first|(refine kG rfl E ?_)|(refine kw (v:=?_) rfl (λW hW=>?_) ?_;rotate_left;(· have ag:=cL hW ao;have af:=cL hW ae;have ak:=cL hW Ao;clear hW;go_simp;try with_reducible rfl))
     all_goals refine jD ?_
     iterate 4
      all_goals refine kX ?_
     iterate 2
      all_goals first|(refine kG rfl E ?_)|(refine kw (v:=?_) rfl (λW hW=>?_) ?_;rotate_left;(· have ag:=cL hW ao;have af:=cL hW ae;have ak:=cL hW Ao;clear hW;go_simp;try with_reducible rfl))
      all_goals refine jD ?_
      all_goals refine kX ?_
     all_goals refine kX ?_
     all_goals refine kX ?_
     all_goals first|(refine kG rfl E ?_)|(refine kw (v:=?_) rfl (λW hW=>?_) ?_;rotate_left;(· have ag:=cL hW ao;have af:=cL hW ae;have ak:=cL hW Ao;clear hW;go_simp;try with_reducible rfl))
     all_goals refine jD ?_
     iterate 2
      all_goals first | refine wkB (kPu (kD.raw.below HL.out.1 ((tQ R (tQ EQ E)))) (kD.raw.below HN.out.1 ((tQ R (tQ EQ E))))) (λwS1 E=>?_) | refine kX ?_
     all_goals refine kX ?_
     all_goals (refine jd λb aa=>?_;cases b <;> try simp only [jc] at aa)
     all_goals refine kR ?_
     all_goals have ah:=yD (tQ ab E)
     all_goals have aq:=ah.out
     all_goals replace ae:=cL E ae
     all_goals first
       | (have Y:=yD (show decide (yw l n x < yw l n y)=true by first | exact aa | simpa using aa);have b2:=yD (HY.out Y.out);clear HY a5 Y aa;go_wp2;go_roundw;(case rel=>exact ⟨j,by omega,rfl,b2,ah.out⟩);(case measure=>simp [Bc];omega))
       | (have Y:=yD (show decide (yw l n x < yw l n y)=false by first | exact aa | simpa using aa);have br:=yD (a5.out Y.out);clear HY a5 Y aa)
     have al:=yD (bl.out.trans (jAe (show k=_ by rw [<- HM.out];exact br.out)));have ai:=yD (L.out.below aq);generalize wS1=wq at *;exact x9
   have bv:k=0:=bD1;have hp:decide ((k:Int) > 0)=false:=bC6;have ck:¬ (0:Int) < k:=bD1;have br:Hid (k=Srt.place (yw l n) m LL x):=yD (by rw [<- HP.out,bv];rfl);clear bv;go_upto_region 6 with fail;refine jo (λW=>Qb wr W) [(0,true),(1,true),(2,true),(3,true),(4,true),(5,true),(6,true),(7,true),(8,true),(9,true),(11,true),(12,true),(13,true),(14,true),(15,true),(16,true),(10,false),(17,false),(18,true),(19,true)] bC5 bC5 pY (bR.drew) ?_;intro wS E;simp only [jB,Ah,Ai,Ar,Az];all_goals refine kX ?_
   all_goals refine kX ?_
   all_goals (refine jd λb au=>?_;cases b <;> try simp only [jc] at au)
   iterate 13
    all_goals refine kX ?_
   iterate 2
    all_goals first|(refine kG rfl E ?_)|(fail)
    all_goals refine jD ?_
   all_goals refine kX ?_
   all_goals (refine jd λb aa=>?_;cases b <;> try simp only [jc] at aa)
   all_goals refine kR ?_
   all_goals have ah:=yD (tQ ab E)
   all_goals have aq:=ah.out
   all_goals replace ae:=cL E ae
   have al:=yD (bl.out.trans (jAe (show k=_ by rw [<- HM.out];exact br.out)));have ai:=yD (L.out.below aq);generalize wS=wq at *;exact x9
 obtain rfl:i=fs.length:=bD1
 have a7:=L.out
 rw [List.take_length] at a7
 have Z:=yD a7;clear a7
 go_wp2
 go_ret
 exact ⟨_,rfl,Z.out.own gK,(tQ R o)⟩
def kYs {α κ:Type} {P:α->Prop} {key:α->κ} {ok:Ad α->Nat->α->Bool} {d:α}
    (bb:∀ l k x,ok l k x=true↔P x/\∀ y∈l.take k,key y≠key x) {l:Ad α} :
    ym (λj=>ok l j (l.getD j d)) l.length=true↔(∀ p∈l,P p)/\l.Pairwise (λa b=>key a≠key b):=by
 rw [allB_iff]
 constructor
 · intro h;have hk:∀ k (hk:k < l.length),P l[k]/\∀ y∈l.take k,key y≠key l[k]:=by
    intro k hk;have q:=h k hk;rw [jZ hk] at q;exact (bb _ _ _).1 q
   refine ⟨λp hp=>?_,Al.2 (λi j hi I D=>?_)⟩
   · obtain ⟨k,am,rfl⟩:=List.getElem_of_mem hp;exact (hk k am).1
   exact (hk j I).2 _ (Am.2 ⟨i,by omega,rfl⟩)
 rintro ⟨h1,h2⟩ k hk
 rw [jZ hk]
 refine (bb _ _ _).2 ⟨h1 _ (List.getElem_mem hk),λy hy=>?_⟩
 obtain ⟨i,hi,rfl⟩:=Am.1 hy
 exact Al.1 h2 i k bD1 hk bD1
def idx_take {α:Type} {p:α->Bool} {l:Ad α}:(decide (idxOf p l ≥ 0)=false)↔∀ y∈l,p y=false:=by
 rw [decide_eq_false_iff_not,show (¬ idxOf p l ≥ 0)↔idxOf p l < 0 by omega,kYv]
def okCe_iff {l:Ad kZ} {k:Nat} {x:kZ}:kNl l k x=true↔kBi x.1=true/\∀ y∈l.take k,y.1.1≠x.1.1:=by
 unfold kNl;rw [Ba,Aq,idx_take,Aw];simp [isC,eqN]
def okLoc_iff {l:Ad jL} {k:Nat} {x:jL}:kHc l k x=true↔kBi x=true/\∀ y∈l.take k,y.1≠x.1:=by
 unfold kHc;rw [Ba,Aq,idx_take,Aw];simp [isD,eqN]
def kUc {x:kg}:kCm x=true↔((∀ e∈x.2,kBi e.1=true)/\x.2.Pairwise (λa b=>a.1.1≠b.1.1))/\inR x.1 0 8=true/\(x.2.length:Int)<=x.1:=by
 unfold kCm;rw [Ak,kYs (P:=λe:kZ=>kBi e.1=true) (key:=λe:kZ=>e.1.1) (λl k x=>okCe_iff),Ak,decide_eq_true_iff]
def kNn {x:jq}:ze x=true↔((∀ d∈x.1,kBi d=true)/\x.1.Pairwise (λa b=>a.1≠b.1))/\x.1.length<=8/\kCm x.2.1=true/\kGe x.2.2.1=true/\kBc x.2.2.2.2.1=true/\kKi x.2.2.2.2.2.1=true/\x.2.2.2.1.length<=24/\0<=x.2.2.2.2.2.2:=by
 unfold ze kRo;rw [Ak,kYs (P:=λd:jL=>kBi d=true) (key:=λd:jL=>d.1) (λl k x=>okLoc_iff)];simp only [Ak,decide_eq_true_eq];constructor
 · rintro ⟨a,⟨⟨⟨⟨⟨b,c⟩,d⟩,e⟩,f⟩,g⟩,h⟩;exact ⟨a,by omega,c,d,e,f,by omega,h⟩
 rintro ⟨a,b,c,d,e,f,g,h⟩;exact ⟨a,⟨⟨⟨⟨⟨by omega,c⟩,d⟩,e⟩,f⟩,by omega⟩,h⟩
end Go.Proofs.YtjhfdpopkkmigaaGreat

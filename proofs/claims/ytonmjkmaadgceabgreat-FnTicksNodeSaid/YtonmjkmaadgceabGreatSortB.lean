/-
  The stable sort: the merge in place.
-/
import Derived.Test.YtonmjkmaadgceabGreatSortA
set_option linter.unusedVariables false
set_option linter.defProp false
set_option linter.unusedSimpArgs false
set_option linter.unnecessarySimpa false
set_option maxRecDepth 100000
set_option maxHeartbeats 8000000
open Bool renaming true->Tt,false->Ff
open Int renaming natCast_nonneg->Aa
open Go.RowKit renaming intOf->Ab
open Go renaming World->Ac,FuncId->Ae
open _root_ renaming List->Ad
open Go.IntWalk renaming i64_in->Ag
namespace Go.Proofs.YtonmjkmaadgceabGreat
open Go.RowKit _root_.Go.Proofs.Tryz
def kBb {key:Int->Int} {g:Ae} {cp:Array Value} {S:Nat->Prop} {w w':Ac} (h:kEo key g cp S w) (t:Touch S w w'):kEo key g cp S w':=λwr E=>h wr (t.trans E)
def kAj {key:ky->Int} {g:Ae} {cp:Array Value} {S:Nat->Prop} {w w':Ac} (h:kBo key g cp S w) (t:Touch S w w'):kBo key g cp S w':=λwr E=>h wr (t.trans E)
def kQl {p:Nat->Bool} {i j h:Nat} (D:i < j) (hh:(i + j) / 2=h) (q:p h=true):Srt.bs p i j=Srt.bs p (h + 1) j:=by
 subst hh;rw [Srt.bs,dif_pos D,if_pos q]
def bs_no {p:Nat->Bool} {i j h:Nat} (D:i < j) (hh:(i + j) / 2=h) (q:p h=false):Srt.bs p i j=Srt.bs p i h:=by
 subst hh;rw [Srt.bs,dif_pos D,if_neg (by rw [q];exact Bool.false_ne_true)]
def kQm {p:Nat->Bool} {i j:Nat} (D:¬ i < j):Srt.bs p i j=i:=by rw [Srt.bs,dif_neg D]
def up_next {α:Type} {k t:Nat} {cu:Ad α} (h:k < t):Srt.up (t - k) k cu=Srt.up (t - (k + 1)) (k + 1) (Srt.sw cu k (k + 1)):=by
 rw [show t - k=(t - (k + 1)) + 1 by omega,Srt.up]
def up_end {α:Type} {k t:Nat} {cu:List α} (h:¬ k < t):Srt.up (t - k) k cu=cu:=by rw [show t - k=0 by omega,Srt.up]
def kYo {α:Type} {i k j:Nat} {cu:Ad α} (hk:k + 1=j) (h:i < j):Srt.down i j cu=Srt.down i k (Srt.sw cu j k):=by
 subst hk;rw [Srt.down,if_pos h]
def down_end {α:Type} {i j:Nat} {cu:Ad α} (h:¬ i < j):Srt.down i j cu=cu:=by
 cases j with
 | zero=>rfl
 | succ j=>rw [Srt.down,if_neg h]
def symm_A {α:Type} {key:α->Int} {f a m z:Nat} {xs:Ad α} (h:m - a=1):Srt.symm key (f + 1) a m z xs=Srt.up (Srt.bs (λh=>decide (Srt.yw key xs h < Srt.yw key xs a)) m z - 1 - a) a xs:=by
 rw [Srt.symm,if_pos h]
def symm_B {α:Type} {key:α->Int} {f a m z:Nat} {xs:Ad α} (h:¬ m - a=1) (h2:z - m=1):Srt.symm key (f + 1) a m z xs=Srt.down (Srt.bs (λh=>!decide (Srt.yw key xs m < Srt.yw key xs h)) a m) m xs:=by
 rw [Srt.symm,if_neg h,if_pos h2]
def symm_C {α:Type} {key:α->Int} {f a m z mid N s e:Nat} {xs y u:Ad α} (h:¬ m - a=1) (h2:¬ z - m=1) (D:(a + z) / 2=mid) (hN:mid + m=N)
    (hs:s=Srt.bs (λc=>!decide (Srt.yw key xs (N - 1 - c) < Srt.yw key xs c)) (if mid < m then N - z else a) (if mid < m then mid else m)) (he:N - s=e)
    (hy:y=if s < m/\m < e then Srt.rot m (m - s) (e - m) xs else xs) (hu:u=if a < s/\s < mid then Srt.symm key f a s mid y else y) :
    Srt.symm key (f + 1) a m z xs=if mid < e/\e < z then Srt.symm key f mid e z u else u:=by
 rw [Srt.symm,if_neg h,if_neg h2]
 simp only
 rw [D,hN,<- hs,he,<- hy,<- hu]
def symmA_int_c {b n cap:Nat} {S:Nat->Prop} {g:Ae} {cp:Array Value} (key:Int->Int) (hg:jI prog g) (f:Nat) {w:Ac} {a m z:Nat} {xs:Ad Int} (ag:kEo key g cp S w) (h:kD.kR 3 kD.int w (.slice (some ⟨b,0,none⟩) n cap) xs S) (hn:n=xs.length) (hlen:xs.length<=16777216) (b3:a < m) (bx:m < z) (hz:z<=xs.length) (hf:z - a<=f + 1) (c1:m - a=1) :
    Calls prog 183 #[.slice (some ⟨b,0,none⟩) n cap,.int .i64 (a:Nat),.int .i64 (m:Nat),.int .i64 (z:Nat),.func (.func g) #[] cp] w λe w'=>e=.returned (.tuple #[])/\kD.kR 3 kD.int w' (.slice (some ⟨b,0,none⟩) n cap) (Srt.symm key (f + 1) a m z xs) S/\Touch S w w':=by
 have aw:=yD ag
 unfold jI at hg
 obtain ⟨J,bb,cc⟩:=CF
 clear h ag
 obtain ⟨bu,bj,c0,b5⟩:=BJ
 clear hlen hz hn
 obtain ⟨cg,c4,c3,ck,dd,b9,az⟩:=xI
 go_enter func183,ntmps183
 have HF:=yD (symm_A (key:=key) (f:=f) (z:=z) (xs:=xs) c1)
 have O:(m:Int) - (a:Int)=1:=bC9
 clear b9 az
 go_wp2
 go_loopw [10,11] (λi j wr=>∃ (p q:Nat),i=.int .i64 p/\j=.int .i64 q/\m<=p/\p<=q/\q<=z/\Hid (Srt.bs (λh=>decide (Srt.yw key xs h < Srt.yw key xs a)) p q=Srt.bs (λh=>decide (Srt.yw key xs h < Srt.yw key xs a)) m z)/\Hid (kD.kR 3 kD.int wr (.slice (some ⟨b,0,none⟩) n cap) xs S)/\Hid (Touch S w wr)) (λi j _=>(Ab j).toNat - (Ab i).toNat)
 case atStart=>exact ⟨m,z,rfl,rfl,Nat.le_refl _,by omega,Nat.le_refl _,yD rfl,J,cc⟩
 obtain ⟨p,q,rfl,rfl,cf,cv,de,HB,R,am⟩:=hrel
 have bf:=Aa p
 have c9:(q:Int)<=z:=bC9
 by_cases hlt:p < q
 · have a6:(p:Int) < q:=bC9;obtain ⟨h,hh⟩:∃ h,(p + q) / 2=h:=⟨_,rfl⟩;obtain ⟨db,df,c8,da⟩:=A8;obtain ⟨HY,a4,hl,al,dc,c2⟩:=CQ;have HK:Hid ((λh=>decide (Srt.yw key xs h < Srt.yw key xs a)) h=decide (key (xs[h]'hl) < key (xs[a]'al))):=yD gI;obtain ⟨bm,pr,av⟩:=kD.at1 R.out.kBc hl rfl;obtain ⟨aq,af⟩:=kD.jY pr;obtain rfl:bm=_:=by simpa using aq
   clear aq af;obtain ⟨ae,qr,ad⟩:=kD.at1 R.out.kBc al rfl;obtain ⟨Z,ac⟩:=kD.jY qr;obtain rfl:ae=_:=by simpa using Z
   clear Z ac;generalize xs[h]=x at *;generalize xs[a]=y at *;go_upto_region 5 with fail;have FX:=yD (λ(W:Ac) (hW:Qb wr W)=>kIk hW av ad);refine kM (λW=>Qb wr W) [Tt,Tt,Tt,Tt,Tt,Tt,Tt,Tt,Tt,Ff,Tt] bC3 bC3 pK (bR.drew) ?_;intro wS E;iterate 9
    all_goals refine ku ?_
   all_goals first|(refine kI rfl E ?_)|(refine kw rfl (λK H=>?_);go_simp;refine (aw.out _ (am.out.trans (Touch.of_below E)) _ _ _ _ (kD.raw.below pr E) (kD.raw.below qr E)).mono ?_;rintro e wS1 ⟨kk,rfl,bq,ab⟩;replace E:=(tQ E ab);refine H _ _ E ?_;clear H K ab)
   all_goals refine jF ?_
   all_goals (refine jy λb Y=>?_;cases b <;> try simp only [jw] at Y)
   all_goals refine kS ?_
   all_goals have a3:=yD (am.out.trans (Touch.of_below E))
   all_goals have bt:=yD (R.out.below E)
   all_goals first
     | (have U:=yD (show _=true from HK.out.trans qL);have a1:=yD (HY.out U.out);clear HY a4 HK U bq Y;go_wp2;go_roundw;(case rel=>exact ⟨h + 1,q,by go_num,rfl,by omega,by omega,by omega,a1,bt,a3⟩);(case measure=>simp [Ab];omega))
     | (have U:=yD (show _=false from HK.out.trans qL);have a1:=yD (a4.out U.out);clear HY a4 HK U bq Y;go_wp2;go_roundw;(case rel=>exact ⟨p,h,rfl,rfl,by omega,by omega,by omega,a1,bt,a3⟩);(case measure=>simp [Ab];omega))
 obtain rfl:q=p:=bC9
 obtain ⟨c5,HE⟩:=GX
 obtain ⟨t,ht⟩:∃ t,q - 1=t:=⟨_,rfl⟩
 obtain ⟨cz,V,ar,ak,D,G⟩:=EJ
 go_wp2
 go_loopw [13] (λi wr=>∃ (k:Nat) (cu:Ad Int),i=.int .i64 k/\a<=k/\k<=t/\Hid (Srt.up (t - k) k cu=Srt.up (t - a) a xs)/\Hid (cu.length=n)/\Hid (kD.kR 3 kD.int wr (.slice (some ⟨b,0,none⟩) n cap) cu S)/\Hid (Touch S w wr)) (λi _=>t - (Ab i).toNat)
 case atStart=>exact ⟨a,xs,rfl,Nat.le_refl _,V,yD rfl,yD bb.out.symm,R,am⟩
 obtain ⟨k,cu,rfl,dh,dg,HG,HL,ai,br⟩:=hrel
 have bp:=Aa k
 by_cases hlt:k < t
 · have a6:(k:Int) < t:=bC9;have b7:=yD ((up_next (cu:=cu) hlt).symm.trans HG.out);obtain ⟨j,I⟩:∃ j,k + 1=j:=⟨_,rfl⟩;rw [I] at b7;have ce:(k:Int) + 1=(j:Int):=bC9;obtain ⟨co,ch⟩:=AZ;have an:j < cu.length:=vN;have aa:k < cu.length:=bC9;have cq:(j:Int) < n:=bC9;have cw:(k:Int) < n:=bC9;obtain ⟨bm,pr,av⟩:=kD.at1 ai.out.kBc aa rfl;obtain ⟨aq,af⟩:=kD.jY pr;obtain rfl:bm=_:=by simpa using aq
   clear aq af;obtain ⟨ae,qr,ad⟩:=kD.at1 ai.out.kBc an rfl;obtain ⟨Z,ac⟩:=kD.jY qr;obtain rfl:ae=_:=by simpa using Z
   clear Z ac;generalize cu[k]=x at *;generalize cu[j]=y at *;go_upto_region 11 with fail;exact oQ
 exact oU
def symmB_int_c {b n cap:Nat} {S:Nat->Prop} {g:Ae} {cp:Array Value} (key:Int->Int) (hg:jI prog g) (f:Nat) {w:Ac} {a m z:Nat} {xs:Ad Int} (ag:kEo key g cp S w) (h:kD.kR 3 kD.int w (.slice (some ⟨b,0,none⟩) n cap) xs S) (hn:n=xs.length) (hlen:xs.length<=16777216) (b3:a < m) (bx:m < z) (hz:z<=xs.length) (hf:z - a<=f + 1) (c1:¬ m - a=1) (c2:z - m=1) :
    Calls prog 183 #[.slice (some ⟨b,0,none⟩) n cap,.int .i64 (a:Nat),.int .i64 (m:Nat),.int .i64 (z:Nat),.func (.func g) #[] cp] w λe w'=>e=.returned (.tuple #[])/\kD.kR 3 kD.int w' (.slice (some ⟨b,0,none⟩) n cap) (Srt.symm key (f + 1) a m z xs) S/\Touch S w w':=by
 have aw:=yD ag
 unfold jI at hg
 obtain ⟨J,bb,cc⟩:=CF
 clear h ag
 obtain ⟨bu,bj,c0,b5⟩:=BJ
 clear hlen hz hn
 obtain ⟨cg,c4,c3,ck,dd,b9,az⟩:=xI
 go_enter func183,ntmps183
 have HF:=yD (symm_B (key:=key) (f:=f) (xs:=xs) c1 c2)
 have O:(z:Int) - (m:Int)=1:=bC9
 obtain ⟨ak,ar⟩:=EX
 obtain ⟨ma,cz⟩:∃ ma,m - a=ma:=⟨_,rfl⟩
 rw [cz] at b9 ar
 have c6:IntKind.i64.wrap (ma:Int)=ma:=Ag _ bC9
 clear az
 go_wp2
 go_loopw [14,15] (λi j wr=>∃ (p q:Nat),i=.int .i64 p/\j=.int .i64 q/\a<=p/\p<=q/\q<=m/\Hid (Srt.bs (λh=>!decide (Srt.yw key xs m < Srt.yw key xs h)) p q=Srt.bs (λh=>!decide (Srt.yw key xs m < Srt.yw key xs h)) a m)/\Hid (kD.kR 3 kD.int wr (.slice (some ⟨b,0,none⟩) n cap) xs S)/\Hid (Touch S w wr)) (λi j _=>(Ab j).toNat - (Ab i).toNat)
 case atStart=>exact ⟨a,m,rfl,rfl,Nat.le_refl _,by omega,Nat.le_refl _,yD rfl,J,cc⟩
 obtain ⟨p,q,rfl,rfl,cf,cv,de,HB,R,am⟩:=hrel
 have bf:=Aa p
 have c9:(q:Int)<=m:=bC9
 by_cases hlt:p < q
 · have a6:(p:Int) < q:=bC9;obtain ⟨h,hh⟩:∃ h,(p + q) / 2=h:=⟨_,rfl⟩;obtain ⟨db,df,c8,da⟩:=A8;obtain ⟨HY,a4,hl,ml,dc,Y⟩:=CO;have HK:Hid ((λh=>!decide (Srt.yw key xs m < Srt.yw key xs h)) h=!decide (key (xs[m]'ml) < key (xs[h]'hl))):=yD gJ;obtain ⟨bm,pr,av⟩:=kD.at1 R.out.kBc ml rfl;obtain ⟨aq,af⟩:=kD.jY pr;obtain rfl:bm=_:=by simpa using aq
   clear aq af;obtain ⟨ae,qr,ad⟩:=kD.at1 R.out.kBc hl rfl;obtain ⟨Z,ac⟩:=kD.jY qr;obtain rfl:ae=_:=by simpa using Z
   clear Z ac;generalize xs[m]=x at *;generalize xs[h]=y at *;go_upto_region 17 with fail;have FX:=yD (λ(W:Ac) (hW:Qb wr W)=>kIk hW av ad);refine kM (λW=>Qb wr W) [Tt,Tt,Tt,Tt,Tt,Tt,Tt,Tt,Tt,Ff,Tt,Tt] bC3 bC3 pK (bR.drew) ?_;intro wS E;iterate 9
    all_goals refine ku ?_
   all_goals first|(refine kI rfl E ?_)|(refine kw rfl (λK H=>?_);go_simp;refine (aw.out _ (am.out.trans (Touch.of_below E)) _ _ _ _ (kD.raw.below pr E) (kD.raw.below qr E)).mono ?_;rintro e wS1 ⟨kk,rfl,bq,ab⟩;replace E:=(tQ E ab);refine H _ _ E ?_;clear H K ab)
   all_goals refine jF ?_
   all_goals refine ku ?_
   all_goals (refine jy λb V=>?_;cases b <;> try simp only [jw] at V)
   all_goals refine kS ?_
   all_goals have a3:=yD (am.out.trans (Touch.of_below E))
   all_goals have bt:=yD (R.out.below E)
   all_goals first
     | (have U:=yD (show _=true from HK.out.trans qM);have a1:=yD (HY.out U.out);clear HY a4 HK U bq V;go_wp2;go_roundw;(case rel=>exact ⟨h + 1,q,by go_num,rfl,by omega,by omega,by omega,a1,bt,a3⟩);(case measure=>simp [Ab];omega))
     | (have U:=yD (show _=false from HK.out.trans qM);have a1:=yD (a4.out U.out);clear HY a4 HK U bq V;go_wp2;go_roundw;(case rel=>exact ⟨p,h,rfl,rfl,by omega,by omega,by omega,a1,bt,a3⟩);(case measure=>simp [Ab];omega))
 obtain rfl:q=p:=bC9
 obtain ⟨c5,HE,G⟩:=DN
 go_wp2
 go_loopw [17] (λi wr=>∃ (k:Nat) (cu:Ad Int),i=.int .i64 k/\q<=k/\k<=m/\Hid (Srt.down q k cu=Srt.down q m xs)/\Hid (cu.length=n)/\Hid (kD.kR 3 kD.int wr (.slice (some ⟨b,0,none⟩) n cap) cu S)/\Hid (Touch S w wr)) (λi _=>(Ab i).toNat)
 case atStart=>exact ⟨m,xs,rfl,by omega,Nat.le_refl _,yD rfl,yD bb.out.symm,R,am⟩
 obtain ⟨k,cu,rfl,dh,dg,HG,HL,ai,br⟩:=hrel
 have bp:=Aa k
 by_cases hlt:q < k
 · have a6:(q:Int) < k:=bC9;have D:decide ((k:Int) > q)=true:=bC4;obtain ⟨j,I⟩:∃ j,j + 1=k:=⟨k - 1,by omega⟩;have b7:=yD ((kYo (cu:=cu) I hlt).symm.trans HG.out);have ce:(k:Int) - 1=(j:Int):=bC9;obtain ⟨co,ch⟩:=AZ;have aa:k < cu.length:=vN;have an:j < cu.length:=bC9;have cq:(j:Int) < n:=bC9;have cw:(k:Int) < n:=bC9;obtain ⟨bm,pr,av⟩:=kD.at1 ai.out.kBc aa rfl;obtain ⟨aq,af⟩:=kD.jY pr;obtain rfl:bm=_:=by simpa using aq
   clear aq af;obtain ⟨ae,qr,ad⟩:=kD.at1 ai.out.kBc an rfl;obtain ⟨Z,ac⟩:=kD.jY qr;obtain rfl:ae=_:=by simpa using Z
   clear Z ac;generalize cu[k]=x at *;generalize cu[j]=y at *;go_upto_region 23 with fail;exact oQ
 exact oV
def symmC_int_c {b n cap:Nat} {S:Nat->Prop} {g:Ae} {cp:Array Value} (key:Int->Int) (hg:jI prog g) (f:Nat) (ih:(∀ {w:Ac} {a m z:Nat} {xs:Ad Int} (ag:kEo key g cp S w) (h:kD.kR 3 kD.int w (.slice (some ⟨b,0,none⟩) n cap) xs S) (hn:n=xs.length) (hlen:xs.length<=16777216) (b3:a < m) (bx:m < z) (hz:z<=xs.length) (hf:z - a<=f),Calls prog 183 #[.slice (some ⟨b,0,none⟩) n cap,.int .i64 (a:Nat),.int .i64 (m:Nat),.int .i64 (z:Nat),.func (.func g) #[] cp] w λe w'=>e=.returned (.tuple #[])/\kD.kR 3 kD.int w' (.slice (some ⟨b,0,none⟩) n cap) (Srt.symm key f a m z xs) S/\Touch S w w')) {w:Ac} {a m z:Nat} {xs:Ad Int} (ag:kEo key g cp S w) (h:kD.kR 3 kD.int w (.slice (some ⟨b,0,none⟩) n cap) xs S) (hn:n=xs.length) (hlen:xs.length<=16777216) (b3:a < m) (bx:m < z) (hz:z<=xs.length) (hf:z - a<=f + 1) (c1:¬ m - a=1) (c2:¬ z - m=1) :
    Calls prog 183 #[.slice (some ⟨b,0,none⟩) n cap,.int .i64 (a:Nat),.int .i64 (m:Nat),.int .i64 (z:Nat),.func (.func g) #[] cp] w λe w'=>e=.returned (.tuple #[])/\kD.kR 3 kD.int w' (.slice (some ⟨b,0,none⟩) n cap) (Srt.symm key (f + 1) a m z xs) S/\Touch S w w':=by
 have aw:=yD ag
 have b4:=yD (λ(w:Ac) (a m z:Nat) (xs:Ad Int)=>ih (w:=w) (a:=a) (m:=m) (z:=z) (xs:=xs));clear ih
 unfold jI at hg
 obtain ⟨J,bb,cc⟩:=CF
 clear h ag
 obtain ⟨bu,bj,c0,b5⟩:=BJ
 clear hlen hz hn
 obtain ⟨cg,c4,c3,ck,dd,b9,az⟩:=xI
 go_enter func183,ntmps183
 obtain ⟨mid,D⟩:∃ mid,(a + z) / 2=mid:=⟨_,rfl⟩
 have ch:((a:Int) + (z:Int)) / 2=(mid:Int):=bC9
 obtain ⟨N,hN⟩:∃ N,mid + m=N:=⟨_,rfl⟩
 have ea:(mid:Int) + (m:Int)=(N:Int):=bC9
 obtain ⟨ak,ar⟩:=EX
 have an:¬ (z:Int) - (m:Int)=1:=bC9
 have bh:(((z - m:Nat):Int)==1)=false:=bC4
 have dw:m - a<=16777216:=bC9
 have dx:z - m<=16777216:=bC9
 obtain ⟨ma,cz⟩:∃ ma,m - a=ma:=⟨_,rfl⟩
 rw [cz] at b9 ar
 obtain ⟨zm,di⟩:∃ zm,z - m=zm:=⟨_,rfl⟩
 rw [di] at az bh
 obtain ⟨c6,dr,X,cq,d0,d7,b7,dk⟩:=DI
 obtain ⟨lo,L⟩:∃ lo,lo=(if mid < m then N - z else a):=⟨_,rfl⟩
 obtain ⟨hi,o⟩:∃ hi,hi=(if mid < m then mid else m):=⟨_,rfl⟩
 have dh:lo<=hi:=by rw [L,o];split <;> omega
 have dl:a<=lo:=tX
 have ce:hi<=m:=tO
 have cw:hi<=mid:=tO
 have dt:N<=z + lo:=tX
 have dv:m + hi<=N:=tO
 have ai:=yD L;have a5:=yD o;clear L o
 go_upto_if 140 with fail
 go_cut [20,21] from 138 to 140 (λdj ca wc=>dj=.int .i64 (lo:Nat)/\ca=.int .i64 (hi:Nat)/\Hid (kD.kR 3 kD.int wc (.slice (some ⟨b,0,none⟩) n cap) xs S)/\Hid (Touch S w wc))
 case first =>
  exact oW
 obtain ⟨rfl,rfl,F,dq⟩:=hcut
 clear J cc
 obtain ⟨N1,d9⟩:∃ N1,N - 1=N1:=⟨_,rfl⟩
 obtain ⟨dn,dm,dp,dy,du⟩:=I1
 go_wp2
 go_loopw [20,21] (λi j wr=>∃ (p q:Nat),i=.int .i64 p/\j=.int .i64 q/\lo<=p/\p<=q/\q<=hi/\Hid (Srt.bs (λc=>!decide (Srt.yw key xs (N - 1 - c) < Srt.yw key xs c)) p q=Srt.bs (λc=>!decide (Srt.yw key xs (N - 1 - c) < Srt.yw key xs c)) lo hi)/\Hid (kD.kR 3 kD.int wr (.slice (some ⟨b,0,none⟩) n cap) xs S)/\Hid (Touch S w wr)) (λi j _=>(Ab j).toNat - (Ab i).toNat)
 case atStart=>exact ⟨lo,hi,rfl,rfl,Nat.le_refl _,by omega,Nat.le_refl _,yD rfl,F,dq⟩
 obtain ⟨p,q,rfl,rfl,cf,cv,de,HB,R,am⟩:=hrel
 have bf:=Aa p
 have c9:(q:Int)<=hi:=bC9
 by_cases hlt:p < q
 · have a6:(p:Int) < q:=bC9;obtain ⟨h,hh⟩:∃ h,(p + q) / 2=h:=⟨_,rfl⟩;obtain ⟨db,df,c8,da⟩:=A8;obtain ⟨HY,a4⟩:=CY;obtain ⟨u,hu⟩:∃ u,N - 1 - h=u:=⟨_,rfl⟩;obtain ⟨ul,hl,dc,d5,eb,d2,d4⟩:=GI;have HK:Hid ((λc=>!decide (Srt.yw key xs (N - 1 - c) < Srt.yw key xs c)) h=!decide (key (xs[u]'ul) < key (xs[h]'hl))):=yD bL;obtain ⟨bm,pr,av⟩:=kD.at1 R.out.kBc ul rfl;obtain ⟨aq,af⟩:=kD.jY pr;obtain rfl:bm=_:=by simpa using aq
   clear aq af;obtain ⟨ae,qr,ad⟩:=kD.at1 R.out.kBc hl rfl;obtain ⟨Z,ac⟩:=kD.jY qr;obtain rfl:ae=_:=by simpa using Z
   clear Z ac;generalize xs[u]=x at *;generalize xs[h]=y at *;go_upto_region 35 with fail;have FX:=yD (λ(W:Ac) (hW:Qb wr W)=>kIk hW av ad);refine kM (λW=>Qb wr W) [Tt,Tt,Tt,Tt,Tt,Tt,Tt,Tt,Tt,Tt,Tt,Ff,Tt,Tt] bC3 bC3 pK (bR.drew) ?_;intro wS E;iterate 11
    all_goals refine ku ?_
   all_goals first|(refine kI rfl E ?_)|(refine kw rfl (λK H=>?_);go_simp;refine (aw.out _ (am.out.trans (Touch.of_below E)) _ _ _ _ (kD.raw.below pr E) (kD.raw.below qr E)).mono ?_;rintro e wS1 ⟨kk,rfl,bq,ab⟩;replace E:=(tQ E ab);refine H _ _ E ?_;clear H K ab)
   all_goals refine jF ?_
   all_goals refine ku ?_
   all_goals (refine jy λb G=>?_;cases b <;> try simp only [jw] at G)
   all_goals refine kS ?_
   all_goals have a3:=yD (am.out.trans (Touch.of_below E))
   all_goals have bt:=yD (R.out.below E)
   all_goals first
     | (have U:=yD (show _=true from HK.out.trans qN);have a1:=yD (HY.out U.out);clear HY a4 HK U bq G;go_wp2;go_roundw;(case rel=>exact ⟨h + 1,q,by go_num,rfl,by omega,by omega,by omega,a1,bt,a3⟩);(case measure=>simp [Ab];omega))
     | (have U:=yD (show _=false from HK.out.trans qN);have a1:=yD (a4.out U.out);clear HY a4 HK U bq G;go_wp2;go_roundw;(case rel=>exact ⟨p,h,rfl,rfl,by omega,by omega,by omega,a1,bt,a3⟩);(case measure=>simp [Ab];omega))
 obtain rfl:q=p:=bC9
 obtain ⟨c5,HE⟩:=GJ
 rw [ai.out,a5.out] at HE
 obtain ⟨e,he⟩:∃ e,N - q=e:=⟨_,rfl⟩
 have c7:(N:Int) - (q:Int)=(e:Int):=bC9
 have d8:IntKind.i64.wrap (e:Int)=e:=Ag _ bC9
 have dz:m<=e:=bC9
 have d6:e<=z:=bC9
 have d1:q<=m:=bC9
 have d3:a<=q:=bC9
 have ec:=Aa e
 obtain ⟨y,hy⟩:∃ y,y=if q < m/\m < e then Srt.rot m (m - q) (e - m) xs else xs:=⟨_,rfl⟩
 obtain ⟨u,hu⟩:∃ u,u=if a < q/\q < mid then Srt.symm key f a q mid y else y:=⟨_,rfl⟩
 have HF:=yD (symm_C (key:=key) (f:=f) c1 c2 D hN HE.out he hy hu)
 have br:Hid (n=y.length):=yD fA
 have co:Hid (n=u.length):=yD fF
 have HY:=yD hy;have HU:=yD hu;clear hy hu HB HE ai a5 D hN
 go_upto_region 39 with fail
 go_cut [185] from 178 to 185 (λsb wc=>sb=.bool (decide (q < m) && decide (m < e))/\Hid (kD.kR 3 kD.int wc (.slice (some ⟨b,0,none⟩) n cap) xs S)/\Hid (Touch S w wc))
 case first =>
  exact oZ
 obtain ⟨rfl,be,a9⟩:=hcut
 have al:=yD (kBb aw.out a9.out)
 go_upto_if 185 with fail
 go_cut [] from 178 to 185 (λwc=>Hid (kD.kR 3 kD.int wc (.slice (some ⟨b,0,none⟩) n cap) y S)/\Hid (Touch S w wc))
 case first =>
  by_cases g:q < m/\m < e
  · have hb:(decide (q < m) && decide (m < e))=true:=mE;simp only [hb];go_wp2_with fail;refine (rot_int_c be.out bb.out vQ (a:=q) (m:=m) (z:=e) g.1 g.2 vP).mono ?_;exact p8
  exact pQ
 obtain ⟨bc,a8⟩:=hcut
 go_upto_region 41 with fail
 go_cut [199] from 192 to 199 (λsb wc=>sb=.bool (decide (a < q) && decide (q < mid))/\Hid (kD.kR 3 kD.int wc (.slice (some ⟨b,0,none⟩) n cap) y S)/\Hid (Touch S w wc))
 case first =>
  exact q8
 obtain ⟨rfl,a2,ba⟩:=hcut
 have al:=yD (kBb aw.out ba.out)
 go_upto_if 199 with fail
 go_cut [] from 192 to 199 (λwc=>Hid (kD.kR 3 kD.int wc (.slice (some ⟨b,0,none⟩) n cap) u S)/\Hid (Touch S w wc))
 case first =>
  exact q9
 obtain ⟨ax,b1⟩:=hcut
 go_upto_region 43 with fail
 go_cut [213] from 206 to 213 (λsb wc=>sb=.bool (decide (mid < e) && decide (e < z))/\Hid (kD.kR 3 kD.int wc (.slice (some ⟨b,0,none⟩) n cap) u S)/\Hid (Touch S w wc))
 case first =>
  exact qD
 obtain ⟨rfl,bp,b0⟩:=hcut
 have al:=yD (kBb aw.out b0.out)
 exact qG
def kTx {b n cap:Nat} {S:Nat->Prop} {g:Ae} {cp:Array Value} (key:Int->Int) (hg:jI prog g):∀ (f:Nat),(∀ {w:Ac} {a m z:Nat} {xs:Ad Int} (ag:kEo key g cp S w) (h:kD.kR 3 kD.int w (.slice (some ⟨b,0,none⟩) n cap) xs S) (hn:n=xs.length) (hlen:xs.length<=16777216) (b3:a < m) (bx:m < z) (hz:z<=xs.length) (hf:z - a<=f),Calls prog 183 #[.slice (some ⟨b,0,none⟩) n cap,.int .i64 (a:Nat),.int .i64 (m:Nat),.int .i64 (z:Nat),.func (.func g) #[] cp] w λe w'=>e=.returned (.tuple #[])/\kD.kR 3 kD.int w' (.slice (some ⟨b,0,none⟩) n cap) (Srt.symm key f a m z xs) S/\Touch S w w'):=by
 intro f;induction f with
 | zero=>intro w a m z xs ag h hn hlen b3 bx hz hf;omega
 | succ f ih =>
   intro w a m z xs ag h hn hlen b3 bx hz hf;by_cases c1:m - a=1
   · exact symmA_int_c key hg f ag h hn hlen b3 bx hz hf c1
   · by_cases c2:z - m=1
     · exact symmB_int_c key hg f ag h hn hlen b3 bx hz hf c1 c2
     · exact symmC_int_c key hg f ih ag h hn hlen b3 bx hz hf c1 c2
end Go.Proofs.YtonmjkmaadgceabGreat

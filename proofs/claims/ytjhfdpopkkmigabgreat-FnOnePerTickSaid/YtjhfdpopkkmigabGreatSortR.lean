/-
  The stable sort: the merge in place.
-/
import Derived.Test.YtjhfdpopkkmigabGreatSortA
set_option linter.unusedVariables false
set_option linter.defProp false
set_option linter.unusedSimpArgs false
set_option linter.unnecessarySimpa false
set_option maxRecDepth 100000
set_option maxHeartbeats 8000000
open Bool renaming true->Tt,false->Ff
open Int renaming natCast_nonneg->Aa
open List.cons renaming injEq->Ab
open Go.RowKit renaming intOf->Ac
open Go renaming World->Ad,FuncId->Ah,Value->Ak,Calls->Al
open Go.IntWalk renaming i64_in->Ae
open _root_ renaming List->Ag,Array->Aj
open Go.IntKind renaming i64->Ai
namespace Go.Proofs.YtjhfdpopkkmigabGreat
open Go.RowKit _root_.Go.Proofs.Tryz
def kBl {key:Int->Int} {g:Ah} {cp:Aj Ak} {S:Nat->Prop} {w w':Ad} (h:kFg key g cp S w) (t:Touch S w w'):kFg key g cp S w':=λwr E=>h wr (t.trans E)
def kAo {key:jA->Int} {g:Ah} {cp:Aj Ak} {S:Nat->Prop} {w w':Ad} (h:kBs key g cp S w) (t:Touch S w w'):kBs key g cp S w':=λwr E=>h wr (t.trans E)
def kSs {p:Nat->Bool} {i j h:Nat} (D:i < j) (hh:(i + j) / 2=h) (q:p h=true):Srt.bs p i j=Srt.bs p (h + 1) j:=by
 subst hh;rw [Srt.bs,dif_pos D,if_pos q]
def bs_no {p:Nat->Bool} {i j h:Nat} (D:i < j) (hh:(i + j) / 2=h) (q:p h=false):Srt.bs p i j=Srt.bs p i h:=by
 subst hh;rw [Srt.bs,dif_pos D,if_neg (by rw [q];exact Bool.false_ne_true)]
def kSt {p:Nat->Bool} {i j:Nat} (D:¬ i < j):Srt.bs p i j=i:=by rw [Srt.bs,dif_neg D]
def up_next {α:Type} {k t:Nat} {cu:Ag α} (h:k < t):Srt.up (t - k) k cu=Srt.up (t - (k + 1)) (k + 1) (Srt.sw cu k (k + 1)):=by
 rw [show t - k=(t - (k + 1)) + 1 by omega,Srt.up]
def up_end {α:Type} {k t:Nat} {cu:List α} (h:¬ k < t):Srt.up (t - k) k cu=cu:=by rw [show t - k=0 by omega,Srt.up]
def jAi {α:Type} {i k j:Nat} {cu:Ag α} (hk:k + 1=j) (h:i < j):Srt.down i j cu=Srt.down i k (Srt.sw cu j k):=by
 subst hk;rw [Srt.down,if_pos h]
def down_end {α:Type} {i j:Nat} {cu:Ag α} (h:¬ i < j):Srt.down i j cu=cu:=by
 cases j with
 | zero=>rfl
 | succ j=>rw [Srt.down,if_neg h]
def symm_A {α:Type} {key:α->Int} {f a m z:Nat} {xs:Ag α} (h:m - a=1):Srt.symm key (f + 1) a m z xs=Srt.up (Srt.bs (λh=>decide (Srt.zJ key xs h < Srt.zJ key xs a)) m z - 1 - a) a xs:=by
 rw [Srt.symm,if_pos h]
def symm_B {α:Type} {key:α->Int} {f a m z:Nat} {xs:Ag α} (h:¬ m - a=1) (h2:z - m=1):Srt.symm key (f + 1) a m z xs=Srt.down (Srt.bs (λh=>!decide (Srt.zJ key xs m < Srt.zJ key xs h)) a m) m xs:=by
 rw [Srt.symm,if_neg h,if_pos h2]
def symm_C {α:Type} {key:α->Int} {f a m z mid N s e:Nat} {xs y u:Ag α} (h:¬ m - a=1) (h2:¬ z - m=1) (al:(a + z) / 2=mid) (hN:mid + m=N)
    (hs:s=Srt.bs (λc=>!decide (Srt.zJ key xs (N - 1 - c) < Srt.zJ key xs c)) (if mid < m then N - z else a) (if mid < m then mid else m)) (he:N - s=e)
    (hy:y=if s < m/\m < e then Srt.rot m (m - s) (e - m) xs else xs) (hu:u=if a < s/\s < mid then Srt.symm key f a s mid y else y) :
    Srt.symm key (f + 1) a m z xs=if mid < e/\e < z then Srt.symm key f mid e z u else u:=by
 rw [Srt.symm,if_neg h,if_neg h2]
 simp only
 rw [al,hN,<- hs,he,<- hy,<- hu]
def symmA_int_c {b n cap:Nat} {S:Nat->Prop} {g:Ah} {cp:Aj Ak} (key:Int->Int) (hg:jK prog g) (f:Nat) {w:Ad} {a m z:Nat} {xs:Ag Int} (F:kFg key g cp S w) (h:kD.kQ 3 kD.int w (.slice (some ⟨b,0,none⟩) n cap) xs S) (hn:n=xs.length) (hlen:xs.length<=16777216) (b4:a < m) (bi:m < z) (hz:z<=xs.length) (hf:z - a<=f + 1) (c1:m - a=1) :
    Al prog 199 #[.slice (some ⟨b,0,none⟩) n cap,.int .i64 (a:Nat),.int .i64 (m:Nat),.int .i64 (z:Nat),.func (.func g) #[] cp] w λe w'=>e=.returned (.tuple #[])/\kD.kQ 3 kD.int w' (.slice (some ⟨b,0,none⟩) n cap) (Srt.symm key (f + 1) a m z xs) S/\Touch S w w':=by
 have au:=yD F
 unfold jK at hg
 obtain ⟨I,bc,cc⟩:=CZ
 clear h F
 obtain ⟨bk,bo,cw,bf⟩:=CK
 clear hlen hz hn
 obtain ⟨cl,c4,c3,cm,de,L,a9⟩:=xN
 go_enter func199,ntmps199
 have HF:=yD (symm_A (key:=key) (f:=f) (z:=z) (xs:=xs) c1)
 have O:(m:Int) - (a:Int)=1:=bH3
 clear L a9
 go_wp2
 go_loopw [10,11] (λi j wr=>∃ (p q:Nat),i=.int .i64 p/\j=.int .i64 q/\m<=p/\p<=q/\q<=z/\Hid (Srt.bs (λh=>decide (Srt.zJ key xs h < Srt.zJ key xs a)) p q=Srt.bs (λh=>decide (Srt.zJ key xs h < Srt.zJ key xs a)) m z)/\Hid (kD.kQ 3 kD.int wr (.slice (some ⟨b,0,none⟩) n cap) xs S)/\Hid (Touch S w wr)) (λi j _=>(Ac j).toNat - (Ac i).toNat)
 case atStart=>exact ⟨m,z,rfl,rfl,Nat.le_refl _,by omega,Nat.le_refl _,yD rfl,I,cc⟩
 obtain ⟨p,q,rfl,rfl,ck,cv,df,HB,R,aa⟩:=hrel
 have bd:=Aa p
 have da:(q:Int)<=z:=bH3
 by_cases hlt:p < q
 · have be:(p:Int) < q:=bH3;obtain ⟨h,hh⟩:∃ h,(p + q) / 2=h:=⟨_,rfl⟩;obtain ⟨dc,dg,c7,db⟩:=AJ;obtain ⟨HY,a4,hl,al,dd,c2⟩:=D8;have HK:Hid ((λh=>decide (Srt.zJ key xs h < Srt.zJ key xs a)) h=decide (key (xs[h]'hl) < key (xs[a]'al))):=yD mJ;obtain ⟨bm,pr,aq⟩:=kD.at1 R.out.kBi hl rfl;obtain ⟨aw,ae⟩:=kD.je pr;obtain rfl:bm=_:=by simpa using aw
   clear aw ae;obtain ⟨Y,qr,J⟩:=kD.at1 R.out.kBi al rfl;obtain ⟨G,ac⟩:=kD.je qr;obtain rfl:Y=_:=by simpa using G
   clear G ac;generalize xs[h]=x at *;generalize xs[a]=y at *;go_upto_region 5 with fail;have FX:=yD (λ(W:Ad) (hW:Qb wr W)=>kIz hW aq J);refine kK (λW=>Qb wr W) [Tt,Tt,Tt,Tt,Tt,Tt,Tt,Tt,Tt,Ff,Tt] bG6 bG6 qY (bR.drew) ?_;intro wS E;iterate 9
    all_goals refine ky ?_
   all_goals first|(refine kJ rfl E ?_)|(refine kw rfl (λK H=>?_);go_simp;refine (au.out _ (aa.out.trans (Touch.of_below E)) _ _ _ _ (kD.raw.below pr E) (kD.raw.below qr E)).mono ?_;rintro e wS1 ⟨kk,rfl,bn,Z⟩;replace E:=(tQ E Z);refine H _ _ E ?_;clear H K Z)
   all_goals refine jG ?_
   all_goals (refine jy λb ad=>?_;cases b <;> try simp only [jw] at ad)
   all_goals refine kS ?_
   all_goals have ay:=yD (aa.out.trans (Touch.of_below E))
   all_goals have bv:=yD (R.out.below E)
   all_goals first
     | (have X:=yD (show _=true from HK.out.trans rW);have ax:=yD (HY.out X.out);clear HY a4 HK X bn ad;go_wp2;go_roundw;(case rel=>exact ⟨h + 1,q,by go_num,rfl,by omega,by omega,by omega,ax,bv,ay⟩);(case measure=>simp [Ac];omega))
     | (have X:=yD (show _=false from HK.out.trans rW);have ax:=yD (a4.out X.out);clear HY a4 HK X bn ad;go_wp2;go_roundw;(case rel=>exact ⟨p,h,rfl,rfl,by omega,by omega,by omega,ax,bv,ay⟩);(case measure=>simp [Ac];omega))
 obtain rfl:q=p:=bH3
 obtain ⟨cz,HE⟩:=IR
 obtain ⟨t,ht⟩:∃ t,q - 1=t:=⟨_,rfl⟩
 obtain ⟨ch,af,ap,an,D,bh⟩:=FN
 go_wp2
 go_loopw [13] (λi wr=>∃ (k:Nat) (cu:Ag Int),i=.int .i64 k/\a<=k/\k<=t/\Hid (Srt.up (t - k) k cu=Srt.up (t - a) a xs)/\Hid (cu.length=n)/\Hid (kD.kQ 3 kD.int wr (.slice (some ⟨b,0,none⟩) n cap) cu S)/\Hid (Touch S w wr)) (λi _=>t - (Ac i).toNat)
 case atStart=>exact ⟨a,xs,rfl,Nat.le_refl _,af,yD rfl,yD bc.out.symm,R,aa⟩
 obtain ⟨k,cu,rfl,di,dh,HG,HL,ai,b7⟩:=hrel
 have ce:=Aa k
 by_cases hlt:k < t
 · have be:(k:Int) < t:=bH3;have b6:=yD ((up_next (cu:=cu) hlt).symm.trans HG.out);obtain ⟨j,hj⟩:∃ j,k + 1=j:=⟨_,rfl⟩;rw [hj] at b6;have c8:(k:Int) + 1=(j:Int):=bH3;obtain ⟨c6,bz⟩:=CB;have aj:j < cu.length:=bB3;have hkl:k < cu.length:=bH3;have c9:(j:Int) < n:=bH3;have co:(k:Int) < n:=bH3;obtain ⟨bm,pr,aq⟩:=kD.at1 ai.out.kBi hkl rfl;obtain ⟨aw,ae⟩:=kD.je pr;obtain rfl:bm=_:=by simpa using aw
   clear aw ae;obtain ⟨Y,qr,J⟩:=kD.at1 ai.out.kBi aj rfl;obtain ⟨G,ac⟩:=kD.je qr;obtain rfl:Y=_:=by simpa using G
   clear G ac;generalize cu[k]=x at *;generalize cu[j]=y at *;go_upto_region 11 with fail;exact oZ
 exact q8
def symmB_int_c {b n cap:Nat} {S:Nat->Prop} {g:Ah} {cp:Aj Ak} (key:Int->Int) (hg:jK prog g) (f:Nat) {w:Ad} {a m z:Nat} {xs:Ag Int} (F:kFg key g cp S w) (h:kD.kQ 3 kD.int w (.slice (some ⟨b,0,none⟩) n cap) xs S) (hn:n=xs.length) (hlen:xs.length<=16777216) (b4:a < m) (bi:m < z) (hz:z<=xs.length) (hf:z - a<=f + 1) (c1:¬ m - a=1) (c2:z - m=1) :
    Al prog 199 #[.slice (some ⟨b,0,none⟩) n cap,.int .i64 (a:Nat),.int .i64 (m:Nat),.int .i64 (z:Nat),.func (.func g) #[] cp] w λe w'=>e=.returned (.tuple #[])/\kD.kQ 3 kD.int w' (.slice (some ⟨b,0,none⟩) n cap) (Srt.symm key (f + 1) a m z xs) S/\Touch S w w':=by
 have au:=yD F
 unfold jK at hg
 obtain ⟨I,bc,cc⟩:=CZ
 clear h F
 obtain ⟨bk,bo,cw,bf⟩:=CK
 clear hlen hz hn
 obtain ⟨cl,c4,c3,cm,de,L,a9⟩:=xN
 go_enter func199,ntmps199
 have HF:=yD (symm_B (key:=key) (f:=f) (xs:=xs) c1 c2)
 have O:(z:Int) - (m:Int)=1:=bH3
 obtain ⟨af,ap⟩:=FY
 obtain ⟨ma,ch⟩:∃ ma,m - a=ma:=⟨_,rfl⟩
 rw [ch] at L ap
 have c5:Ai.wrap (ma:Int)=ma:=Ae _ bH3
 clear a9
 go_wp2
 go_loopw [14,15] (λi j wr=>∃ (p q:Nat),i=.int .i64 p/\j=.int .i64 q/\a<=p/\p<=q/\q<=m/\Hid (Srt.bs (λh=>!decide (Srt.zJ key xs m < Srt.zJ key xs h)) p q=Srt.bs (λh=>!decide (Srt.zJ key xs m < Srt.zJ key xs h)) a m)/\Hid (kD.kQ 3 kD.int wr (.slice (some ⟨b,0,none⟩) n cap) xs S)/\Hid (Touch S w wr)) (λi j _=>(Ac j).toNat - (Ac i).toNat)
 case atStart=>exact ⟨a,m,rfl,rfl,Nat.le_refl _,by omega,Nat.le_refl _,yD rfl,I,cc⟩
 obtain ⟨p,q,rfl,rfl,ck,cv,df,HB,R,aa⟩:=hrel
 have bd:=Aa p
 have da:(q:Int)<=m:=bH3
 by_cases hlt:p < q
 · have be:(p:Int) < q:=bH3;obtain ⟨h,hh⟩:∃ h,(p + q) / 2=h:=⟨_,rfl⟩;obtain ⟨dc,dg,c7,db⟩:=AJ;obtain ⟨HY,a4,hl,ml,dd,ad⟩:=D6;have HK:Hid ((λh=>!decide (Srt.zJ key xs m < Srt.zJ key xs h)) h=!decide (key (xs[m]'ml) < key (xs[h]'hl))):=yD mK;obtain ⟨bm,pr,aq⟩:=kD.at1 R.out.kBi ml rfl;obtain ⟨aw,ae⟩:=kD.je pr;obtain rfl:bm=_:=by simpa using aw
   clear aw ae;obtain ⟨Y,qr,J⟩:=kD.at1 R.out.kBi hl rfl;obtain ⟨G,ac⟩:=kD.je qr;obtain rfl:Y=_:=by simpa using G
   clear G ac;generalize xs[m]=x at *;generalize xs[h]=y at *;go_upto_region 17 with fail;have FX:=yD (λ(W:Ad) (hW:Qb wr W)=>kIz hW aq J);refine kK (λW=>Qb wr W) [Tt,Tt,Tt,Tt,Tt,Tt,Tt,Tt,Tt,Ff,Tt,Tt] bG6 bG6 qY (bR.drew) ?_;intro wS E;iterate 9
    all_goals refine ky ?_
   all_goals first|(refine kJ rfl E ?_)|(refine kw rfl (λK H=>?_);go_simp;refine (au.out _ (aa.out.trans (Touch.of_below E)) _ _ _ _ (kD.raw.below pr E) (kD.raw.below qr E)).mono ?_;rintro e wS1 ⟨kk,rfl,bn,Z⟩;replace E:=(tQ E Z);refine H _ _ E ?_;clear H K Z)
   all_goals refine jG ?_
   all_goals refine ky ?_
   all_goals (refine jy λb an=>?_;cases b <;> try simp only [jw] at an)
   all_goals refine kS ?_
   all_goals have ay:=yD (aa.out.trans (Touch.of_below E))
   all_goals have bv:=yD (R.out.below E)
   all_goals first
     | (have X:=yD (show _=true from HK.out.trans rX);have ax:=yD (HY.out X.out);clear HY a4 HK X bn an;go_wp2;go_roundw;(case rel=>exact ⟨h + 1,q,by go_num,rfl,by omega,by omega,by omega,ax,bv,ay⟩);(case measure=>simp [Ac];omega))
     | (have X:=yD (show _=false from HK.out.trans rX);have ax:=yD (a4.out X.out);clear HY a4 HK X bn an;go_wp2;go_roundw;(case rel=>exact ⟨p,h,rfl,rfl,by omega,by omega,by omega,ax,bv,ay⟩);(case measure=>simp [Ac];omega))
 obtain rfl:q=p:=bH3
 obtain ⟨cz,HE,bh⟩:=EP
 go_wp2
 go_loopw [17] (λi wr=>∃ (k:Nat) (cu:Ag Int),i=.int .i64 k/\q<=k/\k<=m/\Hid (Srt.down q k cu=Srt.down q m xs)/\Hid (cu.length=n)/\Hid (kD.kQ 3 kD.int wr (.slice (some ⟨b,0,none⟩) n cap) cu S)/\Hid (Touch S w wr)) (λi _=>(Ac i).toNat)
 case atStart=>exact ⟨m,xs,rfl,by omega,Nat.le_refl _,yD rfl,yD bc.out.symm,R,aa⟩
 obtain ⟨k,cu,rfl,di,dh,HG,HL,ai,b7⟩:=hrel
 have ce:=Aa k
 by_cases hlt:q < k
 · have be:(q:Int) < k:=bH3;have D:decide ((k:Int) > q)=true:=bG7;obtain ⟨j,hj⟩:∃ j,j + 1=k:=⟨k - 1,by omega⟩;have b6:=yD ((jAi (cu:=cu) hj hlt).symm.trans HG.out);have c8:(k:Int) - 1=(j:Int):=bH3;obtain ⟨c6,bz⟩:=CB;have hkl:k < cu.length:=bB3;have aj:j < cu.length:=bH3;have c9:(j:Int) < n:=bH3;have co:(k:Int) < n:=bH3;obtain ⟨bm,pr,aq⟩:=kD.at1 ai.out.kBi hkl rfl;obtain ⟨aw,ae⟩:=kD.je pr;obtain rfl:bm=_:=by simpa using aw
   clear aw ae;obtain ⟨Y,qr,J⟩:=kD.at1 ai.out.kBi aj rfl;obtain ⟨G,ac⟩:=kD.je qr;obtain rfl:Y=_:=by simpa using G
   clear G ac;generalize cu[k]=x at *;generalize cu[j]=y at *;go_upto_region 23 with fail;exact oZ
 exact q9
def symmC_int_c {b n cap:Nat} {S:Nat->Prop} {g:Ah} {cp:Aj Ak} (key:Int->Int) (hg:jK prog g) (f:Nat) (ih:(∀ {w:Ad} {a m z:Nat} {xs:Ag Int} (F:kFg key g cp S w) (h:kD.kQ 3 kD.int w (.slice (some ⟨b,0,none⟩) n cap) xs S) (hn:n=xs.length) (hlen:xs.length<=16777216) (b4:a < m) (bi:m < z) (hz:z<=xs.length) (hf:z - a<=f),Al prog 199 #[.slice (some ⟨b,0,none⟩) n cap,.int .i64 (a:Nat),.int .i64 (m:Nat),.int .i64 (z:Nat),.func (.func g) #[] cp] w λe w'=>e=.returned (.tuple #[])/\kD.kQ 3 kD.int w' (.slice (some ⟨b,0,none⟩) n cap) (Srt.symm key f a m z xs) S/\Touch S w w')) {w:Ad} {a m z:Nat} {xs:Ag Int} (F:kFg key g cp S w) (h:kD.kQ 3 kD.int w (.slice (some ⟨b,0,none⟩) n cap) xs S) (hn:n=xs.length) (hlen:xs.length<=16777216) (b4:a < m) (bi:m < z) (hz:z<=xs.length) (hf:z - a<=f + 1) (c1:¬ m - a=1) (c2:¬ z - m=1) :
    Al prog 199 #[.slice (some ⟨b,0,none⟩) n cap,.int .i64 (a:Nat),.int .i64 (m:Nat),.int .i64 (z:Nat),.func (.func g) #[] cp] w λe w'=>e=.returned (.tuple #[])/\kD.kQ 3 kD.int w' (.slice (some ⟨b,0,none⟩) n cap) (Srt.symm key (f + 1) a m z xs) S/\Touch S w w':=by
 have au:=yD F
 have ce:=yD (λ(w:Ad) (a m z:Nat) (xs:Ag Int)=>ih (w:=w) (a:=a) (m:=m) (z:=z) (xs:=xs));clear ih
 unfold jK at hg
 obtain ⟨I,bc,cc⟩:=CZ
 clear h F
 obtain ⟨bk,bo,cw,bf⟩:=CK
 clear hlen hz hn
 obtain ⟨cl,c4,c3,cm,de,L,a9⟩:=xN
 go_enter func199,ntmps199
 obtain ⟨mid,al⟩:∃ mid,(a + z) / 2=mid:=⟨_,rfl⟩
 have c9:((a:Int) + (z:Int)) / 2=(mid:Int):=bH3
 obtain ⟨N,hN⟩:∃ N,mid + m=N:=⟨_,rfl⟩
 have ee:(mid:Int) + (m:Int)=(N:Int):=bH3
 obtain ⟨af,ap⟩:=FY
 have ad:¬ (z:Int) - (m:Int)=1:=bH3
 have bh:(((z - m:Nat):Int)==1)=false:=bG7
 have d0:m - a<=16777216:=bH3
 have d1:z - m<=16777216:=bH3
 obtain ⟨ma,ch⟩:∃ ma,m - a=ma:=⟨_,rfl⟩
 rw [ch] at L ap
 obtain ⟨zm,dm⟩:∃ zm,z - m=zm:=⟨_,rfl⟩
 rw [dm] at a9 bh
 obtain ⟨c5,dw,U,dh,d4,eb,co,dq⟩:=EM
 obtain ⟨lo,ai⟩:∃ lo,lo=(if mid < m then N - z else a):=⟨_,rfl⟩
 obtain ⟨hi,o⟩:∃ hi,hi=(if mid < m then mid else m):=⟨_,rfl⟩
 have dl:lo<=hi:=by rw [ai,o];split <;> omega
 have dr:a<=lo:=wB
 have c8:hi<=m:=wI
 have di:hi<=mid:=wI
 have dx:N<=z + lo:=wB
 have dz:m + hi<=N:=wI
 have bu:=yD ai;have b0:=yD o;clear ai o
 go_upto_if 140 with fail
 go_cut [20,21] from 138 to 140 (λdp c6 wc=>dp=.int .i64 (lo:Nat)/\c6=.int .i64 (hi:Nat)/\Hid (kD.kQ 3 kD.int wc (.slice (some ⟨b,0,none⟩) n cap) xs S)/\Hid (Touch S w wc))
 case first =>
  exact r9
 obtain ⟨rfl,rfl,ab,dn⟩:=hcut
 clear I cc
 obtain ⟨N1,ed⟩:∃ N1,N - 1=N1:=⟨_,rfl⟩
 obtain ⟨du,dt,dv,d2,dy⟩:=J5
 go_wp2
 go_loopw [20,21] (λi j wr=>∃ (p q:Nat),i=.int .i64 p/\j=.int .i64 q/\lo<=p/\p<=q/\q<=hi/\Hid (Srt.bs (λc=>!decide (Srt.zJ key xs (N - 1 - c) < Srt.zJ key xs c)) p q=Srt.bs (λc=>!decide (Srt.zJ key xs (N - 1 - c) < Srt.zJ key xs c)) lo hi)/\Hid (kD.kQ 3 kD.int wr (.slice (some ⟨b,0,none⟩) n cap) xs S)/\Hid (Touch S w wr)) (λi j _=>(Ac j).toNat - (Ac i).toNat)
 case atStart=>exact ⟨lo,hi,rfl,rfl,Nat.le_refl _,by omega,Nat.le_refl _,yD rfl,ab,dn⟩
 obtain ⟨p,q,rfl,rfl,ck,cv,df,HB,R,aa⟩:=hrel
 have bd:=Aa p
 have da:(q:Int)<=hi:=bH3
 by_cases hlt:p < q
 · have be:(p:Int) < q:=bH3;obtain ⟨h,hh⟩:∃ h,(p + q) / 2=h:=⟨_,rfl⟩;obtain ⟨dc,dg,c7,db⟩:=AJ;obtain ⟨HY,a4⟩:=DU;obtain ⟨u,hu⟩:∃ u,N - 1 - h=u:=⟨_,rfl⟩;obtain ⟨ul,hl,dd,d9,ef,d6,d8⟩:=I6;have HK:Hid ((λc=>!decide (Srt.zJ key xs (N - 1 - c) < Srt.zJ key xs c)) h=!decide (key (xs[u]'ul) < key (xs[h]'hl))):=yD bP;obtain ⟨bm,pr,aq⟩:=kD.at1 R.out.kBi ul rfl;obtain ⟨aw,ae⟩:=kD.je pr;obtain rfl:bm=_:=by simpa using aw
   clear aw ae;obtain ⟨Y,qr,J⟩:=kD.at1 R.out.kBi hl rfl;obtain ⟨G,ac⟩:=kD.je qr;obtain rfl:Y=_:=by simpa using G
   clear G ac;generalize xs[u]=x at *;generalize xs[h]=y at *;go_upto_region 35 with fail;have FX:=yD (λ(W:Ad) (hW:Qb wr W)=>kIz hW aq J);refine kK (λW=>Qb wr W) [Tt,Tt,Tt,Tt,Tt,Tt,Tt,Tt,Tt,Tt,Tt,Ff,Tt,Tt] bG6 bG6 qY (bR.drew) ?_;intro wS E;iterate 11
    all_goals refine ky ?_
   all_goals first|(refine kJ rfl E ?_)|(refine kw rfl (λK H=>?_);go_simp;refine (au.out _ (aa.out.trans (Touch.of_below E)) _ _ _ _ (kD.raw.below pr E) (kD.raw.below qr E)).mono ?_;rintro e wS1 ⟨kk,rfl,bn,Z⟩;replace E:=(tQ E Z);refine H _ _ E ?_;clear H K Z)
   all_goals refine jG ?_
   all_goals refine ky ?_
   all_goals (refine jy λb O=>?_;cases b <;> try simp only [jw] at O)
   all_goals refine kS ?_
   all_goals have ay:=yD (aa.out.trans (Touch.of_below E))
   all_goals have bv:=yD (R.out.below E)
   all_goals first
     | (have X:=yD (show _=true from HK.out.trans sK);have ax:=yD (HY.out X.out);clear HY a4 HK X bn O;go_wp2;go_roundw;(case rel=>exact ⟨h + 1,q,by go_num,rfl,by omega,by omega,by omega,ax,bv,ay⟩);(case measure=>simp [Ac];omega))
     | (have X:=yD (show _=false from HK.out.trans sK);have ax:=yD (a4.out X.out);clear HY a4 HK X bn O;go_wp2;go_roundw;(case rel=>exact ⟨p,h,rfl,rfl,by omega,by omega,by omega,ax,bv,ay⟩);(case measure=>simp [Ac];omega))
 obtain rfl:q=p:=bH3
 obtain ⟨cz,HE⟩:=IB
 rw [bu.out,b0.out] at HE
 obtain ⟨e,he⟩:∃ e,N - q=e:=⟨_,rfl⟩
 have dj:(N:Int) - (q:Int)=(e:Int):=bH3
 have ec:Ai.wrap (e:Int)=e:=Ae _ bH3
 have d3:m<=e:=bH3
 have ea:e<=z:=bH3
 have d5:q<=m:=bH3
 have d7:a<=q:=bH3
 have eg:=Aa e
 obtain ⟨y,hy⟩:∃ y,y=if q < m/\m < e then Srt.rot m (m - q) (e - m) xs else xs:=⟨_,rfl⟩
 obtain ⟨u,hu⟩:∃ u,u=if a < q/\q < mid then Srt.symm key f a q mid y else y:=⟨_,rfl⟩
 have HF:=yD (symm_C (key:=key) (f:=f) c1 c2 al hN HE.out he hy hu)
 have av:Hid (n=y.length):=yD fO
 have b9:Hid (n=u.length):=yD fZ
 have HY:=yD hy;have HU:=yD hu;clear hy hu HB HE bu b0 al hN
 go_upto_region 39 with fail
 go_cut [185] from 178 to 185 (λsb wc=>sb=.bool (decide (q < m) && decide (m < e))/\Hid (kD.kQ 3 kD.int wc (.slice (some ⟨b,0,none⟩) n cap) xs S)/\Hid (Touch S w wc))
 case first =>
  exact rC
 obtain ⟨rfl,bl,b6⟩:=hcut
 have bz:=yD (kBl au.out b6.out)
 go_upto_if 185 with fail
 go_cut [] from 178 to 185 (λwc=>Hid (kD.kQ 3 kD.int wc (.slice (some ⟨b,0,none⟩) n cap) y S)/\Hid (Touch S w wc))
 case first =>
  by_cases g:q < m/\m < e
  · have hb:(decide (q < m) && decide (m < e))=true:=nM;simp only [hb];go_wp2_with fail;refine (rot_int_c bl.out bc.out (by have:=bc.out;omega) (a:=q) (m:=m) (z:=e) g.1 g.2 bB4).mono ?_;exact rY
  exact rZ
 obtain ⟨aj,b5⟩:=hcut
 go_upto_region 41 with fail
 go_cut [199] from 192 to 199 (λsb wc=>sb=.bool (decide (a < q) && decide (q < mid))/\Hid (kD.kQ 3 kD.int wc (.slice (some ⟨b,0,none⟩) n cap) y S)/\Hid (Touch S w wc))
 case first =>
  exact sQ
 obtain ⟨rfl,ao,bg⟩:=hcut
 have bz:=yD (kBl au.out bg.out)
 go_upto_if 199 with fail
 go_cut [] from 192 to 199 (λwc=>Hid (kD.kQ 3 kD.int wc (.slice (some ⟨b,0,none⟩) n cap) u S)/\Hid (Touch S w wc))
 case first =>
  exact tV
 obtain ⟨a5,b2⟩:=hcut
 go_upto_region 43 with fail
 go_cut [213] from 206 to 213 (λsb wc=>sb=.bool (decide (mid < e) && decide (e < z))/\Hid (kD.kQ 3 kD.int wc (.slice (some ⟨b,0,none⟩) n cap) u S)/\Hid (Touch S w wc))
 case first =>
  exact uA
 obtain ⟨rfl,bx,b7⟩:=hcut
 have bz:=yD (kBl au.out b7.out)
 exact uB
def kVs {b n cap:Nat} {S:Nat->Prop} {g:Ah} {cp:Aj Ak} (key:Int->Int) (hg:jK prog g):∀ (f:Nat),(∀ {w:Ad} {a m z:Nat} {xs:Ag Int} (F:kFg key g cp S w) (h:kD.kQ 3 kD.int w (.slice (some ⟨b,0,none⟩) n cap) xs S) (hn:n=xs.length) (hlen:xs.length<=16777216) (b4:a < m) (bi:m < z) (hz:z<=xs.length) (hf:z - a<=f),Al prog 199 #[.slice (some ⟨b,0,none⟩) n cap,.int .i64 (a:Nat),.int .i64 (m:Nat),.int .i64 (z:Nat),.func (.func g) #[] cp] w λe w'=>e=.returned (.tuple #[])/\kD.kQ 3 kD.int w' (.slice (some ⟨b,0,none⟩) n cap) (Srt.symm key f a m z xs) S/\Touch S w w'):=by
 intro f;induction f with
 | zero=>intro w a m z xs F h hn hlen b4 bi hz hf;omega
 | succ f ih =>
   intro w a m z xs F h hn hlen b4 bi hz hf;by_cases c1:m - a=1
   · exact symmA_int_c key hg f F h hn hlen b4 bi hz hf c1
   · by_cases c2:z - m=1
     · exact symmB_int_c key hg f F h hn hlen b4 bi hz hf c1 c2
     · exact symmC_int_c key hg f ih F h hn hlen b4 bi hz hf c1 c2
def kYc {b n cap:Nat} {S:Nat->Prop} {g:Ah} {cp:Aj Ak} (key:jA->Int) (hg:jK prog g) (f:Nat) {w:Ad} {a m z:Nat} {xs:Ag jA} (F:kBs key g cp S w) (h:kD.kQ 144 kY w (.slice (some ⟨b,0,none⟩) n cap) xs S) (hn:n=xs.length) (hlen:xs.length<=16777216) (b4:a < m) (bi:m < z) (hz:z<=xs.length) (hf:z - a<=f + 1) (c1:m - a=1) :
    Al prog 197 #[.slice (some ⟨b,0,none⟩) n cap,.int .i64 (a:Nat),.int .i64 (m:Nat),.int .i64 (z:Nat),.func (.func g) #[] cp] w λe w'=>e=.returned (.tuple #[])/\kD.kQ 144 kY w' (.slice (some ⟨b,0,none⟩) n cap) (Srt.symm key (f + 1) a m z xs) S/\Touch S w w':=by
 have au:=yD F
 unfold jK at hg
 obtain ⟨I,bc,cc⟩:=CZ
 clear h F
 obtain ⟨bk,bo,cw,bf⟩:=CK
 clear hlen hz hn
 obtain ⟨cl,c4,c3,cm,de,L,a9⟩:=xN
 go_enter func197,ntmps197
 have HF:=yD (symm_A (key:=key) (f:=f) (z:=z) (xs:=xs) c1)
 have O:(m:Int) - (a:Int)=1:=bH3
 clear L a9
 go_wp2
 go_loopw [10,11] (λi j wr=>∃ (p q:Nat),i=.int .i64 p/\j=.int .i64 q/\m<=p/\p<=q/\q<=z/\Hid (Srt.bs (λh=>decide (Srt.zJ key xs h < Srt.zJ key xs a)) p q=Srt.bs (λh=>decide (Srt.zJ key xs h < Srt.zJ key xs a)) m z)/\Hid (kD.kQ 144 kY wr (.slice (some ⟨b,0,none⟩) n cap) xs S)/\Hid (Touch S w wr)) (λi j _=>(Ac j).toNat - (Ac i).toNat)
 case atStart=>exact ⟨m,z,rfl,rfl,Nat.le_refl _,by omega,Nat.le_refl _,yD rfl,I,cc⟩
 obtain ⟨p,q,rfl,rfl,ck,cv,df,HB,R,aa⟩:=hrel
 have bd:=Aa p
 have da:(q:Int)<=z:=bH3
 by_cases hlt:p < q
 · have be:(p:Int) < q:=bH3;obtain ⟨h,hh⟩:∃ h,(p + q) / 2=h:=⟨_,rfl⟩;obtain ⟨dc,dg,c7,db⟩:=AJ;obtain ⟨HY,a4,hl,al,dd,c2⟩:=D8;have HK:Hid ((λh=>decide (Srt.zJ key xs h < Srt.zJ key xs a)) h=decide (key (xs[h]'hl) < key (xs[a]'al))):=yD mJ;obtain ⟨bm,cf,cd,pr,aq,bq,bp⟩:=kD.at3 R.out.kBi hl rfl;obtain ⟨b8,aw,a7,bj,bw,b3⟩:=jS pr;simp only [Ab,and_true] at aw;obtain ⟨rfl,rfl,rfl⟩:=aw;obtain ⟨a2,a3,rfl,cg⟩:=kD.sl bj;clear a7 bj bw b3;obtain ⟨Y,ae,ah,qr,J,br,bt⟩:=kD.at3 R.out.kBi al rfl;obtain ⟨a6,G,ag,ak,am,ar⟩:=jS qr;simp only [Ab,and_true] at G;obtain ⟨rfl,rfl,rfl⟩:=G;obtain ⟨ac,az,rfl,a8⟩:=kD.sl ak;clear ag ak am ar;generalize xs[h]=x at *;generalize xs[a]=y at *;go_upto_region 5 with fail;have FX:=yD (λ(W:Ad) (hW:Qb wr W)=>kIy hW aq bq bp J br bt);refine kK (λW=>Qb wr W) [Tt,Tt,Tt,Tt,Tt,Tt,Tt,Tt,Tt,Ff,Tt] bG6 bG6 qY (bR.drew) ?_;intro wS E;iterate 9
    all_goals refine ky ?_
   all_goals first|(refine kJ rfl E ?_)|(refine kw rfl (λK H=>?_);go_simp;refine (au.out _ (aa.out.trans (Touch.of_below E)) _ _ _ _ (kD.raw.below pr E) (kD.raw.below qr E)).mono ?_;rintro e wS1 ⟨kk,rfl,bn,Z⟩;replace E:=(tQ E Z);refine H _ _ E ?_;clear H K Z)
   all_goals refine jG ?_
   all_goals (refine jy λb ad=>?_;cases b <;> try simp only [jw] at ad)
   all_goals refine kS ?_
   all_goals have ay:=yD (aa.out.trans (Touch.of_below E))
   all_goals have bv:=yD (R.out.below E)
   all_goals first
     | (have X:=yD (show _=true from HK.out.trans rW);have ax:=yD (HY.out X.out);clear HY a4 HK X bn ad;go_wp2;go_roundw;(case rel=>exact ⟨h + 1,q,by go_num,rfl,by omega,by omega,by omega,ax,bv,ay⟩);(case measure=>simp [Ac];omega))
     | (have X:=yD (show _=false from HK.out.trans rW);have ax:=yD (a4.out X.out);clear HY a4 HK X bn ad;go_wp2;go_roundw;(case rel=>exact ⟨p,h,rfl,rfl,by omega,by omega,by omega,ax,bv,ay⟩);(case measure=>simp [Ac];omega))
 obtain rfl:q=p:=bH3
 obtain ⟨cz,HE⟩:=IR
 obtain ⟨t,ht⟩:∃ t,q - 1=t:=⟨_,rfl⟩
 obtain ⟨ch,af,ap,an,D,bh⟩:=FN
 go_wp2
 go_loopw [13] (λi wr=>∃ (k:Nat) (cu:Ag jA),i=.int .i64 k/\a<=k/\k<=t/\Hid (Srt.up (t - k) k cu=Srt.up (t - a) a xs)/\Hid (cu.length=n)/\Hid (kD.kQ 144 kY wr (.slice (some ⟨b,0,none⟩) n cap) cu S)/\Hid (Touch S w wr)) (λi _=>t - (Ac i).toNat)
 case atStart=>exact ⟨a,xs,rfl,Nat.le_refl _,af,yD rfl,yD bc.out.symm,R,aa⟩
 obtain ⟨k,cu,rfl,di,dh,HG,HL,ai,b7⟩:=hrel
 have ce:=Aa k
 by_cases hlt:k < t
 · have be:(k:Int) < t:=bH3;have b6:=yD ((up_next (cu:=cu) hlt).symm.trans HG.out);obtain ⟨j,hj⟩:∃ j,k + 1=j:=⟨_,rfl⟩;rw [hj] at b6;have c8:(k:Int) + 1=(j:Int):=bH3;obtain ⟨c6,bz⟩:=CB;have aj:j < cu.length:=bB3;have hkl:k < cu.length:=bH3;have c9:(j:Int) < n:=bH3;have co:(k:Int) < n:=bH3;obtain ⟨bm,cf,cd,pr,aq,bq,bp⟩:=kD.at3 ai.out.kBi hkl rfl;obtain ⟨b8,aw,a7,bj,bw,b3⟩:=jS pr;simp only [Ab,and_true] at aw;obtain ⟨rfl,rfl,rfl⟩:=aw;obtain ⟨a2,a3,rfl,cg⟩:=kD.sl bj;clear a7 bj bw b3;obtain ⟨Y,ae,ah,qr,J,br,bt⟩:=kD.at3 ai.out.kBi aj rfl;obtain ⟨a6,G,ag,ak,am,ar⟩:=jS qr;simp only [Ab,and_true] at G;obtain ⟨rfl,rfl,rfl⟩:=G;obtain ⟨ac,az,rfl,a8⟩:=kD.sl ak;clear ag ak am ar;generalize cu[k]=x at *;generalize cu[j]=y at *;go_upto_region 11 with fail;exact x8
 exact q8
def kYb {b n cap:Nat} {S:Nat->Prop} {g:Ah} {cp:Aj Ak} (key:jA->Int) (hg:jK prog g) (f:Nat) {w:Ad} {a m z:Nat} {xs:Ag jA} (F:kBs key g cp S w) (h:kD.kQ 144 kY w (.slice (some ⟨b,0,none⟩) n cap) xs S) (hn:n=xs.length) (hlen:xs.length<=16777216) (b4:a < m) (bi:m < z) (hz:z<=xs.length) (hf:z - a<=f + 1) (c1:¬ m - a=1) (c2:z - m=1) :
    Al prog 197 #[.slice (some ⟨b,0,none⟩) n cap,.int .i64 (a:Nat),.int .i64 (m:Nat),.int .i64 (z:Nat),.func (.func g) #[] cp] w λe w'=>e=.returned (.tuple #[])/\kD.kQ 144 kY w' (.slice (some ⟨b,0,none⟩) n cap) (Srt.symm key (f + 1) a m z xs) S/\Touch S w w':=by
 have au:=yD F
 unfold jK at hg
 obtain ⟨I,bc,cc⟩:=CZ
 clear h F
 obtain ⟨bk,bo,cw,bf⟩:=CK
 clear hlen hz hn
 obtain ⟨cl,c4,c3,cm,de,L,a9⟩:=xN
 go_enter func197,ntmps197
 have HF:=yD (symm_B (key:=key) (f:=f) (xs:=xs) c1 c2)
 have O:(z:Int) - (m:Int)=1:=bH3
 obtain ⟨af,ap⟩:=FY
 obtain ⟨ma,ch⟩:∃ ma,m - a=ma:=⟨_,rfl⟩
 rw [ch] at L ap
 have c5:Ai.wrap (ma:Int)=ma:=Ae _ bH3
 clear a9
 go_wp2
 go_loopw [14,15] (λi j wr=>∃ (p q:Nat),i=.int .i64 p/\j=.int .i64 q/\a<=p/\p<=q/\q<=m/\Hid (Srt.bs (λh=>!decide (Srt.zJ key xs m < Srt.zJ key xs h)) p q=Srt.bs (λh=>!decide (Srt.zJ key xs m < Srt.zJ key xs h)) a m)/\Hid (kD.kQ 144 kY wr (.slice (some ⟨b,0,none⟩) n cap) xs S)/\Hid (Touch S w wr)) (λi j _=>(Ac j).toNat - (Ac i).toNat)
 case atStart=>exact ⟨a,m,rfl,rfl,Nat.le_refl _,by omega,Nat.le_refl _,yD rfl,I,cc⟩
 obtain ⟨p,q,rfl,rfl,ck,cv,df,HB,R,aa⟩:=hrel
 have bd:=Aa p
 have da:(q:Int)<=m:=bH3
 by_cases hlt:p < q
 · have be:(p:Int) < q:=bH3;obtain ⟨h,hh⟩:∃ h,(p + q) / 2=h:=⟨_,rfl⟩;obtain ⟨dc,dg,c7,db⟩:=AJ;obtain ⟨HY,a4,hl,ml,dd,ad⟩:=D6;have HK:Hid ((λh=>!decide (Srt.zJ key xs m < Srt.zJ key xs h)) h=!decide (key (xs[m]'ml) < key (xs[h]'hl))):=yD mK;obtain ⟨bm,cf,cd,pr,aq,bq,bp⟩:=kD.at3 R.out.kBi ml rfl;obtain ⟨b8,aw,a7,bj,bw,b3⟩:=jS pr;simp only [Ab,and_true] at aw;obtain ⟨rfl,rfl,rfl⟩:=aw;obtain ⟨a2,a3,rfl,cg⟩:=kD.sl bj;clear a7 bj bw b3;obtain ⟨Y,ae,ah,qr,J,br,bt⟩:=kD.at3 R.out.kBi hl rfl;obtain ⟨a6,G,ag,ak,am,ar⟩:=jS qr;simp only [Ab,and_true] at G;obtain ⟨rfl,rfl,rfl⟩:=G;obtain ⟨ac,az,rfl,a8⟩:=kD.sl ak;clear ag ak am ar;generalize xs[m]=x at *;generalize xs[h]=y at *;go_upto_region 17 with fail;have FX:=yD (λ(W:Ad) (hW:Qb wr W)=>kIy hW aq bq bp J br bt);refine kK (λW=>Qb wr W) [Tt,Tt,Tt,Tt,Tt,Tt,Tt,Tt,Tt,Ff,Tt,Tt] bG6 bG6 qY (bR.drew) ?_;intro wS E;iterate 9
    all_goals refine ky ?_
   all_goals first|(refine kJ rfl E ?_)|(refine kw rfl (λK H=>?_);go_simp;refine (au.out _ (aa.out.trans (Touch.of_below E)) _ _ _ _ (kD.raw.below pr E) (kD.raw.below qr E)).mono ?_;rintro e wS1 ⟨kk,rfl,bn,Z⟩;replace E:=(tQ E Z);refine H _ _ E ?_;clear H K Z)
   all_goals refine jG ?_
   all_goals refine ky ?_
   all_goals (refine jy λb an=>?_;cases b <;> try simp only [jw] at an)
   all_goals refine kS ?_
   all_goals have ay:=yD (aa.out.trans (Touch.of_below E))
   all_goals have bv:=yD (R.out.below E)
   all_goals first
     | (have X:=yD (show _=true from HK.out.trans rX);have ax:=yD (HY.out X.out);clear HY a4 HK X bn an;go_wp2;go_roundw;(case rel=>exact ⟨h + 1,q,by go_num,rfl,by omega,by omega,by omega,ax,bv,ay⟩);(case measure=>simp [Ac];omega))
     | (have X:=yD (show _=false from HK.out.trans rX);have ax:=yD (a4.out X.out);clear HY a4 HK X bn an;go_wp2;go_roundw;(case rel=>exact ⟨p,h,rfl,rfl,by omega,by omega,by omega,ax,bv,ay⟩);(case measure=>simp [Ac];omega))
 obtain rfl:q=p:=bH3
 obtain ⟨cz,HE,bh⟩:=EP
 go_wp2
 go_loopw [17] (λi wr=>∃ (k:Nat) (cu:Ag jA),i=.int .i64 k/\q<=k/\k<=m/\Hid (Srt.down q k cu=Srt.down q m xs)/\Hid (cu.length=n)/\Hid (kD.kQ 144 kY wr (.slice (some ⟨b,0,none⟩) n cap) cu S)/\Hid (Touch S w wr)) (λi _=>(Ac i).toNat)
 case atStart=>exact ⟨m,xs,rfl,by omega,Nat.le_refl _,yD rfl,yD bc.out.symm,R,aa⟩
 obtain ⟨k,cu,rfl,di,dh,HG,HL,ai,b7⟩:=hrel
 have ce:=Aa k
 by_cases hlt:q < k
 · have be:(q:Int) < k:=bH3;have D:decide ((k:Int) > q)=true:=bG7;obtain ⟨j,hj⟩:∃ j,j + 1=k:=⟨k - 1,by omega⟩;have b6:=yD ((jAi (cu:=cu) hj hlt).symm.trans HG.out);have c8:(k:Int) - 1=(j:Int):=bH3;obtain ⟨c6,bz⟩:=CB;have hkl:k < cu.length:=bB3;have aj:j < cu.length:=bH3;have c9:(j:Int) < n:=bH3;have co:(k:Int) < n:=bH3;obtain ⟨bm,cf,cd,pr,aq,bq,bp⟩:=kD.at3 ai.out.kBi hkl rfl;obtain ⟨b8,aw,a7,bj,bw,b3⟩:=jS pr;simp only [Ab,and_true] at aw;obtain ⟨rfl,rfl,rfl⟩:=aw;obtain ⟨a2,a3,rfl,cg⟩:=kD.sl bj;clear a7 bj bw b3;obtain ⟨Y,ae,ah,qr,J,br,bt⟩:=kD.at3 ai.out.kBi aj rfl;obtain ⟨a6,G,ag,ak,am,ar⟩:=jS qr;simp only [Ab,and_true] at G;obtain ⟨rfl,rfl,rfl⟩:=G;obtain ⟨ac,az,rfl,a8⟩:=kD.sl ak;clear ag ak am ar;generalize cu[k]=x at *;generalize cu[j]=y at *;go_upto_region 23 with fail;exact x8
 exact q9
def kYa {b n cap:Nat} {S:Nat->Prop} {g:Ah} {cp:Aj Ak} (key:jA->Int) (hg:jK prog g) (f:Nat) (ih:(∀ {w:Ad} {a m z:Nat} {xs:Ag jA} (F:kBs key g cp S w) (h:kD.kQ 144 kY w (.slice (some ⟨b,0,none⟩) n cap) xs S) (hn:n=xs.length) (hlen:xs.length<=16777216) (b4:a < m) (bi:m < z) (hz:z<=xs.length) (hf:z - a<=f),Al prog 197 #[.slice (some ⟨b,0,none⟩) n cap,.int .i64 (a:Nat),.int .i64 (m:Nat),.int .i64 (z:Nat),.func (.func g) #[] cp] w λe w'=>e=.returned (.tuple #[])/\kD.kQ 144 kY w' (.slice (some ⟨b,0,none⟩) n cap) (Srt.symm key f a m z xs) S/\Touch S w w')) {w:Ad} {a m z:Nat} {xs:Ag jA} (F:kBs key g cp S w) (h:kD.kQ 144 kY w (.slice (some ⟨b,0,none⟩) n cap) xs S) (hn:n=xs.length) (hlen:xs.length<=16777216) (b4:a < m) (bi:m < z) (hz:z<=xs.length) (hf:z - a<=f + 1) (c1:¬ m - a=1) (c2:¬ z - m=1) :
    Al prog 197 #[.slice (some ⟨b,0,none⟩) n cap,.int .i64 (a:Nat),.int .i64 (m:Nat),.int .i64 (z:Nat),.func (.func g) #[] cp] w λe w'=>e=.returned (.tuple #[])/\kD.kQ 144 kY w' (.slice (some ⟨b,0,none⟩) n cap) (Srt.symm key (f + 1) a m z xs) S/\Touch S w w':=by
 have au:=yD F
 have ce:=yD (λ(w:Ad) (a m z:Nat) (xs:Ag jA)=>ih (w:=w) (a:=a) (m:=m) (z:=z) (xs:=xs));clear ih
 unfold jK at hg
 obtain ⟨I,bc,cc⟩:=CZ
 clear h F
 obtain ⟨bk,bo,cw,bf⟩:=CK
 clear hlen hz hn
 obtain ⟨cl,c4,c3,cm,de,L,a9⟩:=xN
 go_enter func197,ntmps197
 obtain ⟨mid,al⟩:∃ mid,(a + z) / 2=mid:=⟨_,rfl⟩
 have c9:((a:Int) + (z:Int)) / 2=(mid:Int):=bH3
 obtain ⟨N,hN⟩:∃ N,mid + m=N:=⟨_,rfl⟩
 have ee:(mid:Int) + (m:Int)=(N:Int):=bH3
 obtain ⟨af,ap⟩:=FY
 have ad:¬ (z:Int) - (m:Int)=1:=bH3
 have bh:(((z - m:Nat):Int)==1)=false:=bG7
 have d0:m - a<=16777216:=bH3
 have d1:z - m<=16777216:=bH3
 obtain ⟨ma,ch⟩:∃ ma,m - a=ma:=⟨_,rfl⟩
 rw [ch] at L ap
 obtain ⟨zm,dm⟩:∃ zm,z - m=zm:=⟨_,rfl⟩
 rw [dm] at a9 bh
 obtain ⟨c5,dw,U,dh,d4,eb,co,dq⟩:=EM
 obtain ⟨lo,ai⟩:∃ lo,lo=(if mid < m then N - z else a):=⟨_,rfl⟩
 obtain ⟨hi,o⟩:∃ hi,hi=(if mid < m then mid else m):=⟨_,rfl⟩
 have dl:lo<=hi:=by rw [ai,o];split <;> omega
 have dr:a<=lo:=wB
 have c8:hi<=m:=wI
 have di:hi<=mid:=wI
 have dx:N<=z + lo:=wB
 have dz:m + hi<=N:=wI
 have bu:=yD ai;have b0:=yD o;clear ai o
 go_upto_if 140 with fail
 go_cut [20,21] from 138 to 140 (λdp c6 wc=>dp=.int .i64 (lo:Nat)/\c6=.int .i64 (hi:Nat)/\Hid (kD.kQ 144 kY wc (.slice (some ⟨b,0,none⟩) n cap) xs S)/\Hid (Touch S w wc))
 case first =>
  exact r9
 obtain ⟨rfl,rfl,ab,dn⟩:=hcut
 clear I cc
 obtain ⟨N1,ed⟩:∃ N1,N - 1=N1:=⟨_,rfl⟩
 obtain ⟨du,dt,dv,d2,dy⟩:=J5
 go_wp2
 go_loopw [20,21] (λi j wr=>∃ (p q:Nat),i=.int .i64 p/\j=.int .i64 q/\lo<=p/\p<=q/\q<=hi/\Hid (Srt.bs (λc=>!decide (Srt.zJ key xs (N - 1 - c) < Srt.zJ key xs c)) p q=Srt.bs (λc=>!decide (Srt.zJ key xs (N - 1 - c) < Srt.zJ key xs c)) lo hi)/\Hid (kD.kQ 144 kY wr (.slice (some ⟨b,0,none⟩) n cap) xs S)/\Hid (Touch S w wr)) (λi j _=>(Ac j).toNat - (Ac i).toNat)
 case atStart=>exact ⟨lo,hi,rfl,rfl,Nat.le_refl _,by omega,Nat.le_refl _,yD rfl,ab,dn⟩
 obtain ⟨p,q,rfl,rfl,ck,cv,df,HB,R,aa⟩:=hrel
 have bd:=Aa p
 have da:(q:Int)<=hi:=bH3
 by_cases hlt:p < q
 · have be:(p:Int) < q:=bH3;obtain ⟨h,hh⟩:∃ h,(p + q) / 2=h:=⟨_,rfl⟩;obtain ⟨dc,dg,c7,db⟩:=AJ;obtain ⟨HY,a4⟩:=DU;obtain ⟨u,hu⟩:∃ u,N - 1 - h=u:=⟨_,rfl⟩;obtain ⟨ul,hl,dd,d9,ef,d6,d8⟩:=I6;have HK:Hid ((λc=>!decide (Srt.zJ key xs (N - 1 - c) < Srt.zJ key xs c)) h=!decide (key (xs[u]'ul) < key (xs[h]'hl))):=yD bP;obtain ⟨bm,cf,cd,pr,aq,bq,bp⟩:=kD.at3 R.out.kBi ul rfl;obtain ⟨b8,aw,a7,bj,bw,b3⟩:=jS pr;simp only [Ab,and_true] at aw;obtain ⟨rfl,rfl,rfl⟩:=aw;obtain ⟨a2,a3,rfl,cg⟩:=kD.sl bj;clear a7 bj bw b3;obtain ⟨Y,ae,ah,qr,J,br,bt⟩:=kD.at3 R.out.kBi hl rfl;obtain ⟨a6,G,ag,ak,am,ar⟩:=jS qr;simp only [Ab,and_true] at G;obtain ⟨rfl,rfl,rfl⟩:=G;obtain ⟨ac,az,rfl,a8⟩:=kD.sl ak;clear ag ak am ar;generalize xs[u]=x at *;generalize xs[h]=y at *;go_upto_region 35 with fail;have FX:=yD (λ(W:Ad) (hW:Qb wr W)=>kIy hW aq bq bp J br bt);refine kK (λW=>Qb wr W) [Tt,Tt,Tt,Tt,Tt,Tt,Tt,Tt,Tt,Tt,Tt,Ff,Tt,Tt] bG6 bG6 qY (bR.drew) ?_;intro wS E;iterate 11
    all_goals refine ky ?_
   all_goals first|(refine kJ rfl E ?_)|(refine kw rfl (λK H=>?_);go_simp;refine (au.out _ (aa.out.trans (Touch.of_below E)) _ _ _ _ (kD.raw.below pr E) (kD.raw.below qr E)).mono ?_;rintro e wS1 ⟨kk,rfl,bn,Z⟩;replace E:=(tQ E Z);refine H _ _ E ?_;clear H K Z)
   all_goals refine jG ?_
   all_goals refine ky ?_
   all_goals (refine jy λb O=>?_;cases b <;> try simp only [jw] at O)
   all_goals refine kS ?_
   all_goals have ay:=yD (aa.out.trans (Touch.of_below E))
   all_goals have bv:=yD (R.out.below E)
   all_goals first
     | (have X:=yD (show _=true from HK.out.trans sK);have ax:=yD (HY.out X.out);clear HY a4 HK X bn O;go_wp2;go_roundw;(case rel=>exact ⟨h + 1,q,by go_num,rfl,by omega,by omega,by omega,ax,bv,ay⟩);(case measure=>simp [Ac];omega))
     | (have X:=yD (show _=false from HK.out.trans sK);have ax:=yD (a4.out X.out);clear HY a4 HK X bn O;go_wp2;go_roundw;(case rel=>exact ⟨p,h,rfl,rfl,by omega,by omega,by omega,ax,bv,ay⟩);(case measure=>simp [Ac];omega))
 obtain rfl:q=p:=bH3
 obtain ⟨cz,HE⟩:=IB
 rw [bu.out,b0.out] at HE
 obtain ⟨e,he⟩:∃ e,N - q=e:=⟨_,rfl⟩
 have dj:(N:Int) - (q:Int)=(e:Int):=bH3
 have ec:Ai.wrap (e:Int)=e:=Ae _ bH3
 have d3:m<=e:=bH3
 have ea:e<=z:=bH3
 have d5:q<=m:=bH3
 have d7:a<=q:=bH3
 have eg:=Aa e
 obtain ⟨y,hy⟩:∃ y,y=if q < m/\m < e then Srt.rot m (m - q) (e - m) xs else xs:=⟨_,rfl⟩
 obtain ⟨u,hu⟩:∃ u,u=if a < q/\q < mid then Srt.symm key f a q mid y else y:=⟨_,rfl⟩
 have HF:=yD (symm_C (key:=key) (f:=f) c1 c2 al hN HE.out he hy hu)
 have av:Hid (n=y.length):=yD fO
 have b9:Hid (n=u.length):=yD fZ
 have HY:=yD hy;have HU:=yD hu;clear hy hu HB HE bu b0 al hN
 go_upto_region 39 with fail
 go_cut [185] from 178 to 185 (λsb wc=>sb=.bool (decide (q < m) && decide (m < e))/\Hid (kD.kQ 144 kY wc (.slice (some ⟨b,0,none⟩) n cap) xs S)/\Hid (Touch S w wc))
 case first =>
  exact rC
 obtain ⟨rfl,bl,b6⟩:=hcut
 have bz:=yD (kAo au.out b6.out)
 go_upto_if 185 with fail
 go_cut [] from 178 to 185 (λwc=>Hid (kD.kQ 144 kY wc (.slice (some ⟨b,0,none⟩) n cap) y S)/\Hid (Touch S w wc))
 case first =>
  by_cases g:q < m/\m < e
  · have hb:(decide (q < m) && decide (m < e))=true:=nM;simp only [hb];go_wp2_with fail;refine (rot_Route_c bl.out bc.out (by have:=bc.out;omega) (a:=q) (m:=m) (z:=e) g.1 g.2 bB4).mono ?_;exact rY
  exact rZ
 obtain ⟨aj,b5⟩:=hcut
 go_upto_region 41 with fail
 go_cut [199] from 192 to 199 (λsb wc=>sb=.bool (decide (a < q) && decide (q < mid))/\Hid (kD.kQ 144 kY wc (.slice (some ⟨b,0,none⟩) n cap) y S)/\Hid (Touch S w wc))
 case first =>
  exact sQ
 obtain ⟨rfl,ao,bg⟩:=hcut
 have bz:=yD (kAo au.out bg.out)
 go_upto_if 199 with fail
 go_cut [] from 192 to 199 (λwc=>Hid (kD.kQ 144 kY wc (.slice (some ⟨b,0,none⟩) n cap) u S)/\Hid (Touch S w wc))
 case first =>
  exact tV
 obtain ⟨a5,b2⟩:=hcut
 go_upto_region 43 with fail
 go_cut [213] from 206 to 213 (λsb wc=>sb=.bool (decide (mid < e) && decide (e < z))/\Hid (kD.kQ 144 kY wc (.slice (some ⟨b,0,none⟩) n cap) u S)/\Hid (Touch S w wc))
 case first =>
  exact uA
 obtain ⟨rfl,bx,b7⟩:=hcut
 have bz:=yD (kAo au.out b7.out)
 exact uB
def kPw {b n cap:Nat} {S:Nat->Prop} {g:Ah} {cp:Aj Ak} (key:jA->Int) (hg:jK prog g):∀ (f:Nat),(∀ {w:Ad} {a m z:Nat} {xs:Ag jA} (F:kBs key g cp S w) (h:kD.kQ 144 kY w (.slice (some ⟨b,0,none⟩) n cap) xs S) (hn:n=xs.length) (hlen:xs.length<=16777216) (b4:a < m) (bi:m < z) (hz:z<=xs.length) (hf:z - a<=f),Al prog 197 #[.slice (some ⟨b,0,none⟩) n cap,.int .i64 (a:Nat),.int .i64 (m:Nat),.int .i64 (z:Nat),.func (.func g) #[] cp] w λe w'=>e=.returned (.tuple #[])/\kD.kQ 144 kY w' (.slice (some ⟨b,0,none⟩) n cap) (Srt.symm key f a m z xs) S/\Touch S w w'):=by
 intro f;induction f with
 | zero=>intro w a m z xs F h hn hlen b4 bi hz hf;omega
 | succ f ih =>
   intro w a m z xs F h hn hlen b4 bi hz hf;by_cases c1:m - a=1
   · exact kYc key hg f F h hn hlen b4 bi hz hf c1
   · by_cases c2:z - m=1
     · exact kYb key hg f F h hn hlen b4 bi hz hf c1 c2
     · exact kYa key hg f ih F h hn hlen b4 bi hz hf c1 c2
end Go.Proofs.YtjhfdpopkkmigabGreat

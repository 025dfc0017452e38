/-
  The stable sort: the whole.
-/
import Derived.Test.YtonmjkmaadgceabGreatSortB
set_option linter.unusedVariables false
set_option linter.defProp false
set_option linter.unusedSimpArgs false
set_option linter.unnecessarySimpa false
set_option maxRecDepth 100000
set_option maxHeartbeats 8000000
open Bool renaming true->Tt,false->Ff
open Int renaming natCast_nonneg->Aa
open List.cons renaming injEq->Ab
open Go.IntWalk renaming i64_in->Ac
open List renaming eq_nil_of_length_eq_zero->Ad
open Go.IntKind renaming i64->Ae
open Go.RowKit renaming intOf->Ag
open Go renaming Value->Ah,World->Aj,FuncId->Ak,Calls->Al
open _root_ renaming List->Ai,Array->Am
namespace Go.Proofs.YtonmjkmaadgceabGreat
open Go.RowKit _root_.Go.Proofs.Tryz
def kWl {b n cap:Nat} {S:Nat->Prop} {g:Ak} {cp:Am Ah} (key:ky->Int) (hg:jI prog g) (f:Nat) {w:Aj} {a m z:Nat} {xs:Ai ky} (ag:kBo key g cp S w) (h:kD.kR 77 kY w (.slice (some ⟨b,0,none⟩) n cap) xs S) (hn:n=xs.length) (hlen:xs.length<=16777216) (b3:a < m) (bx:m < z) (hz:z<=xs.length) (hf:z - a<=f + 1) (c1:m - a=1) :
    Al prog 181 #[.slice (some ⟨b,0,none⟩) n cap,.int .i64 (a:Nat),.int .i64 (m:Nat),.int .i64 (z:Nat),.func (.func g) #[] cp] w λe w'=>e=.returned (.tuple #[])/\kD.kR 77 kY w' (.slice (some ⟨b,0,none⟩) n cap) (Srt.symm key (f + 1) a m z xs) S/\Touch S w w':=by
 have aw:=yD ag
 unfold jI at hg
 obtain ⟨J,bb,cc⟩:=CF
 clear h ag
 obtain ⟨bu,bj,c0,b5⟩:=BJ
 clear hlen hz hn
 obtain ⟨cg,c4,c3,ck,dd,b9,az⟩:=xI
 go_enter func181,ntmps181
 have HF:=yD (symm_A (key:=key) (f:=f) (z:=z) (xs:=xs) c1)
 have O:(m:Int) - (a:Int)=1:=bC9
 clear b9 az
 go_wp2
 go_loopw [10,11] (λi j wr=>∃ (p q:Nat),i=.int .i64 p/\j=.int .i64 q/\m<=p/\p<=q/\q<=z/\Hid (Srt.bs (λh=>decide (Srt.yw key xs h < Srt.yw key xs a)) p q=Srt.bs (λh=>decide (Srt.yw key xs h < Srt.yw key xs a)) m z)/\Hid (kD.kR 77 kY wr (.slice (some ⟨b,0,none⟩) n cap) xs S)/\Hid (Touch S w wr)) (λi j _=>(Ag j).toNat - (Ag i).toNat)
 case atStart=>exact ⟨m,z,rfl,rfl,Nat.le_refl _,by omega,Nat.le_refl _,yD rfl,J,cc⟩
 obtain ⟨p,q,rfl,rfl,cf,cv,de,HB,R,am⟩:=hrel
 have bf:=Aa p
 have c9:(q:Int)<=z:=bC9
 by_cases hlt:p < q
 · have a6:(p:Int) < q:=bC9;obtain ⟨h,hh⟩:∃ h,(p + q) / 2=h:=⟨_,rfl⟩;obtain ⟨db,df,c8,da⟩:=A8;obtain ⟨HY,a4,hl,al,dc,c2⟩:=CQ;have HK:Hid ((λh=>decide (Srt.yw key xs h < Srt.yw key xs a)) h=decide (key (xs[h]'hl) < key (xs[a]'al))):=yD gI;obtain ⟨bm,cm,cl,pr,av,b2,bz⟩:=kD.at3 R.out.kBc hl rfl;obtain ⟨b8,aq,a7,bi,bw,b6⟩:=jM pr;simp only [Ab,and_true] at aq;obtain ⟨rfl,rfl,rfl⟩:=aq;obtain ⟨bn,bo,rfl,cd⟩:=kD.sl bi;clear a7 bi bw b6;obtain ⟨ae,af,ah,qr,ad,bk,bl⟩:=kD.at3 R.out.kBc al rfl;obtain ⟨bg,Z,aj,ap,ao,au⟩:=jM qr;simp only [Ab,and_true] at Z;obtain ⟨rfl,rfl,rfl⟩:=Z;obtain ⟨ac,ay,rfl,bd⟩:=kD.sl ap;clear aj ap ao au;generalize xs[h]=x at *;generalize xs[a]=y at *;go_upto_region 5 with fail;have FX:=yD (λ(W:Aj) (hW:Qb wr W)=>kKa hW av b2 bz ad bk bl);refine kM (λW=>Qb wr W) [Tt,Tt,Tt,Tt,Tt,Tt,Tt,Tt,Tt,Ff,Tt] bC3 bC3 pK (bR.drew) ?_;intro wS E;iterate 9
    all_goals refine ku ?_
   all_goals first|(refine kI rfl E ?_)|(refine kw rfl (λK H=>?_);go_simp;refine (aw.out _ (am.out.trans (Touch.of_below E)) _ _ _ _ (kD.raw.below pr E) (kD.raw.below qr E)).mono ?_;rintro e wS1 ⟨kk,rfl,bq,ab⟩;replace E:=(tQ E ab);refine H _ _ E ?_;clear H K ab)
   all_goals refine jF ?_
   all_goals (refine jy λb Y=>?_;cases b <;> try simp only [jw] at Y)
   all_goals refine kS ?_
   all_goals have a3:=yD (am.out.trans (Touch.of_below E))
   all_goals have bt:=yD (R.out.below E)
   all_goals first
     | (have U:=yD (show _=true from HK.out.trans qL);have a1:=yD (HY.out U.out);clear HY a4 HK U bq Y;go_wp2;go_roundw;(case rel=>exact ⟨h + 1,q,by go_num,rfl,by omega,by omega,by omega,a1,bt,a3⟩);(case measure=>simp [Ag];omega))
     | (have U:=yD (show _=false from HK.out.trans qL);have a1:=yD (a4.out U.out);clear HY a4 HK U bq Y;go_wp2;go_roundw;(case rel=>exact ⟨p,h,rfl,rfl,by omega,by omega,by omega,a1,bt,a3⟩);(case measure=>simp [Ag];omega))
 obtain rfl:q=p:=bC9
 obtain ⟨c5,HE⟩:=GX
 obtain ⟨t,ht⟩:∃ t,q - 1=t:=⟨_,rfl⟩
 obtain ⟨cz,V,ar,ak,D,G⟩:=EJ
 go_wp2
 go_loopw [13] (λi wr=>∃ (k:Nat) (cu:Ai ky),i=.int .i64 k/\a<=k/\k<=t/\Hid (Srt.up (t - k) k cu=Srt.up (t - a) a xs)/\Hid (cu.length=n)/\Hid (kD.kR 77 kY wr (.slice (some ⟨b,0,none⟩) n cap) cu S)/\Hid (Touch S w wr)) (λi _=>t - (Ag i).toNat)
 case atStart=>exact ⟨a,xs,rfl,Nat.le_refl _,V,yD rfl,yD bb.out.symm,R,am⟩
 obtain ⟨k,cu,rfl,dh,dg,HG,HL,ai,br⟩:=hrel
 have bp:=Aa k
 by_cases hlt:k < t
 · have a6:(k:Int) < t:=bC9;have b7:=yD ((up_next (cu:=cu) hlt).symm.trans HG.out);obtain ⟨j,I⟩:∃ j,k + 1=j:=⟨_,rfl⟩;rw [I] at b7;have ce:(k:Int) + 1=(j:Int):=bC9;obtain ⟨co,ch⟩:=AZ;have an:j < cu.length:=vN;have aa:k < cu.length:=bC9;have cq:(j:Int) < n:=bC9;have cw:(k:Int) < n:=bC9;obtain ⟨bm,cm,cl,pr,av,b2,bz⟩:=kD.at3 ai.out.kBc aa rfl;obtain ⟨b8,aq,a7,bi,bw,b6⟩:=jM pr;simp only [Ab,and_true] at aq;obtain ⟨rfl,rfl,rfl⟩:=aq;obtain ⟨bn,bo,rfl,cd⟩:=kD.sl bi;clear a7 bi bw b6;obtain ⟨ae,af,ah,qr,ad,bk,bl⟩:=kD.at3 ai.out.kBc an rfl;obtain ⟨bg,Z,aj,ap,ao,au⟩:=jM qr;simp only [Ab,and_true] at Z;obtain ⟨rfl,rfl,rfl⟩:=Z;obtain ⟨ac,ay,rfl,bd⟩:=kD.sl ap;clear aj ap ao au;generalize cu[k]=x at *;generalize cu[j]=y at *;go_upto_region 11 with fail;exact vX
 exact oU
def kWk {b n cap:Nat} {S:Nat->Prop} {g:Ak} {cp:Am Ah} (key:ky->Int) (hg:jI prog g) (f:Nat) {w:Aj} {a m z:Nat} {xs:Ai ky} (ag:kBo key g cp S w) (h:kD.kR 77 kY w (.slice (some ⟨b,0,none⟩) n cap) xs S) (hn:n=xs.length) (hlen:xs.length<=16777216) (b3:a < m) (bx:m < z) (hz:z<=xs.length) (hf:z - a<=f + 1) (c1:¬ m - a=1) (c2:z - m=1) :
    Al prog 181 #[.slice (some ⟨b,0,none⟩) n cap,.int .i64 (a:Nat),.int .i64 (m:Nat),.int .i64 (z:Nat),.func (.func g) #[] cp] w λe w'=>e=.returned (.tuple #[])/\kD.kR 77 kY w' (.slice (some ⟨b,0,none⟩) n cap) (Srt.symm key (f + 1) a m z xs) S/\Touch S w w':=by
 have aw:=yD ag
 unfold jI at hg
 obtain ⟨J,bb,cc⟩:=CF
 clear h ag
 obtain ⟨bu,bj,c0,b5⟩:=BJ
 clear hlen hz hn
 obtain ⟨cg,c4,c3,ck,dd,b9,az⟩:=xI
 go_enter func181,ntmps181
 have HF:=yD (symm_B (key:=key) (f:=f) (xs:=xs) c1 c2)
 have O:(z:Int) - (m:Int)=1:=bC9
 obtain ⟨ak,ar⟩:=EX
 obtain ⟨ma,cz⟩:∃ ma,m - a=ma:=⟨_,rfl⟩
 rw [cz] at b9 ar
 have c6:Ae.wrap (ma:Int)=ma:=Ac _ bC9
 clear az
 go_wp2
 go_loopw [14,15] (λi j wr=>∃ (p q:Nat),i=.int .i64 p/\j=.int .i64 q/\a<=p/\p<=q/\q<=m/\Hid (Srt.bs (λh=>!decide (Srt.yw key xs m < Srt.yw key xs h)) p q=Srt.bs (λh=>!decide (Srt.yw key xs m < Srt.yw key xs h)) a m)/\Hid (kD.kR 77 kY wr (.slice (some ⟨b,0,none⟩) n cap) xs S)/\Hid (Touch S w wr)) (λi j _=>(Ag j).toNat - (Ag i).toNat)
 case atStart=>exact ⟨a,m,rfl,rfl,Nat.le_refl _,by omega,Nat.le_refl _,yD rfl,J,cc⟩
 obtain ⟨p,q,rfl,rfl,cf,cv,de,HB,R,am⟩:=hrel
 have bf:=Aa p
 have c9:(q:Int)<=m:=bC9
 by_cases hlt:p < q
 · have a6:(p:Int) < q:=bC9;obtain ⟨h,hh⟩:∃ h,(p + q) / 2=h:=⟨_,rfl⟩;obtain ⟨db,df,c8,da⟩:=A8;obtain ⟨HY,a4,hl,ml,dc,Y⟩:=CO;have HK:Hid ((λh=>!decide (Srt.yw key xs m < Srt.yw key xs h)) h=!decide (key (xs[m]'ml) < key (xs[h]'hl))):=yD gJ;obtain ⟨bm,cm,cl,pr,av,b2,bz⟩:=kD.at3 R.out.kBc ml rfl;obtain ⟨b8,aq,a7,bi,bw,b6⟩:=jM pr;simp only [Ab,and_true] at aq;obtain ⟨rfl,rfl,rfl⟩:=aq;obtain ⟨bn,bo,rfl,cd⟩:=kD.sl bi;clear a7 bi bw b6;obtain ⟨ae,af,ah,qr,ad,bk,bl⟩:=kD.at3 R.out.kBc hl rfl;obtain ⟨bg,Z,aj,ap,ao,au⟩:=jM qr;simp only [Ab,and_true] at Z;obtain ⟨rfl,rfl,rfl⟩:=Z;obtain ⟨ac,ay,rfl,bd⟩:=kD.sl ap;clear aj ap ao au;generalize xs[m]=x at *;generalize xs[h]=y at *;go_upto_region 17 with fail;have FX:=yD (λ(W:Aj) (hW:Qb wr W)=>kKa hW av b2 bz ad bk bl);refine kM (λW=>Qb wr W) [Tt,Tt,Tt,Tt,Tt,Tt,Tt,Tt,Tt,Ff,Tt,Tt] bC3 bC3 pK (bR.drew) ?_;intro wS E;iterate 9
    all_goals refine ku ?_
   all_goals first|(refine kI rfl E ?_)|(refine kw rfl (λK H=>?_);go_simp;refine (aw.out _ (am.out.trans (Touch.of_below E)) _ _ _ _ (kD.raw.below pr E) (kD.raw.below qr E)).mono ?_;rintro e wS1 ⟨kk,rfl,bq,ab⟩;replace E:=(tQ E ab);refine H _ _ E ?_;clear H K ab)
   all_goals refine jF ?_
   all_goals refine ku ?_
   all_goals (refine jy λb V=>?_;cases b <;> try simp only [jw] at V)
   all_goals refine kS ?_
   all_goals have a3:=yD (am.out.trans (Touch.of_below E))
   all_goals have bt:=yD (R.out.below E)
   all_goals first
     | (have U:=yD (show _=true from HK.out.trans qM);have a1:=yD (HY.out U.out);clear HY a4 HK U bq V;go_wp2;go_roundw;(case rel=>exact ⟨h + 1,q,by go_num,rfl,by omega,by omega,by omega,a1,bt,a3⟩);(case measure=>simp [Ag];omega))
     | (have U:=yD (show _=false from HK.out.trans qM);have a1:=yD (a4.out U.out);clear HY a4 HK U bq V;go_wp2;go_roundw;(case rel=>exact ⟨p,h,rfl,rfl,by omega,by omega,by omega,a1,bt,a3⟩);(case measure=>simp [Ag];omega))
 obtain rfl:q=p:=bC9
 obtain ⟨c5,HE,G⟩:=DN
 go_wp2
 go_loopw [17] (λi wr=>∃ (k:Nat) (cu:Ai ky),i=.int .i64 k/\q<=k/\k<=m/\Hid (Srt.down q k cu=Srt.down q m xs)/\Hid (cu.length=n)/\Hid (kD.kR 77 kY wr (.slice (some ⟨b,0,none⟩) n cap) cu S)/\Hid (Touch S w wr)) (λi _=>(Ag i).toNat)
 case atStart=>exact ⟨m,xs,rfl,by omega,Nat.le_refl _,yD rfl,yD bb.out.symm,R,am⟩
 obtain ⟨k,cu,rfl,dh,dg,HG,HL,ai,br⟩:=hrel
 have bp:=Aa k
 by_cases hlt:q < k
 · have a6:(q:Int) < k:=bC9;have D:decide ((k:Int) > q)=true:=bC4;obtain ⟨j,I⟩:∃ j,j + 1=k:=⟨k - 1,by omega⟩;have b7:=yD ((kYo (cu:=cu) I hlt).symm.trans HG.out);have ce:(k:Int) - 1=(j:Int):=bC9;obtain ⟨co,ch⟩:=AZ;have aa:k < cu.length:=vN;have an:j < cu.length:=bC9;have cq:(j:Int) < n:=bC9;have cw:(k:Int) < n:=bC9;obtain ⟨bm,cm,cl,pr,av,b2,bz⟩:=kD.at3 ai.out.kBc aa rfl;obtain ⟨b8,aq,a7,bi,bw,b6⟩:=jM pr;simp only [Ab,and_true] at aq;obtain ⟨rfl,rfl,rfl⟩:=aq;obtain ⟨bn,bo,rfl,cd⟩:=kD.sl bi;clear a7 bi bw b6;obtain ⟨ae,af,ah,qr,ad,bk,bl⟩:=kD.at3 ai.out.kBc an rfl;obtain ⟨bg,Z,aj,ap,ao,au⟩:=jM qr;simp only [Ab,and_true] at Z;obtain ⟨rfl,rfl,rfl⟩:=Z;obtain ⟨ac,ay,rfl,bd⟩:=kD.sl ap;clear aj ap ao au;generalize cu[k]=x at *;generalize cu[j]=y at *;go_upto_region 23 with fail;exact vX
 exact oV
def kWj {b n cap:Nat} {S:Nat->Prop} {g:Ak} {cp:Am Ah} (key:ky->Int) (hg:jI prog g) (f:Nat) (ih:(∀ {w:Aj} {a m z:Nat} {xs:Ai ky} (ag:kBo key g cp S w) (h:kD.kR 77 kY w (.slice (some ⟨b,0,none⟩) n cap) xs S) (hn:n=xs.length) (hlen:xs.length<=16777216) (b3:a < m) (bx:m < z) (hz:z<=xs.length) (hf:z - a<=f),Al prog 181 #[.slice (some ⟨b,0,none⟩) n cap,.int .i64 (a:Nat),.int .i64 (m:Nat),.int .i64 (z:Nat),.func (.func g) #[] cp] w λe w'=>e=.returned (.tuple #[])/\kD.kR 77 kY w' (.slice (some ⟨b,0,none⟩) n cap) (Srt.symm key f a m z xs) S/\Touch S w w')) {w:Aj} {a m z:Nat} {xs:Ai ky} (ag:kBo key g cp S w) (h:kD.kR 77 kY w (.slice (some ⟨b,0,none⟩) n cap) xs S) (hn:n=xs.length) (hlen:xs.length<=16777216) (b3:a < m) (bx:m < z) (hz:z<=xs.length) (hf:z - a<=f + 1) (c1:¬ m - a=1) (c2:¬ z - m=1) :
    Al prog 181 #[.slice (some ⟨b,0,none⟩) n cap,.int .i64 (a:Nat),.int .i64 (m:Nat),.int .i64 (z:Nat),.func (.func g) #[] cp] w λe w'=>e=.returned (.tuple #[])/\kD.kR 77 kY w' (.slice (some ⟨b,0,none⟩) n cap) (Srt.symm key (f + 1) a m z xs) S/\Touch S w w':=by
 have aw:=yD ag
 have b4:=yD (λ(w:Aj) (a m z:Nat) (xs:Ai ky)=>ih (w:=w) (a:=a) (m:=m) (z:=z) (xs:=xs));clear ih
 unfold jI at hg
 obtain ⟨J,bb,cc⟩:=CF
 clear h ag
 obtain ⟨bu,bj,c0,b5⟩:=BJ
 clear hlen hz hn
 obtain ⟨cg,c4,c3,ck,dd,b9,az⟩:=xI
 go_enter func181,ntmps181
 obtain ⟨mid,D⟩:∃ mid,(a + z) / 2=mid:=⟨_,rfl⟩
 have ch:((a:Int) + (z:Int)) / 2=(mid:Int):=bC9
 obtain ⟨N,hN⟩:∃ N,mid + m=N:=⟨_,rfl⟩
 have ea:(mid:Int) + (m:Int)=(N:Int):=bC9
 obtain ⟨ak,ar⟩:=EX
 have an:¬ (z:Int) - (m:Int)=1:=bC9
 have bh:(((z - m:Nat):Int)==1)=false:=bC4
 have dw:m - a<=16777216:=bC9
 have dx:z - m<=16777216:=bC9
 obtain ⟨ma,cz⟩:∃ ma,m - a=ma:=⟨_,rfl⟩
 rw [cz] at b9 ar
 obtain ⟨zm,di⟩:∃ zm,z - m=zm:=⟨_,rfl⟩
 rw [di] at az bh
 obtain ⟨c6,dr,X,cq,d0,d7,b7,dk⟩:=DI
 obtain ⟨lo,L⟩:∃ lo,lo=(if mid < m then N - z else a):=⟨_,rfl⟩
 obtain ⟨hi,o⟩:∃ hi,hi=(if mid < m then mid else m):=⟨_,rfl⟩
 have dh:lo<=hi:=by rw [L,o];split <;> omega
 have dl:a<=lo:=tX
 have ce:hi<=m:=tO
 have cw:hi<=mid:=tO
 have dt:N<=z + lo:=tX
 have dv:m + hi<=N:=tO
 have ai:=yD L;have a5:=yD o;clear L o
 go_upto_if 140 with fail
 go_cut [20,21] from 138 to 140 (λdj ca wc=>dj=.int .i64 (lo:Nat)/\ca=.int .i64 (hi:Nat)/\Hid (kD.kR 77 kY wc (.slice (some ⟨b,0,none⟩) n cap) xs S)/\Hid (Touch S w wc))
 case first =>
  exact oW
 obtain ⟨rfl,rfl,F,dq⟩:=hcut
 clear J cc
 obtain ⟨N1,d9⟩:∃ N1,N - 1=N1:=⟨_,rfl⟩
 obtain ⟨dn,dm,dp,dy,du⟩:=I1
 go_wp2
 go_loopw [20,21] (λi j wr=>∃ (p q:Nat),i=.int .i64 p/\j=.int .i64 q/\lo<=p/\p<=q/\q<=hi/\Hid (Srt.bs (λc=>!decide (Srt.yw key xs (N - 1 - c) < Srt.yw key xs c)) p q=Srt.bs (λc=>!decide (Srt.yw key xs (N - 1 - c) < Srt.yw key xs c)) lo hi)/\Hid (kD.kR 77 kY wr (.slice (some ⟨b,0,none⟩) n cap) xs S)/\Hid (Touch S w wr)) (λi j _=>(Ag j).toNat - (Ag i).toNat)
 case atStart=>exact ⟨lo,hi,rfl,rfl,Nat.le_refl _,by omega,Nat.le_refl _,yD rfl,F,dq⟩
 obtain ⟨p,q,rfl,rfl,cf,cv,de,HB,R,am⟩:=hrel
 have bf:=Aa p
 have c9:(q:Int)<=hi:=bC9
 by_cases hlt:p < q
 · have a6:(p:Int) < q:=bC9;obtain ⟨h,hh⟩:∃ h,(p + q) / 2=h:=⟨_,rfl⟩;obtain ⟨db,df,c8,da⟩:=A8;obtain ⟨HY,a4⟩:=CY;obtain ⟨u,hu⟩:∃ u,N - 1 - h=u:=⟨_,rfl⟩;obtain ⟨ul,hl,dc,d5,eb,d2,d4⟩:=GI;have HK:Hid ((λc=>!decide (Srt.yw key xs (N - 1 - c) < Srt.yw key xs c)) h=!decide (key (xs[u]'ul) < key (xs[h]'hl))):=yD bL;obtain ⟨bm,cm,cl,pr,av,b2,bz⟩:=kD.at3 R.out.kBc ul rfl;obtain ⟨b8,aq,a7,bi,bw,b6⟩:=jM pr;simp only [Ab,and_true] at aq;obtain ⟨rfl,rfl,rfl⟩:=aq;obtain ⟨bn,bo,rfl,cd⟩:=kD.sl bi;clear a7 bi bw b6;obtain ⟨ae,af,ah,qr,ad,bk,bl⟩:=kD.at3 R.out.kBc hl rfl;obtain ⟨bg,Z,aj,ap,ao,au⟩:=jM qr;simp only [Ab,and_true] at Z;obtain ⟨rfl,rfl,rfl⟩:=Z;obtain ⟨ac,ay,rfl,bd⟩:=kD.sl ap;clear aj ap ao au;generalize xs[u]=x at *;generalize xs[h]=y at *;go_upto_region 35 with fail;have FX:=yD (λ(W:Aj) (hW:Qb wr W)=>kKa hW av b2 bz ad bk bl);refine kM (λW=>Qb wr W) [Tt,Tt,Tt,Tt,Tt,Tt,Tt,Tt,Tt,Tt,Tt,Ff,Tt,Tt] bC3 bC3 pK (bR.drew) ?_;intro wS E;iterate 11
    all_goals refine ku ?_
   all_goals first|(refine kI rfl E ?_)|(refine kw rfl (λK H=>?_);go_simp;refine (aw.out _ (am.out.trans (Touch.of_below E)) _ _ _ _ (kD.raw.below pr E) (kD.raw.below qr E)).mono ?_;rintro e wS1 ⟨kk,rfl,bq,ab⟩;replace E:=(tQ E ab);refine H _ _ E ?_;clear H K ab)
   all_goals refine jF ?_
   all_goals refine ku ?_
   all_goals (refine jy λb G=>?_;cases b <;> try simp only [jw] at G)
   all_goals refine kS ?_
   all_goals have a3:=yD (am.out.trans (Touch.of_below E))
   all_goals have bt:=yD (R.out.below E)
   all_goals first
     | (have U:=yD (show _=true from HK.out.trans qN);have a1:=yD (HY.out U.out);clear HY a4 HK U bq G;go_wp2;go_roundw;(case rel=>exact ⟨h + 1,q,by go_num,rfl,by omega,by omega,by omega,a1,bt,a3⟩);(case measure=>simp [Ag];omega))
     | (have U:=yD (show _=false from HK.out.trans qN);have a1:=yD (a4.out U.out);clear HY a4 HK U bq G;go_wp2;go_roundw;(case rel=>exact ⟨p,h,rfl,rfl,by omega,by omega,by omega,a1,bt,a3⟩);(case measure=>simp [Ag];omega))
 obtain rfl:q=p:=bC9
 obtain ⟨c5,HE⟩:=GJ
 rw [ai.out,a5.out] at HE
 obtain ⟨e,he⟩:∃ e,N - q=e:=⟨_,rfl⟩
 have c7:(N:Int) - (q:Int)=(e:Int):=bC9
 have d8:Ae.wrap (e:Int)=e:=Ac _ bC9
 have dz:m<=e:=bC9
 have d6:e<=z:=bC9
 have d1:q<=m:=bC9
 have d3:a<=q:=bC9
 have ec:=Aa e
 obtain ⟨y,hy⟩:∃ y,y=if q < m/\m < e then Srt.rot m (m - q) (e - m) xs else xs:=⟨_,rfl⟩
 obtain ⟨u,hu⟩:∃ u,u=if a < q/\q < mid then Srt.symm key f a q mid y else y:=⟨_,rfl⟩
 have HF:=yD (symm_C (key:=key) (f:=f) c1 c2 D hN HE.out he hy hu)
 have br:Hid (n=y.length):=yD fA
 have co:Hid (n=u.length):=yD fF
 have HY:=yD hy;have HU:=yD hu;clear hy hu HB HE ai a5 D hN
 go_upto_region 39 with fail
 go_cut [185] from 178 to 185 (λsb wc=>sb=.bool (decide (q < m) && decide (m < e))/\Hid (kD.kR 77 kY wc (.slice (some ⟨b,0,none⟩) n cap) xs S)/\Hid (Touch S w wc))
 case first =>
  exact oZ
 obtain ⟨rfl,be,a9⟩:=hcut
 have al:=yD (kAj aw.out a9.out)
 go_upto_if 185 with fail
 go_cut [] from 178 to 185 (λwc=>Hid (kD.kR 77 kY wc (.slice (some ⟨b,0,none⟩) n cap) y S)/\Hid (Touch S w wc))
 case first =>
  by_cases g:q < m/\m < e
  · have hb:(decide (q < m) && decide (m < e))=true:=mE;simp only [hb];go_wp2_with fail;refine (rot_Route_c be.out bb.out vQ (a:=q) (m:=m) (z:=e) g.1 g.2 vP).mono ?_;exact p8
  exact pQ
 obtain ⟨bc,a8⟩:=hcut
 go_upto_region 41 with fail
 go_cut [199] from 192 to 199 (λsb wc=>sb=.bool (decide (a < q) && decide (q < mid))/\Hid (kD.kR 77 kY wc (.slice (some ⟨b,0,none⟩) n cap) y S)/\Hid (Touch S w wc))
 case first =>
  exact q8
 obtain ⟨rfl,a2,ba⟩:=hcut
 have al:=yD (kAj aw.out ba.out)
 go_upto_if 199 with fail
 go_cut [] from 192 to 199 (λwc=>Hid (kD.kR 77 kY wc (.slice (some ⟨b,0,none⟩) n cap) u S)/\Hid (Touch S w wc))
 case first =>
  exact q9
 obtain ⟨ax,b1⟩:=hcut
 go_upto_region 43 with fail
 go_cut [213] from 206 to 213 (λsb wc=>sb=.bool (decide (mid < e) && decide (e < z))/\Hid (kD.kR 77 kY wc (.slice (some ⟨b,0,none⟩) n cap) u S)/\Hid (Touch S w wc))
 case first =>
  exact qD
 obtain ⟨rfl,bp,b0⟩:=hcut
 have al:=yD (kAj aw.out b0.out)
 exact qG
def kOd {b n cap:Nat} {S:Nat->Prop} {g:Ak} {cp:Am Ah} (key:ky->Int) (hg:jI prog g):∀ (f:Nat),(∀ {w:Aj} {a m z:Nat} {xs:Ai ky} (ag:kBo key g cp S w) (h:kD.kR 77 kY w (.slice (some ⟨b,0,none⟩) n cap) xs S) (hn:n=xs.length) (hlen:xs.length<=16777216) (b3:a < m) (bx:m < z) (hz:z<=xs.length) (hf:z - a<=f),Al prog 181 #[.slice (some ⟨b,0,none⟩) n cap,.int .i64 (a:Nat),.int .i64 (m:Nat),.int .i64 (z:Nat),.func (.func g) #[] cp] w λe w'=>e=.returned (.tuple #[])/\kD.kR 77 kY w' (.slice (some ⟨b,0,none⟩) n cap) (Srt.symm key f a m z xs) S/\Touch S w w'):=by
 intro f;induction f with
 | zero=>intro w a m z xs ag h hn hlen b3 bx hz hf;omega
 | succ f ih =>
   intro w a m z xs ag h hn hlen b3 bx hz hf;by_cases c1:m - a=1
   · exact kWl key hg f ag h hn hlen b3 bx hz hf c1
   · by_cases c2:z - m=1
     · exact kWk key hg f ag h hn hlen b3 bx hz hf c1 c2
     · exact kWj key hg f ih ag h hn hlen b3 bx hz hf c1 c2
def kRx {α:Type} {key:α->Int} {n f p:Nat} {cu:Ai α} (h:p + 20<=n) (hf:n < f + p):∃ W,n < W + (p + 20)/\Srt.blocks key n f p cu=Srt.blocks key n W (p + 20) (Srt.kBz key p (p + 20) cu):=by
 obtain ⟨g,rfl⟩:∃ g,f=g + 1:=⟨f - 1,by omega⟩;exact ⟨g,by omega,by rw [Srt.blocks,if_pos h]⟩
def kWa {α:Type} {key:α->Int} {n f p:Nat} {cu:Ai α} (h:¬ p + 20<=n) (hp:p<=n) (hf:n < f + p):Srt.blocks key n f p cu=Srt.kBz key p n cu:=by
 obtain ⟨g,rfl⟩:∃ g,f=g + 1:=⟨f - 1,by omega⟩;rw [Srt.blocks,if_neg h]
def kXz {α:Type} {key:α->Int} {n s f p:Nat} {cu:Ai α} (hs:0 < s) (h:p + 2 * s<=n) (hf:n < f + p):∃ W,n < W + (p + 2 * s)/\Srt.pass key n s f p cu=Srt.pass key n s W (p + 2 * s) (Srt.symm key (2 * s) p (p + s) (p + 2 * s) cu):=by
 obtain ⟨g,rfl⟩:∃ g,f=g + 1:=⟨f - 1,by omega⟩;exact ⟨g,by omega,by rw [Srt.pass,if_pos h]⟩
def pass_mid {α:Type} {key:α->Int} {n s f p:Nat} {cu:Ai α} (h:¬ p + 2 * s<=n) (h2:p + s < n) (hf:n < f + p):Srt.pass key n s f p cu=Srt.symm key (n - p) p (p + s) n cu:=by
 obtain ⟨g,rfl⟩:∃ g,f=g + 1:=⟨f - 1,by omega⟩;rw [Srt.pass,if_neg h,if_pos h2]
def pass_end {α:Type} {key:α->Int} {n s f p:Nat} {cu:Ai α} (h:¬ p + 2 * s<=n) (h2:¬ p + s < n) (hp:p<=n) (hf:n < f + p):Srt.pass key n s f p cu=cu:=by
 obtain ⟨g,rfl⟩:∃ g,f=g + 1:=⟨f - 1,by omega⟩;rw [Srt.pass,if_neg h,if_neg h2]
def kRj {α:Type} {key:α->Int} {n s f:Nat} {cu:Ai α} (hs:0 < s) (h:s < n) (hf:n < f + s):∃ W,n < W + s * 2/\Srt.passes key n f s cu=Srt.passes key n W (s * 2) (Srt.pass key n s (n + 1) 0 cu):=by
 obtain ⟨g,rfl⟩:∃ g,f=g + 1:=⟨f - 1,by omega⟩;exact ⟨g,by omega,by rw [Srt.passes,if_pos h,Nat.mul_comm]⟩
def kUs {α:Type} {key:α->Int} {n s f:Nat} {cu:Ai α} (h:¬ s < n):Srt.passes key n f s cu=cu:=by
 cases f with
 | zero=>rfl
 | succ f=>rw [Srt.passes,if_neg h]
def kSn {w:Aj} {v:Ah} {g:Ak} {cp:Am Ah}:Al prog 182 #[v,.int .i64 (0:Nat),.int .i64 (0:Nat),.func (.func g) #[] cp] w λe w'=>e=.returned (.tuple #[])/\w'=w:=by
 go_enter func182,ntmps182;exact qW
def kRy {w:Aj} {v:Ah} {g:Ak} {cp:Am Ah}:Al prog 152 #[v,.int .i64 (0:Nat),.func (.func g) #[] cp] w λe w'=>e=.returned (.tuple #[])/\w'=w:=by
 go_enter func152,ntmps152;go_wp2;go_loopw [7,8] (λi j wr=>i=.int .i64 0/\j=.int .i64 20/\wr=w) (λi j _=>0);case atStart=>exact ⟨rfl,rfl,rfl⟩
 obtain ⟨rfl,rfl,hw⟩:=hrel;obtain rfl:=hw;go_wp2_with fail;refine kSn.mono ?_;exact r9
def kZc {w:Aj} {b n cap:Nat} {xs:Ai Int} {S:Nat->Prop} {g:Ak} {cp:Am Ah} (key:Int->Int) (hg:jI prog g) (ag:kEo key g cp S w) (h:kD.kR 3 kD.int w (.slice (some ⟨b,0,none⟩) n cap) xs S) (hn:n=xs.length) (hlen:xs.length<=16777216) :
    Al prog 152 #[.slice (some ⟨b,0,none⟩) n cap,.int .i64 (n:Nat),.func (.func g) #[] cp] w λe w'=>e=.returned (.tuple #[])/\kD.kR 3 kD.int w' (.slice (some ⟨b,0,none⟩) n cap) (Srt.stable key xs) S/\Touch S w w':=by
 obtain ⟨aw,X,O,bb,ae,c0⟩:=GY
 clear h ag hlen hn hg
 have aj:(n:Int)<=16777216:=bC9
 have ck:=Aa n
 go_enter func152,ntmps152
 go_wp2
 go_loopw [7,8] (λi j wr=>∃ (p f:Nat) (cu:Ai Int),i=.int .i64 p/\j=.int .i64 ((p:Int) + 20)/\p<=n/\Hid (n < f + p)/\Hid (Srt.blocks key n f p cu=Srt.blocks key n (n + 1) 0 xs)/\Hid (cu.length=n)/\Hid (kD.kR 3 kD.int wr (.slice (some ⟨b,0,none⟩) n cap) cu S)/\Hid (Touch S w wr)) (λi _ _=>n - (Ag i).toNat)
 case atStart=>exact ⟨0,n + 1,xs,rfl,rfl,Nat.zero_le _,yD bC9,yD rfl,yD bb.out.symm,O,yD (Touch.refl _ _)⟩
 obtain ⟨p,f,cu,rfl,rfl,N,G,HB,HL,J,L⟩:=hrel
 have bf:=Aa p
 by_cases hlt:p + 20<=n
 · have a6:(p:Int) + 20<=n:=bC9;obtain ⟨W,E,o⟩:=kRx (key:=key) (cu:=cu) hlt G.out;have H:=yD E;obtain ⟨q,hq⟩:∃ q,p + 20=q:=⟨_,rfl⟩;have ad:(p:Int) + 20=(q:Int):=bC9;rw [hq] at o;have D:=yD (o.symm.trans HB.out);clear o E;have ab:Ae.wrap (q:Int)=q:=Ac _ bC9;go_wp2_with fail;refine (kOv (n:=n) (b:=b) key X.out (kBb aw.out L.out) J.out HL.out.symm vN (a:=p) (z:=q) bC9 vN).mono ?_;exact rT
 have a6:¬ (p:Int) + 20<=n:=bC9
 have D:=yD (HB.out.symm.trans (kWa (key:=key) (cu:=cu) hlt N G.out))
 go_wp2_with fail
 refine (kOv (n:=n) (b:=b) key X.out (kBb aw.out L.out) J.out HL.out.symm vN (a:=p) (z:=n) N vN).mono ?_
 rintro e V ⟨rfl,O2,T2⟩
 have az:Hid ((Srt.blocks key n (n + 1) 0 xs).length=n):=yD (by rw [Srt.kDe];exact bb.out.symm)
 have R:=yD (O2.cast D.out.symm);have am:=yD (L.out.trans T2);clear O2 T2
 generalize Srt.blocks key n (n + 1) 0 xs=B at *
 clear hlt a6 D J L HL HB G
 go_wp2
 go_loopw [6,7,8] (λi _ _ wr=>∃ (s f:Nat) (cu:Ai Int),i=.int .i64 s/\20<=s/\s<=33554432/\Hid (n < f + s)/\Hid (Srt.passes key n f s cu=Srt.passes key n (n + 1) 20 B)/\Hid (cu.length=n)/\Hid (kD.kR 3 kD.int wr (.slice (some ⟨b,0,none⟩) n cap) cu S)/\Hid (Touch S w wr)) (λi _ _ _=>n - (Ag i).toNat)
 case atStart=>exact ⟨20,n + 1,B,rfl,Nat.le_refl _,by omega,yD bC9,yD rfl,az,R,am⟩
 obtain ⟨s,f,cu,rfl,ao,aq,G,HB,HL,J,L⟩:=hrel
 have da:(20:Int)<=s:=bC9
 by_cases hlt:s < n
 · have a6:(s:Int) < n:=bC9;obtain ⟨W,E,o⟩:=kRj (key:=key) (cu:=cu) bC9 hlt G.out;have H:=yD E;have ay:=yD (o.symm.trans HB.out);clear E o;obtain ⟨s2,bt⟩:∃ s2,2 * s=s2:=⟨_,rfl⟩;have ap:2 * (s:Int)=(s2:Int):=bC9;have al:(s:Int) * 2=(s2:Int):=bC9;have ah:Ae.wrap (s2:Int)=s2:=Ac _ bC9;have ac:=Aa s2;go_wp2;go_loopw [7,8] (λi j wr=>∃ (p f2:Nat) (cv:Ai Int),i=.int .i64 p/\j=.int .i64 ((p:Int) + (s2:Int))/\p<=n/\Hid (n < f2 + p)/\Hid (Srt.pass key n s f2 p cv=Srt.pass key n s (n + 1) 0 cu)/\Hid (cv.length=n)/\Hid (kD.kR 3 kD.int wr (.slice (some ⟨b,0,none⟩) n cap) cv S)/\Hid (Touch S w wr)) (λi _ _=>n - (Ag i).toNat);case atStart=>exact ⟨0,n + 1,cu,rfl,by first | rfl|(simp;done) | go_num,Nat.zero_le _,yD bC9,yD rfl,HL,J,L⟩
   obtain ⟨p,f2,cv,rfl,rfl,N,F,a1,az,R,am⟩:=hrel;have bf:=Aa p;obtain ⟨ps,U⟩:∃ ps,p + s=ps:=⟨_,rfl⟩;have an:(p:Int) + (s:Int)=(ps:Int):=bC9;have ak:Ae.wrap (ps:Int)=ps:=Ac _ bC9;obtain ⟨q,hq⟩:∃ q,p + s2=q:=⟨_,rfl⟩;have ad:(p:Int) + (s2:Int)=(q:Int):=bC9;have ab:Ae.wrap (q:Int)=q:=Ac _ bC9;by_cases a8:p + 2 * s<=n
   · have Y:(q:Int)<=n:=bC9;obtain ⟨f3,Z,o⟩:=kXz (key:=key) (cu:=cv) (by omega:0 < s) a8 F.out;rw [bt,hq,U] at o;have af:=yD Z;have a3:=yD (o.symm.trans a1.out);clear Z o;go_wp2_with fail;refine (kTx (n:=n) (b:=b) key X.out s2 (kBb aw.out am.out) R.out az.out.symm vR (a:=p) (m:=ps) (z:=q) bC9 bC9 vR bC9).mono ?_;exact sW
   have Y:¬ (q:Int)<=n:=bC9;by_cases hm:p + s < n
   · have bv:(ps:Int) < n:=bC9;have I:=yD ((pass_mid (key:=key) (cu:=cv) a8 hm F.out).symm.trans a1.out);rw [U] at I;go_wp2_with fail;refine (kTx (n:=n) (b:=b) key X.out (n - p) (kBb aw.out am.out) R.out az.out.symm vR (a:=p) (m:=ps) (z:=n) bC9 bC9 vR bC9).mono ?_;exact Go.Proofs.YtonmjkmaadgceabGreat.u6
   exact Go.Proofs.YtonmjkmaadgceabGreat.u7
 exact uA
def kQo {w:Aj} {v:Ah} {xs:Ai Int} {S:Nat->Prop} {g:Ak} {cp:Am Ah} (key:Int->Int) (hg:jI prog g) (ag:kEo key g cp S w) (h:kD.kR 3 kD.int w v xs S) (hlen:xs.length<=16777216) :
    Al prog 114 #[v,.func (.func g) #[] cp] w λe w'=>e=.returned (.tuple #[])/\kD.kR 3 kD.int w' v (Srt.stable key xs) S/\Touch S w w':=by
 rcases Nat.eq_zero_or_pos xs.length with h0 | h0
 · obtain ⟨a,cap,rfl⟩:=h.zP;obtain rfl:xs=[]:=Ad h0;have D:Srt.stable key ([]:Ai Int)=[]:=Ad (by rw [Srt.kEt];rfl);have J:=yD (h.cast D.symm);have o:=yD (kRy (w:=w) (v:=.slice a 0 cap) (g:=g) (cp:=cp));clear h ag hg D;simp only [List.length_nil] at *;go_enter func114,ntmps114;exact uB
 obtain ⟨b,cap,rfl,_⟩:=kD.kAn h h0
 have HC:=yD (kZc key hg ag h rfl hlen)
 clear h ag hg hlen h0
 go_enter func114,ntmps114
 exact uC
def kOw {w:Aj} {v:Ah} {g:Ak} {cp:Am Ah}:Al prog 180 #[v,.int .i64 (0:Nat),.int .i64 (0:Nat),.func (.func g) #[] cp] w λe w'=>e=.returned (.tuple #[])/\w'=w:=by
 go_enter func180,ntmps180;exact qW
def kOf {w:Aj} {v:Ah} {g:Ak} {cp:Am Ah}:Al prog 150 #[v,.int .i64 (0:Nat),.func (.func g) #[] cp] w λe w'=>e=.returned (.tuple #[])/\w'=w:=by
 go_enter func150,ntmps150;go_wp2;go_loopw [7,8] (λi j wr=>i=.int .i64 0/\j=.int .i64 20/\wr=w) (λi j _=>0);case atStart=>exact ⟨rfl,rfl,rfl⟩
 obtain ⟨rfl,rfl,hw⟩:=hrel;obtain rfl:=hw;go_wp2_with fail;refine kOw.mono ?_;exact r9
def kTy {w:Aj} {b n cap:Nat} {xs:Ai ky} {S:Nat->Prop} {g:Ak} {cp:Am Ah} (key:ky->Int) (hg:jI prog g) (ag:kBo key g cp S w) (h:kD.kR 77 kY w (.slice (some ⟨b,0,none⟩) n cap) xs S) (hn:n=xs.length) (hlen:xs.length<=16777216) :
    Al prog 150 #[.slice (some ⟨b,0,none⟩) n cap,.int .i64 (n:Nat),.func (.func g) #[] cp] w λe w'=>e=.returned (.tuple #[])/\kD.kR 77 kY w' (.slice (some ⟨b,0,none⟩) n cap) (Srt.stable key xs) S/\Touch S w w':=by
 obtain ⟨aw,X,O,bb,ae,c0⟩:=GY
 clear h ag hlen hn hg
 have aj:(n:Int)<=16777216:=bC9
 have ck:=Aa n
 go_enter func150,ntmps150
 go_wp2
 go_loopw [7,8] (λi j wr=>∃ (p f:Nat) (cu:Ai ky),i=.int .i64 p/\j=.int .i64 ((p:Int) + 20)/\p<=n/\Hid (n < f + p)/\Hid (Srt.blocks key n f p cu=Srt.blocks key n (n + 1) 0 xs)/\Hid (cu.length=n)/\Hid (kD.kR 77 kY wr (.slice (some ⟨b,0,none⟩) n cap) cu S)/\Hid (Touch S w wr)) (λi _ _=>n - (Ag i).toNat)
 case atStart=>exact ⟨0,n + 1,xs,rfl,rfl,Nat.zero_le _,yD bC9,yD rfl,yD bb.out.symm,O,yD (Touch.refl _ _)⟩
 obtain ⟨p,f,cu,rfl,rfl,N,G,HB,HL,J,L⟩:=hrel
 have bf:=Aa p
 by_cases hlt:p + 20<=n
 · have a6:(p:Int) + 20<=n:=bC9;obtain ⟨W,E,o⟩:=kRx (key:=key) (cu:=cu) hlt G.out;have H:=yD E;obtain ⟨q,hq⟩:∃ q,p + 20=q:=⟨_,rfl⟩;have ad:(p:Int) + 20=(q:Int):=bC9;rw [hq] at o;have D:=yD (o.symm.trans HB.out);clear o E;have ab:Ae.wrap (q:Int)=q:=Ac _ bC9;go_wp2_with fail;refine (kKt (n:=n) (b:=b) key X.out (kAj aw.out L.out) J.out HL.out.symm vN (a:=p) (z:=q) bC9 vN).mono ?_;exact rT
 have a6:¬ (p:Int) + 20<=n:=bC9
 have D:=yD (HB.out.symm.trans (kWa (key:=key) (cu:=cu) hlt N G.out))
 go_wp2_with fail
 refine (kKt (n:=n) (b:=b) key X.out (kAj aw.out L.out) J.out HL.out.symm vN (a:=p) (z:=n) N vN).mono ?_
 rintro e V ⟨rfl,O2,T2⟩
 have az:Hid ((Srt.blocks key n (n + 1) 0 xs).length=n):=yD (by rw [Srt.kDe];exact bb.out.symm)
 have R:=yD (O2.cast D.out.symm);have am:=yD (L.out.trans T2);clear O2 T2
 generalize Srt.blocks key n (n + 1) 0 xs=B at *
 clear hlt a6 D J L HL HB G
 go_wp2
 go_loopw [6,7,8] (λi _ _ wr=>∃ (s f:Nat) (cu:Ai ky),i=.int .i64 s/\20<=s/\s<=33554432/\Hid (n < f + s)/\Hid (Srt.passes key n f s cu=Srt.passes key n (n + 1) 20 B)/\Hid (cu.length=n)/\Hid (kD.kR 77 kY wr (.slice (some ⟨b,0,none⟩) n cap) cu S)/\Hid (Touch S w wr)) (λi _ _ _=>n - (Ag i).toNat)
 case atStart=>exact ⟨20,n + 1,B,rfl,Nat.le_refl _,by omega,yD bC9,yD rfl,az,R,am⟩
 obtain ⟨s,f,cu,rfl,ao,aq,G,HB,HL,J,L⟩:=hrel
 have da:(20:Int)<=s:=bC9
 by_cases hlt:s < n
 · have a6:(s:Int) < n:=bC9;obtain ⟨W,E,o⟩:=kRj (key:=key) (cu:=cu) bC9 hlt G.out;have H:=yD E;have ay:=yD (o.symm.trans HB.out);clear E o;obtain ⟨s2,bt⟩:∃ s2,2 * s=s2:=⟨_,rfl⟩;have ap:2 * (s:Int)=(s2:Int):=bC9;have al:(s:Int) * 2=(s2:Int):=bC9;have ah:Ae.wrap (s2:Int)=s2:=Ac _ bC9;have ac:=Aa s2;go_wp2;go_loopw [7,8] (λi j wr=>∃ (p f2:Nat) (cv:Ai ky),i=.int .i64 p/\j=.int .i64 ((p:Int) + (s2:Int))/\p<=n/\Hid (n < f2 + p)/\Hid (Srt.pass key n s f2 p cv=Srt.pass key n s (n + 1) 0 cu)/\Hid (cv.length=n)/\Hid (kD.kR 77 kY wr (.slice (some ⟨b,0,none⟩) n cap) cv S)/\Hid (Touch S w wr)) (λi _ _=>n - (Ag i).toNat);case atStart=>exact ⟨0,n + 1,cu,rfl,by first | rfl|(simp;done) | go_num,Nat.zero_le _,yD bC9,yD rfl,HL,J,L⟩
   obtain ⟨p,f2,cv,rfl,rfl,N,F,a1,az,R,am⟩:=hrel;have bf:=Aa p;obtain ⟨ps,U⟩:∃ ps,p + s=ps:=⟨_,rfl⟩;have an:(p:Int) + (s:Int)=(ps:Int):=bC9;have ak:Ae.wrap (ps:Int)=ps:=Ac _ bC9;obtain ⟨q,hq⟩:∃ q,p + s2=q:=⟨_,rfl⟩;have ad:(p:Int) + (s2:Int)=(q:Int):=bC9;have ab:Ae.wrap (q:Int)=q:=Ac _ bC9;by_cases a8:p + 2 * s<=n
   · have Y:(q:Int)<=n:=bC9;obtain ⟨f3,Z,o⟩:=kXz (key:=key) (cu:=cv) (by omega:0 < s) a8 F.out;rw [bt,hq,U] at o;have af:=yD Z;have a3:=yD (o.symm.trans a1.out);clear Z o;go_wp2_with fail;refine (kOd (n:=n) (b:=b) key X.out s2 (kAj aw.out am.out) R.out az.out.symm vR (a:=p) (m:=ps) (z:=q) bC9 bC9 vR bC9).mono ?_;exact sW
   have Y:¬ (q:Int)<=n:=bC9;by_cases hm:p + s < n
   · have bv:(ps:Int) < n:=bC9;have I:=yD ((pass_mid (key:=key) (cu:=cv) a8 hm F.out).symm.trans a1.out);rw [U] at I;go_wp2_with fail;refine (kOd (n:=n) (b:=b) key X.out (n - p) (kAj aw.out am.out) R.out az.out.symm vR (a:=p) (m:=ps) (z:=n) bC9 bC9 vR bC9).mono ?_;exact Go.Proofs.YtonmjkmaadgceabGreat.u6
   exact Go.Proofs.YtonmjkmaadgceabGreat.u7
 exact uA
def kNr {w:Aj} {v:Ah} {xs:Ai ky} {S:Nat->Prop} {g:Ak} {cp:Am Ah} (key:ky->Int) (hg:jI prog g) (ag:kBo key g cp S w) (h:kD.kR 77 kY w v xs S) (hlen:xs.length<=16777216) :
    Al prog 109 #[v,.func (.func g) #[] cp] w λe w'=>e=.returned (.tuple #[])/\kD.kR 77 kY w' v (Srt.stable key xs) S/\Touch S w w':=by
 rcases Nat.eq_zero_or_pos xs.length with h0 | h0
 · obtain ⟨a,cap,rfl⟩:=h.zP;obtain rfl:xs=[]:=Ad h0;have D:Srt.stable key ([]:Ai ky)=[]:=Ad (by rw [Srt.kEt];rfl);have J:=yD (h.cast D.symm);have o:=yD (kOf (w:=w) (v:=.slice a 0 cap) (g:=g) (cp:=cp));clear h ag hg D;simp only [List.length_nil] at *;go_enter func109,ntmps109;exact uB
 obtain ⟨b,cap,rfl,_⟩:=kD.kAn h h0
 have HC:=yD (kTy key hg ag h rfl hlen)
 clear h ag hg hlen h0
 go_enter func109,ntmps109
 exact uC
end Go.Proofs.YtonmjkmaadgceabGreat

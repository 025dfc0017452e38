/-
  The stable sort: the merge in place.
-/
import Derived.Test.YtjhfdpopkkmigaaGreatSortA
set_option linter.unusedVariables false
set_option linter.defProp false
set_option linter.unusedSimpArgs false
set_option linter.unnecessarySimpa false
set_option maxRecDepth 100000
set_option maxHeartbeats 8000000
open Bool renaming true->Tt,false->Ff
open Int renaming natCast_nonneg->Aa
open List.cons renaming injEq->Ab
open Go.RowKit renaming intOf->Ac
open Go renaming World->Ad,FuncId->Ah,Value->Ak,Calls->Al
open Go.IntWalk renaming i64_in->Ae
open _root_ renaming List->Ag,Array->Aj
open Go.IntKind renaming i64->Ai
namespace Go.Proofs.YtjhfdpopkkmigaaGreat
open Go.RowKit _root_.Go.Proofs.Tryz
def kBa {key:Int->Int} {g:Ah} {cp:Aj Ak} {S:Nat->Prop} {w w':Ad} (h:kEj key g cp S w) (t:Touch S w w'):kEj key g cp S w':=λwr E=>h wr (t.trans E)
def kAj {key:kz->Int} {g:Ah} {cp:Aj Ak} {S:Nat->Prop} {w w':Ad} (h:kBo key g cp S w) (t:Touch S w w'):kBo key g cp S w':=λwr E=>h wr (t.trans E)
def kQs {p:Nat->Bool} {i j h:Nat} (D:i < j) (hh:(i + j) / 2=h) (q:p h=true):Srt.bs p i j=Srt.bs p (h + 1) j:=by
 subst hh;rw [Srt.bs,dif_pos D,if_pos q]
def bs_no {p:Nat->Bool} {i j h:Nat} (D:i < j) (hh:(i + j) / 2=h) (q:p h=false):Srt.bs p i j=Srt.bs p i h:=by
 subst hh;rw [Srt.bs,dif_pos D,if_neg (by rw [q];exact Bool.false_ne_true)]
def kQt {p:Nat->Bool} {i j:Nat} (D:¬ i < j):Srt.bs p i j=i:=by rw [Srt.bs,dif_neg D]
def up_next {α:Type} {k t:Nat} {cu:Ag α} (h:k < t):Srt.up (t - k) k cu=Srt.up (t - (k + 1)) (k + 1) (Srt.sw cu k (k + 1)):=by
 rw [show t - k=(t - (k + 1)) + 1 by omega,Srt.up]
def up_end {α:Type} {k t:Nat} {cu:List α} (h:¬ k < t):Srt.up (t - k) k cu=cu:=by rw [show t - k=0 by omega,Srt.up]
def kZb {α:Type} {i k j:Nat} {cu:Ag α} (hk:k + 1=j) (h:i < j):Srt.down i j cu=Srt.down i k (Srt.sw cu j k):=by
 subst hk;rw [Srt.down,if_pos h]
def down_end {α:Type} {i j:Nat} {cu:Ag α} (h:¬ i < j):Srt.down i j cu=cu:=by
 cases j with
 | zero=>rfl
 | succ j=>rw [Srt.down,if_neg h]
def symm_A {α:Type} {key:α->Int} {f a m z:Nat} {xs:Ag α} (h:m - a=1):Srt.symm key (f + 1) a m z xs=Srt.up (Srt.bs (λh=>decide (Srt.zG key xs h < Srt.zG key xs a)) m z - 1 - a) a xs:=by
 rw [Srt.symm,if_pos h]
def symm_B {α:Type} {key:α->Int} {f a m z:Nat} {xs:Ag α} (h:¬ m - a=1) (h2:z - m=1):Srt.symm key (f + 1) a m z xs=Srt.down (Srt.bs (λh=>!decide (Srt.zG key xs m < Srt.zG key xs h)) a m) m xs:=by
 rw [Srt.symm,if_neg h,if_pos h2]
def symm_C {α:Type} {key:α->Int} {f a m z mid N s e:Nat} {xs y u:Ag α} (h:¬ m - a=1) (h2:¬ z - m=1) (D:(a + z) / 2=mid) (hN:mid + m=N)
    (hs:s=Srt.bs (λc=>!decide (Srt.zG key xs (N - 1 - c) < Srt.zG key xs c)) (if mid < m then N - z else a) (if mid < m then mid else m)) (he:N - s=e)
    (hy:y=if s < m/\m < e then Srt.rot m (m - s) (e - m) xs else xs) (hu:u=if a < s/\s < mid then Srt.symm key f a s mid y else y) :
    Srt.symm key (f + 1) a m z xs=if mid < e/\e < z then Srt.symm key f mid e z u else u:=by
 rw [Srt.symm,if_neg h,if_neg h2]
 simp only
 rw [D,hN,<- hs,he,<- hy,<- hu]
def symmA_int_c {b n cap:Nat} {S:Nat->Prop} {g:Ah} {cp:Aj Ak} (key:Int->Int) (hg:jH prog g) (f:Nat) {w:Ad} {a m z:Nat} {xs:Ag Int} (J:kEj key g cp S w) (h:kD.kU 3 kD.int w (.slice (some ⟨b,0,none⟩) n cap) xs S) (hn:n=xs.length) (hlen:xs.length<=16777216) (ca:a < m) (b6:m < z) (hz:z<=xs.length) (hf:z - a<=f + 1) (c1:m - a=1) :
    Al prog 213 #[.slice (some ⟨b,0,none⟩) n cap,.int .i64 (a:Nat),.int .i64 (m:Nat),.int .i64 (z:Nat),.func (.func g) #[] cp] w λe w'=>e=.returned (.tuple #[])/\kD.kU 3 kD.int w' (.slice (some ⟨b,0,none⟩) n cap) (Srt.symm key (f + 1) a m z xs) S/\Touch S w w':=by
 have av:=yD J
 unfold jH at hg
 obtain ⟨L,bl,dc⟩:=DD
 clear h J
 obtain ⟨bq,a3,c0,b4⟩:=CV
 clear hlen hz hn
 obtain ⟨cl,c4,c3,cq,db,cf,bu⟩:=xI
 go_enter func213,ntmps213
 have HF:=yD (symm_A (key:=key) (f:=f) (z:=z) (xs:=xs) c1)
 have O:(m:Int) - (a:Int)=1:=bD1
 clear cf bu
 go_wp2
 go_loopw [10,11] (λi j wr=>∃ (p q:Nat),i=.int .i64 p/\j=.int .i64 q/\m<=p/\p<=q/\q<=z/\Hid (Srt.bs (λh=>decide (Srt.zG key xs h < Srt.zG key xs a)) p q=Srt.bs (λh=>decide (Srt.zG key xs h < Srt.zG key xs a)) m z)/\Hid (kD.kU 3 kD.int wr (.slice (some ⟨b,0,none⟩) n cap) xs S)/\Hid (Touch S w wr)) (λi j _=>(Ac j).toNat - (Ac i).toNat)
 case atStart=>exact ⟨m,z,rfl,rfl,Nat.le_refl _,by omega,Nat.le_refl _,yD rfl,L,dc⟩
 obtain ⟨p,q,rfl,rfl,ck,cv,dd,HB,Z,F⟩:=hrel
 have ay:=Aa p
 have c7:(q:Int)<=z:=bD1
 by_cases hlt:p < q
 · have a7:(p:Int) < q:=bD1;obtain ⟨h,hh⟩:∃ h,(p + q) / 2=h:=⟨_,rfl⟩;obtain ⟨c9,de,c6,c8⟩:=AR;obtain ⟨HY,a5,hl,al,da,c2⟩:=DT;have HK:Hid ((λh=>decide (Srt.zG key xs h < Srt.zG key xs a)) h=decide (key (xs[h]'hl) < key (xs[a]'al))):=yD gU;obtain ⟨ba,pr,G⟩:=kD.at1 Z.out.kAz hl rfl;obtain ⟨an,af⟩:=kD.jb pr;obtain rfl:ba=_:=by simpa using an
   clear an af;obtain ⟨ae,qr,R⟩:=kD.at1 Z.out.kAz al rfl;obtain ⟨ac,ad⟩:=kD.jb qr;obtain rfl:ae=_:=by simpa using ac
   clear ac ad;generalize xs[h]=x at *;generalize xs[a]=y at *;go_upto_region 5 with fail;have FX:=yD (λ(W:Ad) (hW:Qb wr W)=>kHv hW G R);refine kM (λW=>Qb wr W) [Tt,Tt,Tt,Tt,Tt,Tt,Tt,Tt,Tt,Ff,Tt] bC5 bC5 pY (bR.drew) ?_;intro wS E;iterate 9
    all_goals refine kX ?_
   all_goals first|(refine kG rfl E ?_)|(refine kY rfl (λK H=>?_);go_simp;refine (av.out _ (F.out.trans (Touch.of_below E)) _ _ _ _ (kD.raw.below pr E) (kD.raw.below qr E)).mono ?_;rintro e wS1 ⟨kk,rfl,bo,X⟩;replace E:=(tQ E X);refine H _ _ E ?_;clear H K X)
   all_goals refine jD ?_
   all_goals (refine jd λb aq=>?_;cases b <;> try simp only [jc] at aq)
   all_goals refine kR ?_
   all_goals have ar:=yD (F.out.trans (Touch.of_below E))
   all_goals have bx:=yD (Z.out.below E)
   all_goals first
     | (have Y:=yD (show _=true from HK.out.trans qM);have a1:=yD (HY.out Y.out);clear HY a5 HK Y bo aq;go_wp2;go_roundw;(case rel=>exact ⟨h + 1,q,by go_num,rfl,by omega,by omega,by omega,a1,bx,ar⟩);(case measure=>simp [Ac];omega))
     | (have Y:=yD (show _=false from HK.out.trans qM);have a1:=yD (a5.out Y.out);clear HY a5 HK Y bo aq;go_wp2;go_roundw;(case rel=>exact ⟨p,h,rfl,rfl,by omega,by omega,by omega,a1,bx,ar⟩);(case measure=>simp [Ac];omega))
 obtain rfl:q=p:=bD1
 obtain ⟨cw,HE⟩:=IZ
 obtain ⟨t,ht⟩:∃ t,q - 1=t:=⟨_,rfl⟩
 obtain ⟨cm,ab,au,ap,D,bn⟩:=FN
 go_wp2
 go_loopw [13] (λi wr=>∃ (k:Nat) (cu:Ag Int),i=.int .i64 k/\a<=k/\k<=t/\Hid (Srt.up (t - k) k cu=Srt.up (t - a) a xs)/\Hid (cu.length=n)/\Hid (kD.kU 3 kD.int wr (.slice (some ⟨b,0,none⟩) n cap) cu S)/\Hid (Touch S w wr)) (λi _=>t - (Ac i).toNat)
 case atStart=>exact ⟨a,xs,rfl,Nat.le_refl _,ab,yD rfl,yD bl.out.symm,Z,F⟩
 obtain ⟨k,cu,rfl,df,aa,HG,HL,ai,b1⟩:=hrel
 have bk:=Aa k
 by_cases hlt:k < t
 · have a7:(k:Int) < t:=bD1;have ce:=yD ((up_next (cu:=cu) hlt).symm.trans HG.out);obtain ⟨j,I⟩:∃ j,k + 1=j:=⟨_,rfl⟩;rw [I] at ce;have dn:(k:Int) + 1=(j:Int):=bD1;obtain ⟨co,b0⟩:=CL;have a4:j < cu.length:=vQ;have am:k < cu.length:=bD1;have dq:(j:Int) < n:=bD1;have cz:(k:Int) < n:=bD1;obtain ⟨ba,pr,G⟩:=kD.at1 ai.out.kAz am rfl;obtain ⟨an,af⟩:=kD.jb pr;obtain rfl:ba=_:=by simpa using an
   clear an af;obtain ⟨ae,qr,R⟩:=kD.at1 ai.out.kAz a4 rfl;obtain ⟨ac,ad⟩:=kD.jb qr;obtain rfl:ae=_:=by simpa using ac
   clear ac ad;generalize cu[k]=x at *;generalize cu[j]=y at *;go_upto_region 11 with fail;exact oU
 exact oV
def symmB_int_c {b n cap:Nat} {S:Nat->Prop} {g:Ah} {cp:Aj Ak} (key:Int->Int) (hg:jH prog g) (f:Nat) {w:Ad} {a m z:Nat} {xs:Ag Int} (J:kEj key g cp S w) (h:kD.kU 3 kD.int w (.slice (some ⟨b,0,none⟩) n cap) xs S) (hn:n=xs.length) (hlen:xs.length<=16777216) (ca:a < m) (b6:m < z) (hz:z<=xs.length) (hf:z - a<=f + 1) (c1:¬ m - a=1) (c2:z - m=1) :
    Al prog 213 #[.slice (some ⟨b,0,none⟩) n cap,.int .i64 (a:Nat),.int .i64 (m:Nat),.int .i64 (z:Nat),.func (.func g) #[] cp] w λe w'=>e=.returned (.tuple #[])/\kD.kU 3 kD.int w' (.slice (some ⟨b,0,none⟩) n cap) (Srt.symm key (f + 1) a m z xs) S/\Touch S w w':=by
 have av:=yD J
 unfold jH at hg
 obtain ⟨L,bl,dc⟩:=DD
 clear h J
 obtain ⟨bq,a3,c0,b4⟩:=CV
 clear hlen hz hn
 obtain ⟨cl,c4,c3,cq,db,cf,bu⟩:=xI
 go_enter func213,ntmps213
 have HF:=yD (symm_B (key:=key) (f:=f) (xs:=xs) c1 c2)
 have O:(z:Int) - (m:Int)=1:=bD1
 obtain ⟨ab,ap⟩:=FZ
 obtain ⟨ma,cm⟩:∃ ma,m - a=ma:=⟨_,rfl⟩
 rw [cm] at cf ap
 have c5:Ai.wrap (ma:Int)=ma:=Ae _ bD1
 clear bu
 go_wp2
 go_loopw [14,15] (λi j wr=>∃ (p q:Nat),i=.int .i64 p/\j=.int .i64 q/\a<=p/\p<=q/\q<=m/\Hid (Srt.bs (λh=>!decide (Srt.zG key xs m < Srt.zG key xs h)) p q=Srt.bs (λh=>!decide (Srt.zG key xs m < Srt.zG key xs h)) a m)/\Hid (kD.kU 3 kD.int wr (.slice (some ⟨b,0,none⟩) n cap) xs S)/\Hid (Touch S w wr)) (λi j _=>(Ac j).toNat - (Ac i).toNat)
 case atStart=>exact ⟨a,m,rfl,rfl,Nat.le_refl _,by omega,Nat.le_refl _,yD rfl,L,dc⟩
 obtain ⟨p,q,rfl,rfl,ck,cv,dd,HB,Z,F⟩:=hrel
 have ay:=Aa p
 have c7:(q:Int)<=m:=bD1
 by_cases hlt:p < q
 · have a7:(p:Int) < q:=bD1;obtain ⟨h,hh⟩:∃ h,(p + q) / 2=h:=⟨_,rfl⟩;obtain ⟨c9,de,c6,c8⟩:=AR;obtain ⟨HY,a5,hl,ml,da,al⟩:=DR;have HK:Hid ((λh=>!decide (Srt.zG key xs m < Srt.zG key xs h)) h=!decide (key (xs[m]'ml) < key (xs[h]'hl))):=yD gV;obtain ⟨ba,pr,G⟩:=kD.at1 Z.out.kAz ml rfl;obtain ⟨an,af⟩:=kD.jb pr;obtain rfl:ba=_:=by simpa using an
   clear an af;obtain ⟨ae,qr,R⟩:=kD.at1 Z.out.kAz hl rfl;obtain ⟨ac,ad⟩:=kD.jb qr;obtain rfl:ae=_:=by simpa using ac
   clear ac ad;generalize xs[m]=x at *;generalize xs[h]=y at *;go_upto_region 17 with fail;have FX:=yD (λ(W:Ad) (hW:Qb wr W)=>kHv hW G R);refine kM (λW=>Qb wr W) [Tt,Tt,Tt,Tt,Tt,Tt,Tt,Tt,Tt,Ff,Tt,Tt] bC5 bC5 pY (bR.drew) ?_;intro wS E;iterate 9
    all_goals refine kX ?_
   all_goals first|(refine kG rfl E ?_)|(refine kY rfl (λK H=>?_);go_simp;refine (av.out _ (F.out.trans (Touch.of_below E)) _ _ _ _ (kD.raw.below pr E) (kD.raw.below qr E)).mono ?_;rintro e wS1 ⟨kk,rfl,bo,X⟩;replace E:=(tQ E X);refine H _ _ E ?_;clear H K X)
   all_goals refine jD ?_
   all_goals refine kX ?_
   all_goals (refine jd λb au=>?_;cases b <;> try simp only [jc] at au)
   all_goals refine kR ?_
   all_goals have ar:=yD (F.out.trans (Touch.of_below E))
   all_goals have bx:=yD (Z.out.below E)
   all_goals first
     | (have Y:=yD (show _=true from HK.out.trans qN);have a1:=yD (HY.out Y.out);clear HY a5 HK Y bo au;go_wp2;go_roundw;(case rel=>exact ⟨h + 1,q,by go_num,rfl,by omega,by omega,by omega,a1,bx,ar⟩);(case measure=>simp [Ac];omega))
     | (have Y:=yD (show _=false from HK.out.trans qN);have a1:=yD (a5.out Y.out);clear HY a5 HK Y bo au;go_wp2;go_roundw;(case rel=>exact ⟨p,h,rfl,rfl,by omega,by omega,by omega,a1,bx,ar⟩);(case measure=>simp [Ac];omega))
 obtain rfl:q=p:=bD1
 obtain ⟨cw,HE,bn⟩:=EY
 go_wp2
 go_loopw [17] (λi wr=>∃ (k:Nat) (cu:Ag Int),i=.int .i64 k/\q<=k/\k<=m/\Hid (Srt.down q k cu=Srt.down q m xs)/\Hid (cu.length=n)/\Hid (kD.kU 3 kD.int wr (.slice (some ⟨b,0,none⟩) n cap) cu S)/\Hid (Touch S w wr)) (λi _=>(Ac i).toNat)
 case atStart=>exact ⟨m,xs,rfl,by omega,Nat.le_refl _,yD rfl,yD bl.out.symm,Z,F⟩
 obtain ⟨k,cu,rfl,df,aa,HG,HL,ai,b1⟩:=hrel
 have bk:=Aa k
 by_cases hlt:q < k
 · have a7:(q:Int) < k:=bD1;have D:decide ((k:Int) > q)=true:=bC6;obtain ⟨j,I⟩:∃ j,j + 1=k:=⟨k - 1,by omega⟩;have ce:=yD ((kZb (cu:=cu) I hlt).symm.trans HG.out);have dn:(k:Int) - 1=(j:Int):=bD1;obtain ⟨co,b0⟩:=CL;have am:k < cu.length:=vQ;have a4:j < cu.length:=bD1;have dq:(j:Int) < n:=bD1;have cz:(k:Int) < n:=bD1;obtain ⟨ba,pr,G⟩:=kD.at1 ai.out.kAz am rfl;obtain ⟨an,af⟩:=kD.jb pr;obtain rfl:ba=_:=by simpa using an
   clear an af;obtain ⟨ae,qr,R⟩:=kD.at1 ai.out.kAz a4 rfl;obtain ⟨ac,ad⟩:=kD.jb qr;obtain rfl:ae=_:=by simpa using ac
   clear ac ad;generalize cu[k]=x at *;generalize cu[j]=y at *;go_upto_region 23 with fail;exact oU
 exact oW
def symmC_int_c {b n cap:Nat} {S:Nat->Prop} {g:Ah} {cp:Aj Ak} (key:Int->Int) (hg:jH prog g) (f:Nat) (ih:(∀ {w:Ad} {a m z:Nat} {xs:Ag Int} (J:kEj key g cp S w) (h:kD.kU 3 kD.int w (.slice (some ⟨b,0,none⟩) n cap) xs S) (hn:n=xs.length) (hlen:xs.length<=16777216) (ca:a < m) (b6:m < z) (hz:z<=xs.length) (hf:z - a<=f),Al prog 213 #[.slice (some ⟨b,0,none⟩) n cap,.int .i64 (a:Nat),.int .i64 (m:Nat),.int .i64 (z:Nat),.func (.func g) #[] cp] w λe w'=>e=.returned (.tuple #[])/\kD.kU 3 kD.int w' (.slice (some ⟨b,0,none⟩) n cap) (Srt.symm key f a m z xs) S/\Touch S w w')) {w:Ad} {a m z:Nat} {xs:Ag Int} (J:kEj key g cp S w) (h:kD.kU 3 kD.int w (.slice (some ⟨b,0,none⟩) n cap) xs S) (hn:n=xs.length) (hlen:xs.length<=16777216) (ca:a < m) (b6:m < z) (hz:z<=xs.length) (hf:z - a<=f + 1) (c1:¬ m - a=1) (c2:¬ z - m=1) :
    Al prog 213 #[.slice (some ⟨b,0,none⟩) n cap,.int .i64 (a:Nat),.int .i64 (m:Nat),.int .i64 (z:Nat),.func (.func g) #[] cp] w λe w'=>e=.returned (.tuple #[])/\kD.kU 3 kD.int w' (.slice (some ⟨b,0,none⟩) n cap) (Srt.symm key (f + 1) a m z xs) S/\Touch S w w':=by
 have av:=yD J
 have bw:=yD (λ(w:Ad) (a m z:Nat) (xs:Ag Int)=>ih (w:=w) (a:=a) (m:=m) (z:=z) (xs:=xs));clear ih
 unfold jH at hg
 obtain ⟨L,bl,dc⟩:=DD
 clear h J
 obtain ⟨bq,a3,c0,b4⟩:=CV
 clear hlen hz hn
 obtain ⟨cl,c4,c3,cq,db,cf,bu⟩:=xI
 go_enter func213,ntmps213
 obtain ⟨mid,D⟩:∃ mid,(a + z) / 2=mid:=⟨_,rfl⟩
 have b5:((a:Int) + (z:Int)) / 2=(mid:Int):=bD1
 obtain ⟨N,hN⟩:∃ N,mid + m=N:=⟨_,rfl⟩
 have d9:(mid:Int) + (m:Int)=(N:Int):=bD1
 obtain ⟨ab,ap⟩:=FZ
 have aj:¬ (z:Int) - (m:Int)=1:=bD1
 have bn:(((z - m:Nat):Int)==1)=false:=bC6
 have du:m - a<=16777216:=bD1
 have dv:z - m<=16777216:=bD1
 obtain ⟨ma,cm⟩:∃ ma,m - a=ma:=⟨_,rfl⟩
 rw [cm] at cf ap
 obtain ⟨zm,dg⟩:∃ zm,z - m=zm:=⟨_,rfl⟩
 rw [dg] at bu bn
 obtain ⟨c5,dp,U,cc,dy,d6,b0,dj⟩:=ES
 obtain ⟨lo,d3⟩:∃ lo,lo=(if mid < m then N - z else a):=⟨_,rfl⟩
 obtain ⟨hi,o⟩:∃ hi,hi=(if mid < m then mid else m):=⟨_,rfl⟩
 have df:lo<=hi:=by rw [d3,o];split <;> omega
 have dk:a<=lo:=tO
 have b3:hi<=m:=tZ
 have ce:hi<=mid:=tZ
 have dq:N<=z + lo:=tO
 have dt:m + hi<=N:=tZ
 have ed:=yD d3;have a4:=yD o;clear d3 o
 go_upto_if 140 with fail
 go_cut [20,21] from 138 to 140 (λdi b2 wc=>di=.int .i64 (lo:Nat)/\b2=.int .i64 (hi:Nat)/\Hid (kD.kU 3 kD.int wc (.slice (some ⟨b,0,none⟩) n cap) xs S)/\Hid (Touch S w wc))
 case first =>
  exact oZ
 obtain ⟨rfl,rfl,aa,dh⟩:=hcut
 clear L dc
 obtain ⟨N1,d8⟩:∃ N1,N - 1=N1:=⟨_,rfl⟩
 obtain ⟨dm,dl,dn,dw,dr⟩:=J9
 go_wp2
 go_loopw [20,21] (λi j wr=>∃ (p q:Nat),i=.int .i64 p/\j=.int .i64 q/\lo<=p/\p<=q/\q<=hi/\Hid (Srt.bs (λc=>!decide (Srt.zG key xs (N - 1 - c) < Srt.zG key xs c)) p q=Srt.bs (λc=>!decide (Srt.zG key xs (N - 1 - c) < Srt.zG key xs c)) lo hi)/\Hid (kD.kU 3 kD.int wr (.slice (some ⟨b,0,none⟩) n cap) xs S)/\Hid (Touch S w wr)) (λi j _=>(Ac j).toNat - (Ac i).toNat)
 case atStart=>exact ⟨lo,hi,rfl,rfl,Nat.le_refl _,by omega,Nat.le_refl _,yD rfl,aa,dh⟩
 obtain ⟨p,q,rfl,rfl,ck,cv,dd,HB,Z,F⟩:=hrel
 have ay:=Aa p
 have c7:(q:Int)<=hi:=bD1
 by_cases hlt:p < q
 · have a7:(p:Int) < q:=bD1;obtain ⟨h,hh⟩:∃ h,(p + q) / 2=h:=⟨_,rfl⟩;obtain ⟨c9,de,c6,c8⟩:=AR;obtain ⟨HY,a5⟩:=EH;obtain ⟨u,hu⟩:∃ u,N - 1 - h=u:=⟨_,rfl⟩;obtain ⟨ul,hl,da,d4,ea,d0,d2⟩:=IC;have HK:Hid ((λc=>!decide (Srt.zG key xs (N - 1 - c) < Srt.zG key xs c)) h=!decide (key (xs[u]'ul) < key (xs[h]'hl))):=yD bN;obtain ⟨ba,pr,G⟩:=kD.at1 Z.out.kAz ul rfl;obtain ⟨an,af⟩:=kD.jb pr;obtain rfl:ba=_:=by simpa using an
   clear an af;obtain ⟨ae,qr,R⟩:=kD.at1 Z.out.kAz hl rfl;obtain ⟨ac,ad⟩:=kD.jb qr;obtain rfl:ae=_:=by simpa using ac
   clear ac ad;generalize xs[u]=x at *;generalize xs[h]=y at *;go_upto_region 35 with fail;have FX:=yD (λ(W:Ad) (hW:Qb wr W)=>kHv hW G R);refine kM (λW=>Qb wr W) [Tt,Tt,Tt,Tt,Tt,Tt,Tt,Tt,Tt,Tt,Tt,Ff,Tt,Tt] bC5 bC5 pY (bR.drew) ?_;intro wS E;iterate 11
    all_goals refine kX ?_
   all_goals first|(refine kG rfl E ?_)|(refine kY rfl (λK H=>?_);go_simp;refine (av.out _ (F.out.trans (Touch.of_below E)) _ _ _ _ (kD.raw.below pr E) (kD.raw.below qr E)).mono ?_;rintro e wS1 ⟨kk,rfl,bo,X⟩;replace E:=(tQ E X);refine H _ _ E ?_;clear H K X)
   all_goals refine jD ?_
   all_goals refine kX ?_
   all_goals (refine jd λb a9=>?_;cases b <;> try simp only [jc] at a9)
   all_goals refine kR ?_
   all_goals have ar:=yD (F.out.trans (Touch.of_below E))
   all_goals have bx:=yD (Z.out.below E)
   all_goals first
     | (have Y:=yD (show _=true from HK.out.trans qO);have a1:=yD (HY.out Y.out);clear HY a5 HK Y bo a9;go_wp2;go_roundw;(case rel=>exact ⟨h + 1,q,by go_num,rfl,by omega,by omega,by omega,a1,bx,ar⟩);(case measure=>simp [Ac];omega))
     | (have Y:=yD (show _=false from HK.out.trans qO);have a1:=yD (a5.out Y.out);clear HY a5 HK Y bo a9;go_wp2;go_roundw;(case rel=>exact ⟨p,h,rfl,rfl,by omega,by omega,by omega,a1,bx,ar⟩);(case measure=>simp [Ac];omega))
 obtain rfl:q=p:=bD1
 obtain ⟨cw,HE⟩:=IG
 rw [ed.out,a4.out] at HE
 obtain ⟨e,he⟩:∃ e,N - q=e:=⟨_,rfl⟩
 have cg:(N:Int) - (q:Int)=(e:Int):=bD1
 have d7:Ai.wrap (e:Int)=e:=Ae _ bD1
 have dx:m<=e:=bD1
 have d5:e<=z:=bD1
 have dz:q<=m:=bD1
 have d1:a<=q:=bD1
 have eb:=Aa e
 obtain ⟨y,hy⟩:∃ y,y=if q < m/\m < e then Srt.rot m (m - q) (e - m) xs else xs:=⟨_,rfl⟩
 obtain ⟨u,hu⟩:∃ u,u=if a < q/\q < mid then Srt.symm key f a q mid y else y:=⟨_,rfl⟩
 have HF:=yD (symm_C (key:=key) (f:=f) c1 c2 D hN HE.out he hy hu)
 have O:Hid (n=y.length):=yD fE
 have co:Hid (n=u.length):=yD fT
 have HY:=yD hy;have HU:=yD hu;clear hy hu HB HE ed a4 D hN
 go_upto_region 39 with fail
 go_cut [185] from 178 to 185 (λsb wc=>sb=.bool (decide (q < m) && decide (m < e))/\Hid (kD.kU 3 kD.int wc (.slice (some ⟨b,0,none⟩) n cap) xs S)/\Hid (Touch S w wc))
 case first =>
  exact p8
 obtain ⟨rfl,bm,bi⟩:=hcut
 have au:=yD (kBa av.out bi.out)
 go_upto_if 185 with fail
 go_cut [] from 178 to 185 (λwc=>Hid (kD.kU 3 kD.int wc (.slice (some ⟨b,0,none⟩) n cap) y S)/\Hid (Touch S w wc))
 case first =>
  by_cases g:q < m/\m < e
  · have hb:(decide (q < m) && decide (m < e))=true:=mO;simp only [hb];go_wp2_with fail;refine (rot_int_c bm.out bl.out (by have:=bl.out;omega) (a:=q) (m:=m) (z:=e) g.1 g.2 vS).mono ?_;exact p9
  exact q8
 obtain ⟨az,bg⟩:=hcut
 go_upto_region 41 with fail
 go_cut [199] from 192 to 199 (λsb wc=>sb=.bool (decide (a < q) && decide (q < mid))/\Hid (kD.kU 3 kD.int wc (.slice (some ⟨b,0,none⟩) n cap) y S)/\Hid (Touch S w wc))
 case first =>
  exact q9
 obtain ⟨rfl,bb,bj⟩:=hcut
 have au:=yD (kBa av.out bj.out)
 go_upto_if 199 with fail
 go_cut [] from 192 to 199 (λwc=>Hid (kD.kU 3 kD.int wc (.slice (some ⟨b,0,none⟩) n cap) u S)/\Hid (Touch S w wc))
 case first =>
  exact qC
 obtain ⟨al,b8⟩:=hcut
 go_upto_region 43 with fail
 go_cut [213] from 206 to 213 (λsb wc=>sb=.bool (decide (mid < e) && decide (e < z))/\Hid (kD.kU 3 kD.int wc (.slice (some ⟨b,0,none⟩) n cap) u S)/\Hid (Touch S w wc))
 case first =>
  exact qP
 obtain ⟨rfl,b1,bk⟩:=hcut
 have au:=yD (kBa av.out bk.out)
 exact qR
def kUn {b n cap:Nat} {S:Nat->Prop} {g:Ah} {cp:Aj Ak} (key:Int->Int) (hg:jH prog g):∀ (f:Nat),(∀ {w:Ad} {a m z:Nat} {xs:Ag Int} (J:kEj key g cp S w) (h:kD.kU 3 kD.int w (.slice (some ⟨b,0,none⟩) n cap) xs S) (hn:n=xs.length) (hlen:xs.length<=16777216) (ca:a < m) (b6:m < z) (hz:z<=xs.length) (hf:z - a<=f),Al prog 213 #[.slice (some ⟨b,0,none⟩) n cap,.int .i64 (a:Nat),.int .i64 (m:Nat),.int .i64 (z:Nat),.func (.func g) #[] cp] w λe w'=>e=.returned (.tuple #[])/\kD.kU 3 kD.int w' (.slice (some ⟨b,0,none⟩) n cap) (Srt.symm key f a m z xs) S/\Touch S w w'):=by
 intro f;induction f with
 | zero=>intro w a m z xs J h hn hlen ca b6 hz hf;omega
 | succ f ih =>
   intro w a m z xs J h hn hlen ca b6 hz hf;by_cases c1:m - a=1
   · exact symmA_int_c key hg f J h hn hlen ca b6 hz hf c1
   · by_cases c2:z - m=1
     · exact symmB_int_c key hg f J h hn hlen ca b6 hz hf c1 c2
     · exact symmC_int_c key hg f ih J h hn hlen ca b6 hz hf c1 c2
def kXc {b n cap:Nat} {S:Nat->Prop} {g:Ah} {cp:Aj Ak} (key:kz->Int) (hg:jH prog g) (f:Nat) {w:Ad} {a m z:Nat} {xs:Ag kz} (J:kBo key g cp S w) (h:kD.kU 131 kS w (.slice (some ⟨b,0,none⟩) n cap) xs S) (hn:n=xs.length) (hlen:xs.length<=16777216) (ca:a < m) (b6:m < z) (hz:z<=xs.length) (hf:z - a<=f + 1) (c1:m - a=1) :
    Al prog 211 #[.slice (some ⟨b,0,none⟩) n cap,.int .i64 (a:Nat),.int .i64 (m:Nat),.int .i64 (z:Nat),.func (.func g) #[] cp] w λe w'=>e=.returned (.tuple #[])/\kD.kU 131 kS w' (.slice (some ⟨b,0,none⟩) n cap) (Srt.symm key (f + 1) a m z xs) S/\Touch S w w':=by
 have av:=yD J
 unfold jH at hg
 obtain ⟨L,bl,dc⟩:=DD
 clear h J
 obtain ⟨bq,a3,c0,b4⟩:=CV
 clear hlen hz hn
 obtain ⟨cl,c4,c3,cq,db,cf,bu⟩:=xI
 go_enter func211,ntmps211
 have HF:=yD (symm_A (key:=key) (f:=f) (z:=z) (xs:=xs) c1)
 have O:(m:Int) - (a:Int)=1:=bD1
 clear cf bu
 go_wp2
 go_loopw [10,11] (λi j wr=>∃ (p q:Nat),i=.int .i64 p/\j=.int .i64 q/\m<=p/\p<=q/\q<=z/\Hid (Srt.bs (λh=>decide (Srt.zG key xs h < Srt.zG key xs a)) p q=Srt.bs (λh=>decide (Srt.zG key xs h < Srt.zG key xs a)) m z)/\Hid (kD.kU 131 kS wr (.slice (some ⟨b,0,none⟩) n cap) xs S)/\Hid (Touch S w wr)) (λi j _=>(Ac j).toNat - (Ac i).toNat)
 case atStart=>exact ⟨m,z,rfl,rfl,Nat.le_refl _,by omega,Nat.le_refl _,yD rfl,L,dc⟩
 obtain ⟨p,q,rfl,rfl,ck,cv,dd,HB,Z,F⟩:=hrel
 have ay:=Aa p
 have c7:(q:Int)<=z:=bD1
 by_cases hlt:p < q
 · have a7:(p:Int) < q:=bD1;obtain ⟨h,hh⟩:∃ h,(p + q) / 2=h:=⟨_,rfl⟩;obtain ⟨c9,de,c6,c8⟩:=AR;obtain ⟨HY,a5,hl,al,da,c2⟩:=DT;have HK:Hid ((λh=>decide (Srt.zG key xs h < Srt.zG key xs a)) h=decide (key (xs[h]'hl) < key (xs[a]'al))):=yD gU;obtain ⟨ba,b9,ch,pr,G,bt,bp⟩:=kD.at3 Z.out.kAz hl rfl;obtain ⟨b7,an,a8,a6,bh,bz⟩:=jJ pr;simp only [Ab,and_true] at an;obtain ⟨rfl,rfl,rfl⟩:=an;obtain ⟨a2,be,rfl,cd⟩:=kD.sl a6;clear a8 a6 bh bz;obtain ⟨ae,af,ah,qr,R,br,bv⟩:=kD.at3 Z.out.kAz al rfl;obtain ⟨bd,ac,ag,ak,ao,ax⟩:=jJ qr;simp only [Ab,and_true] at ac;obtain ⟨rfl,rfl,rfl⟩:=ac;obtain ⟨ad,aw,rfl,bf⟩:=kD.sl ak;clear ag ak ao ax;generalize xs[h]=x at *;generalize xs[a]=y at *;go_upto_region 5 with fail;have FX:=yD (λ(W:Ad) (hW:Qb wr W)=>kGx hW G bt bp R br bv);refine kM (λW=>Qb wr W) [Tt,Tt,Tt,Tt,Tt,Tt,Tt,Tt,Tt,Ff,Tt] bC5 bC5 pY (bR.drew) ?_;intro wS E;iterate 9
    all_goals refine kX ?_
   all_goals first|(refine kG rfl E ?_)|(refine kY rfl (λK H=>?_);go_simp;refine (av.out _ (F.out.trans (Touch.of_below E)) _ _ _ _ (kD.raw.below pr E) (kD.raw.below qr E)).mono ?_;rintro e wS1 ⟨kk,rfl,bo,X⟩;replace E:=(tQ E X);refine H _ _ E ?_;clear H K X)
   all_goals refine jD ?_
   all_goals (refine jd λb aq=>?_;cases b <;> try simp only [jc] at aq)
   all_goals refine kR ?_
   all_goals have ar:=yD (F.out.trans (Touch.of_below E))
   all_goals have bx:=yD (Z.out.below E)
   all_goals first
     | (have Y:=yD (show _=true from HK.out.trans qM);have a1:=yD (HY.out Y.out);clear HY a5 HK Y bo aq;go_wp2;go_roundw;(case rel=>exact ⟨h + 1,q,by go_num,rfl,by omega,by omega,by omega,a1,bx,ar⟩);(case measure=>simp [Ac];omega))
     | (have Y:=yD (show _=false from HK.out.trans qM);have a1:=yD (a5.out Y.out);clear HY a5 HK Y bo aq;go_wp2;go_roundw;(case rel=>exact ⟨p,h,rfl,rfl,by omega,by omega,by omega,a1,bx,ar⟩);(case measure=>simp [Ac];omega))
 obtain rfl:q=p:=bD1
 obtain ⟨cw,HE⟩:=IZ
 obtain ⟨t,ht⟩:∃ t,q - 1=t:=⟨_,rfl⟩
 obtain ⟨cm,ab,au,ap,D,bn⟩:=FN
 go_wp2
 go_loopw [13] (λi wr=>∃ (k:Nat) (cu:Ag kz),i=.int .i64 k/\a<=k/\k<=t/\Hid (Srt.up (t - k) k cu=Srt.up (t - a) a xs)/\Hid (cu.length=n)/\Hid (kD.kU 131 kS wr (.slice (some ⟨b,0,none⟩) n cap) cu S)/\Hid (Touch S w wr)) (λi _=>t - (Ac i).toNat)
 case atStart=>exact ⟨a,xs,rfl,Nat.le_refl _,ab,yD rfl,yD bl.out.symm,Z,F⟩
 obtain ⟨k,cu,rfl,df,aa,HG,HL,ai,b1⟩:=hrel
 have bk:=Aa k
 by_cases hlt:k < t
 · have a7:(k:Int) < t:=bD1;have ce:=yD ((up_next (cu:=cu) hlt).symm.trans HG.out);obtain ⟨j,I⟩:∃ j,k + 1=j:=⟨_,rfl⟩;rw [I] at ce;have dn:(k:Int) + 1=(j:Int):=bD1;obtain ⟨co,b0⟩:=CL;have a4:j < cu.length:=vQ;have am:k < cu.length:=bD1;have dq:(j:Int) < n:=bD1;have cz:(k:Int) < n:=bD1;obtain ⟨ba,b9,ch,pr,G,bt,bp⟩:=kD.at3 ai.out.kAz am rfl;obtain ⟨b7,an,a8,a6,bh,bz⟩:=jJ pr;simp only [Ab,and_true] at an;obtain ⟨rfl,rfl,rfl⟩:=an;obtain ⟨a2,be,rfl,cd⟩:=kD.sl a6;clear a8 a6 bh bz;obtain ⟨ae,af,ah,qr,R,br,bv⟩:=kD.at3 ai.out.kAz a4 rfl;obtain ⟨bd,ac,ag,ak,ao,ax⟩:=jJ qr;simp only [Ab,and_true] at ac;obtain ⟨rfl,rfl,rfl⟩:=ac;obtain ⟨ad,aw,rfl,bf⟩:=kD.sl ak;clear ag ak ao ax;generalize cu[k]=x at *;generalize cu[j]=y at *;go_upto_region 11 with fail;exact uY
 exact oV
def kXb {b n cap:Nat} {S:Nat->Prop} {g:Ah} {cp:Aj Ak} (key:kz->Int) (hg:jH prog g) (f:Nat) {w:Ad} {a m z:Nat} {xs:Ag kz} (J:kBo key g cp S w) (h:kD.kU 131 kS w (.slice (some ⟨b,0,none⟩) n cap) xs S) (hn:n=xs.length) (hlen:xs.length<=16777216) (ca:a < m) (b6:m < z) (hz:z<=xs.length) (hf:z - a<=f + 1) (c1:¬ m - a=1) (c2:z - m=1) :
    Al prog 211 #[.slice (some ⟨b,0,none⟩) n cap,.int .i64 (a:Nat),.int .i64 (m:Nat),.int .i64 (z:Nat),.func (.func g) #[] cp] w λe w'=>e=.returned (.tuple #[])/\kD.kU 131 kS w' (.slice (some ⟨b,0,none⟩) n cap) (Srt.symm key (f + 1) a m z xs) S/\Touch S w w':=by
 have av:=yD J
 unfold jH at hg
 obtain ⟨L,bl,dc⟩:=DD
 clear h J
 obtain ⟨bq,a3,c0,b4⟩:=CV
 clear hlen hz hn
 obtain ⟨cl,c4,c3,cq,db,cf,bu⟩:=xI
 go_enter func211,ntmps211
 have HF:=yD (symm_B (key:=key) (f:=f) (xs:=xs) c1 c2)
 have O:(z:Int) - (m:Int)=1:=bD1
 obtain ⟨ab,ap⟩:=FZ
 obtain ⟨ma,cm⟩:∃ ma,m - a=ma:=⟨_,rfl⟩
 rw [cm] at cf ap
 have c5:Ai.wrap (ma:Int)=ma:=Ae _ bD1
 clear bu
 go_wp2
 go_loopw [14,15] (λi j wr=>∃ (p q:Nat),i=.int .i64 p/\j=.int .i64 q/\a<=p/\p<=q/\q<=m/\Hid (Srt.bs (λh=>!decide (Srt.zG key xs m < Srt.zG key xs h)) p q=Srt.bs (λh=>!decide (Srt.zG key xs m < Srt.zG key xs h)) a m)/\Hid (kD.kU 131 kS wr (.slice (some ⟨b,0,none⟩) n cap) xs S)/\Hid (Touch S w wr)) (λi j _=>(Ac j).toNat - (Ac i).toNat)
 case atStart=>exact ⟨a,m,rfl,rfl,Nat.le_refl _,by omega,Nat.le_refl _,yD rfl,L,dc⟩
 obtain ⟨p,q,rfl,rfl,ck,cv,dd,HB,Z,F⟩:=hrel
 have ay:=Aa p
 have c7:(q:Int)<=m:=bD1
 by_cases hlt:p < q
 · have a7:(p:Int) < q:=bD1;obtain ⟨h,hh⟩:∃ h,(p + q) / 2=h:=⟨_,rfl⟩;obtain ⟨c9,de,c6,c8⟩:=AR;obtain ⟨HY,a5,hl,ml,da,al⟩:=DR;have HK:Hid ((λh=>!decide (Srt.zG key xs m < Srt.zG key xs h)) h=!decide (key (xs[m]'ml) < key (xs[h]'hl))):=yD gV;obtain ⟨ba,b9,ch,pr,G,bt,bp⟩:=kD.at3 Z.out.kAz ml rfl;obtain ⟨b7,an,a8,a6,bh,bz⟩:=jJ pr;simp only [Ab,and_true] at an;obtain ⟨rfl,rfl,rfl⟩:=an;obtain ⟨a2,be,rfl,cd⟩:=kD.sl a6;clear a8 a6 bh bz;obtain ⟨ae,af,ah,qr,R,br,bv⟩:=kD.at3 Z.out.kAz hl rfl;obtain ⟨bd,ac,ag,ak,ao,ax⟩:=jJ qr;simp only [Ab,and_true] at ac;obtain ⟨rfl,rfl,rfl⟩:=ac;obtain ⟨ad,aw,rfl,bf⟩:=kD.sl ak;clear ag ak ao ax;generalize xs[m]=x at *;generalize xs[h]=y at *;go_upto_region 17 with fail;have FX:=yD (λ(W:Ad) (hW:Qb wr W)=>kGx hW G bt bp R br bv);refine kM (λW=>Qb wr W) [Tt,Tt,Tt,Tt,Tt,Tt,Tt,Tt,Tt,Ff,Tt,Tt] bC5 bC5 pY (bR.drew) ?_;intro wS E;iterate 9
    all_goals refine kX ?_
   all_goals first|(refine kG rfl E ?_)|(refine kY rfl (λK H=>?_);go_simp;refine (av.out _ (F.out.trans (Touch.of_below E)) _ _ _ _ (kD.raw.below pr E) (kD.raw.below qr E)).mono ?_;rintro e wS1 ⟨kk,rfl,bo,X⟩;replace E:=(tQ E X);refine H _ _ E ?_;clear H K X)
   all_goals refine jD ?_
   all_goals refine kX ?_
   all_goals (refine jd λb au=>?_;cases b <;> try simp only [jc] at au)
   all_goals refine kR ?_
   all_goals have ar:=yD (F.out.trans (Touch.of_below E))
   all_goals have bx:=yD (Z.out.below E)
   all_goals first
     | (have Y:=yD (show _=true from HK.out.trans qN);have a1:=yD (HY.out Y.out);clear HY a5 HK Y bo au;go_wp2;go_roundw;(case rel=>exact ⟨h + 1,q,by go_num,rfl,by omega,by omega,by omega,a1,bx,ar⟩);(case measure=>simp [Ac];omega))
     | (have Y:=yD (show _=false from HK.out.trans qN);have a1:=yD (a5.out Y.out);clear HY a5 HK Y bo au;go_wp2;go_roundw;(case rel=>exact ⟨p,h,rfl,rfl,by omega,by omega,by omega,a1,bx,ar⟩);(case measure=>simp [Ac];omega))
 obtain rfl:q=p:=bD1
 obtain ⟨cw,HE,bn⟩:=EY
 go_wp2
 go_loopw [17] (λi wr=>∃ (k:Nat) (cu:Ag kz),i=.int .i64 k/\q<=k/\k<=m/\Hid (Srt.down q k cu=Srt.down q m xs)/\Hid (cu.length=n)/\Hid (kD.kU 131 kS wr (.slice (some ⟨b,0,none⟩) n cap) cu S)/\Hid (Touch S w wr)) (λi _=>(Ac i).toNat)
 case atStart=>exact ⟨m,xs,rfl,by omega,Nat.le_refl _,yD rfl,yD bl.out.symm,Z,F⟩
 obtain ⟨k,cu,rfl,df,aa,HG,HL,ai,b1⟩:=hrel
 have bk:=Aa k
 by_cases hlt:q < k
 · have a7:(q:Int) < k:=bD1;have D:decide ((k:Int) > q)=true:=bC6;obtain ⟨j,I⟩:∃ j,j + 1=k:=⟨k - 1,by omega⟩;have ce:=yD ((kZb (cu:=cu) I hlt).symm.trans HG.out);have dn:(k:Int) - 1=(j:Int):=bD1;obtain ⟨co,b0⟩:=CL;have am:k < cu.length:=vQ;have a4:j < cu.length:=bD1;have dq:(j:Int) < n:=bD1;have cz:(k:Int) < n:=bD1;obtain ⟨ba,b9,ch,pr,G,bt,bp⟩:=kD.at3 ai.out.kAz am rfl;obtain ⟨b7,an,a8,a6,bh,bz⟩:=jJ pr;simp only [Ab,and_true] at an;obtain ⟨rfl,rfl,rfl⟩:=an;obtain ⟨a2,be,rfl,cd⟩:=kD.sl a6;clear a8 a6 bh bz;obtain ⟨ae,af,ah,qr,R,br,bv⟩:=kD.at3 ai.out.kAz a4 rfl;obtain ⟨bd,ac,ag,ak,ao,ax⟩:=jJ qr;simp only [Ab,and_true] at ac;obtain ⟨rfl,rfl,rfl⟩:=ac;obtain ⟨ad,aw,rfl,bf⟩:=kD.sl ak;clear ag ak ao ax;generalize cu[k]=x at *;generalize cu[j]=y at *;go_upto_region 23 with fail;exact uY
 exact oW
def kXa {b n cap:Nat} {S:Nat->Prop} {g:Ah} {cp:Aj Ak} (key:kz->Int) (hg:jH prog g) (f:Nat) (ih:(∀ {w:Ad} {a m z:Nat} {xs:Ag kz} (J:kBo key g cp S w) (h:kD.kU 131 kS w (.slice (some ⟨b,0,none⟩) n cap) xs S) (hn:n=xs.length) (hlen:xs.length<=16777216) (ca:a < m) (b6:m < z) (hz:z<=xs.length) (hf:z - a<=f),Al prog 211 #[.slice (some ⟨b,0,none⟩) n cap,.int .i64 (a:Nat),.int .i64 (m:Nat),.int .i64 (z:Nat),.func (.func g) #[] cp] w λe w'=>e=.returned (.tuple #[])/\kD.kU 131 kS w' (.slice (some ⟨b,0,none⟩) n cap) (Srt.symm key f a m z xs) S/\Touch S w w')) {w:Ad} {a m z:Nat} {xs:Ag kz} (J:kBo key g cp S w) (h:kD.kU 131 kS w (.slice (some ⟨b,0,none⟩) n cap) xs S) (hn:n=xs.length) (hlen:xs.length<=16777216) (ca:a < m) (b6:m < z) (hz:z<=xs.length) (hf:z - a<=f + 1) (c1:¬ m - a=1) (c2:¬ z - m=1) :
    Al prog 211 #[.slice (some ⟨b,0,none⟩) n cap,.int .i64 (a:Nat),.int .i64 (m:Nat),.int .i64 (z:Nat),.func (.func g) #[] cp] w λe w'=>e=.returned (.tuple #[])/\kD.kU 131 kS w' (.slice (some ⟨b,0,none⟩) n cap) (Srt.symm key (f + 1) a m z xs) S/\Touch S w w':=by
 have av:=yD J
 have bw:=yD (λ(w:Ad) (a m z:Nat) (xs:Ag kz)=>ih (w:=w) (a:=a) (m:=m) (z:=z) (xs:=xs));clear ih
 unfold jH at hg
 obtain ⟨L,bl,dc⟩:=DD
 clear h J
 obtain ⟨bq,a3,c0,b4⟩:=CV
 clear hlen hz hn
 obtain ⟨cl,c4,c3,cq,db,cf,bu⟩:=xI
 go_enter func211,ntmps211
 obtain ⟨mid,D⟩:∃ mid,(a + z) / 2=mid:=⟨_,rfl⟩
 have b5:((a:Int) + (z:Int)) / 2=(mid:Int):=bD1
 obtain ⟨N,hN⟩:∃ N,mid + m=N:=⟨_,rfl⟩
 have d9:(mid:Int) + (m:Int)=(N:Int):=bD1
 obtain ⟨ab,ap⟩:=FZ
 have aj:¬ (z:Int) - (m:Int)=1:=bD1
 have bn:(((z - m:Nat):Int)==1)=false:=bC6
 have du:m - a<=16777216:=bD1
 have dv:z - m<=16777216:=bD1
 obtain ⟨ma,cm⟩:∃ ma,m - a=ma:=⟨_,rfl⟩
 rw [cm] at cf ap
 obtain ⟨zm,dg⟩:∃ zm,z - m=zm:=⟨_,rfl⟩
 rw [dg] at bu bn
 obtain ⟨c5,dp,U,cc,dy,d6,b0,dj⟩:=ES
 obtain ⟨lo,d3⟩:∃ lo,lo=(if mid < m then N - z else a):=⟨_,rfl⟩
 obtain ⟨hi,o⟩:∃ hi,hi=(if mid < m then mid else m):=⟨_,rfl⟩
 have df:lo<=hi:=by rw [d3,o];split <;> omega
 have dk:a<=lo:=tO
 have b3:hi<=m:=tZ
 have ce:hi<=mid:=tZ
 have dq:N<=z + lo:=tO
 have dt:m + hi<=N:=tZ
 have ed:=yD d3;have a4:=yD o;clear d3 o
 go_upto_if 140 with fail
 go_cut [20,21] from 138 to 140 (λdi b2 wc=>di=.int .i64 (lo:Nat)/\b2=.int .i64 (hi:Nat)/\Hid (kD.kU 131 kS wc (.slice (some ⟨b,0,none⟩) n cap) xs S)/\Hid (Touch S w wc))
 case first =>
  exact oZ
 obtain ⟨rfl,rfl,aa,dh⟩:=hcut
 clear L dc
 obtain ⟨N1,d8⟩:∃ N1,N - 1=N1:=⟨_,rfl⟩
 obtain ⟨dm,dl,dn,dw,dr⟩:=J9
 go_wp2
 go_loopw [20,21] (λi j wr=>∃ (p q:Nat),i=.int .i64 p/\j=.int .i64 q/\lo<=p/\p<=q/\q<=hi/\Hid (Srt.bs (λc=>!decide (Srt.zG key xs (N - 1 - c) < Srt.zG key xs c)) p q=Srt.bs (λc=>!decide (Srt.zG key xs (N - 1 - c) < Srt.zG key xs c)) lo hi)/\Hid (kD.kU 131 kS wr (.slice (some ⟨b,0,none⟩) n cap) xs S)/\Hid (Touch S w wr)) (λi j _=>(Ac j).toNat - (Ac i).toNat)
 case atStart=>exact ⟨lo,hi,rfl,rfl,Nat.le_refl _,by omega,Nat.le_refl _,yD rfl,aa,dh⟩
 obtain ⟨p,q,rfl,rfl,ck,cv,dd,HB,Z,F⟩:=hrel
 have ay:=Aa p
 have c7:(q:Int)<=hi:=bD1
 by_cases hlt:p < q
 · have a7:(p:Int) < q:=bD1;obtain ⟨h,hh⟩:∃ h,(p + q) / 2=h:=⟨_,rfl⟩;obtain ⟨c9,de,c6,c8⟩:=AR;obtain ⟨HY,a5⟩:=EH;obtain ⟨u,hu⟩:∃ u,N - 1 - h=u:=⟨_,rfl⟩;obtain ⟨ul,hl,da,d4,ea,d0,d2⟩:=IC;have HK:Hid ((λc=>!decide (Srt.zG key xs (N - 1 - c) < Srt.zG key xs c)) h=!decide (key (xs[u]'ul) < key (xs[h]'hl))):=yD bN;obtain ⟨ba,b9,ch,pr,G,bt,bp⟩:=kD.at3 Z.out.kAz ul rfl;obtain ⟨b7,an,a8,a6,bh,bz⟩:=jJ pr;simp only [Ab,and_true] at an;obtain ⟨rfl,rfl,rfl⟩:=an;obtain ⟨a2,be,rfl,cd⟩:=kD.sl a6;clear a8 a6 bh bz;obtain ⟨ae,af,ah,qr,R,br,bv⟩:=kD.at3 Z.out.kAz hl rfl;obtain ⟨bd,ac,ag,ak,ao,ax⟩:=jJ qr;simp only [Ab,and_true] at ac;obtain ⟨rfl,rfl,rfl⟩:=ac;obtain ⟨ad,aw,rfl,bf⟩:=kD.sl ak;clear ag ak ao ax;generalize xs[u]=x at *;generalize xs[h]=y at *;go_upto_region 35 with fail;have FX:=yD (λ(W:Ad) (hW:Qb wr W)=>kGx hW G bt bp R br bv);refine kM (λW=>Qb wr W) [Tt,Tt,Tt,Tt,Tt,Tt,Tt,Tt,Tt,Tt,Tt,Ff,Tt,Tt] bC5 bC5 pY (bR.drew) ?_;intro wS E;iterate 11
    all_goals refine kX ?_
   all_goals first|(refine kG rfl E ?_)|(refine kY rfl (λK H=>?_);go_simp;refine (av.out _ (F.out.trans (Touch.of_below E)) _ _ _ _ (kD.raw.below pr E) (kD.raw.below qr E)).mono ?_;rintro e wS1 ⟨kk,rfl,bo,X⟩;replace E:=(tQ E X);refine H _ _ E ?_;clear H K X)
   all_goals refine jD ?_
   all_goals refine kX ?_
   all_goals (refine jd λb a9=>?_;cases b <;> try simp only [jc] at a9)
   all_goals refine kR ?_
   all_goals have ar:=yD (F.out.trans (Touch.of_below E))
   all_goals have bx:=yD (Z.out.below E)
   all_goals first
     | (have Y:=yD (show _=true from HK.out.trans qO);have a1:=yD (HY.out Y.out);clear HY a5 HK Y bo a9;go_wp2;go_roundw;(case rel=>exact ⟨h + 1,q,by go_num,rfl,by omega,by omega,by omega,a1,bx,ar⟩);(case measure=>simp [Ac];omega))
     | (have Y:=yD (show _=false from HK.out.trans qO);have a1:=yD (a5.out Y.out);clear HY a5 HK Y bo a9;go_wp2;go_roundw;(case rel=>exact ⟨p,h,rfl,rfl,by omega,by omega,by omega,a1,bx,ar⟩);(case measure=>simp [Ac];omega))
 obtain rfl:q=p:=bD1
 obtain ⟨cw,HE⟩:=IG
 rw [ed.out,a4.out] at HE
 obtain ⟨e,he⟩:∃ e,N - q=e:=⟨_,rfl⟩
 have cg:(N:Int) - (q:Int)=(e:Int):=bD1
 have d7:Ai.wrap (e:Int)=e:=Ae _ bD1
 have dx:m<=e:=bD1
 have d5:e<=z:=bD1
 have dz:q<=m:=bD1
 have d1:a<=q:=bD1
 have eb:=Aa e
 obtain ⟨y,hy⟩:∃ y,y=if q < m/\m < e then Srt.rot m (m - q) (e - m) xs else xs:=⟨_,rfl⟩
 obtain ⟨u,hu⟩:∃ u,u=if a < q/\q < mid then Srt.symm key f a q mid y else y:=⟨_,rfl⟩
 have HF:=yD (symm_C (key:=key) (f:=f) c1 c2 D hN HE.out he hy hu)
 have O:Hid (n=y.length):=yD fE
 have co:Hid (n=u.length):=yD fT
 have HY:=yD hy;have HU:=yD hu;clear hy hu HB HE ed a4 D hN
 go_upto_region 39 with fail
 go_cut [185] from 178 to 185 (λsb wc=>sb=.bool (decide (q < m) && decide (m < e))/\Hid (kD.kU 131 kS wc (.slice (some ⟨b,0,none⟩) n cap) xs S)/\Hid (Touch S w wc))
 case first =>
  exact p8
 obtain ⟨rfl,bm,bi⟩:=hcut
 have au:=yD (kAj av.out bi.out)
 go_upto_if 185 with fail
 go_cut [] from 178 to 185 (λwc=>Hid (kD.kU 131 kS wc (.slice (some ⟨b,0,none⟩) n cap) y S)/\Hid (Touch S w wc))
 case first =>
  by_cases g:q < m/\m < e
  · have hb:(decide (q < m) && decide (m < e))=true:=mO;simp only [hb];go_wp2_with fail;refine (rot_Route_c bm.out bl.out (by have:=bl.out;omega) (a:=q) (m:=m) (z:=e) g.1 g.2 vS).mono ?_;exact p9
  exact q8
 obtain ⟨az,bg⟩:=hcut
 go_upto_region 41 with fail
 go_cut [199] from 192 to 199 (λsb wc=>sb=.bool (decide (a < q) && decide (q < mid))/\Hid (kD.kU 131 kS wc (.slice (some ⟨b,0,none⟩) n cap) y S)/\Hid (Touch S w wc))
 case first =>
  exact q9
 obtain ⟨rfl,bb,bj⟩:=hcut
 have au:=yD (kAj av.out bj.out)
 go_upto_if 199 with fail
 go_cut [] from 192 to 199 (λwc=>Hid (kD.kU 131 kS wc (.slice (some ⟨b,0,none⟩) n cap) u S)/\Hid (Touch S w wc))
 case first =>
  exact qC
 obtain ⟨al,b8⟩:=hcut
 go_upto_region 43 with fail
 go_cut [213] from 206 to 213 (λsb wc=>sb=.bool (decide (mid < e) && decide (e < z))/\Hid (kD.kU 131 kS wc (.slice (some ⟨b,0,none⟩) n cap) u S)/\Hid (Touch S w wc))
 case first =>
  exact qP
 obtain ⟨rfl,b1,bk⟩:=hcut
 have au:=yD (kAj av.out bk.out)
 exact qR
def kOi {b n cap:Nat} {S:Nat->Prop} {g:Ah} {cp:Aj Ak} (key:kz->Int) (hg:jH prog g):∀ (f:Nat),(∀ {w:Ad} {a m z:Nat} {xs:Ag kz} (J:kBo key g cp S w) (h:kD.kU 131 kS w (.slice (some ⟨b,0,none⟩) n cap) xs S) (hn:n=xs.length) (hlen:xs.length<=16777216) (ca:a < m) (b6:m < z) (hz:z<=xs.length) (hf:z - a<=f),Al prog 211 #[.slice (some ⟨b,0,none⟩) n cap,.int .i64 (a:Nat),.int .i64 (m:Nat),.int .i64 (z:Nat),.func (.func g) #[] cp] w λe w'=>e=.returned (.tuple #[])/\kD.kU 131 kS w' (.slice (some ⟨b,0,none⟩) n cap) (Srt.symm key f a m z xs) S/\Touch S w w'):=by
 intro f;induction f with
 | zero=>intro w a m z xs J h hn hlen ca b6 hz hf;omega
 | succ f ih =>
   intro w a m z xs J h hn hlen ca b6 hz hf;by_cases c1:m - a=1
   · exact kXc key hg f J h hn hlen ca b6 hz hf c1
   · by_cases c2:z - m=1
     · exact kXb key hg f J h hn hlen ca b6 hz hf c1 c2
     · exact kXa key hg f ih J h hn hlen ca b6 hz hf c1 c2
end Go.Proofs.YtjhfdpopkkmigaaGreat

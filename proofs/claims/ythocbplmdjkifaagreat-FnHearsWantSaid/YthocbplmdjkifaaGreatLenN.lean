/-
  How long a node's lists are. No program in sight.
-/
import Derived.Test.YthocbplmdjkifaaGreatRule
set_option linter.unusedVariables false
set_option linter.defProp false
set_option linter.unusedSimpArgs false
set_option linter.unnecessarySimpa false
set_option maxRecDepth 100000
set_option maxHeartbeats 4000000
open Bool renaming true->Tt,false->Ff
open Bool renaming not_false->Aa,and_false->Ab,false_and->Ac,not_true->Ae,and_true->Ag,true_and->Ah,or_false->Ai,false_or->Aj,or_true->Ak,true_or->Al,not_not->Am,eq_iff_iff->Ba,noConfusion->Bg
open Go renaming Value->Ad,World->Ap,Calls->Ar,run_convert_bytes_back->Ay,bodyPost_ret->Az,FuncId->Be
open _root_ renaming List->Aq,ByteArray->Bf
open Go.RowKit.Below renaming setCell->Au,trans->Aw,size->Bc
open Int renaming natCast_nonneg->Av,toNat_natCast->Bd
open Go.RowKit renaming intOf->Bb
namespace Go.Proofs.YthocbplmdjkifaaGreat
open Go.RowKit _root_.Go.Proofs.Tryz
def kLv {w:Ap} {va O:Ad} {a b:Aq kW} {g:Be} {cp:Array Ad} (hg:jL prog g) (V:(kD.slice 179 kN).raw w [va] a) (ag:(kD.slice 179 kN).raw w [O] b)
    (an:∀ wr,Qb w wr->∀ (cs ds:Aq Ad) (x y:kW),kN.raw wr cs x->kN.raw wr ds y->Ar prog g (#[.agg cs.toArray,.agg ds.toArray]++cp) wr (λe w'=>e=.returned (.bool (decide (x=y)))/\Qb wr w')) :
    Ar prog 223 #[va,O,.func (.func g) #[] cp] w (bQ w (.bool (decide (a=b)))):=by
 obtain ⟨aa,al,rfl,la,ab,ar,rfl,lb⟩:=kD.sx V (kD.sl ag)
 have a5:=yD an
 clear an
 unfold jL at hg
 go_enter func223,ntmps223
 by_cases hl:a.length=b.length
 case neg =>
  exact iQ
 obtain ⟨hz,HL⟩:=uX
 clear hl
 go_wp2
 go_loopw [17] (λi wr=>∃ k:Nat,k<=a.length/\i=.int .i64 k/\Hid (a.take k=b.take k)/\Qb w wr) (λi _=>a.length - (Bb i).toNat)
 case atStart=>exact ⟨0,Nat.zero_le _,rfl,yD rfl,bR⟩
 obtain ⟨k,hk,rfl,Y,o⟩:=hrel
 by_cases hlt:k < a.length
 · have ai:k < b.length:=wZ;obtain ⟨pb,po,rfl,bg,bl,bm,pr,ax,a3,bc⟩:=kD.zL (V.below o) (i:=k) bF2 rfl;obtain ⟨qb,qo,rfl,ac,ae,af,qr,ap,aq,au⟩:=kD.zL (ag.below o) (i:=k) bF2 rfl;obtain ⟨hne,H⟩:=vN;generalize a[k]=x at *;generalize b[k]=y at *;obtain ⟨HD,HX,HR,R⟩:=CJ;clear hne H;obtain ⟨rfl,rfl,a2,az,a9,ay⟩:=yG pr;obtain ⟨a8,bf,rfl,bo⟩:=kD.sl az;obtain ⟨rfl,rfl,ah,aj,ak,aw⟩:=yG qr;exact lX
 exact iV
def kUf {w:Ap} {va O:Ad} {a b:Aq jI} {g:Be} {cp:Array Ad} (hg:jL prog g) (V:(kD.slice 176 jA).raw w [va] a) (ag:(kD.slice 176 jA).raw w [O] b)
    (an:∀ wr,Qb w wr->∀ (cs ds:Aq Ad) (x y:jI),jA.raw wr cs x->jA.raw wr ds y->Ar prog g (#[.agg cs.toArray,.agg ds.toArray]++cp) wr (λe w'=>e=.returned (.bool (decide (x=y)))/\Qb wr w')) :
    Ar prog 221 #[va,O,.func (.func g) #[] cp] w (bQ w (.bool (decide (a=b)))):=by
 obtain ⟨aa,al,rfl,la,ab,ar,rfl,lb⟩:=kD.sx V (kD.sl ag)
 have a5:=yD an
 clear an
 unfold jL at hg
 go_enter func221,ntmps221
 by_cases hl:a.length=b.length
 case neg =>
  exact iQ
 obtain ⟨hz,HL⟩:=uX
 clear hl
 go_wp2
 go_loopw [17] (λi wr=>∃ k:Nat,k<=a.length/\i=.int .i64 k/\Hid (a.take k=b.take k)/\Qb w wr) (λi _=>a.length - (Bb i).toNat)
 case atStart=>exact ⟨0,Nat.zero_le _,rfl,yD rfl,bR⟩
 obtain ⟨k,hk,rfl,Y,o⟩:=hrel
 by_cases hlt:k < a.length
 · have ai:k < b.length:=wZ;obtain ⟨pb,po,rfl,bg,bl,bm,pr,ax,a3,bc⟩:=kD.zL (V.below o) (i:=k) bF2 rfl;obtain ⟨qb,qo,rfl,ac,ae,af,qr,ap,aq,au⟩:=kD.zL (ag.below o) (i:=k) bF2 rfl;obtain ⟨hne,H⟩:=vN;generalize a[k]=x at *;generalize b[k]=y at *;obtain ⟨HD,HX,HR,R⟩:=CJ;clear hne H;obtain ⟨rfl,rfl,a2,az,a9,ay⟩:=yI pr;obtain ⟨a8,bf,rfl,bo⟩:=kD.sl az;obtain ⟨rfl,rfl,ah,aj,ak,aw⟩:=yI qr;exact lX
 exact iV
def kHx {w:Ap} {va O:Ad} {a b:Aq kF} {g:Be} {cp:Array Ad} (hg:jL prog g) (V:(kD.slice 107 kH).raw w [va] a) (ag:(kD.slice 107 kH).raw w [O] b)
    (an:∀ wr,Qb w wr->∀ (cs ds:Aq Ad) (x y:kF),kH.raw wr cs x->kH.raw wr ds y->Ar prog g (#[.agg cs.toArray,.agg ds.toArray]++cp) wr (λe w'=>e=.returned (.bool (decide (x=y)))/\Qb wr w')) :
    Ar prog 218 #[va,O,.func (.func g) #[] cp] w (bQ w (.bool (decide (a=b)))):=by
 obtain ⟨aa,al,rfl,la,ab,ar,rfl,lb⟩:=kD.sx V (kD.sl ag)
 have a5:=yD an
 clear an
 unfold jL at hg
 go_enter func218,ntmps218
 by_cases hl:a.length=b.length
 case neg =>
  exact iQ
 obtain ⟨hz,HL⟩:=uX
 clear hl
 go_wp2
 go_loopw [17] (λi wr=>∃ k:Nat,k<=a.length/\i=.int .i64 k/\Hid (a.take k=b.take k)/\Qb w wr) (λi _=>a.length - (Bb i).toNat)
 case atStart=>exact ⟨0,Nat.zero_le _,rfl,yD rfl,bR⟩
 obtain ⟨k,hk,rfl,Y,o⟩:=hrel
 by_cases hlt:k < a.length
 · have ai:k < b.length:=wZ;obtain ⟨pb,po,rfl,bg,bl,bm,pr,ax,a3,bc⟩:=kD.zL (V.below o) (i:=k) bF2 rfl;obtain ⟨qb,qo,rfl,ac,ae,af,qr,ap,aq,au⟩:=kD.zL (ag.below o) (i:=k) bF2 rfl;obtain ⟨hne,H⟩:=vN;generalize a[k]=x at *;generalize b[k]=y at *;obtain ⟨HD,HX,HR,R⟩:=CJ;clear hne H;obtain ⟨rfl,a2,az,a9,ay⟩:=jP pr;obtain ⟨a8,bf,rfl,bo,cl,cz,rfl,br⟩:=kD.sx az (kD.sl a9);obtain ⟨rfl,ah,aj,ak,aw⟩:=jP qr;obtain ⟨ad,a4,rfl,a6,am,bk,rfl,bq⟩:=kD.sx aj (kD.sl ak);exact lY
 exact iV
def kNt {w:Ap} {va O:Ad} {a b:Aq jK} {g:Be} {cp:Array Ad} (hg:jL prog g) (V:(kD.slice 140 kz).raw w [va] a) (ag:(kD.slice 140 kz).raw w [O] b)
    (an:∀ wr,Qb w wr->∀ (cs ds:Aq Ad) (x y:jK),kz.raw wr cs x->kz.raw wr ds y->Ar prog g (#[.agg cs.toArray,.agg ds.toArray]++cp) wr (λe w'=>e=.returned (.bool (decide (x=y)))/\Qb wr w')) :
    Ar prog 151 #[va,O,.func (.func g) #[] cp] w (bQ w (.bool (decide (a=b)))):=by
 obtain ⟨aa,al,rfl,la,ab,ar,rfl,lb⟩:=kD.sx V (kD.sl ag)
 have a5:=yD an
 clear an
 unfold jL at hg
 go_enter func151,ntmps151
 by_cases hl:a.length=b.length
 case neg =>
  exact iQ
 obtain ⟨hz,HL⟩:=uX
 clear hl
 go_wp2
 go_loopw [17] (λi wr=>∃ k:Nat,k<=a.length/\i=.int .i64 k/\Hid (a.take k=b.take k)/\Qb w wr) (λi _=>a.length - (Bb i).toNat)
 case atStart=>exact ⟨0,Nat.zero_le _,rfl,yD rfl,bR⟩
 obtain ⟨k,hk,rfl,Y,o⟩:=hrel
 by_cases hlt:k < a.length
 · have ai:k < b.length:=wZ;obtain ⟨pb,po,rfl,bg,bl,pr,ax,a3⟩:=kD.get2 (V.below o) (i:=k) bF2 rfl;obtain ⟨qb,qo,rfl,ac,ae,qr,ap,aq⟩:=kD.get2 (ag.below o) (i:=k) bF2 rfl;obtain ⟨hne,H⟩:=vN;generalize a[k]=x at *;generalize b[k]=y at *;obtain ⟨HD,HX,HR,R⟩:=CJ;clear hne H;obtain ⟨rfl,a2,az,a9⟩:=zh pr;obtain ⟨a8,bf,rfl,bo⟩:=kD.sl az;obtain ⟨rfl,ah,aj,ak⟩:=zh qr;exact lX
 exact iV
def kVv {w:Ap} {va O:Ad} {a b:Aq jQ} {g:Be} {cp:Array Ad} (hg:jL prog g) (V:(kD.slice 60 jF).raw w [va] a) (ag:(kD.slice 60 jF).raw w [O] b)
    (an:∀ wr,Qb w wr->∀ (cs ds:Aq Ad) (x y:jQ),jF.raw wr cs x->jF.raw wr ds y->Ar prog g (#[.agg cs.toArray,.agg ds.toArray]++cp) wr (λe w'=>e=.returned (.bool (decide (x=y)))/\Qb wr w')) :
    Ar prog 148 #[va,O,.func (.func g) #[] cp] w (bQ w (.bool (decide (a=b)))):=by
 obtain ⟨aa,al,rfl,la,ab,ar,rfl,lb⟩:=kD.sx V (kD.sl ag)
 have a5:=yD an
 clear an
 unfold jL at hg
 go_enter func148,ntmps148
 by_cases hl:a.length=b.length
 case neg =>
  exact iQ
 obtain ⟨hz,HL⟩:=uX
 clear hl
 go_wp2
 go_loopw [17] (λi wr=>∃ k:Nat,k<=a.length/\i=.int .i64 k/\Hid (a.take k=b.take k)/\Qb w wr) (λi _=>a.length - (Bb i).toNat)
 case atStart=>exact ⟨0,Nat.zero_le _,rfl,yD rfl,bR⟩
 obtain ⟨k,hk,rfl,Y,o⟩:=hrel
 by_cases hlt:k < a.length
 · have ai:k < b.length:=wZ;obtain ⟨pb,po,rfl,bg,bl,bm,c1,cm,pr,ax,a3,bc,be,bb⟩:=kD.kTr (V.below o) (i:=k) bF2 rfl;obtain ⟨qb,qo,rfl,ac,ae,af,bt,bu,qr,ap,aq,au,a7,ba⟩:=kD.kTr (ag.below o) (i:=k) bF2 rfl;obtain ⟨hne,H⟩:=vN;generalize a[k]=x at *;generalize b[k]=y at *;obtain ⟨HD,HX,HR,R⟩:=CJ;clear hne H;obtain ⟨rfl,rfl,a2,az,a9,ay,bh,bn,b5⟩:=kAi pr;obtain ⟨a8,bf,rfl,bo,cl,cz,rfl,br,cf,c2,rfl,b6⟩:=kD.sx az (kD.sx a9 (kD.sl bh));obtain ⟨rfl,rfl,ah,aj,ak,aw,bj,bd,bp⟩:=kAi qr;obtain ⟨ad,a4,rfl,a6,am,bk,rfl,bq,ao,bx,rfl,bw⟩:=kD.sx aj (kD.sx ak (kD.sl bj));exact lY
 exact iV
def kMy {w:Ap} {va O:Ad} {a b:Aq kr} {g:Be} {cp:Array Ad} (hg:jL prog g) (V:(kD.slice 144 jB).raw w [va] a) (ag:(kD.slice 144 jB).raw w [O] b)
    (an:∀ wr,Qb w wr->∀ (cs ds:Aq Ad) (x y:kr),jB.raw wr cs x->jB.raw wr ds y->Ar prog g (#[.agg cs.toArray,.agg ds.toArray]++cp) wr (λe w'=>e=.returned (.bool (decide (x=y)))/\Qb wr w')) :
    Ar prog 216 #[va,O,.func (.func g) #[] cp] w (bQ w (.bool (decide (a=b)))):=by
 obtain ⟨aa,al,rfl,la,ab,ar,rfl,lb⟩:=kD.sx V (kD.sl ag)
 have a5:=yD an
 clear an
 unfold jL at hg
 go_enter func216,ntmps216
 by_cases hl:a.length=b.length
 case neg =>
  exact iQ
 obtain ⟨hz,HL⟩:=uX
 clear hl
 go_wp2
 go_loopw [17] (λi wr=>∃ k:Nat,k<=a.length/\i=.int .i64 k/\Hid (a.take k=b.take k)/\Qb w wr) (λi _=>a.length - (Bb i).toNat)
 case atStart=>exact ⟨0,Nat.zero_le _,rfl,yD rfl,bR⟩
 obtain ⟨k,hk,rfl,Y,o⟩:=hrel
 by_cases hlt:k < a.length
 · have ai:k < b.length:=wZ;obtain ⟨pb,po,rfl,bg,bl,bm,c1,cm,de,pr,ax,a3,bc,be,bb,b4⟩:=kD.kOr (V.below o) (i:=k) bF2 rfl;obtain ⟨qb,qo,rfl,ac,ae,af,bt,bu,b3,qr,ap,aq,au,a7,ba,bi⟩:=kD.kOr (ag.below o) (i:=k) bF2 rfl;obtain ⟨hne,H⟩:=vN;generalize a[k]=x at *;generalize b[k]=y at *;obtain ⟨HD,HX,HR,R⟩:=CJ;clear hne H;obtain ⟨rfl,rfl,rfl,a2,az,a9,ay,bh,bn,b5,b7,c3⟩:=jy pr;obtain ⟨a8,bf,rfl,bo,cl,cz,rfl,br,cf,c2,rfl,b6⟩:=kD.sx a9 (kD.sx ay (kD.sl bn));obtain ⟨rfl,rfl,rfl,ah,aj,ak,aw,bj,bd,bp,bz,b2⟩:=jy qr;obtain ⟨ad,a4,rfl,a6,am,bk,rfl,bq,ao,bx,rfl,bw⟩:=kD.sx ak (kD.sx aw (kD.sl bd));exact lY
 exact iV
def kPa {w:Ap} {va O:Ad} {a b:Aq ji} {g:Be} {cp:Array Ad} (hg:jL prog g) (V:(kD.slice 62 jO).raw w [va] a) (ag:(kD.slice 62 jO).raw w [O] b)
    (an:∀ wr,Qb w wr->∀ (cs ds:Aq Ad) (x y:ji),jO.raw wr cs x->jO.raw wr ds y->Ar prog g (#[.agg cs.toArray,.agg ds.toArray]++cp) wr (λe w'=>e=.returned (.bool (decide (x=y)))/\Qb wr w')) :
    Ar prog 75 #[va,O,.func (.func g) #[] cp] w (bQ w (.bool (decide (a=b)))):=by
 obtain ⟨aa,al,rfl,la,ab,ar,rfl,lb⟩:=kD.sx V (kD.sl ag)
 have a5:=yD an
 clear an
 unfold jL at hg
 go_enter func75,ntmps75
 by_cases hl:a.length=b.length
 case neg =>
  exact iQ
 obtain ⟨hz,HL⟩:=uX
 clear hl
 go_wp2
 go_loopw [17] (λi wr=>∃ k:Nat,k<=a.length/\i=.int .i64 k/\Hid (a.take k=b.take k)/\Qb w wr) (λi _=>a.length - (Bb i).toNat)
 case atStart=>exact ⟨0,Nat.zero_le _,rfl,yD rfl,bR⟩
 obtain ⟨k,hk,rfl,Y,o⟩:=hrel
 by_cases hlt:k < a.length
 · have ai:k < b.length:=wZ;obtain ⟨pb,po,rfl,bg,bl,bm,c1,cm,de,dl,dk,da,di,av,pr,ax,a3,bc,be,bb,b4,bq,a1,db,dd,ad⟩:=kD.kWw (V.below o) (i:=k) bF2 rfl;obtain ⟨qb,qo,rfl,ac,ae,af,bt,bu,b3,c9,ce,cg,cw,bv,qr,ap,aq,au,a7,ba,bi,b8,b1,b9,cc,a8⟩:=kD.kWw (ag.below o) (i:=k) bF2 rfl;obtain ⟨hne,H⟩:=vN;generalize a[k]=x at *;generalize b[k]=y at *;obtain ⟨HD,HX,HR,R⟩:=CJ;clear hne H;obtain ⟨rfl,rfl,rfl,rfl,rfl,rfl,rfl,a2,az,a9,ay,bh,bn,b5,b7,c3,am,F,c4,U,dc,br⟩:=kAr pr;obtain ⟨cf,c2,rfl,b6,dq,dm,rfl,dj,dh,dg,rfl,df,cd,dp,rfl,dn⟩:=kD.sx ay (kD.sx am (kD.sx F (kD.sl U)));obtain ⟨rfl,rfl,rfl,rfl,rfl,rfl,rfl,ah,aj,ak,aw,bj,bd,bp,bz,b2,a6,a4,bo,Z,bk,bf⟩:=kAr qr;obtain ⟨ao,bx,rfl,bw,cz,c7,rfl,cl,c6,cv,rfl,co,c8,c5,rfl,ch⟩:=kD.sx aw (kD.sx a6 (kD.sx a4 (kD.sl Z)));exact lY
 exact iV
def jBo {P:Program} {w:Ap} {src e dst:TypeId} (hs:P.underlying src=some (.slice e)) (he:P.underlying e=some (.int .u8)) (hd:P.underlying dst=some .string) {xs:Aq UInt8} {a:Option Addr} {len cap:Nat} (h:(kD.slice e kD.byte).raw w [.slice a len cap] xs) :
    (convert src dst (.slice a len cap)).run P w=.ok (.string ⟨xs.toArray⟩) w:=by
 obtain ⟨aa,D,hv,_⟩:=kD.kAw h
 simp only [List.cons.injEq,Value.slice.injEq,and_true] at hv
 obtain ⟨rfl,rfl,rfl⟩:=hv
 by_cases h0:xs=[]
 · subst h0;cases a with
   | none=>have h2:=run_convert_bytes_string w src dst e none 0 cap hs he hd;exact h2.trans rfl
   | some a=>exact Ay w src dst e a cap [] hs he hd (λj I=>by simp at I)
 have hp:0 < xs.length:=List.length_pos_iff.2 h0
 obtain ⟨b,off,rfl,_⟩:=kD.kCk h hp rfl
 refine Ay w src dst e ⟨b,off,none⟩ cap xs hs he hd (λj I=>?_)
 obtain ⟨b',off',o,c0,hr,hc⟩:=kD.kCk h I rfl
 simp only [Option.some.injEq,Addr.mk.injEq,and_true] at o
 obtain ⟨rfl,rfl⟩:=o
 have hq:=kD.kLr hr
 obtain rfl:c0=_:=by simpa using hq
 have F:(⟨b,off,none⟩:Addr).add j=⟨b,off + j,none⟩:=rF
 rw [F]
 exact hc
def bytes_eq (a b:Aq UInt8):((⟨a.toArray⟩:Bf).toList==(⟨b.toArray⟩:Bf).toList)=decide (a=b):=by
 rw [kSj,Ba];simp
def kUs {w:Ap} {va O:Ad} {a b:Aq UInt8} (V:(kD.slice 5 kD.byte).raw w [va] a) (ag:(kD.slice 5 kD.byte).raw w [O] b) :
    Ar prog 254 #[va,O] w (bQ w (.bool (decide (a=b)))):=by
 obtain ⟨aa,al,rfl,la,ab,ar,rfl,lb⟩:=kD.sx V (kD.sl ag)
 have h1:=jBo (P:=prog) (dst:=9) underlying22 underlying5 underlying9 V
 have h2:=jBo (P:=prog) (dst:=9) underlying22 underlying5 underlying9 ag
 have HE:=yD (bytes_eq a b)
 generalize o:(⟨a.toArray⟩:Bf)=sa at *
 generalize d5:(⟨b.toArray⟩:Bf)=sb at *
 clear o d5 V ag
 go_enter func254,ntmps254
 go_wp2
 go_ret
 exact ⟨kJ HE.out,bR⟩
def jGo {w:Ap} {va O:Ad} {a b:Aq UInt8} (V:(kD.slice 5 kD.byte).raw w [va] a) (ag:(kD.slice 5 kD.byte).raw w [O] b) :
    Ar prog 163 #[va,O] w (bQ w (.bool (decide (a=b)))):=by
 obtain ⟨aa,al,rfl,la,ab,ar,rfl,lb⟩:=kD.sx V (kD.sl ag)
 go_enter func163,ntmps163
 by_cases hl:a.length=b.length
 case neg =>
  exact iQ
 obtain ⟨hz,HL⟩:=uX
 clear hl
 go_wp2
 go_loopw [13] (λi wr=>∃ k:Nat,k<=a.length/\i=.int .i64 k/\Hid (a.take k=b.take k)/\Qb w wr) (λi _=>a.length - (Bb i).toNat)
 case atStart=>exact ⟨0,Nat.zero_le _,rfl,yD rfl,bR⟩
 exact iR
def vInt (x y:jE):Bool:=((eqN x.1 y.1 && (x.2.1==y.2.1)) && (x.2.2.1==y.2.2.1)) && (x.2.2.2==y.2.2.2)
def vInt_eq (x y:jE):vInt x y=decide (x=y):=by
 obtain ⟨x0,x1,x2,x3⟩:=x;obtain ⟨y0,y1,y2,y3⟩:=y;rw [Ba];simp [vInt,eqN,and_assoc]
def kGq (x y:jQ):Bool:=(((eqN x.1 y.1 && decide (x.2.1=y.2.1)) && eqN x.2.2.1 y.2.2.1) && (x.2.2.2.1==y.2.2.2.1)) && (x.2.2.2.2==y.2.2.2.2)
def kZc (x y:jQ):kGq x y=decide (x=y):=by
 obtain ⟨x0,x1,x2,x3,x4⟩:=x;obtain ⟨y0,y1,y2,y3,y4⟩:=y;rw [Ba];simp [kGq,eqN,and_assoc]
def kXk {w:Ap} {cx:Aq Ad} {x:jQ} (hx:jF.raw w cx x) {cy:Aq Ad} {y:jQ} (hy:jF.raw w cy y) :
    Ar prog 225 #[.agg cx.toArray,.agg cy.toArray] w (bQ w (.bool (kGq x y))):=by
 have Hx:=yD hx
 obtain ⟨a4,bl,bd,rfl,Y,N,ae,ag,aj,au,a6⟩:=jf hx
 obtain ⟨a5,a2,rfl,ay,bg,bc,rfl,bk,bj,be,rfl,bi⟩:=kD.sx N (kD.sx ae (kD.sl aj))
 have Hy:=yD hy
 obtain ⟨a8,bf,bu,rfl,aa,ad,ah,ak,al,ao,aw⟩:=jf hy
 obtain ⟨aq,ap,rfl,ba,bo,bp,rfl,bn,a7,a9,rfl,bt⟩:=kD.sx ad (kD.sx ah (kD.sl al))
 go_enter func225,ntmps225
 go_upto_region 1 with fail
 refine kAe ?_
 intro U Z F an _
 obtain ⟨X,o,R,am,av⟩:=yZ F
 obtain ⟨I,ac,af,ar,az⟩:=yZ an
 clear F an
 have FX:=yD (λ(W:Ap) (hW:Qb U W)=>cLs10 hW X o R am av I ac af ar az)
 refine kL (λW=>Qb U W) [Tt,Tt,Tt,Tt,Ff,Tt,Tt,Tt,Tt,Tt,Ff,Tt,Tt,Tt,Tt,Tt,Tt,Ff,Tt,Tt,Tt,Tt,Tt,Tt,Tt,Tt,Tt,Tt,Tt,Tt,Tt,Tt,Tt,Tt] bR ?_
 intro wS E
 all_goals ((iterate 4 refine kS ?_);(first | refine zi (jU (kD.raw.below Y (tQ Z E)) (kD.raw.below aa (tQ Z E))) (λwS1 E=>?_) | refine kS ?_);refine jT λb a3=>?_;cases b <;> try simp only [jS] at a3)
 all_goals ((iterate 4 refine kS ?_);(first | refine zi (kUs (kD.raw.below ae (tQ Z E)) (kD.raw.below ah (tQ Z E))) (λwS1 E=>?_) | refine kS ?_);refine kS ?_;refine jT λb ab=>?_;cases b <;> try simp only [jS] at ab)
 all_goals ((iterate 4 refine kS ?_);(first | refine zi (jU (kD.raw.below ag (tQ Z E)) (kD.raw.below ak (tQ Z E))) (λwS1 E=>?_) | refine kS ?_);refine kS ?_;refine jT λb O=>?_;cases b <;> try simp only [jS] at O)
 all_goals ((iterate 6 refine kS ?_);refine jT λb J=>?_;cases b <;> try simp only [jS] at J)
 all_goals ((iterate 6 refine kS ?_);refine jT λb ai=>?_;cases b <;> try simp only [jS] at ai)
 all_goals (refine kM ?_;have D:=(tQ Z E))
 all_goals first
   | (have L:=yD (show (kGq x y)=false by simp only [kGq,Ae,Aa,Ag,Ah,Ab,Ac,Ak,Al,Ai,Aj,Am,a3,ab,O,J,ai]);go_wp2;go_ret;exact ⟨kJ L.out.symm,D⟩)
   | (have L:=yD (show (kGq x y)=true by simp only [kGq,Ae,Aa,Ag,Ah,Ab,Ac,Ak,Al,Ai,Aj,Am,a3,ab,O,J,ai]);go_wp2;go_ret;exact ⟨kJ L.out.symm,D⟩)
def kNc {w:Ap} {cx:Aq Ad} {x:jQ} (hx:jF.raw w cx x) {cy:Aq Ad} {y:jQ} (hy:jF.raw w cy y) :
    Ar prog 225 #[.agg cx.toArray,.agg cy.toArray] w (bQ w (.bool (decide (x=y)))):=by
 have h:=kXk hx hy
 rw [kZc] at h
 exact h
def kOn {w:Ap} {cx:Aq Ad} {x:jE} (hx:jM.raw w cx x) {cy:Aq Ad} {y:jE} (hy:jM.raw w cy y) :
    Ar prog 77 #[.agg cx.toArray,.agg cy.toArray] w (bQ w (.bool (vInt x y))):=by
 have Hx:=yD hx
 obtain ⟨a4,rfl,Y,N,ae,ag,aj⟩:=jY hx
 obtain ⟨a5,a2,rfl,ay⟩:=kD.sl N
 have Hy:=yD hy
 obtain ⟨a8,rfl,aa,ad,ah,ak,al⟩:=jY hy
 obtain ⟨aq,ap,rfl,ba⟩:=kD.sl ad
 go_enter func77,ntmps77
 go_upto_region 1 with fail
 refine kAe ?_
 intro U Z F an _
 obtain ⟨X,o,R,am⟩:=jW F
 obtain ⟨I,ac,af,ar⟩:=jW an
 clear F an
 have FX:=yD (λ(W:Ap) (hW:Qb U W)=>cLs8 hW X o R am I ac af ar)
 refine kL (λW=>Qb U W) [Tt,Tt,Tt,Tt,Ff,Tt,Tt,Tt,Tt,Tt,Tt,Tt,Tt,Tt,Tt,Tt,Tt,Tt,Tt,Tt,Tt,Tt,Tt,Tt,Tt,Tt,Tt] bR ?_
 intro wS E
 all_goals ((iterate 4 refine kS ?_);(first | refine zi (jw (kD.raw.below Y (tQ Z E)) (kD.raw.below aa (tQ Z E))) (λwS1 E=>?_) | refine kS ?_);refine jT λb a3=>?_;cases b <;> try simp only [jS] at a3)
 all_goals ((iterate 6 refine kS ?_);refine jT λb ab=>?_;cases b <;> try simp only [jS] at ab)
 all_goals ((iterate 6 refine kS ?_);refine jT λb O=>?_;cases b <;> try simp only [jS] at O)
 all_goals ((iterate 6 refine kS ?_);refine jT λb J=>?_;cases b <;> try simp only [jS] at J)
 all_goals (refine kM ?_;have D:=(tQ Z E))
 all_goals first
   | (have L:=yD (show (vInt x y)=false by simp only [vInt,Ae,Aa,Ag,Ah,Ab,Ac,Ak,Al,Ai,Aj,Am,a3,ab,O,J]);go_wp2;go_ret;exact ⟨kJ L.out.symm,D⟩)
   | (have L:=yD (show (vInt x y)=true by simp only [vInt,Ae,Aa,Ag,Ah,Ab,Ac,Ak,Al,Ai,Aj,Am,a3,ab,O,J]);go_wp2;go_ret;exact ⟨kJ L.out.symm,D⟩)
def kOo {w:Ap} {cx:Aq Ad} {x:jE} (hx:jM.raw w cx x) {cy:Aq Ad} {y:jE} (hy:jM.raw w cy y) :
    Ar prog 77 #[.agg cx.toArray,.agg cy.toArray] w (bQ w (.bool (decide (x=y)))):=by
 have h:=kOn hx hy
 rw [vInt_eq] at h
 exact h
def kXz {w:Ap} {cx:Aq Ad} {x:jQ} (hx:jF.raw w cx x) {cy:Aq Ad} {y:jQ} (hy:jF.raw w cy y) :
    Ar prog 78 #[.agg cx.toArray,.agg cy.toArray] w (bQ w (.bool (kGq x y))):=by
 have Hx:=yD hx
 obtain ⟨a4,bl,bd,rfl,Y,N,ae,ag,aj,au,a6⟩:=jf hx
 obtain ⟨a5,a2,rfl,ay,bg,bc,rfl,bk,bj,be,rfl,bi⟩:=kD.sx N (kD.sx ae (kD.sl aj))
 have Hy:=yD hy
 obtain ⟨a8,bf,bu,rfl,aa,ad,ah,ak,al,ao,aw⟩:=jf hy
 obtain ⟨aq,ap,rfl,ba,bo,bp,rfl,bn,a7,a9,rfl,bt⟩:=kD.sx ad (kD.sx ah (kD.sl al))
 go_enter func78,ntmps78
 go_upto_region 1 with fail
 refine kAe ?_
 intro U Z F an _
 obtain ⟨X,o,R,am,av⟩:=yZ F
 obtain ⟨I,ac,af,ar,az⟩:=yZ an
 clear F an
 have FX:=yD (λ(W:Ap) (hW:Qb U W)=>cLs10 hW X o R am av I ac af ar az)
 refine kL (λW=>Qb U W) [Tt,Tt,Tt,Tt,Ff,Tt,Tt,Tt,Tt,Tt,Ff,Tt,Tt,Tt,Tt,Tt,Tt,Ff,Tt,Tt,Tt,Tt,Tt,Tt,Tt,Tt,Tt,Tt,Tt,Tt,Tt,Tt,Tt,Tt] bR ?_
 intro wS E
 all_goals ((iterate 4 refine kS ?_);(first | refine zi (jw (kD.raw.below Y (tQ Z E)) (kD.raw.below aa (tQ Z E))) (λwS1 E=>?_) | refine kS ?_);refine jT λb a3=>?_;cases b <;> try simp only [jS] at a3)
 all_goals ((iterate 4 refine kS ?_);(first | refine zi (jGo (kD.raw.below ae (tQ Z E)) (kD.raw.below ah (tQ Z E))) (λwS1 E=>?_) | refine kS ?_);refine kS ?_;refine jT λb ab=>?_;cases b <;> try simp only [jS] at ab)
 all_goals ((iterate 4 refine kS ?_);(first | refine zi (jw (kD.raw.below ag (tQ Z E)) (kD.raw.below ak (tQ Z E))) (λwS1 E=>?_) | refine kS ?_);refine kS ?_;refine jT λb O=>?_;cases b <;> try simp only [jS] at O)
 all_goals ((iterate 6 refine kS ?_);refine jT λb J=>?_;cases b <;> try simp only [jS] at J)
 all_goals ((iterate 6 refine kS ?_);refine jT λb ai=>?_;cases b <;> try simp only [jS] at ai)
 all_goals (refine kM ?_;have D:=(tQ Z E))
 all_goals first
   | (have L:=yD (show (kGq x y)=false by simp only [kGq,Ae,Aa,Ag,Ah,Ab,Ac,Ak,Al,Ai,Aj,Am,a3,ab,O,J,ai]);go_wp2;go_ret;exact ⟨kJ L.out.symm,D⟩)
   | (have L:=yD (show (kGq x y)=true by simp only [kGq,Ae,Aa,Ag,Ah,Ab,Ac,Ak,Al,Ai,Aj,Am,a3,ab,O,J,ai]);go_wp2;go_ret;exact ⟨kJ L.out.symm,D⟩)
def kHh {w:Ap} {cx:Aq Ad} {x:jQ} (hx:jF.raw w cx x) {cy:Aq Ad} {y:jQ} (hy:jF.raw w cy y) :
    Ar prog 78 #[.agg cx.toArray,.agg cy.toArray] w (bQ w (.bool (decide (x=y)))):=by
 have h:=kXz hx hy
 rw [kZc] at h
 exact h
def isD (n:ko) (x:jQ):Bool:=eqN x.1 n
def fresh (t:Int) (x:jQ):Bool:=decide (t<=x.2.2.2.1)
def kMq (n:ko) (t:Int) (x:kr):Bool:=eqN x.1.1 n && fresh t x.1
def kNa:jQ:=([],[],[],0,0)
def lkD (n:ko) (t:Int) (l:Aq kr):jQ:=if idxOf (kMq n t) l < 0 then kNa else (l.getD (idxOf (kMq n t) l).toNat (kNa,0)).1
def lkOk (n:ko) (t:Int) (l:Aq kr):Bool:=!decide (idxOf (kMq n t) l < 0)
def lk_no {n:ko} {t:Int} {l:List kr} (h:idxOf (kMq n t) l=-1):lkOk n t l=false/\lkD n t l=kNa:=by simp [lkOk,lkD,h]
def lk_yes {n:ko} {t:Int} {l:Aq kr} {j:Nat} (I:j < l.length) (h:idxOf (kMq n t) l=j):lkOk n t l=true/\lkD n t l=l[j].1:=by
 unfold lkOk lkD;rw [h,Bd,jb I,if_neg bF2,decide_eq_false bF2];exact ⟨rfl,rfl⟩
def kPk {α β:Type} {e:TypeId} {r:kD α} {q:kD β} {w:Ap} {ds:Aq Ad} {y:β} {S:Nat->Prop} (h:q.own w ds y S):(kD.pair (kD.slice e r) q).own w ([.slice none 0 0]++ds) ([],y) S :=
  kD.jq (A:=λ_=>False) (B:=S) kD.yF h (λ_ h=>h.elim) (λ_ h=>h) (λ_ h _=>h)
def kUj {w:Ap} {S:Nat->Prop}:jF.own w [.slice none 0 0,.slice none 0 0,.slice none 0 0,Qn 0,Qn 0] kNa S :=
  kPk (kPk (kPk (kD.jq (A:=λ_=>False) (B:=λ_=>False) (cs:=[.int .i64 0]) (ds:=[.int .i64 0]) (kD.flat.own (kD.ky (n:=0) bF2)) (kD.flat.own (kD.ky (n:=0) bF2)) (λ_ h=>h.elim) (λ_ h=>h.elim) (λ_ h _=>h))))
def kQw {w:Ap} {vl:Ad} {l:(Aq jQ)} (hl:(kD.slice 60 jF).raw w [vl] l) {cn:Aq Ad} {n:ko} (hn:kR.raw w cn n) :
    Ar prog 138 #[vl,.agg cn.toArray] w (bQ w (.int .i64 (idxOf (isD n) l))):=by
 obtain ⟨al,pl,rfl,ll⟩:=kD.sl hl
 have Hn:=yD hn
 obtain ⟨X,rfl,J⟩:=kw hn
 obtain ⟨V,F,rfl,aa⟩:=kD.sl J
 go_enter func138,ntmps138
 go_wp2
 generalize R:World.alloc w _=U
 obtain ⟨Z,I⟩:=xN
 clear R
 replace hl:=hl.below Z
 go_loopw [5] (λi wr=>∃ k:Nat,k<=l.length/\i=.int .i64 k/\Hid (∀ j,(h:j < k)->(h2:j < l.length)->(isD n) l[j]=false)/\Qb U wr) (λi _=>l.length - (Bb i).toNat)
 case atStart=>exact ⟨0,Nat.zero_le _,rfl,yD (λ_ h=>by omega),bR⟩
 obtain ⟨k,hk,rfl,Y,o⟩:=hrel
 replace I:=cL o I
 by_cases hlt:k < l.length
 · obtain ⟨qb,qo,rfl,ac,ae,af,bt,bu,qr,ap,aq,au,a7,ba⟩:=kD.kTr (hl.below o) (i:=k) bF2 rfl;obtain ⟨O,H⟩:=BG;generalize l[k]=x at *;have HD:=yD O;have HX:=yD H;clear O H;obtain ⟨x0,x1,x2,x3,x4⟩:=x;obtain ⟨rfl,rfl,ah,aj,ak,aw,bj,bd,bp⟩:=kAi qr;obtain ⟨ad,a4,rfl,a6,am,bk,rfl,bq,ao,bx,rfl,bw⟩:=kD.sx aj (kD.sx ak (kD.sl bj));go_upto_region 4 with fail;have FX:=yD (λ(W:Ap) (hW:Qb wr W)=>kJf hW I ap aq au a7 ba);refine kK (λW=>Qb wr W) [Tt,Tt,Tt,Tt,Tt,Tt,Ff] bE5 bE5 qW (bR.drew) ?_;intro wS E;all_goals ((iterate 6 refine kS ?_);(first | refine zi (jU (kD.raw.below ah E) (kD.raw.below Hn.out ((tQ Z (tQ o E))))) (λwS1 E=>?_) | refine kS ?_);refine kM ?_)
   all_goals cases cg:eqN x0 n
   all_goals have D:=(tQ o E)
   all_goals first
     | (have L:=yD (HD.out (show _=true by simp only [isD,Ae,Aa,Ag,Ah,Ab,Ac,Ak,Al,Ai,Aj,Am,cg]));clear HD HX;go_wp2;go_ret;exact ⟨jZ L.out.symm,(tQ Z D)⟩)
     | (have L:=yD (HX.out (show _=false by simp only [isD,Ae,Aa,Ag,Ah,Ab,Ac,Ak,Al,Ai,Aj,Am,cg]));clear HD HX;refine Qg ?_;exact ⟨k + 1,by omega,by go_num,L,D⟩)
 exact l8
def jBa {w:Ap} {cx:Aq Ad} {x:jQ} (hx:jF.raw w cx x) {n:ko} {bn:Ad} {O:Nat} (nr:kR.raw w [bn] n) (J:Qc w O 0 bn) :
    Ar prog 165 (#[.agg cx.toArray]++#[.pointer (some ⟨O,0,none⟩)]) w (bQ w (.bool (isD n x))):=by
 have Hx:=yD hx
 obtain ⟨a4,bl,bd,rfl,Y,N,ae,ag,aj,au,a6⟩:=jf hx
 obtain ⟨a5,a2,rfl,ay,bg,bc,rfl,bk,bj,be,rfl,bi⟩:=kD.sx N (kD.sx ae (kD.sl aj))
 have az:=kJa nr
 obtain ⟨ce,V,rfl,aa⟩:=kD.sl az
 show Ar prog 165 #[_,_] w _
 go_enter func165,ntmps165
 go_upto_region 1 with fail
 refine ja ?_
 intro U Z F _
 obtain ⟨X,o,R,am,av⟩:=yZ F
 clear F
 replace J:=cL Z J
 have FX:=yD (λ(W:Ap) (hW:Qb U W)=>kJf hW X o R am av J)
 refine kL (λW=>Qb U W) [Tt,Tt,Tt,Ff,Tt] bR ?_
 intro wS E
 all_goals ((iterate 3 refine kS ?_);(first | refine zi (jw (kD.raw.below Y (tQ Z E)) (kD.raw.below nr (tQ Z E))) (λwS1 E=>?_) | refine kS ?_);refine jT λb a1=>?_;cases b <;> try simp only [jS] at a1)
 all_goals (refine kM ?_;have D:=(tQ Z E))
 all_goals first
   | (have L:=yD (show (isD n x)=false by simp only [isD,Ae,Aa,Ag,Ah,Ab,Ac,Ak,Al,Ai,Aj,Am,a1]);go_wp2;go_ret;exact ⟨kJ L.out.symm,D⟩)
   | (have L:=yD (show (isD n x)=true by simp only [isD,Ae,Aa,Ag,Ah,Ab,Ac,Ak,Al,Ai,Aj,Am,a1]);go_wp2;go_ret;exact ⟨kJ L.out.symm,D⟩)
def kLp:jL prog 165:=yM func165 bE5 bE5
def kRi {w:Ap} {vl:Ad} {l:(Aq jQ)} (hl:(kD.slice 60 jF).raw w [vl] l) {cn:Aq Ad} {n:ko} (hn:kR.raw w cn n) :
    Ar prog 81 #[vl,.agg cn.toArray] w (bQ w (.int .i64 (idxOf (isD n) l))):=by
 obtain ⟨al,pl,rfl,ll⟩:=kD.sl hl
 have Hn:=yD hn
 obtain ⟨X,rfl,J⟩:=kw hn
 obtain ⟨V,F,rfl,aa⟩:=kD.sl J
 go_enter func81,ntmps81
 go_upto_region 1 with fail
 generalize R:World.alloc w _=U
 obtain ⟨Z,I⟩:=xN
 clear R
 go_wp2_with fail
 refine (kVu (isD n) kLp (kD.raw.below hl Z) ?_).mono ?_
 · intro wr hb i h cs hr;exact jBa hr (kD.raw.below Hn.out (tQ Z hb)) (cL hb I)
 exact l9
def jCl {w:Ap} {cx:Aq Ad} {x:jQ} (hx:jF.raw w cx x) {t:Int} :
    Ar prog 212 #[.agg cx.toArray,.int .i64 t] w (bQ w (.bool (fresh t x))):=by
 obtain ⟨v0,v1,v2,rfl,V,a9,bl,bi,bg,bo,b1⟩:=jf hx
 have L:=yD (show fresh t x=decide (t<=x.2.2.2.1) from rfl)
 clear hx V a9 bl bi bg bo b1
 go_enter func212,ntmps212
 go_wp2
 go_ret
 exact ⟨kJ L.out.symm,bI⟩
def jCt {w:Ap} {cx:Aq Ad} {x:jQ} (hx:jF.raw w cx x) {t:Int} :
    Ar prog 190 #[.agg cx.toArray,.int .i64 t] w (bQ w (.bool (fresh t x))):=by
 obtain ⟨v0,v1,v2,rfl,V,a9,bl,bi,bg,bo,b1⟩:=jf hx
 have L:=yD (show fresh t x=decide (t<=x.2.2.2.1) from rfl)
 clear hx V a9 bl bi bg bo b1
 go_enter func190,ntmps190
 go_wp2
 go_ret
 exact ⟨kJ L.out.symm,bI⟩
def kTa {w:Ap} {cs:Aq Ad} {x:kg} (hx:kP.rd w cs x) {cn:Aq Ad} {n:ko} (hn:kR.rd w cn n) {t:Int} :
    Ar prog 140 #[.agg cs.toArray,.agg cn.toArray,.int .i64 t] w λe w'=>∃ ds,e=.returned (.tuple #[.agg ds.toArray,.bool (lkOk n t x.2)])/\jF.own w' ds (lkD n t x.2) (jg w w')/\Qb w w':=by
 have Y:=yD hn
 obtain ⟨sv,rfl,ff,N⟩:=jN hx.1
 have V:=yD (show (kD.slice 144 jB).rd w [sv] x.2 from ⟨N,hx.2.2⟩)
 obtain ⟨c,l⟩:=x
 have HL:Hid ((kD.slice 144 jB).rd w [sv] l):=V
 clear V
 obtain ⟨nv,rfl,az⟩:=kw hn.1
 obtain ⟨an,a8,rfl,ln,aa,al,rfl,la⟩:=kD.sx az (kD.sl N)
 clear hn hx az ff N
 show Ar prog 140 _ w λe w'=>∃ ds,e=.returned (.tuple #[.agg ds.toArray,.bool (lkOk n t l)])/\jF.own w' ds (lkD n t l) (jg w w')/\Qb w w'
 go_enter func140,ntmps140
 go_wp2
 generalize R:World.alloc (World.alloc (World.alloc w _) _) _=U
 obtain ⟨Z,be,K1,K2,XR⟩:=CF
 clear R
 replace HL:=yD (kD.rd.below HL.out Z)
 go_loopw [8] (λi wr=>∃ k:Nat,k<=l.length/\i=.int .i64 k/\Hid (∀ j,(h:j < k)->(h2:j < l.length)->kMq n t l[j]=false)/\Qb U wr) (λi _=>l.length - (Bb i).toNat)
 case atStart=>exact ⟨0,Nat.zero_le _,rfl,yD (λ_ h=>by omega),bR⟩
 obtain ⟨k,hk,rfl,HW,o⟩:=hrel
 replace K1:=cL o K1
 replace K2:=cL o K2
 replace XR:=yD (kC XR.out o)
 by_cases hlt:k < l.length
 · have av:=(kD.yx HL.out hlt).1;have b9:=Av k;have dt:=Int.ofNat_lt.2 hlt;obtain ⟨qb,qo,rfl,ac,ae,af,bt,bu,b3,qr,ap,aq,au,a7,ba,bi⟩:=kD.kOr (HL.out.1.below o) (i:=k) bF2 rfl;have O:=λq=>lk_yes hlt (idxOf_hit (p:=kMq n t) hlt q HW.out);have H:=λq=>kAv (p:=kMq n t) hlt q HW.out;generalize l[k]=x at *;have HD:=yD O;have HX:=yD H;clear O H;obtain ⟨rfl,rfl,rfl,ah,aj,ak,aw,bj,bd,bp,bz,b2⟩:=jy qr;obtain ⟨ad,a4,rfl,a6,am,bk,rfl,bq,ao,bx,rfl,bw⟩:=kD.sx ak (kD.sx aw (kD.sl bd));have HR:=yD (show jF.rd wr _ x.1 from ⟨ah,av⟩);clear av;go_upto_region 4 with fail;have FX:=yD (λ(W:Ap) (hW:Qb wr W)=>cLs8 hW K1 K2 ap aq au a7 ba bi);refine kK (λW=>Qb wr W) [Tt,Tt,Tt,Tt,Tt,Tt,Tt,Tt,Ff,Tt,Tt,Tt,Tt,Tt,Tt,Tt,Tt,Ff,Tt] bE5 bE5 qW (bR.drew) ?_;intro wS E;all_goals ((iterate 8 refine kS ?_);(first | refine zi (jU (kD.raw.below aj E) (Y.out.1.below ((tQ Z (tQ o E))))) (λwS1 E=>?_) | refine kS ?_);refine jT λb a5=>?_;cases b <;> try simp only [jS] at a5)
   all_goals ((iterate 7 refine kS ?_);(first | refine zi (jCl (kD.raw.below ah E)) (λwS1 E=>?_) | refine kS ?_);refine jT λb dr=>?_;cases b <;> try simp only [jS] at dr)
   all_goals (refine kM ?_;have D:=(tQ Z (tQ o E));have ax:w.heap.size + 3<=wr.heap.size:=bA0)
   all_goals cases hv:kMq n t x
   all_goals first
     | (exfalso;simp only [kMq,Ae,Aa,Ag,Ah,Ab,Ac,Ak,Al,Ai,Aj,Am,a5,dr] at hv;exact Bg hv)
     | have L:=yD (HD.out hv)
     | have L:=yD (HX.out hv)
   all_goals clear HD HX hv
   all_goals first
     | (refine Qg ?_;exact ⟨k + 1,by omega,by go_num,L,(tQ o E)⟩;done)
     | skip
   replace ap:=cL E ap;replace aq:=cL E aq;replace au:=cL E au;replace a7:=cL E a7;replace ba:=cL E ba;replace K1:=cL E K1;have RX:=HR.out.below E;have ab:=Bc E;have ai:=yD (kC (kC XR.out E) bR);clear E XR HR;go_wp2_with fail;refine (kBb (RX.below bI)).mono ?_;rintro e w2 ⟨cd,rfl,O2,ag⟩;obtain ⟨v0,v1,v2,rfl,fp,ef,ee,fv,eg,fu,fq⟩:=jf O2.raw;obtain ⟨a0,p0,rfl,_,a1,p1,rfl,_,a2,p2,rfl,_⟩:=kD.sx ef (kD.sx ee (kD.sl eg));clear fp ef ee fv eg fu fq;have EF:Qb w w2:=D.trans (Below.mono (Aw bI ag) D.size);have J:=yD O2;have ay:=D.size;have X:=kC ai.out (Aw bI ag);clear O2 ag RX ai D;obtain ⟨R0,F0,R1,F1,R2,F2,R3,F3,R4,F4⟩:=uR;go_wp2;refine Az (v:=.tuple #[.agg (Qj a0 x.1.1 p0 a1 x.1.2.1 p1 a2 x.1.2.2.1 p2 x.1.2.2.2.1 x.1.2.2.2.2),.bool true]) fP rfl ⟨[_,_,_,_,_],by rw [L.out.1],?_,?_⟩
   · rw [L.out.2];exact (kD.own.out J.out fE).wide gL
   repeat (first|(with_reducible exact EF) | refine Au ?_ sK _)
 obtain ⟨L,D,X,dq,R0,F0,R1,F1,R2,F2,R3,F3,R4,F4⟩:=xQ
 go_wp2
 refine Az (v:=.tuple #[.agg #[.slice none 0 0,.slice none 0 0,.slice none 0 0,Qn 0,Qn 0],.bool false]) fP rfl ⟨[_,_,_,_,_],by rw [L.out.1],?_,?_⟩
 · rw [L.out.2];exact kUj
 repeat (first|(with_reducible exact D) | refine Au ?_ sK _)
def kTq {w:Ap} {cs:Aq Ad} {x:kg} (hx:kP.rd w cs x) {cn:Aq Ad} {n:ko} (hn:kR.rd w cn n) {t:Int} :
    Ar prog 107 #[.agg cs.toArray,.agg cn.toArray,.int .i64 t] w λe w'=>∃ ds,e=.returned (.tuple #[.agg ds.toArray,.bool (lkOk n t x.2)])/\jF.own w' ds (lkD n t x.2) (jg w w')/\Qb w w':=by
 have Y:=yD hn
 obtain ⟨sv,rfl,ff,N⟩:=jN hx.1
 have V:=yD (show (kD.slice 144 jB).rd w [sv] x.2 from ⟨N,hx.2.2⟩)
 obtain ⟨c,l⟩:=x
 have HL:Hid ((kD.slice 144 jB).rd w [sv] l):=V
 clear V
 obtain ⟨nv,rfl,az⟩:=kw hn.1
 obtain ⟨an,a8,rfl,ln,aa,al,rfl,la⟩:=kD.sx az (kD.sl N)
 clear hn hx az ff N
 show Ar prog 107 _ w λe w'=>∃ ds,e=.returned (.tuple #[.agg ds.toArray,.bool (lkOk n t l)])/\jF.own w' ds (lkD n t l) (jg w w')/\Qb w w'
 go_enter func107,ntmps107
 go_wp2
 generalize R:World.alloc (World.alloc (World.alloc w _) _) _=U
 obtain ⟨Z,be,K1,K2,XR⟩:=CF
 clear R
 replace HL:=yD (kD.rd.below HL.out Z)
 go_loopw [13] (λi wr=>∃ k:Nat,k<=l.length/\i=.int .i64 k/\Hid (∀ j,(h:j < k)->(h2:j < l.length)->kMq n t l[j]=false)/\Qb U wr) (λi _=>l.length - (Bb i).toNat)
 case atStart=>exact ⟨0,Nat.zero_le _,rfl,yD (λ_ h=>by omega),bR⟩
 obtain ⟨k,hk,rfl,HW,o⟩:=hrel
 replace K1:=cL o K1
 replace K2:=cL o K2
 replace XR:=yD (kC XR.out o)
 by_cases hlt:k < l.length
 · have av:=(kD.yx HL.out hlt).1;have b9:=Av k;have dt:=Int.ofNat_lt.2 hlt;obtain ⟨qb,qo,rfl,ac,ae,af,bt,bu,b3,qr,ap,aq,au,a7,ba,bi⟩:=kD.kOr (HL.out.1.below o) (i:=k) bF2 rfl;have O:=λq=>lk_yes hlt (idxOf_hit (p:=kMq n t) hlt q HW.out);have H:=λq=>kAv (p:=kMq n t) hlt q HW.out;generalize l[k]=x at *;have HD:=yD O;have HX:=yD H;clear O H;obtain ⟨rfl,rfl,rfl,ah,aj,ak,aw,bj,bd,bp,bz,b2⟩:=jy qr;obtain ⟨ad,a4,rfl,a6,am,bk,rfl,bq,ao,bx,rfl,bw⟩:=kD.sx ak (kD.sx aw (kD.sl bd));have HR:=yD (show jF.rd wr _ x.1 from ⟨ah,av⟩);clear av;go_upto_region 4 with fail;refine ja ?_;intro wC EC F _;replace K2:=cL EC K2;obtain ⟨M0,M1,M2,M3,M4,M5⟩:=kZv F;clear F;have FX:=yD (λ(W:Ap) (hW:Qb wC W)=>cLs7 hW K2 M0 M1 M2 M3 M4 M5);refine kL (λW=>Qb wC W) [Tt,Tt,Tt,Tt,Ff,Tt,Tt,Tt,Tt,Ff,Tt] bR ?_;intro wS E;all_goals ((iterate 4 refine kS ?_);(first | refine zi (jw (kD.raw.below aj (tQ EC E)) (Y.out.1.below ((tQ Z ((tQ o (tQ EC E))))))) (λwS1 E=>?_) | refine kS ?_);refine jT λb a3=>?_;cases b <;> try simp only [jS] at a3)
   all_goals ((iterate 3 refine kS ?_);(first | refine zi (jCt (kD.raw.below ah (tQ EC E))) (λwS1 E=>?_) | refine kS ?_);refine jT λb ar=>?_;cases b <;> try simp only [jS] at ar)
   all_goals (refine kM ?_;have D:=(tQ Z ((tQ o (tQ EC E))));have ax:w.heap.size + 3<=wr.heap.size:=bA0)
   all_goals cases hv:kMq n t x
   all_goals first
     | (exfalso;simp only [kMq,Ae,Aa,Ag,Ah,Ab,Ac,Ak,Al,Ai,Aj,Am,a3,ar] at hv;exact Bg hv)
     | have L:=yD (HD.out hv)
     | have L:=yD (HX.out hv)
   all_goals clear HD HX hv
   all_goals first
     | (refine Qg ?_;exact ⟨k + 1,by omega,by go_num,L,((tQ o (tQ EC E)))⟩;done)
     | skip
   replace M0:=cL E M0;replace M1:=cL E M1;replace M2:=cL E M2;replace M3:=cL E M3;replace M4:=cL E M4;have RX:=HR.out.below (tQ EC E);have ab:=Bc (tQ EC E);have ai:=yD (kC (kC XR.out (tQ EC E)) bR);clear E XR HR;go_wp2_with fail;refine (kDi (RX.below bI)).mono ?_;rintro e w2 ⟨cd,rfl,O2,ag⟩;obtain ⟨v0,v1,v2,rfl,fp,ef,ee,fv,eg,fu,fq⟩:=jf O2.raw;obtain ⟨a0,p0,rfl,_,a1,p1,rfl,_,a2,p2,rfl,_⟩:=kD.sx ef (kD.sx ee (kD.sl eg));clear fp ef ee fv eg fu fq;have EF:Qb w w2:=D.trans (Below.mono (Aw bI ag) D.size);have J:=yD O2;have ay:=D.size;have X:=kC ai.out (Aw bI ag);clear O2 ag RX ai D;obtain ⟨R0,F0,R1,F1,R2,F2,R3,F3,R4,F4⟩:=uR;go_wp2;refine Az (v:=.tuple #[.agg (Qj a0 x.1.1 p0 a1 x.1.2.1 p1 a2 x.1.2.2.1 p2 x.1.2.2.2.1 x.1.2.2.2.2),.bool true]) fQ rfl ⟨[_,_,_,_,_],by rw [L.out.1],?_,?_⟩
   · rw [L.out.2];exact (kD.own.out J.out fE).wide gL
   repeat (first|(with_reducible exact EF) | refine Au ?_ sK _)
 obtain ⟨L,D,X,dq,R0,F0,R1,F1,R2,F2,R3,F3,R4,F4⟩:=xQ
 go_wp2
 refine Az (v:=.tuple #[.agg #[.slice none 0 0,.slice none 0 0,.slice none 0 0,Qn 0,Qn 0],.bool false]) fQ rfl ⟨[_,_,_,_,_],by rw [L.out.1],?_,?_⟩
 · rw [L.out.2];exact kUj
 repeat (first|(with_reducible exact D) | refine Au ?_ sK _)
def isK (n:ko) (k:kQn):Bool:=eqN k.1 n
def kCe (l:Aq kQn) (n:ko):Int:=if idxOf (isK n) l < 0 then 0 else (l.getD (idxOf (isK n) l).toNat ([],0)).2
def kRx (l:Aq kQn) (n:ko):Aq UInt8:=if kCe l n=0 then [] else kGo (digest [kCe l n])
section
variable {l:Aq kQn} {n:ko} {k:Nat}
def sec_yes (hk:k < l.length) (h:idxOf (isK n) l=k):kCe l n=l[k].2:=by
 unfold kCe;rw [h,Bd,jb hk,if_neg bF2]
def sec_rng {w:Ap} {vl:Ad} (hl:(kD.slice 226 kLs).raw w [vl] l):-9223372036854775808<=kCe l n/\kCe l n<=9223372036854775807:=by
 by_cases h:idxOf (isK n) l < 0
 · unfold kCe;rw [if_pos h];omega
 obtain ⟨j,I,J⟩:=idxOf_ge h;rw [sec_yes I J];obtain ⟨al,pl,rfl,ll⟩:=kD.sl hl;obtain ⟨qb,qo,F,ac,ae,qr,_,_⟩:=kD.get2 hl I rfl;obtain ⟨v0,he,_,_,h3⟩:=RKey_raw qr;exact h3
def keyDig_no (h:kCe l n=0):kRx l n=[]:=by unfold kRx;rw [if_pos h]
def keyDig_yes (h:¬ kCe l n=0):kRx l n=[]++kGo (digest [kCe l n]):=by unfold kRx;rw [if_neg h];rfl
def keyDig_len:(kRx l n).length<=6:=by
 unfold kRx;split
 · simp
 exact kKr _
end
def jFe {w:Ap} {vl:Ad} {l:(Aq kQn)} (hl:(kD.slice 226 kLs).raw w [vl] l) {cn:Aq Ad} {n:ko} (hn:kR.raw w cn n) :
    Ar prog 279 #[vl,.agg cn.toArray] w (bQ w (.int .i64 (idxOf (isK n) l))):=by
 obtain ⟨al,pl,rfl,ll⟩:=kD.sl hl
 have Hn:=yD hn
 obtain ⟨X,rfl,J⟩:=kw hn
 obtain ⟨V,F,rfl,aa⟩:=kD.sl J
 go_enter func279,ntmps279
 go_wp2
 generalize R:World.alloc w _=U
 obtain ⟨Z,I⟩:=xN
 clear R
 replace hl:=hl.below Z
 go_loopw [5] (λi wr=>∃ k:Nat,k<=l.length/\i=.int .i64 k/\Hid (∀ j,(h:j < k)->(h2:j < l.length)->(isK n) l[j]=false)/\Qb U wr) (λi _=>l.length - (Bb i).toNat)
 case atStart=>exact ⟨0,Nat.zero_le _,rfl,yD (λ_ h=>by omega),bR⟩
 obtain ⟨k,hk,rfl,Y,o⟩:=hrel
 replace I:=cL o I
 by_cases hlt:k < l.length
 · obtain ⟨qb,qo,rfl,ac,ae,qr,ap,aq⟩:=kD.get2 (hl.below o) (i:=k) bF2 rfl;obtain ⟨O,H⟩:=BG;generalize l[k]=x at *;have HD:=yD O;have HX:=yD H;clear O H;obtain ⟨x0,x1⟩:=x;obtain ⟨rfl,ah,aj,ak⟩:=jEy qr;obtain ⟨ad,a4,rfl,a6⟩:=kD.sl aj;go_upto_region 4 with fail;have FX:=yD (λ(W:Ap) (hW:Qb wr W)=>kMt hW I ap aq);refine kK (λW=>Qb wr W) [Tt,Tt,Tt,Tt,Tt,Tt,Ff] bE5 bE5 qW (bR.drew) ?_;intro wS E;all_goals ((iterate 6 refine kS ?_);(first | refine zi (jU (kD.raw.below ah E) (kD.raw.below Hn.out ((tQ Z (tQ o E))))) (λwS1 E=>?_) | refine kS ?_);refine kM ?_)
   all_goals cases cg:eqN x0 n
   all_goals have D:=(tQ o E)
   all_goals first
     | (have L:=yD (HD.out (show _=true by simp only [isK,Ae,Aa,Ag,Ah,Ab,Ac,Ak,Al,Ai,Aj,Am,cg]));clear HD HX;go_wp2;go_ret;exact ⟨jZ L.out.symm,(tQ Z D)⟩)
     | (have L:=yD (HX.out (show _=false by simp only [isK,Ae,Aa,Ag,Ah,Ab,Ac,Ak,Al,Ai,Aj,Am,cg]));clear HD HX;refine Qg ?_;exact ⟨k + 1,by omega,by go_num,L,D⟩)
 exact l8
def kFc {w:Ap} {vl:Ad} {l:Aq kQn} (hl:(kD.slice 226 kLs).raw w [vl] l) {cn:Aq Ad} {n:ko} (hn:kR.raw w cn n) :
    Ar prog 262 #[vl,.agg cn.toArray] w (bQ w (.int .i64 (kCe l n))):=by
 obtain ⟨al,pl,rfl,ll⟩:=kD.sl hl
 have HL:=yD hl;have Y:=yD hn
 obtain ⟨nv,rfl,az⟩:=kw hn
 obtain ⟨an,a8,rfl,ln⟩:=kD.sl az
 clear hl hn az
 go_enter func262,ntmps262
 go_upto_region 1 with fail
 generalize R:World.alloc w _=U
 have Z:Qb w U:=by rw [<- R];exact bI
 have K0:Qd U w 0 (Qs an n a8):=vS
 clear R
 go_wp2_with fail
 refine (jFe (HL.out.below Z) (Y.out.below Z) (cn:=[.slice an n.length a8])).mono ?_
 rintro e w1 ⟨rfl,hb⟩
 have E1:=(tQ Z hb)
 clear hb Z K0
 by_cases hi:idxOf (isK n) l < 0
 · have L:Hid (kCe l n=0):=yD (by unfold kCe;rw [if_pos hi]);go_wp2;go_ret;exact ⟨jZ L.out.symm,E1⟩
 obtain ⟨j,I,J⟩:=idxOf_ge hi
 have L:=yD (sec_yes I J)
 obtain ⟨qb,qo,F,ac,ae,qr,ap,aq⟩:=kD.get2 (HL.out.below E1) I rfl
 obtain rfl:=F
 rw [J]
 clear hi J
 generalize l[j]=x at *
 obtain ⟨x0,x1⟩:=x
 obtain ⟨rfl,ah,aj,ak⟩:=jEy qr
 have c9:(j:Int) < l.length:=bF2
 have bi:¬ ((j:Int) < 0):=bF2
 have o:=Av j
 go_wp2
 go_ret
 exact ⟨jZ L.out.symm,E1⟩
def kXi {w:Ap} {vl:Ad} {l:Aq kQn} (hl:(kD.slice 226 kLs).raw w [vl] l) {cn:Aq Ad} {n:ko} (hn:kR.raw w cn n) :
    Ar prog 257 #[vl,.agg cn.toArray] w (kBu 5 kD.byte (kRx l n) w):=by
 obtain ⟨al,pl,rfl,ll⟩:=kD.sl hl
 have HL:=yD hl;have Y:=yD hn
 have HR:=yD (show I64q (kCe l n) from sec_rng hl)
 obtain ⟨nv,rfl,az⟩:=kw hn
 obtain ⟨an,a8,rfl,ln⟩:=kD.sl az
 clear hl hn az
 go_enter func257,ntmps257
 go_upto_region 1 with fail
 generalize R:World.alloc w _=U
 have Z:Qb w U:=by rw [<- R];exact bI
 have K0:Qd U w 0 (Qs an n a8):=vS
 clear R
 go_wp2_with fail
 refine (kFc (HL.out.below Z) (Y.out.below Z) (cn:=[.slice an n.length a8])).mono ?_
 rintro e w1 ⟨rfl,hb⟩
 have E1:=(tQ Z hb)
 clear hb Z K0
 by_cases h0:kCe l n=0
 · have L:=yD (keyDig_no h0);have D:(kCe l n==0)=true:=by simpa using h0
   go_wp2;go_ret;exact ⟨_,rfl,(kD.kY.void:kD.kY 5 kD.byte _ _ [] _).cast L.out.symm,(by repeat (first|(with_reducible exact E1) | refine Below.alloc ?_ (by have:=Bc E1;simp;try omega) _ | refine Below.drew ?_ | refine Au ?_ (by have:=Bc E1;simp;try omega) _))⟩
 have L:=yD (keyDig_yes h0)
 have D:(kCe l n==0)=false:=by simpa using h0
 generalize kCe l n=s at *
 have RD:=((litq (w:=(w1.alloc (.cells #[] 5))) (x:=s) (e:=3) HR.out).own vI).raw
 have RV:=((kD.kY.void (e:=5) (r:=kD.byte) (w:=World.alloc (w1.alloc (.cells #[] 5)) (.cells #[.int .i64 s] 3)) (a:=some ⟨w1,0,none⟩) (S:=λ_=>False)).own (Nat.zero_le _)).rd
 clear h0
 go_wp2_with fail
 refine (kSz (by simpa using RD)).mono ?_
 rintro e w2 ⟨rfl,hw⟩
 obtain rfl:=hw.symm
 go_wp2_with fail
 refine (kEj RV).mono ?_
 rintro e w3 ⟨v3,rfl,O3,ac⟩
 obtain ⟨a3,n3,c3,ao,bb⟩:=O3.parts;obtain rfl:=ao
 have E3:Qb w w3:=E1.trans (Aw (by repeat (first|(with_reducible exact bR) | refine Below.alloc ?_ (by have:=E1.size;simp;try omega) _)) (ac.mono (by have:=E1.size;simp;omega)))
 have aq:=yD (O3.wide (T:=jg w w3) (λj I=>⟨by have h1:=I.1;have h2:=E1.size;(try simp at h1);omega,I.2⟩))
 clear O3 ac RD RV
 go_wp2
 go_ret
 exact ⟨_,rfl,aq.out.cast L.out.symm,E3⟩
def kOi (m:Nat) (x:jX):Prop :=
  (x.1.length<=m/\True)/\(True/\(x.2.1.2.length<=m/\True))/\(x.2.2.1.length<=m/\∀ y∈x.2.2.1,True/\(y.2.1.length<=m/\True))/\(x.2.2.2.1.length<=m/\True)/\(x.2.2.2.2.1.length<=19/\True)/\(x.2.2.2.2.2.1.length<=m/\True)/\True
def kOi.mono {m k:Nat} {x:jX} (h:kOi m x) (hk:m<=k):kOi k x:=by
 obtain ⟨⟨a,_⟩,⟨_,b,_⟩,⟨c,d⟩,⟨e,_⟩,⟨f,_⟩,⟨g,_⟩,_⟩:=h;exact ⟨⟨by omega,trivial⟩,⟨trivial,by omega,trivial⟩,⟨by omega,λy hy=>⟨trivial,by have:=(d y hy).2.1;omega,trivial⟩⟩,⟨by omega,trivial⟩,⟨by omega,trivial⟩,⟨by omega,trivial⟩,trivial⟩
def jFz {m:Nat} {x:jX} (a:x.1.length<=m) (b:x.2.1.2.length<=m) (c:x.2.2.1.length<=m) (d:∀ y∈x.2.2.1,y.2.1.length<=m) (e:x.2.2.2.1.length<=m) (f:x.2.2.2.2.1.length<=19) (g:x.2.2.2.2.2.1.length<=m):kOi m x :=
  ⟨⟨a,trivial⟩,⟨trivial,b,trivial⟩,⟨c,λy hy=>⟨trivial,d y hy,trivial⟩⟩,⟨e,trivial⟩,⟨f,trivial⟩,⟨g,trivial⟩,trivial⟩
def lenT (t:kCm):Prop:=∀ k (h:k < t.2.2.2.length),t.2.2.2[k].2.1.length<=2000000
end Go.Proofs.YthocbplmdjkifaaGreat

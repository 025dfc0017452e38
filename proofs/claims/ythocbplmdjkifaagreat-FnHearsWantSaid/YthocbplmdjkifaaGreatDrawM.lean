/-
  Names as the reference draws them.
-/
import Derived.Test.YthocbplmdjkifaaGreatSoft4
set_option linter.unusedVariables false
set_option linter.unusedSimpArgs false
set_option linter.unnecessarySimpa false
set_option maxRecDepth 100000
set_option maxHeartbeats 4000000
open Go renaming frozen_of_row->Aa,bodyPost_ret->Ab,World->Ad,Calls->Ag
open _root_ renaming ByteArray->Ac
open Go.Proofs.Tryz renaming underlying34->Ae
namespace Go.Proofs.YthocbplmdjkifaaGreat
open Go.RowKit _root_.Go.Proofs.Tryz
theorem kMe {w:Ad} {ca:List Value} {x:ko} (ha:kR.rd w ca x):Ag prog 92 #[.agg ca.toArray] w λe w'=>∃ a n c,e=.returned (.agg #[.slice a n c])/\kD.kY 9 kD.str w' (.slice a n c) x (jg w w')/\Qb w w':=by
 have HA:=yD ha;obtain ⟨av,rfl,V⟩:=kw ha.1;obtain ⟨aa,al,rfl,la⟩:=kD.sl V;have hb:x.length<=16777216:=ha.2.1;clear ha;go_enter func92,ntmps92;have O0:kD.kY 9 kD.str (((w.alloc (.cells #[.slice aa x.length al] 36)).alloc (.cells #[.slice none 0 0] 36)).alloc (.cells #[] 9)) (.slice (some ⟨w.heap.size + 1 + 1,0,none⟩) 0 0) [] (λk=>k=w.heap.size + 1 + 1):=by
  exact aM
 go_wp2_with (at_builtin;refine kD.yh rfl _ _ 34 rfl (r:=kD.str) (e:=9) Ae kCv rfl bF1 bF1 kD.kEm (B:=w.heap.size + 1 + 1) O0 bF4 bF4 (HA.out.below bI) rY bF3 bE6 ?_);intro v2 w2 hown o hz;obtain ⟨a2,c2,hv⟩:=hown.zJ;obtain rfl:=hv;replace hown:=hown.cast (List.nil_append _);have J:=yD hown;have D:Qb w w2:=Below.trans bI (o.mono sK);clear hown O0;obtain ⟨R0,F0⟩:=x8;clear o;go_wp2;refine Ab (v:=.agg #[Qs a2 x c2]) pX rfl ⟨_,_,_,rfl,?_,?_⟩
 · exact (J.out.setCell fK).wide gL
 exact D.setCell bF3 _
theorem kDm {w:Ad} {cn:List Value} {n:ko} (hn:kR.rd w cn n) (bi:n.length<=1000) {s:Ac} (hs:s.size<=Big) :
    Ag prog 121 #[.agg cn.toArray,.string s] w λe w'=>∃ a m c b,e=.returned (.tuple #[.agg #[.slice a m c],.bool b])/\b=zx (n++[s])/\kD.kY 9 kD.str w' (.slice a m c) (if b then n++[s] else n) (jg w w')/\Qb w w':=by
 have Y:=yD hn
 obtain ⟨av,rfl,V⟩:=kw hn.1
 obtain ⟨aa,al,rfl,la⟩:=kD.sl V
 clear hn V
 have E:=yD hs
 clear hs
 go_enter func121,ntmps121
 go_upto_region 1 with fail
 refine kAe ?_
 intro U Z B0 B1 bx
 have K0:=cL (kD.zt U (.cells #[] 9)) (kE B0 (j:=0) rfl)
 have O0:kD.kY 9 kD.str (U.alloc (.cells #[] 9)) (.slice (some ⟨U,0,none⟩) 0 0) [] (λk=>k=U.heap.size):=kD.kY.void
 go_wp2_with (at_builtin;refine kD.yh rfl _ _ 34 rfl (r:=kD.str) (e:=9) Ae kCv rfl bF1 bF1 kD.kEm (B:=U.heap.size) O0 bF4 bF4 ((Y.out.below Z).below (bR.alloc nL _)) rY bF3 bE6 ?_)
 intro v2 w2 hown o hz
 have J:=yD (hown.cast (List.nil_append _))
 obtain ⟨a2,n2,c2,hv,ba⟩:=J.out.parts
 obtain rfl:=hv
 have H:Qb U w2:=Below.trans (bR.alloc nL _) o
 have E2:Qb w w2:=Z.trans (H.mono bF2)
 have ax:=H.size
 clear hown O0 o
 go_wp2_with (at_builtin;refine kD.jR rfl _ _ 34 rfl (r:=kD.str) (e:=9) Ae kCv rfl bF1 bF1 (B:=U.heap.size) J.out bF4 bF4 rfl (kD.flat.own (S:=λ_=>False) (kD.kGz E.out)) rfl (λ_ _ h=>h) sI (λ_ h=>h.elim) bF2 vD ?_)
 intro v3 w3 ad ac ap
 have aq:=yD ad
 obtain ⟨a3,n3,c3,hv,bb⟩:=aq.out.parts
 obtain rfl:=hv
 have E3:=E2.trans (ac.mono bF2)
 have N:=H.trans ac
 clear ad ac
 go_upto_region 2 with fail
 refine ja ?_
 intro wC EC B6 _
 have K6:=kE B6 (j:=0) rfl
 have ap:=N.size
 have bt:=EC.size
 have L:=N.trans (EC.mono ap)
 have E4:=(tQ E3 EC)
 replace B0:=kC B0 L
 replace B1:=kC B1 L
 clear K0
 have K0:=kE B0 (j:=0) rfl
 have D:=yD (aq.out.below EC)
 clear J aq
 go_wp2_with fail
 refine (zF (n:=n++[s]) D.out.kKg).mono ?_
 rintro e w4 ⟨rfl,F⟩
 have b5:=F.size
 have ao:=yD (D.out.below F)
 have E5:=(tQ E4 F)
 replace K0:=cL F K0
 replace K6:=cL F K6
 replace B1:=kC B1 F
 have K1:=kE B1 (j:=0) rfl
 have F1:=Aa w4 (w.heap.size + 1) 0 _ _ B1
 clear D B0 B6 F
 generalize hv:zx (n++[s])=b
 cases b
 · go_wp2_with fail;refine (kMe (Y.out.below E5)).mono ?_;rintro e w5 ⟨a5,n5,c5,rfl,O5,X⟩;have am:=yD O5;have E6:=(tQ E5 X);have R1:=cL X K1;have F2:=Aa w5 (w.heap.size + 1) 0 _ _ (kC B1 X);clear O5 X K1 F1;go_wp2;refine Ab (v:=.tuple #[.agg #[.slice a5 n5 c5],.bool false]) (by simp [results,results121,go_sem,R1,F2]) rfl ⟨_,_,_,_,rfl,hv.symm,?_,?_⟩
   · exact (am.out.setCell (λq=>by have:=q.1;simp at this;omega)).wide gL
   exact E6.setCell bF3 _
 go_wp2
 refine Ab (v:=.tuple #[.agg #[.slice a3 n3 c3],.bool true]) (by simp [results,results121,go_sem,K1,F1]) rfl ⟨_,_,_,_,rfl,hv.symm,?_,?_⟩
 · exact (ao.out.setCell (λq=>by have:=q.1;simp at this;omega)).wide fT
 exact E5.setCell bF3 _
def ParsedName (M:Nat) (w:Ad) (e:Ending) (w':Ad):Prop:=∃ a c b ps,e=.returned (.tuple #[.agg #[Qs a ps c],.bool b])/\kR.own w' [Qs a ps c] ps (jg w w')/\ps.length<=M/\Hid (kDg M ps)/\Qb w w'
theorem kXh {w:Ad} {s:Ac} {M:Nat} (hM:M<=1000) (hs:s.size<=M) :
    Ag prog 206 #[.string s] w (ParsedName M w):=by
 go_enter func206,ntmps206
 cases hq:(s.toList==[47])
 case true =>
  go_wp2;refine Ab (v:=.tuple #[.agg #[.slice none 0 0],.bool true]) (by simp [results,results206,go_sem]) rfl ⟨none,0,true,[],rfl,kD.yF,by simp,yD kDg.nil,?_⟩;exact bI
 go_wp2_with fail
 refine (kQs (by0:=47) hM hs bF1).mono ?_
 rintro e w2 ⟨v,rfl,ps,O2,bh,br,E,ag⟩
 have cd:=yD (E.drop 1)
 clear E
 obtain ⟨b2,c2,rfl,ab,ai,eh,ho⟩:=kD.zm O2 bh
 have ax:=ag.size
 have J:=yD O2
 clear O2
 have ad:(1:Int)<=ps.length:=bF2
 go_upto_region 5 with fail
 have HD:Hid (1 < ps.length->(kD.slice 9 kD.str).own w2 [.slice (if c2=1 then some ⟨b2,0,none⟩ else some ⟨b2,1,none⟩) (ps.length - 1) (c2 - 1)] (ps.drop 1) (jg (w.heap.size + 1) w2)):=yD (by
   intro h1;have h:=(J.out.own bB1).wide (T:=jg (w.heap.size + 1) w2) pE;have dj:¬ c2=1:=bF2;rw [if_neg dj];exact kD.kTt h (k:=1) bF2)
 generalize (if c2=1 then some ⟨b2,0,none⟩ else some ⟨b2,1,none⟩:Option Addr)=A at *
 obtain ⟨cb,V,he,c0,cr,bd⟩:=kD.kCk (J.out.kKg) (i:=0) bh rfl
 simp only [Option.some.injEq,Addr.mk.injEq,and_true] at he
 obtain ⟨rfl,rfl⟩:=he
 have bf:[c0]=[.string ps[0]]:=(kD.kAj cr).1
 obtain rfl:c0=.string ps[0]:=bC4
 clear cr bf
 generalize ps[0]=y0 at *
 have a9:=yD (show (ps.drop 1).length=ps.length - 1 by simp)
 generalize ps.drop 1=qs at *
 refine ja ?_
 intro wC EC B5 _
 have B2:Qr w2 w #[.slice none 0 0] 36:=kC (jD rfl) ag
 have bt:=EC.size
 obtain ⟨E2,B2,HD,O,K5⟩:=FH
 clear bd ag ab J ax
 by_cases h2:(ps.length:Int) < 2
 · have K2:=kE B2 (j:=0) rfl;have F2:=Aa wC w 0 _ _ B2;clear O;exact gV
 cases hy:y0.toList.isEmpty
 case false =>
  have K2:=kE B2 (j:=0) rfl;have F2:=Aa wC w 0 _ _ B2;exact gV
 replace HD:=yD (HD.out bF2)
 go_wp2_with fail
 refine (zF (n:=qs) HD.out.rd.1).mono ?_
 rintro e w3 ⟨rfl,ac⟩
 have ap:=ac.size
 replace HD:=yD (HD.out.below ac)
 have E3:=(tQ E2 ac)
 replace K5:=cL ac K5
 replace B2:=kC B2 ac
 have K2:=kE B2 (j:=0) rfl
 have F2:=Aa w3 w 0 _ _ B2
 clear O
 generalize hv:zx qs=b
 cases b
 · go_wp2;refine Ab (v:=.tuple #[.agg #[.slice none 0 0],.bool false]) nZ rfl ⟨none,0,false,[],rfl,kD.yF,by simp,yD kDg.nil,?_⟩;exact E3.setCell bF3 _
 go_wp2
 refine Ab (v:=.tuple #[.agg #[.slice A (ps.length - 1) (c2 - 1)],.bool true]) nZ rfl ⟨A,c2 - 1,true,qs,by rw [a9.out],?_,by rw [a9.out];omega,cd,E3.setCell bF3 _⟩
 rw [a9.out]
 exact ((HD.out.touch (jm w3 w 0 _) vB).wide fT)
theorem specl4Of_m {w:Ad} {s:Ac} {M:Nat} (hM:M<=1000) (hs:s.size<=M) :
    Ag prog 120 #[.string s] w λe w'=>∃ a c ps,e=.returned (.agg #[Qs a ps c])/\kR.own w' [Qs a ps c] ps (jg w w')/\ps.length<=M/\kDg M ps/\Qb w w':=by
 go_enter func120,ntmps120
 go_upto_region 1 with fail
 refine ja ?_
 intro w1 ar R bj
 have U:=ar
 clear ar
 go_wp2_with fail
 refine (kXh hM hs).mono ?_
 rintro e w2 ⟨a,c,b,ps,rfl,hr,hl,cd,hb⟩
 replace R:=kC R hb
 replace U:=(tQ U hb)
 clear hb
 have HR:=yD (hr.wide (T:=jg (w.heap.size + 1) w2) sJ)
 clear hr
 go_upto_region 2 with fail
 refine ja ?_
 intro w3 ah B bz
 replace R:=kC R ah
 replace HR:=yD (HR.out.below ah)
 replace U:=(tQ U ah)
 clear ah
 have aj:Qd w3 w 0 (.slice none 0 0):=kE R rfl
 have aq:Qd w3 w2 0 (Qs a ps c):=kE B rfl
 have ak:w3.frozen? ⟨w,0,none⟩=false:=Aa w3 (w.heap.size) 0 _ _ R
 go_wp2
 refine Ab (v:=.agg #[Qs a ps c]) (by simp [results,results120,go_sem,aj,ak]) rfl ⟨_,_,ps,rfl,?_,hl,cd.out,U.setCell bF3 _⟩
 exact (HR.out.touch (jm w3 w 0 _) vB).wide fT
theorem yz {w:Ad} {s:Ac} (hs:s.size<=64) :
    Ag prog 120 #[.string s] w λe w'=>∃ a c ps,e=.returned (.agg #[Qs a ps c])/\kR.own w' [Qs a ps c] ps (jg w w')/\ps.length<=64/\zO ps/\Qb w w':=specl4Of_m (M:=64) bF1 hs
theorem kZi {w:Ad} {s:Ac} (hs:s.size<=64) :
    Ag prog 120 #[.string s] w λe w'=>∃ a c ps,e=.returned (.agg #[Qs a ps c])/\kR.own w' [Qs a ps c] ps (jg w w')/\ps.length<=64/\Qb w w' :=
  (yz hs).mono λe w1 ⟨a,c,ps,h0,h1,h2,_,h4⟩=>⟨a,c,ps,h0,h1,h2,h4⟩
theorem kMd {w0 w:Ad} {p:Nat} (hc:ym w0 w p) :
    Ag prog 181 #[.pointer (some ⟨p,0,none⟩)] w λe w'=>∃ a n c ps,e=.returned (.agg #[.slice a n c])/\kD.kY 9 kD.str w' (.slice a n c) ps (jg w w')/\ps.length<=3/\zO ps/\ym w0 w' p/\Touch (λk=>k=p) w w':=by
 go_enter func181,ntmps181
 obtain ⟨bh,br⟩:=hc.lt
 go_upto_region 1 with fail
 refine ja ?_
 intro w1 ar R bj
 obtain ⟨hc,O⟩:=uZ
 clear ar
 go_upto_region 2 with fail
 refine ja ?_
 intro w2 L B bw
 replace R:=kC R L
 replace hc:=hc.below L
 replace O:=O.trans (Touch.of_below L)
 clear L
 go_wp2_with fail
 refine (kZ (n:=4) hc bF1).mono ?_
 rintro e w3 ⟨m,bc,bk,bq,rfl,F,D⟩
 have bz:=D.size
 obtain ⟨R,B⟩:=xK
 replace O:=O.trans D
 clear hc D
 have hc:=F
 clear F
 replace bk:=bk bF1
 clear bq
 obtain ⟨m,rfl⟩:=Int.eq_ofNat_of_zero_le bc
 go_wp2
 go_loopw [4] (λi wr=>∃ (j:Nat) (a:Option Addr) (n c:Nat) (ps:List Ac),i=.int .i64 j/\ps.length + j<=3/\Hid (zO ps)/\Hid (kD.kY 9 kD.str wr (.slice a n c) ps (jg w2 wr))/\Qr wr w #[.slice none 0 0] 36/\Qr wr w1 #[.slice a n c] 36/\w2.heap.size<=wr.heap.size/\ym w0 wr p/\Touch (λk=>k=p) w wr) (λi _=>(intOf i).toNat)
 case atStart=>exact ⟨m,none,0,0,[],rfl,by simp;omega,yD zO.nil,yD kD.kY.void,R,B,bz,hc,O⟩
 clear hc O R B
 obtain ⟨j,a,n,c,ps,rfl,I,cd,J,R,B,ch,hc,O⟩:=hrel
 cases j with
 | zero =>
   have aj:Qd wr w 0 (.slice none 0 0):=kE R rfl;have aq:Qd wr w1 0 (.slice a n c):=kE B rfl;have ak:wr.frozen? ⟨w,0,none⟩=false:=Aa wr (w.heap.size) 0 _ _ R;go_wp2;refine Ab (v:=.agg #[.slice a n c]) (by simp [results,results181,go_sem,aj,ak]) rfl ⟨_,_,_,ps,rfl,?_,by omega,cd.out,hc.touch (jm wr w 0 _) bF2 bB6,O.jJ (jm wr w 0 _) bF2⟩;exact (J.out.touch (jm wr w 0 _) vB).wide fT
 | succ j =>
   have c9:(0:Int) < (j:Int) + 1:=bF2;go_upto_region 5 with fail;refine kAc (λW=>Touch (λk=>k=p) wr W/\ym w0 W p) (λ_=>True) [] [(0,true),(1,true),(2,false),(3,false),(4,false)] [(5,true),(6,true),(7,true),(8,false)] bE5 bE5 qW (⟨Touch.of_below bR.drew,hc.below bR.drew⟩) ?_;intro wS E;simp only [jG,kAu,List.getElem?_cons_succ,List.getElem?_cons_zero,List.map_cons,List.map_nil];refine pre_nil ?_;refine yA (v:=?_) rfl (λW hW=>?_) ?_;rotate_left;(· have cv:=kE (hW.1.kC B bF2) (j:=0) (v:=.slice a n c) rfl;clear hW;go_simp;try with_reducible rfl);refine jH ?_;refine yA (v:=?_) rfl (λW hW=>?_) ?_;rotate_left;(· go_simp;try with_reducible rfl);refine jH ?_;refine zY rfl (λK H=>?_);go_simp;refine H _ _ ⟨E.1.trans (Touch.of_below (bR.alloc nL _)),E.2.below (bR.alloc nL _)⟩ ?_;clear H K;refine jH ?_;refine zY rfl (λK H=>?_);go_simp;refine (kAn (E.2.below (bR.alloc nL _)) (kD.kBs _ [{ data:=#[97] },{ data:=#[98] },{ data:=#[110,101,119,115] },{ data:=#[120,45,49] },{ data:=#[49] },{ data:=#[107,101,121] }] bF1 bF1) wM bF1 bF1).mono ?_;rintro e wS1 ⟨y,bd,bv,rfl,av,ap⟩;replace E:=And.intro ((E.1.trans (Touch.of_below (bR.alloc nL _))).trans ap) av;clear av ap;refine H _ _ E ?_;clear H K;refine jH ?_;refine zY rfl (λK H=>?_);go_simp;have d1:=E.1.size;refine (kDm ((J.out.touch E.1 vB).own bB1).rd bF2 nU).mono ?_;rintro e be ⟨a2,n2,c2,b2,rfl,ag,bu,V⟩;replace E:=And.intro (E.1.trans (Touch.of_below V)) (E.2.below V);refine H _ _ E ?_;clear H K;refine jH ?_;have b5:=E.1.size;have R4:=E.1.kC R bF2;have B4:=E.1.kC B bF2;have Y:=O.trans E.1;have i2:=E.2;have N:(if b2 then ps++[y] else ps).length<=ps.length + 1:=by split <;> simp
   have U:=yD (show zO (if b2 then ps++[y] else ps) by split;exact cd.out.snoc (kD.kDd bF1 bd);exact cd.out);generalize (if b2 then ps++[y] else ps)=qs at *;have ao:=yD (bu.wide (T:=jg w2 be) rQ);clear bu J R B O hc E V;have K4:Qd be w1 0 (.slice a n c):=kE B4 rfl;have F4:be.frozen? ⟨w1,0,none⟩=false:=Aa be w1 0 _ _ B4;refine kAk trivial ?_;refine kS ?_;refine kS ?_;refine kS ?_;refine ku rfl (λK H=>?_);go_simp;refine H _ _ trivial ?_;clear H K;refine jH ?_;refine kM ?_;generalize o:World.setCell be _ _=w5;have X:Touch (λk=>k=w1.heap.size) be w5:=wY;have B5:Qr w5 w1 #[.slice a2 n2 c2] 36:=by rw [<- o];exact kG B4 0
   have b4:w5.heap.size=be.heap.size:=by rw [<- o];simp [World.setCell]
   clear o K4 F4;have am:=yD ((ao.out.touch X vB).wide (T:=jg w2 w5) (λk hk=>⟨hk.1,by have:=hk.2;omega⟩));have Z:=yD b4;clear b4;go_wp2;go_roundw;case rel=>exact ⟨j,a2,n2,c2,qs,by go_num,by omega,U,am,X.kC R4 bF2,B5,by have:=Z.out;omega,i2.touch X bF2 bB6,Y.jJ X bF2⟩
   case measure=>simp [intOf]
theorem kGr {w0 w:World} {p:Nat} (hc:ym w0 w p) :
    Calls prog 94 #[.pointer (some ⟨p,0,none⟩)] w λe w'=>∃ a c ps,e=.returned (.agg #[Qs a ps c])/\kR.own w' [Qs a ps c] ps (jg w w')/\ps.length<=8/\zO ps/\ym w0 w' p/\Touch (λk=>k=p) w w':=by
 go_enter func94,ntmps94
 obtain ⟨bh,br⟩:=hc.lt
 go_upto_region 1 with fail
 refine ja ?_
 intro w1 ar R bj
 obtain ⟨hc,O⟩:=uZ
 clear ar
 go_wp2_with fail
 refine (kMd hc).mono ?_
 rintro e w2 ⟨a,n,c,ps,rfl,hO,bu,am,F,D⟩
 obtain ⟨bw,R,O⟩:=y8
 clear hc D
 have hc:=F
 clear F
 have cd:=yD am
 clear am
 have J:=yD (hO.wide (T:=jg w1 w2) (λ_ h=>h))
 clear hO
 go_upto_region 2 with fail
 refine ja ?_
 intro w3 ah B bz
 replace R:=kC R ah
 obtain ⟨J,hc,O⟩:=xC
 clear ah
 go_wp2_with fail
 refine (kZ (n:=8) hc bF1).mono ?_
 rintro e w4 ⟨x,ai,L,bf,rfl,F,D⟩
 have b5:=D.size
 obtain ⟨R,B⟩:=xK
 obtain ⟨J,O⟩:=uS
 clear hc D
 have hc:=F
 clear F
 replace L:=L bF1
 clear bf
 obtain ⟨m,rfl⟩:=Int.eq_ofNat_of_zero_le ai
 by_cases bc:m=0
 · subst bc;go_upto_region 4 with fail;refine kAc (λW=>Touch (λk=>k=p) w4 W/\ym w0 W p) (λ_=>True) [] [(0,true),(1,true),(2,true),(3,false),(4,false),(5,false)] [(6,false),(7,true),(8,false)] bE5 bE5 qW (⟨Touch.of_below bR.drew,hc.below bR.drew⟩) ?_;intro wS E;simp only [jG,kAu,List.getElem?_cons_succ,List.getElem?_cons_zero,List.map_cons,List.map_nil];refine pre_nil ?_;refine yA (v:=?_) rfl (λW hW=>?_) ?_;rotate_left;(· go_simp;try with_reducible rfl);refine jH ?_;refine yA (v:=?_) rfl (λW hW=>?_) ?_;rotate_left;(· have cv:=kE (hW.1.kC B bF2) (j:=0) (v:=.slice a n c) rfl;clear hW;go_simp;try with_reducible rfl);refine jH ?_;refine yA (v:=?_) rfl (λW hW=>?_) ?_;rotate_left;(· go_simp;try with_reducible rfl);refine jH ?_;refine zY rfl (λK H=>?_);go_simp;refine H _ _ ⟨E.1.trans (Touch.of_below (bR.alloc nL _)),E.2.below (bR.alloc nL _)⟩ ?_;clear H K;refine jH ?_;refine zY rfl (λK H=>?_);go_simp;refine (kAn (E.2.below (bR.alloc nL _)) (kD.kBs _ [{ data:=#[] },{ data:=#[65] },{ data:=#[116,111,111,108,111,110,103,120,120] },{ data:=#[97,47,98] },{ data:=#[32] },{ data:=#[101,105,103,104,116,56,56,56] }] bF1 bF1) wM bF1 bF1).mono ?_;rintro e wS1 ⟨y,bd,bv,rfl,av,ap⟩;replace E:=And.intro ((E.1.trans (Touch.of_below (bR.alloc nL _))).trans ap) av;clear av ap;refine H _ _ E ?_;clear H K;refine jH ?_;refine zY rfl (λK H=>?_);go_simp;have ab:=yD (kD.kPm (e:=9) wS1 (kD.kGz (s:=y) nU));have V:Touch (λk=>k=p) w4 (World.alloc wS1 (Obj.cells #[Value.string y] 9))/\ym w0 (World.alloc wS1 (Obj.cells #[Value.string y] 9)) p:=⟨E.1.trans (Touch.of_below (bR.alloc nL _)),E.2.below (bR.alloc nL _)⟩;generalize al:World.alloc wS1 (Obj.cells #[Value.string y] 9)=wU at ab V ⊢;clear al;refine H _ _ V ?_;clear H K E;refine jH ?_;have b4:=V.1.size;have R5:=V.1.kC R bF2;have B5:=V.1.kC B bF2;have Z:=O.trans V.1;have ac:=V.2;replace J:=yD (J.out.touch V.1 qV);clear R B O hc;obtain ⟨v3,u3,a7,ad,af⟩:=kD.jDn (P:=prog) (t:=34) (ty:=34) (r:=kD.str) (e:=9) (v:=.slice a n c) (xs:=ps) underlying34 kCv rfl bF1 bF1 kD.kEm J.out (ab.out.own bE7).rd bE6;have c5:=af.size;have B6:=af.kC B5 (λq=>by have:=q.2;omega);have R6:=af.kC R5 vU;have aj:=Z.kBr af vB;have aa:=ac.touch af vU vB;obtain ⟨a3,n3,c3,ao,bb⟩:=ad.parts;obtain rfl:=ao;have ag:=yD ad;have au:=yD (cd.out.snoc (kD.kDd bF1 bd));generalize ae:ps++[y]=qs at *;have b8:qs.length<=4:=by rw [<- ae];simp;omega
   have K6:Qd u3 w2 0 (.slice a n c):=kE B6 rfl;have F6:u3.frozen? ⟨w2,0,none⟩=false:=frozen_of_row u3 w2 0 _ _ B6;clear ae ad J ab B5 R5 Z ac V af;refine kAk trivial ?_;refine ku rfl (λK H=>?_);refine kD.kX _ _ _ rfl bF4 bF4 a7 ?_;refine H _ _ trivial ?_;clear H K;refine jH ?_;refine kS ?_;refine ku rfl (λK H=>?_);go_simp;refine H _ _ trivial ?_;clear H K;refine jH ?_;refine kM ?_;generalize o:World.setCell u3 _ _=w7;have T7:Touch (λk=>k=w2.heap.size) u3 w7:=wY;have B7:Qr w7 w2 #[.slice a3 n3 c3] 36:=by rw [<- o];exact kG B6 0
   have z7:=T7.size;clear o K6 F6;have X:=yD (ag.out.touch T7 (λk hk=>by rcases hk with hk | hk;(have:=hk.2;omega);omega));have R7:=T7.kC R6 bF2;have az:=aa.touch T7 bF2 bB6;have a1:=aj.jJ T7 bF2;clear ag R6 aa aj T7;have KR:Qd w7 w 0 (.slice none 0 0):=kE R7 rfl;have KB:=kE B7 (j:=0) (v:=.slice a3 n3 c3) rfl;have FR:w7.frozen? ⟨w,0,none⟩=false:=frozen_of_row w7 w 0 _ _ R7;obtain ⟨_,_,_,bp,bo⟩:=X.out.parts;simp only [Value.slice.injEq] at bp;have bi:=yD (bp.2.1.trans bo.out);clear bp bo;go_wp2;refine bodyPost_ret (v:=.agg #[.slice a3 n3 c3]) pW rfl ⟨_,_,qs,by rw [bi.out],?_,by omega,au.out,az.touch (jm w7 w 0 _) bF2 bB6,a1.jJ (jm w7 w 0 _) bF2⟩;have hq:=(X.out.touch (jm w7 w 0 (.slice a3 n3 c3)) (λk hk=>by rcases hk with hk | hk;(have:=hk.1;omega);omega)).own bB1;rw [bi.out] at hq ⊢;exact hq.wide (λj I=>⟨by rcases I with I | I;(have:=I.1;omega);omega,by rcases I with I | I;(have:=I.2;simp [World.setCell];omega);(simp [World.setCell];omega)⟩)
 have bt:¬ (m:Int)=0:=bF2
 by_cases bk:m=1
 · subst bk;go_wp2;go_loopw [] (λwr=>∃ (a:Option Addr) (n c:Nat) (ps:List ByteArray),ps.length<=8/\Hid (zO ps)/\Hid (n=ps.length)/\Hid (kD.kY 9 kD.str wr (.slice a n c) ps (λk=>(w1.heap.size<=k/\k < w2.heap.size)\/(w4.heap.size<=k/\k < wr.heap.size)))/\Qr wr w #[.slice none 0 0] 36/\Qr wr w2 #[.slice a n c] 36/\w4.heap.size<=wr.heap.size/\ym w0 wr p/\Touch (λk=>k=p) w wr) (λwr=>match wr.cell? ⟨w2,0,none⟩ with | some (.slice _ n _)=>9 - n | _=>0);case atStart =>
    obtain ⟨_,_,_,bp,bo⟩:=J.out.parts;simp only [Value.slice.injEq] at bp;exact ⟨a,n,c,ps,by omega,cd,yD (bp.2.1.trans bo.out),yD (J.out.wide (λk hk=>.inl hk)),R,B,Nat.le_refl _,hc,O⟩
   clear hc O R B J bu cd;obtain ⟨a,n,c,ps,bu,cd,Y,J,R,B,ch,hc,O⟩:=hrel;have KM:=yD (show Qd wr w2 0 (.slice a n c) from kE B rfl);have U:(n:Int)=ps.length:=by rw [Y.out]
   have aw:=yD U;clear U;go_upto_region 6 with fail;have FX:=yD (λ(W:World) (hW:Touch (λk=>k=p) wr W/\ym w0 W p)=>kE (hW.1.kC B bF2) (j:=0) (v:=.slice a n c) rfl);refine kK (λW=>Touch (λk=>k=p) wr W/\ym w0 W p) [true,true,true,true,false,true,true] bE5 bE5 qW (⟨Touch.of_below bR.drew,hc.below bR.drew⟩) ?_;intro wS E;all_goals ((iterate 4 refine kS ?_);(first|(refine kI rfl E ?_)|(refine ku rfl (λK H=>?_);go_simp;refine (kZ (n:=3) E.2 bF1).mono ?_;rintro e wS1 ⟨x,ai,L,bf,rfl,av,ap⟩;replace L:=L bF1;clear bf;replace E:=And.intro (E.1.trans ap) av;clear av ap;have hw:IntKind.i64.wrap (5 + x)=5 + x:=IntWalk.i64_in _ bF2;refine H _ _ E ?_;clear H K));refine jH ?_;refine kS ?_;refine jT λb cg=>?_;cases b <;> try simp only [jS] at cg)
   all_goals (refine kM ?_;have hzs:=E.1.size;replace R:=E.1.kC R bF2;replace B:=E.1.kC B bF2;replace O:=O.trans E.1;have ac:=E.2;replace J:=yD (J.out.touch E.1 pY);clear hc E)
   · clear cg;have KR:Qd wS1 w 0 (.slice none 0 0):=kE R rfl;have KB:=kE B (j:=0) (v:=.slice a n c) rfl;have FR:wS1.frozen? ⟨w,0,none⟩=false:=frozen_of_row wS1 w 0 _ _ R;obtain ⟨_,_,_,bp,bo⟩:=J.out.parts;simp only [Value.slice.injEq] at bp;have bi:=yD (bp.2.1.trans bo.out);clear bp bo;go_wp2;refine bodyPost_ret (v:=.agg #[.slice a n c]) pW rfl ⟨_,_,ps,by rw [bi.out],?_,by omega,cd.out,ac.touch (jm wS1 w 0 _) bF2 bB6,O.jJ (jm wS1 w 0 _) bF2⟩;have hq:=(J.out.touch (jm wS1 w 0 (.slice a n c)) pY).own bB1;rw [bi.out] at hq ⊢;exact hq.wide (λj I=>⟨by rcases I with I | I <;> omega,by rcases I with I | I <;> (simp [World.setCell];omega)⟩)
   have hlt:(n:Int) < 5 + x:=by simpa using cg
   have KB:Qd wS1 w2 0 (.slice a n c):=kE B rfl;clear cg;go_wp2_with (at_builtin;refine kD.jEz rfl _ _ 34 rfl (r:=kD.str) (e:=9) underlying34 kCv rfl bF1 bF1 kD.kEm (J.out.below (kD.zt wS1 (.cells #[.string { data:=#[109] }] 9))) bF4 bF4 ((kD.kPm (e:=9) wS1 (kD.kGz (s:={ data:=#[109] }) bF1)).own bE7).rd bE6 ?_);intro v6 w6 an aq;have T6:=(Touch.of_below (S:=λk=>(w1.heap.size<=k/\k < w2.heap.size)\/(w4.heap.size<=k/\k < wr.heap.size)) (kD.zt wS1 (.cells #[.string { data:=#[109] }] 9))).trans aq;have zA:wS1.heap.size + 1<=w6.heap.size:=by have:=aq.size;simpa using this
   have R6:=T6.kC R qY;have B6:=T6.kC B qY;have aj:=O.kBr T6 qQ;have aa:=ac.touch T6 qY qQ;have ag:=yD (an.wide (T:=λk=>(w1.heap.size<=k/\k < w2.heap.size)\/(w4.heap.size<=k/\k < w6.heap.size)) (λk q=>by rcases q with (q | q) | q;exact .inl q;exact .inr ⟨q.1,by omega⟩;exact .inr ⟨by have:=q.1;omega,q.2⟩));obtain ⟨a6,n6,N,a2,ax⟩:=an.parts;obtain rfl:=a2;have b8:(ps++[({ data:=#[109] }:ByteArray)]).length=ps.length + 1:=bF3;have ay:=yD (cd.out.snoc (y:={ data:=#[109] }) bF1);generalize ps++[({ data:=#[109] }:ByteArray)]=qs at *;have ak:=yD b8;clear b8 an aq T6 R B O ac J KB;have K6:Qd w6 w2 0 (.slice a n c):=kE B6 rfl;have F6:w6.frozen? ⟨w2,0,none⟩=false:=frozen_of_row w6 w2 0 _ _ B6;go_wp2;generalize o:World.setCell w6 _ _=w7;have T7:Touch (λk=>k=w2.heap.size) w6 w7:=wY;have B7:Qr w7 w2 #[.slice a6 n6 N] 36:=by rw [<- o];exact kG B6 0
   have z7:=T7.size;clear o K6 F6;have X:=yD ((ag.out.touch T7 qQ).wide (T:=λk=>(w1.heap.size<=k/\k < w2.heap.size)\/(w4.heap.size<=k/\k < w7.heap.size)) (λk q=>by rcases q with q | q;exact .inl q;exact .inr ⟨q.1,by omega⟩));go_roundw;case rel=>exact ⟨a6,n6,N,qs,by have:=ak.out;have:=aw.out;omega,ay,yD ax.out,X,T7.kC R6 bF2,B7,by omega,aa.touch T7 bF2 bB6,aj.jJ T7 bF2⟩
   simp only [KM.out,kE B7 (j:=0) (v:=.slice a6 n6 N) rfl];have h1:=ak.out;have h2:=ax.out;have h3:=aw.out;omega
 have bx:¬ (m:Int)=1:=bF2
 have KR:Qd w4 w 0 (.slice none 0 0):=kE R rfl
 have KB:=kE B (j:=0) (v:=.slice a n c) rfl
 have FR:w4.frozen? ⟨w,0,none⟩=false:=frozen_of_row w4 w 0 _ _ R
 obtain ⟨_,_,_,bp,bo⟩:=J.out.parts
 simp only [Value.slice.injEq] at bp
 have bi:=yD (bp.2.1.trans bo.out)
 clear bp bo
 go_wp2
 refine bodyPost_ret (v:=.agg #[.slice a n c]) pW rfl ⟨_,_,ps,by rw [bi.out],?_,by omega,cd.out,hc.touch (jm w4 w 0 _) bF2 bB6,O.jJ (jm w4 w 0 _) bF2⟩
 have hq:=(J.out.touch (jm w4 w 0 (.slice a n c)) vB).own bB1
 rw [bi.out] at hq ⊢
 exact hq.wide fT
theorem kWn {w0 w:Ad} {p:Nat} (hc:ym w0 w p) :
    Ag prog 94 #[.pointer (some ⟨p,0,none⟩)] w λe w'=>∃ a c ps,e=.returned (.agg #[Qs a ps c])/\kR.own w' [Qs a ps c] ps (jg w w')/\ps.length<=8/\ym w0 w' p/\Touch (λk=>k=p) w w' :=
  (kGr hc).mono λe w1 ⟨a,c,ps,h0,h1,h2,_,h4⟩=>⟨a,c,ps,h0,h1,h2,h4⟩
end Go.Proofs.YthocbplmdjkifaaGreat

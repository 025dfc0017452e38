/-
  Names as the reference draws them.
-/
import Derived.Test.YtjhfdpopkkmigabGreatDrawB
import Derived.Test.YtjhfdpopkkmigabGreatSoft4
set_option linter.unusedVariables false
set_option linter.unusedSimpArgs false
set_option linter.unnecessarySimpa false
set_option maxRecDepth 100000
set_option maxHeartbeats 4000000
open Go renaming frozen_of_row->Aa,bodyPost_ret->Ab,World->Ad,Calls->Ae
open _root_ renaming ByteArray->Ac
namespace Go.Proofs.YtjhfdpopkkmigabGreat
open Go.RowKit _root_.Go.Proofs.Tryz
theorem kQb {w:Ad} {ca:List Value} {x:kg} (ha:kN.rd w ca x):Ae prog 66 #[.agg ca.toArray] w λe w'=>∃ a n c,e=.returned (.agg #[.slice a n c])/\kD.kQ 9 kD.str w' (.slice a n c) x (jb w.heap.size w'.heap.size)/\Qb w w':=by
 have HA:=yD ha;obtain ⟨av,rfl,Z⟩:=kX ha.1;obtain ⟨aa,ao,rfl,la⟩:=kD.sl Z;have hb:x.length<=16777216:=ha.2.1;clear ha;go_enter func66,ntmps66;have O0:kD.kQ 9 kD.str (((w.alloc (.cells #[.slice aa x.length ao] 36)).alloc (.cells #[.slice none 0 0] 36)).alloc (.cells #[] 9)) (.slice (some ⟨w.heap.size + 1 + 1,0,none⟩) 0 0) [] (λk=>k=w.heap.size + 1 + 1):=by
  exact aL
 go_wp2_with (at_builtin;refine kD.yT rfl _ _ 34 rfl (r:=kD.str) (e:=9) underlying34 kCk rfl bH2 bH2 kD.kEd (B:=w.heap.size + 1 + 1) O0 bH5 bH5 (HA.out.below bI) sG bH4 bG7 ?_);intro v2 V hown o hz;obtain ⟨a2,c2,hv⟩:=hown.yw;obtain rfl:=hv;replace hown:=hown.cast (List.nil_append _);have I:=yD hown;have EG:Qb w V:=Below.trans bI (o.mono sP);clear hown O0;obtain ⟨R0,F0⟩:=xS;clear o;go_wp2;refine Ab (v:=.agg #[Qs a2 x c2]) qA rfl ⟨_,_,_,rfl,?_,?_⟩
 · exact (I.out.setCell fH).wide gB
 exact EG.setCell bH4 _
theorem kDg {w:Ad} {cn:List Value} {n:kg} (hn:kN.rd w cn n) (bq:n.length<=1000) {s:Ac} (hs:s.size<=Big) :
    Ae prog 139 #[.agg cn.toArray,.string s] w λe w'=>∃ a m c b,e=.returned (.tuple #[.agg #[.slice a m c],.bool b])/\b=kAp (n++[s])/\kD.kQ 9 kD.str w' (.slice a m c) (if b then n++[s] else n) (jb w.heap.size w'.heap.size)/\Qb w w':=by
 have HN:=yD hn
 obtain ⟨av,rfl,Z⟩:=kX hn.1
 obtain ⟨aa,ao,rfl,la⟩:=kD.sl Z
 clear hn Z
 have E:=yD hs
 clear hs
 go_enter func139,ntmps139
 go_upto_region 1 with fail
 generalize J:World.alloc (World.alloc w _) _=N
 have EB:Qb w N:=by rw [<- J];exact bI
 have bk:w.heap.size + 2<=N.heap.size:=bF5
 have U:Qr N w.heap.size #[Qs aa n ao] 36:=vJ
 have B1:Qr N (w.heap.size + 1) #[.slice none 0 0] 36:=by rw [<- J];exact kG bH4
 have K0:=cL (kD.zQ N (.cells #[] 9)) (kE U (j:=0) rfl)
 clear J
 have O0:kD.kQ 9 kD.str (N.alloc (.cells #[] 9)) (.slice (some ⟨N.heap.size,0,none⟩) 0 0) [] (λk=>k=N.heap.size):=kD.kQ.void
 go_wp2_with (at_builtin;refine kD.yT rfl _ _ 34 rfl (r:=kD.str) (e:=9) underlying34 kCk rfl bH2 bH2 kD.kEd (B:=N.heap.size) O0 bH5 bH5 ((HN.out.below EB).below (bR.alloc nL _)) sG bH4 bG7 ?_)
 intro v2 V hown o hz
 have I:=yD (hown.cast (List.nil_append _))
 obtain ⟨a2,n2,c2,hv,bb⟩:=I.out.parts;obtain rfl:=hv
 have G:Qb N V:=Below.trans (bR.alloc nL _) o
 have E2:Qb w V:=EB.trans (G.mono bH3)
 have a9:=G.size
 clear hown O0 o
 go_wp2_with (at_builtin;refine kD.jP rfl _ _ 34 rfl (r:=kD.str) (e:=9) underlying34 kCk rfl bH2 bH2 (B:=N.heap.size) I.out bH5 bH5 rfl (kD.flat.own (S:=λ_=>False) (kD.kGk E.out)) rfl (λ_ _ h=>h) rQ (λ_ h=>h.elim) bH3 vG ?_)
 intro v3 w3 ae ap ay
 have ai:=yD ae
 obtain ⟨a3,n3,c3,hv,bg⟩:=ai.out.parts;obtain rfl:=hv
 have E3:=E2.trans (ap.mono bH3)
 have L:=G.trans ap
 clear ae ap
 go_upto_region 2 with fail
 generalize D:World.alloc w3 _=wC
 have EC:Qb w3 wC:=tL
 have X:Qr wC w3.heap.size #[.slice a3 n3 c3] 36:=bA0
 have K6:=kE X (j:=0) rfl
 clear D
 have ay:=L.size
 have aw:=EC.size
 have H:=L.trans (EC.mono ay)
 have E4:=(tQ E3 EC)
 replace U:=kC U H
 replace B1:=kC B1 H
 clear K0
 have K0:=kE U (j:=0) rfl
 have F:=yD (ai.out.below EC)
 clear I ai
 go_wp2_with fail
 refine (yg (n:=n++[s]) F.out.kBi).mono ?_
 rintro e w4 ⟨rfl,ad⟩
 have b1:=ad.size
 have bl:=yD (F.out.below ad)
 have E5:=(tQ E4 ad)
 replace K0:=cL ad K0
 replace K6:=cL ad K6
 replace B1:=kC B1 ad
 have K1:=kE B1 (j:=0) rfl
 have F1:=Aa w4 (w.heap.size + 1) 0 _ _ B1
 clear F U X ad
 generalize hv:kAp (n++[s])=b
 cases b
 · go_wp2_with fail;refine (kQb (HN.out.below E5)).mono ?_;rintro e w5 ⟨a5,O,c5,rfl,O5,bh⟩;have bz:=bh.size;have aj:=yD O5;have E6:=(tQ E5 bh);have R1:=cL bh K1;have F2:=Aa w5 (w.heap.size + 1) 0 _ _ (kC B1 bh);clear O5 bh K1 F1;go_wp2;refine Ab (v:=.tuple #[.agg #[.slice a5 O c5],.bool false]) (by simp [results,results139,go_sem,R1,F2]) rfl ⟨_,_,_,_,rfl,hv.symm,?_,?_⟩
   · exact (aj.out.setCell (λq=>by have:=q.1;simp at this;omega)).wide gB
   exact E6.setCell bH4 _
 go_wp2
 refine Ab (v:=.tuple #[.agg #[.slice a3 n3 c3],.bool true]) (by simp [results,results139,go_sem,K1,F1]) rfl ⟨_,_,_,_,rfl,hv.symm,?_,?_⟩
 · exact (bl.out.setCell (λq=>by have:=q.1;simp at this;omega)).wide fE
 exact E5.setCell bH4 _
def ParsedName (M:Nat) (w:Ad) (e:Ending) (w':Ad):Prop:=∃ a c b ps,e=.returned (.tuple #[.agg #[Qs a ps c],.bool b])/\kN.own w' [Qs a ps c] ps (jb w.heap.size w'.heap.size)/\ps.length<=M/\Hid (kCw M ps)/\Qb w w'
theorem kUd {w:Ad} {s:Ac} {M:Nat} (hM:M<=1000) (hs:s.size<=M) :
    Ae prog 187 #[.string s] w (ParsedName M w):=by
 go_enter func187,ntmps187
 cases hq:(s.toList==[47])
 case true =>
  go_wp2;refine Ab (v:=.tuple #[.agg #[.slice none 0 0],.bool true]) (by simp [results,results187,go_sem]) rfl ⟨none,0,true,[],rfl,kD.jm,by simp,yD kCw.nil,?_⟩;exact bI
 go_wp2_with fail
 refine (kOg (by0:=47) hM hs bH2).mono ?_
 rintro e V ⟨v,rfl,ps,O2,bd,bw,F,af⟩
 have b8:=yD (F.drop 1)
 clear F
 obtain ⟨b2,c2,rfl,ax,ad,fj,g3⟩:=kD.zy O2 bd
 have a9:=af.size
 have I:=yD O2
 clear O2
 have o:(0:Int) < ps.length:=bH3
 have ae:(1:Int)<=ps.length:=bH3
 have aa:(ps.length:Int)<=c2:=bH3
 have E:c2<=9223372036854775807:=g3
 go_upto_region 5 with fail
 have HD:Hid (1 < ps.length->(kD.slice 9 kD.str).own V [.slice (if c2=1 then some ⟨b2,0,none⟩ else some ⟨b2,1,none⟩) (ps.length - 1) (c2 - 1)] (ps.drop 1) (jb (w.heap.size + 1) V.heap.size)):=yD (by
   intro h1;have h:=(I.out.own bD0).wide (T:=jb (w.heap.size + 1) V.heap.size) nN;have dp:¬ c2=1:=bH3;rw [if_neg dp];exact kD.kQx h (k:=1) bH3)
 generalize (if c2=1 then some ⟨b2,0,none⟩ else some ⟨b2,1,none⟩:Option Addr)=A at *
 obtain ⟨cb,Z,he,c0,cr,bk⟩:=kD.kCu (I.out.kBi) (i:=0) bd rfl
 simp only [Option.some.injEq,Addr.mk.injEq,and_true] at he
 obtain ⟨rfl,rfl⟩:=he
 have bl:[c0]=[.string ps[0]]:=(kD.zz cr).1
 obtain rfl:c0=.string ps[0]:=bE3
 clear cr bl
 generalize ps[0]=y0 at *
 have bj:=yD (show (ps.drop 1).length=ps.length - 1 by simp)
 generalize ps.drop 1=qs at *
 have HM:=yD bw
 generalize D:World.alloc V _=wC
 have EC:Qb V wC:=tL
 have X:Qr V w.heap.size #[.slice none 0 0] 36:=kC (kG rfl) af
 have B5:Qr wC V.heap.size #[.slice A (ps.length - 1) (c2 - 1)] 36:=bA0
 clear D
 obtain ⟨aw,bi,E2,X,HD,O,K5⟩:=FZ
 clear bk af ax I a9
 by_cases h2:(ps.length:Int) < 2
 · have K2:=kE X (j:=0) rfl;have F2:=Aa wC w.heap.size 0 _ _ X;clear O;exact gQ
 cases hy:y0.toList.isEmpty
 case false =>
  have K2:=kE X (j:=0) rfl;have F2:=Aa wC w.heap.size 0 _ _ X;exact gQ
 replace HD:=yD (HD.out bH3)
 go_wp2_with fail
 refine (yg (n:=qs) HD.out.rd.1).mono ?_
 rintro e w3 ⟨rfl,ap⟩
 have ay:=ap.size
 replace HD:=yD (HD.out.below ap)
 have E3:=(tQ E2 ap)
 replace K5:=cL ap K5
 replace X:=kC X ap
 have K2:=kE X (j:=0) rfl
 have F2:=Aa w3 w.heap.size 0 _ _ X
 clear O
 generalize hv:kAp qs=b
 cases b
 · go_wp2;refine Ab (v:=.tuple #[.agg #[.slice none 0 0],.bool false]) pJ rfl ⟨none,0,false,[],rfl,kD.jm,by simp,yD kCw.nil,?_⟩;exact E3.setCell bH4 _
 go_wp2
 refine Ab (v:=.tuple #[.agg #[.slice A (ps.length - 1) (c2 - 1)],.bool true]) pJ rfl ⟨A,c2 - 1,true,qs,by rw [bj.out],?_,by rw [bj.out];omega,b8,E3.setCell bH4 _⟩
 rw [bj.out]
 exact ((HD.out.touch (jl w3 w.heap.size 0 _) vE).wide fE)
theorem specl4Of_m {w:Ad} {s:Ac} {M:Nat} (hM:M<=1000) (hs:s.size<=M) :
    Ae prog 138 #[.string s] w λe w'=>∃ a c ps,e=.returned (.agg #[Qs a ps c])/\kN.own w' [Qs a ps c] ps (jb w.heap.size w'.heap.size)/\ps.length<=M/\kCw M ps/\Qb w w':=by
 go_enter func138,ntmps138
 go_upto_region 1 with fail
 generalize G:World.alloc w _=w1
 obtain ⟨U,R,bo⟩:=CU
 clear G
 have o:=U
 clear U
 go_wp2_with fail
 refine (kUd hM hs).mono ?_
 rintro e V ⟨a,c,b,ps,rfl,hr,hl,b8,hb⟩
 have bv:=hb.size
 replace R:=kC R hb
 replace o:=(tQ o hb)
 clear hb
 have HR:=yD (hr.wide (T:=jb (w.heap.size + 1) V.heap.size) rR)
 clear hr
 go_upto_region 2 with fail
 generalize G:World.alloc V _=w3
 have ad:Qb V w3:=tK
 have B:Qr w3 V.heap.size #[Qs a ps c] 36:=wW
 have bt:V.heap.size + 1<=w3.heap.size:=bF4
 clear G
 replace R:=kC R ad
 replace HR:=yD (HR.out.below ad)
 replace o:=(tQ o ad)
 clear ad
 have ak:Qd w3 w 0 (.slice none 0 0):=kE R rfl
 have ag:Qd w3 V 0 (.slice a ps.length c):=kE B rfl
 have al:w3.frozen? ⟨w.heap.size,0,none⟩=false:=Aa w3 (w.heap.size) 0 _ _ R
 go_wp2
 refine Ab (v:=.agg #[Qs a ps c]) (by simp [results,results138,go_sem,ak,al]) rfl ⟨_,_,ps,rfl,?_,hl,b8.out,o.setCell bH4 _⟩
 exact (HR.out.touch (jl w3 w.heap.size 0 _) vE).wide fE
theorem yZ {w:Ad} {s:Ac} (hs:s.size<=64) :
    Ae prog 138 #[.string s] w λe w'=>∃ a c ps,e=.returned (.agg #[Qs a ps c])/\kN.own w' [Qs a ps c] ps (jb w.heap.size w'.heap.size)/\ps.length<=64/\zF ps/\Qb w w':=specl4Of_m (M:=64) bH2 hs
theorem kVv {w:Ad} {s:Ac} (hs:s.size<=64) :
    Ae prog 138 #[.string s] w λe w'=>∃ a c ps,e=.returned (.agg #[Qs a ps c])/\kN.own w' [Qs a ps c] ps (jb w.heap.size w'.heap.size)/\ps.length<=64/\Qb w w' :=
  (yZ hs).mono λe w1 ⟨a,c,ps,h0,h1,h2,_,h4⟩=>⟨a,c,ps,h0,h1,h2,h4⟩
theorem kKd {w0 w:Ad} {p:Nat} (hc:yS w0 w p) :
    Ae prog 145 #[.pointer (some ⟨p,0,none⟩)] w λe w'=>∃ a n c ps,e=.returned (.agg #[.slice a n c])/\kD.kQ 9 kD.str w' (.slice a n c) ps (jb w.heap.size w'.heap.size)/\ps.length<=3/\zF ps/\yS w0 w' p/\Touch (λk=>k=p) w w':=by
 go_enter func145,ntmps145
 obtain ⟨bd,bw⟩:=hc.lt
 go_upto_region 1 with fail
 generalize G:World.alloc w _=w1
 obtain ⟨U,R,bo⟩:=CU
 clear G
 obtain ⟨hc,J⟩:=xQ
 clear U
 go_upto_region 2 with fail
 generalize G:World.alloc w1 _=V
 have o:Qb w1 V:=tK
 have B:Qr V w1.heap.size #[.slice none 0 0] 36:=wW
 have bv:w1.heap.size + 1<=V.heap.size:=bF4
 clear G
 replace R:=kC R o
 replace hc:=hc.below o
 replace J:=J.trans (Touch.of_below o)
 clear o
 go_wp2_with fail
 refine (ko (n:=4) hc bH2).mono ?_
 rintro e w3 ⟨m,bc,ax,b7,rfl,F,D⟩
 have bt:=D.size
 obtain ⟨R,B⟩:=AV
 replace J:=J.trans D
 clear hc D
 have hc:=F
 clear F
 replace ax:=ax bH2
 clear b7
 obtain ⟨m,rfl⟩:=Int.eq_ofNat_of_zero_le bc
 go_wp2
 go_loopw [4] (λi wr=>∃ (j:Nat) (a:Option Addr) (n c:Nat) (ps:List Ac),i=.int .i64 j/\ps.length + j<=3/\Hid (zF ps)/\Hid (kD.kQ 9 kD.str wr (.slice a n c) ps (jb V.heap.size wr.heap.size))/\Qr wr w.heap.size #[.slice none 0 0] 36/\Qr wr w1.heap.size #[.slice a n c] 36/\V.heap.size<=wr.heap.size/\yS w0 wr p/\Touch (λk=>k=p) w wr) (λi _=>(intOf i).toNat)
 case atStart=>exact ⟨m,none,0,0,[],rfl,by simp;omega,yD zF.nil,yD kD.kQ.void,R,B,bt,hc,J⟩
 clear hc J R B
 obtain ⟨j,a,n,c,ps,rfl,hj,b8,I,R,B,da,hc,J⟩:=hrel
 cases j with
 | zero =>
   have ak:Qd wr w 0 (.slice none 0 0):=kE R rfl;have ag:Qd wr w1 0 (.slice a n c):=kE B rfl;have al:wr.frozen? ⟨w.heap.size,0,none⟩=false:=Aa wr (w.heap.size) 0 _ _ R;go_wp2;refine Ab (v:=.agg #[.slice a n c]) (by simp [results,results145,go_sem,ak,al]) rfl ⟨_,_,_,ps,rfl,?_,by omega,b8.out,hc.touch (jl wr w.heap.size 0 _) bH3 bD5,J.jJ (jl wr w.heap.size 0 _) bH3⟩;exact (I.out.touch (jl wr w.heap.size 0 _) vE).wide fE
 | succ j =>
   have c8:(0:Int) < (j:Int) + 1:=bH3;go_upto_region 5 with fail;refine zl (λW=>Touch (λk=>k=p) wr W/\yS w0 W p) (λ_=>True) [] [(0,true),(1,true),(2,false),(3,false),(4,false)] [(5,true),(6,true),(7,true),(8,false)] bG6 bG6 qY (⟨Touch.of_below bR.drew,hc.below bR.drew⟩) ?_;intro wS E;simp only [jB,zO,List.getElem?_cons_succ,List.getElem?_cons_zero,List.map_cons,List.map_nil];refine pre_nil ?_;refine jf (v:=?_) rfl (λW hW=>?_) ?_;rotate_left;(· have dg:=kE (hW.1.kC B bH3) (j:=0) (v:=.slice a n c) rfl;clear hW;go_simp;try with_reducible rfl);refine jG ?_;refine jf (v:=?_) rfl (λW hW=>?_) ?_;rotate_left;(· go_simp;try with_reducible rfl);refine jG ?_;refine zK rfl (λK H=>?_);go_simp;refine H _ _ ⟨E.1.trans (Touch.of_below (bR.alloc nL _)),E.2.below (bR.alloc nL _)⟩ ?_;clear H K;refine jG ?_;refine zK rfl (λK H=>?_);go_simp;refine (kAd (E.2.below (bR.alloc nL _)) (kD.kBg _ [{ data:=#[97] },{ data:=#[98] },{ data:=#[110,101,119,115] },{ data:=#[120,45,49] },{ data:=#[49] },{ data:=#[107,101,121] }] bH2 bH2) bA6 bH2 bH2).mono ?_;rintro e wS1 ⟨y,aw,b6,rfl,ap,am⟩;replace E:=And.intro ((E.1.trans (Touch.of_below (bR.alloc nL _))).trans am) ap;clear ap am;refine H _ _ E ?_;clear H K;refine jG ?_;refine zK rfl (λK H=>?_);go_simp;have dv:=E.1.size;refine (kDg ((I.out.touch E.1 vE).own bD0).rd bH3 nZ).mono ?_;rintro e bm ⟨a2,n2,c2,b2,rfl,af,b0,Z⟩;replace E:=And.intro (E.1.trans (Touch.of_below Z)) (E.2.below Z);refine H _ _ E ?_;clear H K;refine jG ?_;have b1:=E.1.size;have bz:=Z.size;have R4:=E.1.kC R bH3;have B4:=E.1.kC B bH3;have X:=J.trans E.1;have i6:=E.2;have O:(if b2 then ps++[y] else ps).length<=ps.length + 1:=by split <;> simp
   have L:=yD (show zF (if b2 then ps++[y] else ps) by split;exact b8.out.snoc (kD.kCr bH2 aw);exact b8.out);generalize (if b2 then ps++[y] else ps)=qs at *;have bl:=yD (b0.wide (T:=jb V.heap.size bm.heap.size) rU);clear b0 I R B J hc E Z;have K4:Qd bm w1 0 (.slice a n c):=kE B4 rfl;have F4:bm.frozen? ⟨w1.heap.size,0,none⟩=false:=Aa bm w1.heap.size 0 _ _ B4;refine kAa trivial ?_;refine ky ?_;refine ky ?_;refine ky ?_;refine kw rfl (λK H=>?_);go_simp;refine H _ _ trivial ?_;clear H K;refine jG ?_;refine kS ?_;generalize G:World.setCell bm _ _=w5;have N:Touch (λk=>k=w1.heap.size) bm w5:=bB2;have B5:Qr w5 w1.heap.size #[.slice a2 n2 c2] 36:=by rw [<- G];exact kI B4 0
   have bz:w5.heap.size=bm.heap.size:=by rw [<- G];simp [World.setCell]
   clear G K4 F4;have aj:=yD ((bl.out.touch N vE).wide (T:=jb V.heap.size w5.heap.size) (λk hk=>⟨hk.1,by have:=hk.2;omega⟩));have Y:=yD bz;clear bz;go_wp2;go_roundw;case rel=>exact ⟨j,a2,n2,c2,qs,by go_num,by omega,L,aj,N.kC R4 bH3,B5,by have:=Y.out;omega,i6.touch N bH3 bD5,X.jJ N bH3⟩
   case measure=>simp [intOf]
theorem kGb {w0 w:World} {p:Nat} (hc:yS w0 w p) :
    Calls prog 68 #[.pointer (some ⟨p,0,none⟩)] w λe w'=>∃ a c ps,e=.returned (.agg #[Qs a ps c])/\kN.own w' [Qs a ps c] ps (jb w.heap.size w'.heap.size)/\ps.length<=8/\zF ps/\yS w0 w' p/\Touch (λk=>k=p) w w':=by
 go_enter func68,ntmps68
 obtain ⟨bd,bw⟩:=hc.lt
 go_upto_region 1 with fail
 generalize G:World.alloc w _=w1
 obtain ⟨U,R,bo⟩:=CU
 clear G
 obtain ⟨hc,J⟩:=xQ
 clear U
 go_wp2_with fail
 refine (kKd hc).mono ?_
 rintro e V ⟨a,n,c,ps,rfl,hO,bp,ai,F,D⟩
 obtain ⟨bv,R,J⟩:=BP
 clear hc D
 have hc:=F
 clear F
 have b8:=yD ai
 clear ai
 have I:=yD (hO.wide (T:=jb w1.heap.size V.heap.size) (λ_ h=>h))
 clear hO
 go_upto_region 2 with fail
 generalize G:World.alloc V _=w3
 obtain ⟨ad,B,bt⟩:=FW
 clear G
 obtain ⟨R,I,hc,J⟩:=A9
 clear ad
 go_wp2_with fail
 refine (ko (n:=8) hc bH2).mono ?_
 rintro e w4 ⟨x,au,o,be,rfl,F,D⟩
 have b5:=D.size
 obtain ⟨R,B⟩:=AV
 obtain ⟨I,J⟩:=xK
 clear hc D
 have hc:=F
 clear F
 replace o:=o bH2
 clear be
 obtain ⟨m,rfl⟩:=Int.eq_ofNat_of_zero_le au
 by_cases bc:m=0
 · subst bc;go_upto_region 4 with fail;refine zl (λW=>Touch (λk=>k=p) w4 W/\yS w0 W p) (λ_=>True) [] [(0,true),(1,true),(2,true),(3,false),(4,false),(5,false)] [(6,false),(7,true),(8,false)] bG6 bG6 qY (⟨Touch.of_below bR.drew,hc.below bR.drew⟩) ?_;intro wS E;simp only [jB,zO,List.getElem?_cons_succ,List.getElem?_cons_zero,List.map_cons,List.map_nil];refine pre_nil ?_;refine jf (v:=?_) rfl (λW hW=>?_) ?_;rotate_left;(· go_simp;try with_reducible rfl);refine jG ?_;refine jf (v:=?_) rfl (λW hW=>?_) ?_;rotate_left;(· have dg:=kE (hW.1.kC B bH3) (j:=0) (v:=.slice a n c) rfl;clear hW;go_simp;try with_reducible rfl);refine jG ?_;refine jf (v:=?_) rfl (λW hW=>?_) ?_;rotate_left;(· go_simp;try with_reducible rfl);refine jG ?_;refine zK rfl (λK H=>?_);go_simp;refine H _ _ ⟨E.1.trans (Touch.of_below (bR.alloc nL _)),E.2.below (bR.alloc nL _)⟩ ?_;clear H K;refine jG ?_;refine zK rfl (λK H=>?_);go_simp;refine (kAd (E.2.below (bR.alloc nL _)) (kD.kBg _ [{ data:=#[] },{ data:=#[65] },{ data:=#[116,111,111,108,111,110,103,120,120] },{ data:=#[97,47,98] },{ data:=#[32] },{ data:=#[101,105,103,104,116,56,56,56] }] bH2 bH2) bA6 bH2 bH2).mono ?_;rintro e wS1 ⟨y,aw,b6,rfl,ap,am⟩;replace E:=And.intro ((E.1.trans (Touch.of_below (bR.alloc nL _))).trans am) ap;clear ap am;refine H _ _ E ?_;clear H K;refine jG ?_;refine zK rfl (λK H=>?_);go_simp;have af:=yD (kD.kNl (e:=9) wS1 (kD.kGk (s:=y) nZ));have ab:Touch (λk=>k=p) w4 (World.alloc wS1 (Obj.cells #[Value.string y] 9))/\yS w0 (World.alloc wS1 (Obj.cells #[Value.string y] 9)) p:=⟨E.1.trans (Touch.of_below (bR.alloc nL _)),E.2.below (bR.alloc nL _)⟩;generalize av:World.alloc wS1 (Obj.cells #[Value.string y] 9)=wU at af ab ⊢;clear av;refine H _ _ ab ?_;clear H K E;refine jG ?_;have bz:=ab.1.size;have R5:=ab.1.kC R bH3;have B5:=ab.1.kC B bH3;have N:=J.trans ab.1;have ah:=ab.2;replace I:=yD (I.out.touch ab.1 qW);clear R B J hc;obtain ⟨v3,u3,a7,ae,ay⟩:=kD.kZi (P:=prog) (t:=34) (ty:=34) (r:=kD.str) (e:=9) (v:=.slice a n c) (xs:=ps) underlying34 kCk rfl bH2 bH2 kD.kEd I.out (af.out.own bG8).rd bG7;have c9:=ay.size;have X:=ay.kC B5 (λq=>by have:=q.2;omega);have R6:=ay.kC R5 wH;have ag:=N.kBz ay vE;have aa:=ah.touch ay wH vE;obtain ⟨a3,n3,c3,Z,bg⟩:=ae.parts;obtain rfl:=Z;have ao:=yD ae;have an:=yD (b8.out.snoc (kD.kCr bH2 aw));generalize a8:ps++[y]=qs at *;have bk:qs.length<=4:=by rw [<- a8];simp;omega
   have K6:Qd u3 V 0 (.slice a n c):=kE X rfl;have F6:u3.frozen? ⟨V.heap.size,0,none⟩=false:=frozen_of_row u3 V.heap.size 0 _ _ X;clear a8 ae I af B5 R5 N ah ab ay;refine kAa trivial ?_;refine kw rfl (λK H=>?_);refine kD.kV _ _ _ rfl bH5 bH5 a7 ?_;refine H _ _ trivial ?_;clear H K;refine jG ?_;refine ky ?_;refine kw rfl (λK H=>?_);go_simp;refine H _ _ trivial ?_;clear H K;refine jG ?_;refine kS ?_;generalize G:World.setCell u3 _ _=w7;have O:Touch (λk=>k=V.heap.size) u3 w7:=bB2;have B7:Qr w7 V.heap.size #[.slice a3 n3 c3] 36:=by rw [<- G];exact kI X 0
   have z7:=O.size;clear G K6 F6;have a5:=yD (ao.out.touch O (λk hk=>by rcases hk with hk | hk;(have:=hk.2;omega);omega));have R7:=O.kC R6 bH3;have a1:=aa.touch O bH3 bD5;have a2:=ag.jJ O bH3;clear ao R6 aa ag O;have KR:Qd w7 w 0 (.slice none 0 0):=kE R7 rfl;have KB:=kE B7 (j:=0) (v:=.slice a3 n3 c3) rfl;have FR:w7.frozen? ⟨w.heap.size,0,none⟩=false:=frozen_of_row w7 w.heap.size 0 _ _ R7;obtain ⟨_,_,_,bl,bj⟩:=a5.out.parts;simp only [Value.slice.injEq] at bl;have bq:=yD (bl.2.1.trans bj.out);clear bl bj;go_wp2;refine bodyPost_ret (v:=.agg #[.slice a3 n3 c3]) pY rfl ⟨_,_,qs,by rw [bq.out],?_,by omega,an.out,a1.touch (jl w7 w.heap.size 0 _) bH3 bD5,a2.jJ (jl w7 w.heap.size 0 _) bH3⟩;have hq:=(a5.out.touch (jl w7 w.heap.size 0 (.slice a3 n3 c3)) (λk hk=>by rcases hk with hk | hk;(have:=hk.1;omega);omega)).own bD0;rw [bq.out] at hq ⊢;exact hq.wide (λj hj=>⟨by rcases hj with hj | hj;(have:=hj.1;omega);omega,by rcases hj with hj | hj;(have:=hj.2;simp [World.setCell];omega);(simp [World.setCell];omega)⟩)
 have cg:¬ (m:Int)=0:=bH3
 by_cases ax:m=1
 · subst ax;go_wp2;go_loopw [] (λwr=>∃ (a:Option Addr) (n c:Nat) (ps:List ByteArray),ps.length<=8/\Hid (zF ps)/\Hid (n=ps.length)/\Hid (kD.kQ 9 kD.str wr (.slice a n c) ps (λk=>(w1.heap.size<=k/\k < V.heap.size)\/(w4.heap.size<=k/\k < wr.heap.size)))/\Qr wr w.heap.size #[.slice none 0 0] 36/\Qr wr V.heap.size #[.slice a n c] 36/\w4.heap.size<=wr.heap.size/\yS w0 wr p/\Touch (λk=>k=p) w wr) (λwr=>match wr.cell? ⟨V.heap.size,0,none⟩ with | some (.slice _ n _)=>9 - n | _=>0);case atStart =>
    obtain ⟨_,_,_,bl,bj⟩:=I.out.parts;simp only [Value.slice.injEq] at bl;exact ⟨a,n,c,ps,by omega,b8,yD (bl.2.1.trans bj.out),yD (I.out.wide (λk hk=>.inl hk)),R,B,Nat.le_refl _,hc,J⟩
   clear hc J R B I bp b8;obtain ⟨a,n,c,ps,bp,b8,HN,I,R,B,da,hc,J⟩:=hrel;have KM:=yD (show Qd wr V 0 (.slice a n c) from kE B rfl);have ac:(n:Int)=ps.length:=by rw [HN.out]
   have aq:=yD ac;clear ac;go_upto_region 6 with fail;have FX:=yD (λ(W:World) (hW:Touch (λk=>k=p) wr W/\yS w0 W p)=>kE (hW.1.kC B bH3) (j:=0) (v:=.slice a n c) rfl);refine kK (λW=>Touch (λk=>k=p) wr W/\yS w0 W p) [true,true,true,true,false,true,true] bG6 bG6 qY (⟨Touch.of_below bR.drew,hc.below bR.drew⟩) ?_;intro wS E;iterate 4
    all_goals refine ky ?_
   all_goals first|(refine kJ rfl E ?_)|(refine kw rfl (λK H=>?_);go_simp;refine (ko (n:=3) E.2 bH2).mono ?_;rintro e wS1 ⟨x,au,o,be,rfl,ap,am⟩;replace o:=o bH2;clear be;replace E:=And.intro (E.1.trans am) ap;clear ap am;have hw:IntKind.i64.wrap (5 + x)=5 + x:=IntWalk.i64_in _ bH3;refine H _ _ E ?_;clear H K)
   all_goals refine jG ?_
   all_goals refine ky ?_
   all_goals (refine jy λb cm=>?_;cases b <;> try simp only [jw] at cm)
   all_goals refine kS ?_
   all_goals have hzs:=E.1.size
   all_goals replace R:=E.1.kC R bH3
   all_goals replace B:=E.1.kC B bH3
   all_goals replace J:=J.trans E.1
   all_goals have ah:=E.2
   all_goals replace I:=yD (I.out.touch E.1 qB)
   all_goals clear hc E
   · clear cm;have KR:Qd wS1 w 0 (.slice none 0 0):=kE R rfl;have KB:=kE B (j:=0) (v:=.slice a n c) rfl;have FR:wS1.frozen? ⟨w.heap.size,0,none⟩=false:=frozen_of_row wS1 w.heap.size 0 _ _ R;obtain ⟨_,_,_,bl,bj⟩:=I.out.parts;simp only [Value.slice.injEq] at bl;have bq:=yD (bl.2.1.trans bj.out);clear bl bj;go_wp2;refine bodyPost_ret (v:=.agg #[.slice a n c]) pY rfl ⟨_,_,ps,by rw [bq.out],?_,by omega,b8.out,ah.touch (jl wS1 w.heap.size 0 _) bH3 bD5,J.jJ (jl wS1 w.heap.size 0 _) bH3⟩;have hq:=(I.out.touch (jl wS1 w.heap.size 0 (.slice a n c)) qB).own bD0;rw [bq.out] at hq ⊢;exact hq.wide (λj hj=>⟨by rcases hj with hj | hj <;> omega,by rcases hj with hj | hj <;> (simp [World.setCell];omega)⟩)
   have hlt:(n:Int) < 5 + x:=by simpa using cm
   have bq:=HN.out;have KB:Qd wS1 V 0 (.slice a n c):=kE B rfl;have eb:=cL (kD.zQ wS1 (.cells #[.string { data:=#[109] }] 9)) KB;clear cm bq;go_wp2_with (at_builtin;refine kD.jAp rfl _ _ 34 rfl (r:=kD.str) (e:=9) underlying34 kCk rfl bH2 bH2 kD.kEd (I.out.below (kD.zQ wS1 (.cells #[.string { data:=#[109] }] 9))) bH5 bH5 ((kD.kNl (e:=9) wS1 (kD.kGk (s:={ data:=#[109] }) bH2)).own bG8).rd bG7 ?_);intro v6 w6 ak al;have T6:=(Touch.of_below (S:=λk=>(w1.heap.size<=k/\k < V.heap.size)\/(w4.heap.size<=k/\k < wr.heap.size)) (kD.zQ wS1 (.cells #[.string { data:=#[109] }] 9))).trans al;have z6:=T6.size;have zA:wS1.heap.size + 1<=w6.heap.size:=by have:=al.size;simpa using this
   have R6:=T6.kC R rA;have X:=T6.kC B rA;have ag:=J.kBz T6 qR;have aa:=ah.touch T6 rA qR;have ao:=yD (ak.wide (T:=λk=>(w1.heap.size<=k/\k < V.heap.size)\/(w4.heap.size<=k/\k < w6.heap.size)) (λk q=>by rcases q with (q | q) | q;exact .inl q;exact .inr ⟨q.1,by omega⟩;exact .inr ⟨by have:=q.1;omega,q.2⟩));obtain ⟨Y,n6,L,a4,ar⟩:=ak.parts;obtain rfl:=a4;have bk:(ps++[({ data:=#[109] }:ByteArray)]).length=ps.length + 1:=bH4;have az:=yD (b8.out.snoc (y:={ data:=#[109] }) bH2);generalize ps++[({ data:=#[109] }:ByteArray)]=qs at *;have aj:=yD bk;clear bk ak al T6 R B J ah I KB eb;have K6:Qd w6 V 0 (.slice a n c):=kE X rfl;have F6:w6.frozen? ⟨V.heap.size,0,none⟩=false:=frozen_of_row w6 V.heap.size 0 _ _ X;go_wp2;generalize G:World.setCell w6 _ _=w7;have O:Touch (λk=>k=V.heap.size) w6 w7:=bB2;have B7:Qr w7 V.heap.size #[.slice Y n6 L] 36:=by rw [<- G];exact kI X 0
   have z7:=O.size;clear G K6 F6;have a5:=yD ((ao.out.touch O qR).wide (T:=λk=>(w1.heap.size<=k/\k < V.heap.size)\/(w4.heap.size<=k/\k < w7.heap.size)) (λk q=>by rcases q with q | q;exact .inl q;exact .inr ⟨q.1,by omega⟩));go_roundw;case rel=>exact ⟨Y,n6,L,qs,by have:=aj.out;have:=aq.out;omega,az,yD ar.out,a5,O.kC R6 bH3,B7,by omega,aa.touch O bH3 bD5,ag.jJ O bH3⟩
   simp only [KM.out,kE B7 (j:=0) (v:=.slice Y n6 L) rfl];have h1:=aj.out;have h2:=ar.out;have h3:=aq.out;omega
 have ch:¬ (m:Int)=1:=bH3
 have KR:Qd w4 w 0 (.slice none 0 0):=kE R rfl
 have KB:=kE B (j:=0) (v:=.slice a n c) rfl
 have FR:w4.frozen? ⟨w.heap.size,0,none⟩=false:=frozen_of_row w4 w.heap.size 0 _ _ R
 obtain ⟨_,_,_,bl,bj⟩:=I.out.parts
 simp only [Value.slice.injEq] at bl
 have bq:=yD (bl.2.1.trans bj.out)
 clear bl bj
 go_wp2
 refine bodyPost_ret (v:=.agg #[.slice a n c]) pY rfl ⟨_,_,ps,by rw [bq.out],?_,by omega,b8.out,hc.touch (jl w4 w.heap.size 0 _) bH3 bD5,J.jJ (jl w4 w.heap.size 0 _) bH3⟩
 have hq:=(I.out.touch (jl w4 w.heap.size 0 (.slice a n c)) vE).own bD0
 rw [bq.out] at hq ⊢
 exact hq.wide fE
theorem kTg {w0 w:Ad} {p:Nat} (hc:yS w0 w p) :
    Ae prog 68 #[.pointer (some ⟨p,0,none⟩)] w λe w'=>∃ a c ps,e=.returned (.agg #[Qs a ps c])/\kN.own w' [Qs a ps c] ps (jb w.heap.size w'.heap.size)/\ps.length<=8/\yS w0 w' p/\Touch (λk=>k=p) w w' :=
  (kGb hc).mono λe w1 ⟨a,c,ps,h0,h1,h2,_,h4⟩=>⟨a,c,ps,h0,h1,h2,h4⟩
end Go.Proofs.YtjhfdpopkkmigabGreat

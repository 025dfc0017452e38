/-
  Names as the reference draws them.
-/
import Derived.Test.YtonmjkmaadgceabGreatDrawB
import Derived.Test.YtonmjkmaadgceabGreatSoft4
set_option linter.unusedVariables false
set_option linter.unusedSimpArgs false
set_option linter.unnecessarySimpa false
set_option maxRecDepth 100000
set_option maxHeartbeats 4000000
open Go renaming frozen_of_row->Aa,bodyPost_ret->Ab,World->Ad,Calls->Ae
open _root_ renaming ByteArray->Ac
namespace Go.Proofs.YtonmjkmaadgceabGreat
open Go.RowKit _root_.Go.Proofs.Tryz
theorem kZe {w:Ad} {ca:List Value} {x:ko} (ha:kU.rd w ca x):Ae prog 73 #[.agg ca.toArray] w λe w'=>∃ a n c,e=.returned (.agg #[.slice a n c])/\kD.kR 9 kD.str w' (.slice a n c) x (jX w.heap.size w'.heap.size)/\Qb w w':=by
 have HA:=yD ha;obtain ⟨av,rfl,ad⟩:=kZ ha.1;obtain ⟨aa,al,rfl,la⟩:=kD.sl ad;have hb:x.length<=16777216:=ha.2.1;clear ha;go_enter func73,ntmps73;have O0:kD.kR 9 kD.str (((w.alloc (.cells #[.slice aa x.length al] 40)).alloc (.cells #[.slice none 0 0] 40)).alloc (.cells #[] 9)) (.slice (some ⟨w.heap.size + 1 + 1,0,none⟩) 0 0) [] (λk=>k=w.heap.size + 1 + 1):=by
  exact aG
 go_wp2_with (at_builtin;refine kD.yQ rfl _ _ 38 rfl (r:=kD.str) (e:=9) underlying38 kCh rfl bC8 bC8 kD.kDo (B:=w.heap.size + 1 + 1) O0 bD1 bD1 (HA.out.below bF) qJ bD0 bC4 ?_);intro v2 V hown o hz;obtain ⟨a2,c2,hv⟩:=hown.zP;obtain rfl:=hv;replace hown:=hown.cast (List.nil_append _);have J:=yD hown;have F:Qb w V:=Below.trans bF (o.mono qX);clear hown O0;obtain ⟨R0,F0⟩:=xR;clear o;go_wp2;refine Ab (v:=.agg #[Qs a2 x c2]) nJ rfl ⟨_,_,_,rfl,?_,?_⟩
 · exact (J.out.setCell dX).wide fJ
 exact F.setCell bD0 _
theorem kCy {w:Ad} {cn:List Value} {n:ko} (hn:kU.rd w cn n) (b0:n.length<=1000) {s:Ac} (hs:s.size<=Big) :
    Ae prog 144 #[.agg cn.toArray,.string s] w λe w'=>∃ a m c b,e=.returned (.tuple #[.agg #[.slice a m c],.bool b])/\b=zM (n++[s])/\kD.kR 9 kD.str w' (.slice a m c) (if b then n++[s] else n) (jX w.heap.size w'.heap.size)/\Qb w w':=by
 have HN:=yD hn
 obtain ⟨av,rfl,ad⟩:=kZ hn.1
 obtain ⟨aa,al,rfl,la⟩:=kD.sl ad
 clear hn ad
 have E:=yD hs
 clear hs
 go_enter func144,ntmps144
 go_upto_region 1 with fail
 generalize D:World.alloc (World.alloc w _) _=N
 have EB:Qb w N:=by rw [<- D];exact bF
 have bu:w.heap.size + 2<=N.heap.size:=bB2
 have B0:Qr N w.heap.size #[Qs aa n al] 40:=by rw [<- D];exact jV (kG rfl)
 have B1:Qr N (w.heap.size + 1) #[.slice none 0 0] 40:=by rw [<- D];exact kG bD0
 have K0:=cL (kD.zG N (.cells #[] 9)) (kE B0 (j:=0) rfl)
 clear D
 have O0:kD.kR 9 kD.str (N.alloc (.cells #[] 9)) (.slice (some ⟨N.heap.size,0,none⟩) 0 0) [] (λk=>k=N.heap.size):=kD.kR.void
 go_wp2_with (at_builtin;refine kD.yQ rfl _ _ 38 rfl (r:=kD.str) (e:=9) underlying38 kCh rfl bC8 bC8 kD.kDo (B:=N.heap.size) O0 bD1 bD1 ((HN.out.below EB).below (bR.alloc nL _)) qJ bD0 bC4 ?_)
 intro v2 V hown o hz
 have J:=yD (hown.cast (List.nil_append _))
 obtain ⟨a2,n2,c2,hv,a7⟩:=J.out.parts;obtain rfl:=hv
 have G:Qb N V:=Below.trans (bR.alloc nL _) o
 have E2:Qb w V:=EB.trans (G.mono bC9)
 have a6:=G.size
 clear hown O0 o
 go_wp2_with (at_builtin;refine kD.jL rfl _ _ 38 rfl (r:=kD.str) (e:=9) underlying38 kCh rfl bC8 bC8 (B:=N.heap.size) J.out bD1 bD1 rfl (kD.flat.own (S:=λ_=>False) (kD.kFj E.out)) rfl (λ_ _ h=>h) qU (λ_ h=>h.elim) bC9 sG ?_)
 intro v3 w3 ab ar bk
 have ai:=yD ab
 obtain ⟨a3,n3,c3,hv,bn⟩:=ai.out.parts;obtain rfl:=hv
 have E3:=E2.trans (ar.mono bC9)
 have L:=G.trans ar
 clear ab ar
 go_upto_region 2 with fail
 generalize X:World.alloc w3 _=wC
 have EC:Qb w3 wC:=rO
 have B6:Qr wC w3.heap.size #[.slice a3 n3 c3] 40:=vD
 have K6:=kE B6 (j:=0) rfl
 clear X
 have bk:=L.size
 have ca:=EC.size
 have H:=L.trans (EC.mono bk)
 have E4:=(tQ E3 EC)
 replace B0:=kC B0 H
 replace B1:=kC B1 H
 clear K0
 have K0:=kE B0 (j:=0) rfl
 have F:=yD (ai.out.below EC)
 clear J ai
 go_wp2_with fail
 refine (yY (n:=n++[s]) F.out.kBc).mono ?_
 rintro e w4 ⟨rfl,an⟩
 have bw:=an.size
 have be:=yD (F.out.below an)
 have E5:=(tQ E4 an)
 replace K0:=cL an K0
 replace K6:=cL an K6
 replace B1:=kC B1 an
 have K1:=kE B1 (j:=0) rfl
 have F1:=Aa w4 (w.heap.size + 1) 0 _ _ B1
 clear F B0 B6 an
 generalize hv:zM (n++[s])=b
 cases b
 · go_wp2_with fail;refine (kZe (HN.out.below E5)).mono ?_;rintro e w5 ⟨a5,n5,c5,rfl,O5,bh⟩;have bv:=bh.size;have bc:=yD O5;have E6:=(tQ E5 bh);have R1:=cL bh K1;have F2:=Aa w5 (w.heap.size + 1) 0 _ _ (kC B1 bh);clear O5 bh K1 F1;go_wp2;refine Ab (v:=.tuple #[.agg #[.slice a5 n5 c5],.bool false]) (by simp [results,results144,go_sem,R1,F2]) rfl ⟨_,_,_,_,rfl,hv.symm,?_,?_⟩
   · exact (bc.out.setCell (λq=>by have:=q.1;simp at this;omega)).wide fJ
   exact E6.setCell bD0 _
 go_wp2
 refine Ab (v:=.tuple #[.agg #[.slice a3 n3 c3],.bool true]) (by simp [results,results144,go_sem,K1,F1]) rfl ⟨_,_,_,_,rfl,hv.symm,?_,?_⟩
 · exact (be.out.setCell (λq=>by have:=q.1;simp at this;omega)).wide fB
 exact E5.setCell bD0 _
def ParsedName (M:Nat) (w:Ad) (e:Ending) (w':Ad):Prop:=∃ a c b ps,e=.returned (.tuple #[.agg #[Qs a ps c],.bool b])/\kU.own w' [Qs a ps c] ps (jX w.heap.size w'.heap.size)/\ps.length<=M/\Hid (kCq M ps)/\Qb w w'
theorem kSf {w:Ad} {s:Ac} {M:Nat} (hM:M<=1000) (hs:s.size<=M) :
    Ae prog 176 #[.string s] w (ParsedName M w):=by
 go_enter func176,ntmps176
 cases hq:(s.toList==[47])
 case true =>
  go_wp2;refine Ab (v:=.tuple #[.agg #[.slice none 0 0],.bool true]) (by simp [results,results176,go_sem]) rfl ⟨none,0,true,[],rfl,kD.jd,by simp,yD kCq.nil,?_⟩;exact bF
 go_wp2_with fail
 refine (kMj (by0:=47) hM hs bC8).mono ?_
 rintro e V ⟨v,rfl,ps,O2,bf,b4,E,ak⟩
 have ae:=yD (E.drop 1)
 clear E
 obtain ⟨b2,c2,rfl,H,az,bc,aa⟩:=kD.kAn O2 bf
 have a6:=ak.size
 have J:=yD O2
 clear O2
 have o:(0:Int) < ps.length:=bC9
 have ag:(1:Int)<=ps.length:=bC9
 have ac:(ps.length:Int)<=c2:=bC9
 have D:c2<=9223372036854775807:=aa
 go_upto_region 5 with fail
 have HD:Hid (1 < ps.length->(kD.slice 9 kD.str).own V [.slice (if c2=1 then some ⟨b2,0,none⟩ else some ⟨b2,1,none⟩) (ps.length - 1) (c2 - 1)] (ps.drop 1) (jX (w.heap.size + 1) V.heap.size)):=yD (by
   intro h1;have h:=(J.out.own wH).wide (T:=jX (w.heap.size + 1) V.heap.size) mZ;have G:¬ c2=1:=bC9;rw [if_neg G];exact kD.kPf h (k:=1) bC9)
 generalize (if c2=1 then some ⟨b2,0,none⟩ else some ⟨b2,1,none⟩:Option Addr)=A at *
 obtain ⟨cb,Z,he,c0,cr,ax⟩:=kD.kCv (J.out.kBc) (i:=0) bf rfl
 simp only [Option.some.injEq,Addr.mk.injEq,and_true] at he
 obtain ⟨rfl,rfl⟩:=he
 have ba:[c0]=[.string ps[0]]:=(kD.zi cr).1
 obtain rfl:c0=.string ps[0]:=wY
 clear cr ba
 generalize ps[0]=y0 at *
 have br:=yD (show (ps.drop 1).length=ps.length - 1 by simp)
 generalize ps.drop 1=qs at *
 have HM:=yD b4
 generalize X:World.alloc V _=wC
 have EC:Qb V wC:=rO
 have U:Qr V w.heap.size #[.slice none 0 0] 40:=kC (kG rfl) ak
 have B5:Qr wC V.heap.size #[.slice A (ps.length - 1) (c2 - 1)] 40:=vD
 clear X
 obtain ⟨ca,bx,E2,U,HD,R,K5⟩:=EY
 clear ax ak H J a6
 by_cases h2:(ps.length:Int) < 2
 · have K2:=kE U (j:=0) rfl;have F2:=Aa wC w.heap.size 0 _ _ U;clear R;exact eP
 cases hy:y0.toList.isEmpty
 case false =>
  have K2:=kE U (j:=0) rfl;have F2:=Aa wC w.heap.size 0 _ _ U;exact eP
 replace HD:=yD (HD.out bC9)
 go_wp2_with fail
 refine (yY (n:=qs) HD.out.rd.1).mono ?_
 rintro e w3 ⟨rfl,ar⟩
 have bk:=ar.size
 replace HD:=yD (HD.out.below ar)
 have E3:=(tQ E2 ar)
 replace K5:=cL ar K5
 replace U:=kC U ar
 have K2:=kE U (j:=0) rfl
 have F2:=Aa w3 w.heap.size 0 _ _ U
 clear R
 generalize hv:zM qs=b
 cases b
 · go_wp2;refine Ab (v:=.tuple #[.agg #[.slice none 0 0],.bool false]) mX rfl ⟨none,0,false,[],rfl,kD.jd,by simp,yD kCq.nil,?_⟩;exact E3.setCell bD0 _
 go_wp2
 refine Ab (v:=.tuple #[.agg #[.slice A (ps.length - 1) (c2 - 1)],.bool true]) mX rfl ⟨A,c2 - 1,true,qs,by rw [br.out],?_,by rw [br.out];omega,ae,E3.setCell bD0 _⟩
 rw [br.out]
 exact ((HD.out.touch (jZ w3 w.heap.size 0 _) sD).wide fB)
theorem specl4Of_m {w:Ad} {s:Ac} {M:Nat} (hM:M<=1000) (hs:s.size<=M) :
    Ae prog 143 #[.string s] w λe w'=>∃ a c ps,e=.returned (.agg #[Qs a ps c])/\kU.own w' [Qs a ps c] ps (jX w.heap.size w'.heap.size)/\ps.length<=M/\kCq M ps/\Qb w w':=by
 go_enter func143,ntmps143
 go_upto_region 1 with fail
 generalize F:World.alloc w _=Y
 obtain ⟨X,R,bd⟩:=C9
 clear F
 have U:=X
 clear X
 go_wp2_with fail
 refine (kSf hM hs).mono ?_
 rintro e V ⟨a,c,b,ps,rfl,hr,hl,ae,hb⟩
 have bk:=hb.size
 replace R:=kC R hb
 replace U:=(tQ U hb)
 clear hb
 have HR:=yD (hr.wide (T:=jX (w.heap.size + 1) V.heap.size) qV)
 clear hr
 go_upto_region 2 with fail
 generalize F:World.alloc V _=w3
 have ak:Qb V w3:=rM
 have B:Qr w3 V.heap.size #[Qs a ps c] 40:=vB
 have bl:V.heap.size + 1<=w3.heap.size:=bB1
 clear F
 replace R:=kC R ak
 replace HR:=yD (HR.out.below ak)
 replace U:=(tQ U ak)
 clear ak
 have ad:Qd w3 w 0 (.slice none 0 0):=kE R rfl
 have ax:Qd w3 V 0 (.slice a ps.length c):=kE B rfl
 have aj:w3.frozen? ⟨w.heap.size,0,none⟩=false:=Aa w3 (w.heap.size) 0 _ _ R
 go_wp2
 refine Ab (v:=.agg #[Qs a ps c]) (by simp [results,results143,go_sem,ad,aj]) rfl ⟨_,_,ps,rfl,?_,hl,ae.out,U.setCell bD0 _⟩
 exact (HR.out.touch (jZ w3 w.heap.size 0 _) sD).wide fB
theorem yV {w:Ad} {s:Ac} (hs:s.size<=64) :
    Ae prog 143 #[.string s] w λe w'=>∃ a c ps,e=.returned (.agg #[Qs a ps c])/\kU.own w' [Qs a ps c] ps (jX w.heap.size w'.heap.size)/\ps.length<=64/\yj ps/\Qb w w':=specl4Of_m (M:=64) bC8 hs
theorem kUa {w:Ad} {s:Ac} (hs:s.size<=64) :
    Ae prog 143 #[.string s] w λe w'=>∃ a c ps,e=.returned (.agg #[Qs a ps c])/\kU.own w' [Qs a ps c] ps (jX w.heap.size w'.heap.size)/\ps.length<=64/\Qb w w' :=
  (yV hs).mono λe Y ⟨a,c,ps,h0,h1,h2,_,h4⟩=>⟨a,c,ps,h0,h1,h2,h4⟩
theorem kIu {w0 w:Ad} {p:Nat} (hc:yU w0 w p) :
    Ae prog 175 #[.pointer (some ⟨p,0,none⟩)] w λe w'=>∃ a n c ps,e=.returned (.agg #[.slice a n c])/\kD.kR 9 kD.str w' (.slice a n c) ps (jX w.heap.size w'.heap.size)/\ps.length<=3/\yj ps/\yU w0 w' p/\Touch (λk=>k=p) w w':=by
 go_enter func175,ntmps175
 obtain ⟨bf,b4⟩:=hc.lt
 go_upto_region 1 with fail
 generalize F:World.alloc w _=Y
 obtain ⟨X,R,bd⟩:=C9
 clear F
 obtain ⟨hc,N⟩:=xQ
 clear X
 go_upto_region 2 with fail
 generalize F:World.alloc Y _=V
 have o:Qb Y V:=rM
 have B:Qr V Y.heap.size #[.slice none 0 0] 40:=vB
 have bk:Y.heap.size + 1<=V.heap.size:=bB1
 clear F
 replace R:=kC R o
 replace hc:=hc.below o
 replace N:=N.trans (Touch.of_below o)
 clear o
 go_wp2_with fail
 refine (kr (n:=4) hc bC8).mono ?_
 rintro e w3 ⟨m,bt,ah,b1,rfl,G,D⟩
 have bl:=D.size
 obtain ⟨R,B⟩:=EP
 replace N:=N.trans D
 clear hc D
 have hc:=G
 clear G
 replace ah:=ah bC8
 clear b1
 obtain ⟨m,rfl⟩:=Int.eq_ofNat_of_zero_le bt
 go_wp2
 go_loopw [4] (λi wr=>∃ (j:Nat) (a:Option Addr) (n c:Nat) (ps:List Ac),i=.int .i64 j/\ps.length + j<=3/\Hid (yj ps)/\Hid (kD.kR 9 kD.str wr (.slice a n c) ps (jX V.heap.size wr.heap.size))/\Qr wr w.heap.size #[.slice none 0 0] 40/\Qr wr Y.heap.size #[.slice a n c] 40/\V.heap.size<=wr.heap.size/\yU w0 wr p/\Touch (λk=>k=p) w wr) (λi _=>(intOf i).toNat)
 case atStart=>exact ⟨m,none,0,0,[],rfl,by simp;omega,yD yj.nil,yD kD.kR.void,R,B,bl,hc,N⟩
 clear hc N R B
 obtain ⟨j,a,n,c,ps,rfl,I,ae,J,R,B,dt,hc,N⟩:=hrel
 cases j with
 | zero =>
   have ad:Qd wr w 0 (.slice none 0 0):=kE R rfl;have ax:Qd wr Y 0 (.slice a n c):=kE B rfl;have aj:wr.frozen? ⟨w.heap.size,0,none⟩=false:=Aa wr (w.heap.size) 0 _ _ R;go_wp2;refine Ab (v:=.agg #[.slice a n c]) (by simp [results,results175,go_sem,ad,aj]) rfl ⟨_,_,_,ps,rfl,?_,by omega,ae.out,hc.touch (jZ wr w.heap.size 0 _) bC9 wM,N.jO (jZ wr w.heap.size 0 _) bC9⟩;exact (J.out.touch (jZ wr w.heap.size 0 _) sD).wide fB
 | succ j =>
   have ce:(0:Int) < (j:Int) + 1:=bC9;go_upto_region 5 with fail;refine zb (λW=>Touch (λk=>k=p) wr W/\yU w0 W p) (λ_=>True) [] [(0,true),(1,true),(2,false),(3,false),(4,false)] [(5,true),(6,true),(7,true),(8,false)] bC3 bC3 pK (⟨Touch.of_below bR.drew,hc.below bR.drew⟩) ?_;intro wS E;simp only [kz,zF,List.getElem?_cons_succ,List.getElem?_cons_zero,List.map_cons,List.map_nil];refine pre_nil ?_;refine jW (v:=?_) rfl (λW hW=>?_) ?_;rotate_left;(· have c6:=kE (hW.1.kC B bC9) (j:=0) (v:=.slice a n c) rfl;clear hW;go_simp;try with_reducible rfl);refine jF ?_;refine jW (v:=?_) rfl (λW hW=>?_) ?_;rotate_left;(· go_simp;try with_reducible rfl);refine jF ?_;refine yx rfl (λK H=>?_);go_simp;refine H _ _ ⟨E.1.trans (Touch.of_below (bR.alloc nL _)),E.2.below (bR.alloc nL _)⟩ ?_;clear H K;refine jF ?_;refine yx rfl (λK H=>?_);go_simp;refine (zx (E.2.below (bR.alloc nL _)) (kD.kAx _ [{ data:=#[97] },{ data:=#[98] },{ data:=#[110,101,119,115] },{ data:=#[120,45,49] },{ data:=#[49] },{ data:=#[107,101,121] }] bC8 bC8) (by have:=E.1.size;omega) bC8 bC8).mono ?_;rintro e wS1 ⟨y,au,a5,rfl,ar,ap⟩;replace E:=And.intro ((E.1.trans (Touch.of_below (bR.alloc nL _))).trans ap) ar;clear ar ap;refine H _ _ E ?_;clear H K;refine jF ?_;refine yx rfl (λK H=>?_);go_simp;have di:=E.1.size;refine (kCy ((J.out.touch E.1 sD).own wH).rd bC9 mP).mono ?_;rintro e a9 ⟨a2,n2,c2,b2,rfl,ak,b5,ab⟩;replace E:=And.intro (E.1.trans (Touch.of_below ab)) (E.2.below ab);refine H _ _ E ?_;clear H K;refine jF ?_;have bw:=E.1.size;have bv:=ab.size;have R4:=E.1.kC R bC9;have Z:=E.1.kC B bC9;have aa:=N.trans E.1;have ac:=E.2;have L:(if b2 then ps++[y] else ps).length<=ps.length + 1:=by split <;> simp
   have O:=yD (show yj (if b2 then ps++[y] else ps) by split;exact ae.out.snoc (kD.kCn bC8 au);exact ae.out);generalize (if b2 then ps++[y] else ps)=qs at *;have be:=yD (b5.wide (T:=jX V.heap.size a9.heap.size) qC);clear b5 J R B N hc E ab;have K4:Qd a9 Y 0 (.slice a n c):=kE Z rfl;have F4:a9.frozen? ⟨Y.heap.size,0,none⟩=false:=Aa a9 Y.heap.size 0 _ _ Z;refine zk trivial ?_;refine ku ?_;refine ku ?_;refine ku ?_;refine kw rfl (λK H=>?_);go_simp;refine H _ _ trivial ?_;clear H K;refine jF ?_;refine kS ?_;generalize F:World.setCell a9 _ _=w5;have U:Touch (λk=>k=Y.heap.size) a9 w5:=vO;have B5:Qr w5 Y.heap.size #[.slice a2 n2 c2] 40:=by rw [<- F];exact kK Z 0
   have bv:w5.heap.size=a9.heap.size:=by rw [<- F];simp [World.setCell]
   clear F K4 F4;have bc:=yD ((be.out.touch U sD).wide (T:=jX V.heap.size w5.heap.size) (λk hk=>⟨hk.1,by have:=hk.2;omega⟩));have H5:=yD bv;clear bv;go_wp2;go_roundw;case rel=>exact ⟨j,a2,n2,c2,qs,by go_num,by omega,O,bc,U.kC R4 bC9,B5,by have:=H5.out;omega,ac.touch U bC9 wM,aa.jO U bC9⟩
   case measure=>simp [intOf]
theorem kFc {w0 w:World} {p:Nat} (hc:yU w0 w p) :
    Calls prog 141 #[.pointer (some ⟨p,0,none⟩)] w λe w'=>∃ a c ps,e=.returned (.agg #[Qs a ps c])/\kU.own w' [Qs a ps c] ps (jX w.heap.size w'.heap.size)/\ps.length<=8/\yj ps/\yU w0 w' p/\Touch (λk=>k=p) w w':=by
 go_enter func141,ntmps141
 obtain ⟨bf,b4⟩:=hc.lt
 go_upto_region 1 with fail
 generalize F:World.alloc w _=Y
 obtain ⟨X,R,bd⟩:=C9
 clear F
 obtain ⟨hc,N⟩:=xQ
 clear X
 go_wp2_with fail
 refine (kIu hc).mono ?_
 rintro e V ⟨a,n,c,ps,rfl,hO,U,a9,G,D⟩
 obtain ⟨bk,R,N⟩:=BG
 clear hc D
 have hc:=G
 clear G
 have ae:=yD a9
 clear a9
 have J:=yD (hO.wide (T:=jX Y.heap.size V.heap.size) (λ_ h=>h))
 clear hO
 go_upto_region 2 with fail
 generalize F:World.alloc V _=w3
 obtain ⟨ak,B,bl⟩:=EW
 clear F
 obtain ⟨R,J,hc,N⟩:=z8
 clear ak
 go_wp2_with fail
 refine (kr (n:=8) hc bC8).mono ?_
 rintro e w4 ⟨x,ao,L,a1,rfl,G,D⟩
 have bw:=D.size
 obtain ⟨R,B⟩:=EP
 obtain ⟨J,N⟩:=xM
 clear hc D
 have hc:=G
 clear G
 replace L:=L bC8
 clear a1
 obtain ⟨m,rfl⟩:=Int.eq_ofNat_of_zero_le ao
 by_cases bt:m=0
 · subst bt;go_upto_region 4 with fail;refine zb (λW=>Touch (λk=>k=p) w4 W/\yU w0 W p) (λ_=>True) [] [(0,true),(1,true),(2,true),(3,false),(4,false),(5,false)] [(6,false),(7,true),(8,false)] bC3 bC3 pK (⟨Touch.of_below bR.drew,hc.below bR.drew⟩) ?_;intro wS E;simp only [kz,zF,List.getElem?_cons_succ,List.getElem?_cons_zero,List.map_cons,List.map_nil];refine pre_nil ?_;refine jW (v:=?_) rfl (λW hW=>?_) ?_;rotate_left;(· go_simp;try with_reducible rfl);refine jF ?_;refine jW (v:=?_) rfl (λW hW=>?_) ?_;rotate_left;(· have c6:=kE (hW.1.kC B bC9) (j:=0) (v:=.slice a n c) rfl;clear hW;go_simp;try with_reducible rfl);refine jF ?_;refine jW (v:=?_) rfl (λW hW=>?_) ?_;rotate_left;(· go_simp;try with_reducible rfl);refine jF ?_;refine yx rfl (λK H=>?_);go_simp;refine H _ _ ⟨E.1.trans (Touch.of_below (bR.alloc nL _)),E.2.below (bR.alloc nL _)⟩ ?_;clear H K;refine jF ?_;refine yx rfl (λK H=>?_);go_simp;refine (zx (E.2.below (bR.alloc nL _)) (kD.kAx _ [{ data:=#[] },{ data:=#[65] },{ data:=#[116,111,111,108,111,110,103,120,120] },{ data:=#[97,47,98] },{ data:=#[32] },{ data:=#[101,105,103,104,116,56,56,56] }] bC8 bC8) (by have:=E.1.size;omega) bC8 bC8).mono ?_;rintro e wS1 ⟨y,au,a5,rfl,ar,ap⟩;replace E:=And.intro ((E.1.trans (Touch.of_below (bR.alloc nL _))).trans ap) ar;clear ar ap;refine H _ _ E ?_;clear H K;refine jF ?_;refine yx rfl (λK H=>?_);go_simp;have a7:=yD (kD.kLp (e:=9) wS1 (kD.kFj (s:=y) mP));have aa:Touch (λk=>k=p) w4 (World.alloc wS1 (Obj.cells #[Value.string y] 9))/\yU w0 (World.alloc wS1 (Obj.cells #[Value.string y] 9)) p:=⟨E.1.trans (Touch.of_below (bR.alloc nL _)),E.2.below (bR.alloc nL _)⟩;generalize am:World.alloc wS1 (Obj.cells #[Value.string y] 9)=wU at a7 aa ⊢;clear am;refine H _ _ aa ?_;clear H K E;refine jF ?_;have bv:=aa.1.size;have R5:=aa.1.kC R bC9;have B5:=aa.1.kC B bC9;have Z:=N.trans aa.1;have af:=aa.2;replace J:=yD (J.out.touch aa.1 pJ);clear R B N hc;obtain ⟨v3,u3,aq,ab,ag⟩:=kD.kXq (P:=prog) (t:=38) (ty:=38) (r:=kD.str) (e:=9) (v:=.slice a n c) (xs:=ps) underlying38 kCh rfl bC8 bC8 kD.kDo J.out (a7.out.own bC5).rd bC4;have bz:=ag.size;have B6:=ag.kC B5 (λq=>by have:=q.2;omega);have R6:=ag.kC R5 tN;have av:=Z.kBv ag sD;have al:=af.touch ag tN sD;obtain ⟨a3,n3,c3,ac,bn⟩:=ab.parts;obtain rfl:=ac;have a2:=yD ab;have ba:=yD (ae.out.snoc (kD.kCn bC8 au));generalize ai:ps++[y]=qs at *;have b9:qs.length<=4:=by rw [<- ai];simp;omega
   have K6:Qd u3 V 0 (.slice a n c):=kE B6 rfl;have F6:u3.frozen? ⟨V.heap.size,0,none⟩=false:=frozen_of_row u3 V.heap.size 0 _ _ B6;clear ai ab J a7 B5 R5 Z af aa ag;refine zk trivial ?_;refine kw rfl (λK H=>?_);refine kD.kV _ _ _ rfl bD1 bD1 aq ?_;refine H _ _ trivial ?_;clear H K;refine jF ?_;refine ku ?_;refine kw rfl (λK H=>?_);go_simp;refine H _ _ trivial ?_;clear H K;refine jF ?_;refine kS ?_;generalize F:World.setCell u3 _ _=w7;have o:Touch (λk=>k=V.heap.size) u3 w7:=vO;have B7:Qr w7 V.heap.size #[.slice a3 n3 c3] 40:=by rw [<- F];exact kK B6 0
   have z7:=o.size;clear F K6 F6;have ax:=yD (a2.out.touch o (λk hk=>by rcases hk with hk | hk;(have:=hk.2;omega);omega));have R7:=o.kC R6 bC9;have be:=al.touch o bC9 wM;have bg:=av.jO o bC9;clear a2 R6 al av o;have KR:Qd w7 w 0 (.slice none 0 0):=kE R7 rfl;have KB:=kE B7 (j:=0) (v:=.slice a3 n3 c3) rfl;have FR:w7.frozen? ⟨w.heap.size,0,none⟩=false:=frozen_of_row w7 w.heap.size 0 _ _ R7;obtain ⟨_,_,_,a4,ay⟩:=ax.out.parts;simp only [Value.slice.injEq] at a4;have b0:=yD (a4.2.1.trans ay.out);clear a4 ay;go_wp2;refine bodyPost_ret (v:=.agg #[.slice a3 n3 c3]) nA rfl ⟨_,_,qs,by rw [b0.out],?_,by omega,ba.out,be.touch (jZ w7 w.heap.size 0 _) bC9 wM,bg.jO (jZ w7 w.heap.size 0 _) bC9⟩;have hq:=(ax.out.touch (jZ w7 w.heap.size 0 (.slice a3 n3 c3)) (λk hk=>by rcases hk with hk | hk;(have:=hk.1;omega);omega)).own wH;rw [b0.out] at hq ⊢;exact hq.wide (λj I=>⟨by rcases I with I | I;(have:=I.1;omega);omega,by rcases I with I | I;(have:=I.2;simp [World.setCell];omega);(simp [World.setCell];omega)⟩)
 have b2:¬ (m:Int)=0:=bC9
 by_cases ah:m=1
 · subst ah;go_wp2;go_loopw [] (λwr=>∃ (a:Option Addr) (n c:Nat) (ps:List ByteArray),ps.length<=8/\Hid (yj ps)/\Hid (n=ps.length)/\Hid (kD.kR 9 kD.str wr (.slice a n c) ps (λk=>(Y.heap.size<=k/\k < V.heap.size)\/(w4.heap.size<=k/\k < wr.heap.size)))/\Qr wr w.heap.size #[.slice none 0 0] 40/\Qr wr V.heap.size #[.slice a n c] 40/\w4.heap.size<=wr.heap.size/\yU w0 wr p/\Touch (λk=>k=p) w wr) (λwr=>match wr.cell? ⟨V.heap.size,0,none⟩ with | some (.slice _ n _)=>9 - n | _=>0);case atStart =>
    obtain ⟨_,_,_,a4,ay⟩:=J.out.parts;simp only [Value.slice.injEq] at a4;exact ⟨a,n,c,ps,by omega,ae,yD (a4.2.1.trans ay.out),yD (J.out.wide (λk hk=>.inl hk)),R,B,Nat.le_refl _,hc,N⟩
   clear hc N R B J U ae;obtain ⟨a,n,c,ps,U,ae,HN,J,R,B,dt,hc,N⟩:=hrel;have KM:=yD (show Qd wr V 0 (.slice a n c) from kE B rfl);have aj:(n:Int)=ps.length:=by rw [HN.out]
   have bb:=yD aj;clear aj;go_upto_region 6 with fail;have FX:=yD (λ(W:World) (hW:Touch (λk=>k=p) wr W/\yU w0 W p)=>kE (hW.1.kC B bC9) (j:=0) (v:=.slice a n c) rfl);refine kM (λW=>Touch (λk=>k=p) wr W/\yU w0 W p) [true,true,true,true,false,true,true] bC3 bC3 pK (⟨Touch.of_below bR.drew,hc.below bR.drew⟩) ?_;intro wS E;iterate 4
    all_goals refine ku ?_
   all_goals first|(refine kI rfl E ?_)|(refine kw rfl (λK H=>?_);go_simp;refine (kr (n:=3) E.2 bC8).mono ?_;rintro e wS1 ⟨x,ao,L,a1,rfl,ar,ap⟩;replace L:=L bC8;clear a1;replace E:=And.intro (E.1.trans ap) ar;clear ar ap;have hw:IntKind.i64.wrap (5 + x)=5 + x:=IntWalk.i64_in _ bC9;refine H _ _ E ?_;clear H K)
   all_goals refine jF ?_
   all_goals refine ku ?_
   all_goals (refine jy λb ad=>?_;cases b <;> try simp only [jw] at ad)
   all_goals refine kS ?_
   all_goals have hzs:=E.1.size
   all_goals replace R:=E.1.kC R bC9
   all_goals replace B:=E.1.kC B bC9
   all_goals replace N:=N.trans E.1
   all_goals have af:=E.2
   all_goals replace J:=yD (J.out.touch E.1 nK)
   all_goals clear hc E
   · clear ad;have KR:Qd wS1 w 0 (.slice none 0 0):=kE R rfl;have KB:=kE B (j:=0) (v:=.slice a n c) rfl;have FR:wS1.frozen? ⟨w.heap.size,0,none⟩=false:=frozen_of_row wS1 w.heap.size 0 _ _ R;obtain ⟨_,_,_,a4,ay⟩:=J.out.parts;simp only [Value.slice.injEq] at a4;have b0:=yD (a4.2.1.trans ay.out);clear a4 ay;go_wp2;refine bodyPost_ret (v:=.agg #[.slice a n c]) nA rfl ⟨_,_,ps,by rw [b0.out],?_,by omega,ae.out,af.touch (jZ wS1 w.heap.size 0 _) bC9 wM,N.jO (jZ wS1 w.heap.size 0 _) bC9⟩;have hq:=(J.out.touch (jZ wS1 w.heap.size 0 (.slice a n c)) nK).own wH;rw [b0.out] at hq ⊢;exact hq.wide (λj I=>⟨by rcases I with I | I <;> omega,by rcases I with I | I <;> (simp [World.setCell];omega)⟩)
   have hlt:(n:Int) < 5 + x:=by simpa using ad
   have b0:=HN.out;have KB:Qd wS1 V 0 (.slice a n c):=kE B rfl;have eg:=cL (kD.zG wS1 (.cells #[.string { data:=#[109] }] 9)) KB;clear ad b0;go_wp2_with (at_builtin;refine kD.kYv rfl _ _ 38 rfl (r:=kD.str) (e:=9) underlying38 kCh rfl bC8 bC8 kD.kDo (J.out.below (kD.zG wS1 (.cells #[.string { data:=#[109] }] 9))) bD1 bD1 ((kD.kLp (e:=9) wS1 (kD.kFj (s:={ data:=#[109] }) bC8)).own bC5).rd bC4 ?_);intro v6 w6 an aw;have T6:=(Touch.of_below (S:=λk=>(Y.heap.size<=k/\k < V.heap.size)\/(w4.heap.size<=k/\k < wr.heap.size)) (kD.zG wS1 (.cells #[.string { data:=#[109] }] 9))).trans aw;have z6:=T6.size;have zA:wS1.heap.size + 1<=w6.heap.size:=by have:=aw.size;simpa using this
   have R6:=T6.kC R pO;have B6:=T6.kC B pO;have av:=N.kBv T6 pI;have al:=af.touch T6 pO pI;have a2:=yD (an.wide (T:=λk=>(Y.heap.size<=k/\k < V.heap.size)\/(w4.heap.size<=k/\k < w6.heap.size)) (λk q=>by rcases q with (q | q) | q;exact .inl q;exact .inr ⟨q.1,by omega⟩;exact .inr ⟨by have:=q.1;omega,q.2⟩));obtain ⟨a6,n6,O,bh,a8⟩:=an.parts;obtain rfl:=bh;have b9:(ps++[({ data:=#[109] }:ByteArray)]).length=ps.length + 1:=bD0;have bc:=yD (ae.out.snoc (y:={ data:=#[109] }) bC8);generalize ps++[({ data:=#[109] }:ByteArray)]=qs at *;have az:=yD b9;clear b9 an aw T6 R B N af J KB eg;have K6:Qd w6 V 0 (.slice a n c):=kE B6 rfl;have F6:w6.frozen? ⟨V.heap.size,0,none⟩=false:=frozen_of_row w6 V.heap.size 0 _ _ B6;go_wp2;generalize F:World.setCell w6 _ _=w7;have o:Touch (λk=>k=V.heap.size) w6 w7:=vO;have B7:Qr w7 V.heap.size #[.slice a6 n6 O] 40:=by rw [<- F];exact kK B6 0
   have z7:=o.size;clear F K6 F6;have ax:=yD ((a2.out.touch o pI).wide (T:=λk=>(Y.heap.size<=k/\k < V.heap.size)\/(w4.heap.size<=k/\k < w7.heap.size)) (λk q=>by rcases q with q | q;exact .inl q;exact .inr ⟨q.1,by omega⟩));go_roundw;case rel=>exact ⟨a6,n6,O,qs,by have:=az.out;have:=bb.out;omega,bc,yD a8.out,ax,o.kC R6 bC9,B7,by omega,al.touch o bC9 wM,av.jO o bC9⟩
   simp only [KM.out,kE B7 (j:=0) (v:=.slice a6 n6 O) rfl];have h1:=az.out;have h2:=a8.out;have h3:=bb.out;omega
 have b5:¬ (m:Int)=1:=bC9
 have KR:Qd w4 w 0 (.slice none 0 0):=kE R rfl
 have KB:=kE B (j:=0) (v:=.slice a n c) rfl
 have FR:w4.frozen? ⟨w.heap.size,0,none⟩=false:=frozen_of_row w4 w.heap.size 0 _ _ R
 obtain ⟨_,_,_,a4,ay⟩:=J.out.parts
 simp only [Value.slice.injEq] at a4
 have b0:=yD (a4.2.1.trans ay.out)
 clear a4 ay
 go_wp2
 refine bodyPost_ret (v:=.agg #[.slice a n c]) nA rfl ⟨_,_,ps,by rw [b0.out],?_,by omega,ae.out,hc.touch (jZ w4 w.heap.size 0 _) bC9 wM,N.jO (jZ w4 w.heap.size 0 _) bC9⟩
 have hq:=(J.out.touch (jZ w4 w.heap.size 0 (.slice a n c)) sD).own wH
 rw [b0.out] at hq ⊢
 exact hq.wide fB
theorem specl4Any_c {w0 w:Ad} {p:Nat} (hc:yU w0 w p) :
    Ae prog 141 #[.pointer (some ⟨p,0,none⟩)] w λe w'=>∃ a c ps,e=.returned (.agg #[Qs a ps c])/\kU.own w' [Qs a ps c] ps (jX w.heap.size w'.heap.size)/\ps.length<=8/\yU w0 w' p/\Touch (λk=>k=p) w w' :=
  (kFc hc).mono λe Y ⟨a,c,ps,h0,h1,h2,_,h4⟩=>⟨a,c,ps,h0,h1,h2,h4⟩
end Go.Proofs.YtonmjkmaadgceabGreat

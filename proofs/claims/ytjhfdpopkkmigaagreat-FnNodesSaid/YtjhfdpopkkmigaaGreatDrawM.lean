/-
  Names as the reference draws them.
-/
import Derived.Test.YtjhfdpopkkmigaaGreatDrawB
import Derived.Test.YtjhfdpopkkmigaaGreatSoft4
set_option linter.unusedVariables false
set_option linter.unusedSimpArgs false
set_option linter.unnecessarySimpa false
set_option maxRecDepth 100000
set_option maxHeartbeats 4000000
open Go renaming frozen_of_row->Aa,bodyPost_ret->Ab,World->Ad,Calls->Ae
open _root_ renaming ByteArray->Ac
namespace Go.Proofs.YtjhfdpopkkmigaaGreat
open Go.RowKit _root_.Go.Proofs.Tryz
theorem kZr {w:Ad} {ca:List Value} {x:kr} (ha:kW.rd w ca x):Ae prog 100 #[.agg ca.toArray] w λe w'=>∃ a n c,e=.returned (.agg #[.slice a n c])/\kD.kU 9 kD.str w' (.slice a n c) x (jU w.heap.size w'.heap.size)/\Qb w w':=by
 have HA:=yD ha;obtain ⟨av,rfl,G⟩:=ko ha.1;obtain ⟨aa,am,rfl,la⟩:=kD.sl G;have hb:x.length<=16777216:=ha.2.1;clear ha;go_enter func100,ntmps100;have O0:kD.kU 9 kD.str (((w.alloc (.cells #[.slice aa x.length am] 36)).alloc (.cells #[.slice none 0 0] 36)).alloc (.cells #[] 9)) (.slice (some ⟨w.heap.size + 1 + 1,0,none⟩) 0 0) [] (λk=>k=w.heap.size + 1 + 1):=by
  exact aG
 go_wp2_with (at_builtin;refine kD.yU rfl _ _ 34 rfl (r:=kD.str) (e:=9) underlying34 kCe rfl bD0 bD0 kD.kDj (B:=w.heap.size + 1 + 1) O0 bD3 bD3 (HA.out.below bG) qV bD2 bC6 ?_);intro v2 V hown o hz;obtain ⟨a2,c2,hv⟩:=hown.zW;obtain rfl:=hv;replace hown:=hown.cast (List.nil_append _);have L:=yD hown;have F:Qb w V:=Below.trans bG (o.mono rE);clear hown O0;obtain ⟨R0,F0⟩:=xU;clear o;go_wp2;refine Ab (v:=.agg #[Qs a2 x c2]) nN rfl ⟨_,_,_,rfl,?_,?_⟩
 · exact (L.out.setCell fB).wide fZ
 exact F.setCell bD2 _
theorem kCv {w:Ad} {cn:List Value} {n:kr} (hn:kW.rd w cn n) (bw:n.length<=1000) {s:Ac} (hs:s.size<=Big) :
    Ae prog 101 #[.agg cn.toArray,.string s] w λe w'=>∃ a m c b,e=.returned (.tuple #[.agg #[.slice a m c],.bool b])/\b=zf (n++[s])/\kD.kU 9 kD.str w' (.slice a m c) (if b then n++[s] else n) (jU w.heap.size w'.heap.size)/\Qb w w':=by
 have HN:=yD hn
 obtain ⟨av,rfl,G⟩:=ko hn.1
 obtain ⟨aa,am,rfl,la⟩:=kD.sl G
 clear hn G
 have E:=yD hs
 clear hs
 go_enter func101,ntmps101
 go_upto_region 1 with fail
 generalize J:World.alloc (World.alloc w _) _=N
 have R:Qb w N:=by rw [<- J];exact bG
 have bq:w.heap.size + 2<=N.heap.size:=bB4
 have Y:Qr N w.heap.size #[Qs aa n am] 36:=by rw [<- J];exact jR (kH rfl)
 have B1:Qr N (w.heap.size + 1) #[.slice none 0 0] 36:=by rw [<- J];exact kH bD2
 have K0:=cL (kD.zL N (.cells #[] 9)) (kE Y (j:=0) rfl)
 clear J
 have O0:kD.kU 9 kD.str (N.alloc (.cells #[] 9)) (.slice (some ⟨N.heap.size,0,none⟩) 0 0) [] (λk=>k=N.heap.size):=kD.kU.void
 go_wp2_with (at_builtin;refine kD.yU rfl _ _ 34 rfl (r:=kD.str) (e:=9) underlying34 kCe rfl bD0 bD0 kD.kDj (B:=N.heap.size) O0 bD3 bD3 ((HN.out.below R).below (bR.alloc nL _)) qV bD2 bC6 ?_)
 intro v2 V hown o hz
 have L:=yD (hown.cast (List.nil_append _))
 obtain ⟨a2,n2,c2,hv,a8⟩:=L.out.parts;obtain rfl:=hv
 have H:Qb N V:=Below.trans (bR.alloc nL _) o
 have E2:Qb w V:=R.trans (H.mono bD1)
 have a7:=H.size
 clear hown O0 o
 go_wp2_with (at_builtin;refine kD.jO rfl _ _ 34 rfl (r:=kD.str) (e:=9) underlying34 kCe rfl bD0 bD0 (B:=N.heap.size) L.out bD3 bD3 rfl (kD.flat.own (S:=λ_=>False) (kD.kFi E.out)) rfl (λ_ _ h=>h) rC (λ_ h=>h.elim) bD1 sO ?_)
 intro v3 w3 ax ap ar
 have ai:=yD ax
 obtain ⟨a3,n3,c3,hv,be⟩:=ai.out.parts;obtain rfl:=hv
 have E3:=E2.trans (ap.mono bD1)
 have U:=H.trans ap
 clear ax ap
 go_upto_region 2 with fail
 generalize D:World.alloc w3 _=wC
 have EC:Qb w3 wC:=rU
 have X:Qr wC w3.heap.size #[.slice a3 n3 c3] 36:=vG
 have K6:=kE X (j:=0) rfl
 clear D
 have ar:=U.size
 have cl:=EC.size
 have O:=U.trans (EC.mono ar)
 have E4:=(tQ E3 EC)
 replace Y:=kC Y O
 replace B1:=kC B1 O
 clear K0
 have K0:=kE Y (j:=0) rfl
 have F:=yD (ai.out.below EC)
 clear L ai
 go_wp2_with fail
 refine (yZ (n:=n++[s]) F.out.kAz).mono ?_
 rintro e w4 ⟨rfl,aj⟩
 have b3:=aj.size
 have bm:=yD (F.out.below aj)
 have E5:=(tQ E4 aj)
 replace K0:=cL aj K0
 replace K6:=cL aj K6
 replace B1:=kC B1 aj
 have K1:=kE B1 (j:=0) rfl
 have F1:=Aa w4 (w.heap.size + 1) 0 _ _ B1
 clear F Y X aj
 generalize hv:zf (n++[s])=b
 cases b
 · go_wp2_with fail;refine (kZr (HN.out.below E5)).mono ?_;rintro e w5 ⟨a5,n5,c5,rfl,O5,bn⟩;have ce:=bn.size;have az:=yD O5;have E6:=(tQ E5 bn);have R1:=cL bn K1;have F2:=Aa w5 (w.heap.size + 1) 0 _ _ (kC B1 bn);clear O5 bn K1 F1;go_wp2;refine Ab (v:=.tuple #[.agg #[.slice a5 n5 c5],.bool false]) (by simp [results,results101,go_sem,R1,F2]) rfl ⟨_,_,_,_,rfl,hv.symm,?_,?_⟩
   · exact (az.out.setCell (λq=>by have:=q.1;simp at this;omega)).wide fZ
   exact E6.setCell bD2 _
 go_wp2
 refine Ab (v:=.tuple #[.agg #[.slice a3 n3 c3],.bool true]) (by simp [results,results101,go_sem,K1,F1]) rfl ⟨_,_,_,_,rfl,hv.symm,?_,?_⟩
 · exact (bm.out.setCell (λq=>by have:=q.1;simp at this;omega)).wide fF
 exact E5.setCell bD2 _
def ParsedName (M:Nat) (w:Ad) (e:Ending) (w':Ad):Prop:=∃ a c b Y,e=.returned (.tuple #[.agg #[Qs a Y c],.bool b])/\kW.own w' [Qs a Y c] Y (jU w.heap.size w'.heap.size)/\Y.length<=M/\Hid (kCo M Y)/\Qb w w'
theorem kSm {w:Ad} {s:Ac} {M:Nat} (hM:M<=1000) (hs:s.size<=M) :
    Ae prog 164 #[.string s] w (ParsedName M w):=by
 go_enter func164,ntmps164
 cases hq:(s.toList==[47])
 case true =>
  go_wp2;refine Ab (v:=.tuple #[.agg #[.slice none 0 0],.bool true]) (by simp [results,results164,go_sem]) rfl ⟨none,0,true,[],rfl,kD.jr,by simp,yD kCo.nil,?_⟩;exact bG
 go_wp2_with fail
 refine (kMk (by0:=47) hM hs bD0).mono ?_
 rintro e V ⟨v,rfl,Y,O2,ay,bt,E,ab⟩
 have ae:=yD (E.drop 1)
 clear E
 obtain ⟨b2,c2,rfl,a5,X,cd,aa⟩:=kD.kAr O2 ay
 have a7:=ab.size
 have L:=yD O2
 clear O2
 have o:(0:Int) < Y.length:=bD1
 have ag:(1:Int)<=Y.length:=bD1
 have ad:(Y.length:Int)<=c2:=bD1
 have F:c2<=9223372036854775807:=aa
 go_upto_region 5 with fail
 have HD:Hid (1 < Y.length->(kD.slice 9 kD.str).own V [.slice (if c2=1 then some ⟨b2,0,none⟩ else some ⟨b2,1,none⟩) (Y.length - 1) (c2 - 1)] (Y.drop 1) (jU (w.heap.size + 1) V.heap.size)):=yD (by
   intro h1;have h:=(L.out.own wM).wide (T:=jU (w.heap.size + 1) V.heap.size) nK;have ac:¬ c2=1:=bD1;rw [if_neg ac];exact kD.kWl h (k:=1) bD1)
 generalize (if c2=1 then some ⟨b2,0,none⟩ else some ⟨b2,1,none⟩:Option Addr)=A at *
 obtain ⟨cb,O,he,c0,cr,az⟩:=kD.kCa (L.out.kAz) (i:=0) ay rfl
 simp only [Option.some.injEq,Addr.mk.injEq,and_true] at he
 obtain ⟨rfl,rfl⟩:=he
 have bb:[c0]=[.string Y[0]]:=(kD.zi cr).1
 obtain rfl:c0=.string Y[0]:=bA3
 clear cr bb
 generalize Y[0]=y0 at *
 have br:=yD (show (Y.drop 1).length=Y.length - 1 by simp)
 generalize Y.drop 1=qs at *
 have HM:=yD bt
 generalize D:World.alloc V _=wC
 have EC:Qb V wC:=rU
 have B2:Qr V w.heap.size #[.slice none 0 0] 36:=kC (kH rfl) ab
 have B5:Qr wC V.heap.size #[.slice A (Y.length - 1) (c2 - 1)] 36:=vG
 clear D
 obtain ⟨cl,b1,E2,B2,HD,AC,K5⟩:=G5
 clear az ab a5 L a7
 by_cases h2:(Y.length:Int) < 2
 · have K2:=kE B2 (j:=0) rfl;have F2:=Aa wC w.heap.size 0 _ _ B2;clear AC;exact eO
 cases hy:y0.toList.isEmpty
 case false =>
  have K2:=kE B2 (j:=0) rfl;have F2:=Aa wC w.heap.size 0 _ _ B2;exact eO
 replace HD:=yD (HD.out bD1)
 go_wp2_with fail
 refine (yZ (n:=qs) HD.out.rd.1).mono ?_
 rintro e w3 ⟨rfl,ap⟩
 have ar:=ap.size
 replace HD:=yD (HD.out.below ap)
 have E3:=(tQ E2 ap)
 replace K5:=cL ap K5
 replace B2:=kC B2 ap
 have K2:=kE B2 (j:=0) rfl
 have F2:=Aa w3 w.heap.size 0 _ _ B2
 clear AC
 generalize hv:zf qs=b
 cases b
 · go_wp2;refine Ab (v:=.tuple #[.agg #[.slice none 0 0],.bool false]) nJ rfl ⟨none,0,false,[],rfl,kD.jr,by simp,yD kCo.nil,?_⟩;exact E3.setCell bD2 _
 go_wp2
 refine Ab (v:=.tuple #[.agg #[.slice A (Y.length - 1) (c2 - 1)],.bool true]) nJ rfl ⟨A,c2 - 1,true,qs,by rw [br.out],?_,by rw [br.out];omega,ae,E3.setCell bD2 _⟩
 rw [br.out]
 exact ((HD.out.touch (jg w3 w.heap.size 0 _) sM).wide fF)
theorem specl4Of_m {w:Ad} {s:Ac} {M:Nat} (hM:M<=1000) (hs:s.size<=M) :
    Ae prog 102 #[.string s] w λe w'=>∃ a c Y,e=.returned (.agg #[Qs a Y c])/\kW.own w' [Qs a Y c] Y (jU w.heap.size w'.heap.size)/\Y.length<=M/\kCo M Y/\Qb w w':=by
 go_enter func102,ntmps102
 go_upto_region 1 with fail
 generalize F:World.alloc w _=w1
 obtain ⟨ag,R,bf⟩:=D7
 clear F
 have EE:=ag
 clear ag
 go_wp2_with fail
 refine (kSm hM hs).mono ?_
 rintro e V ⟨a,c,b,Y,rfl,hr,hl,ae,hb⟩
 have bg:=hb.size
 replace R:=kC R hb
 replace EE:=(tQ EE hb)
 clear hb
 have HR:=yD (hr.wide (T:=jU (w.heap.size + 1) V.heap.size) rD)
 clear hr
 go_upto_region 2 with fail
 generalize F:World.alloc V _=w3
 have aa:Qb V w3:=rT
 have B:Qr w3 V.heap.size #[Qs a Y c] 36:=vD
 have bi:V.heap.size + 1<=w3.heap.size:=bB3
 clear F
 replace R:=kC R aa
 replace HR:=yD (HR.out.below aa)
 replace EE:=(tQ EE aa)
 clear aa
 have ac:Qd w3 w 0 (.slice none 0 0):=kE R rfl
 have av:Qd w3 V 0 (.slice a Y.length c):=kE B rfl
 have ak:w3.frozen? ⟨w.heap.size,0,none⟩=false:=Aa w3 (w.heap.size) 0 _ _ R
 go_wp2
 refine Ab (v:=.agg #[Qs a Y c]) (by simp [results,results102,go_sem,ac,ak]) rfl ⟨_,_,Y,rfl,?_,hl,ae.out,EE.setCell bD2 _⟩
 exact (HR.out.touch (jg w3 w.heap.size 0 _) sM).wide fF
theorem yV {w:Ad} {s:Ac} (hs:s.size<=64) :
    Ae prog 102 #[.string s] w λe w'=>∃ a c Y,e=.returned (.agg #[Qs a Y c])/\kW.own w' [Qs a Y c] Y (jU w.heap.size w'.heap.size)/\Y.length<=64/\yu Y/\Qb w w':=specl4Of_m (M:=64) bD0 hs
theorem kUq {w:Ad} {s:Ac} (hs:s.size<=64) :
    Ae prog 102 #[.string s] w λe w'=>∃ a c Y,e=.returned (.agg #[Qs a Y c])/\kW.own w' [Qs a Y c] Y (jU w.heap.size w'.heap.size)/\Y.length<=64/\Qb w w' :=
  (yV hs).mono λe w1 ⟨a,c,Y,h0,h1,h2,_,h4⟩=>⟨a,c,Y,h0,h1,h2,h4⟩
theorem kIz {w0 w:Ad} {p:Nat} (hc:yT w0 w p) :
    Ae prog 156 #[.pointer (some ⟨p,0,none⟩)] w λe w'=>∃ a n c Y,e=.returned (.agg #[.slice a n c])/\kD.kU 9 kD.str w' (.slice a n c) Y (jU w.heap.size w'.heap.size)/\Y.length<=3/\yu Y/\yT w0 w' p/\Touch (λk=>k=p) w w':=by
 go_enter func156,ntmps156
 obtain ⟨ay,bt⟩:=hc.lt
 go_upto_region 1 with fail
 generalize F:World.alloc w _=w1
 obtain ⟨ag,R,bf⟩:=D7
 clear F
 obtain ⟨hc,J⟩:=xO
 clear ag
 go_upto_region 2 with fail
 generalize F:World.alloc w1 _=V
 have o:Qb w1 V:=rT
 have B:Qr V w1.heap.size #[.slice none 0 0] 36:=vD
 have bg:w1.heap.size + 1<=V.heap.size:=bB3
 clear F
 replace R:=kC R o
 replace hc:=hc.below o
 replace J:=J.trans (Touch.of_below o)
 clear o
 go_wp2_with fail
 refine (ku (n:=4) hc bD0).mono ?_
 rintro e w3 ⟨m,bc,ad,c8,rfl,G,D⟩
 have bi:=D.size
 obtain ⟨R,B⟩:=FV
 replace J:=J.trans D
 clear hc D
 have hc:=G
 clear G
 replace ad:=ad bD0
 clear c8
 obtain ⟨m,rfl⟩:=Int.eq_ofNat_of_zero_le bc
 go_wp2
 go_loopw [4] (λi wr=>∃ (j:Nat) (a:Option Addr) (n c:Nat) (Y:List Ac),i=.int .i64 j/\Y.length + j<=3/\Hid (yu Y)/\Hid (kD.kU 9 kD.str wr (.slice a n c) Y (jU V.heap.size wr.heap.size))/\Qr wr w.heap.size #[.slice none 0 0] 36/\Qr wr w1.heap.size #[.slice a n c] 36/\V.heap.size<=wr.heap.size/\yT w0 wr p/\Touch (λk=>k=p) w wr) (λi _=>(intOf i).toNat)
 case atStart=>exact ⟨m,none,0,0,[],rfl,by simp;omega,yD yu.nil,yD kD.kU.void,R,B,bi,hc,J⟩
 clear hc J R B
 obtain ⟨j,a,n,c,Y,rfl,I,ae,L,R,B,dp,hc,J⟩:=hrel
 cases j with
 | zero =>
   have ac:Qd wr w 0 (.slice none 0 0):=kE R rfl;have av:Qd wr w1 0 (.slice a n c):=kE B rfl;have ak:wr.frozen? ⟨w.heap.size,0,none⟩=false:=Aa wr (w.heap.size) 0 _ _ R;go_wp2;refine Ab (v:=.agg #[.slice a n c]) (by simp [results,results156,go_sem,ac,ak]) rfl ⟨_,_,_,Y,rfl,?_,by omega,ae.out,hc.touch (jg wr w.heap.size 0 _) bD1 wW,J.jP (jg wr w.heap.size 0 _) bD1⟩;exact (L.out.touch (jg wr w.heap.size 0 _) sM).wide fF
 | succ j =>
   have dn:(0:Int) < (j:Int) + 1:=bD1;go_upto_region 5 with fail;refine zZ (λW=>Touch (λk=>k=p) wr W/\yT w0 W p) (λ_=>True) [] [(0,true),(1,true),(2,false),(3,false),(4,false)] [(5,true),(6,true),(7,true),(8,false)] bC5 bC5 pY (⟨Touch.of_below bR.drew,hc.below bR.drew⟩) ?_;intro wS E;simp only [jB,zK,List.getElem?_cons_succ,List.getElem?_cons_zero,List.map_cons,List.map_nil];refine pre_nil ?_;refine jf (v:=?_) rfl (λW hW=>?_) ?_;rotate_left;(· have dt:=kE (hW.1.kC B bD1) (j:=0) (v:=.slice a n c) rfl;clear hW;go_simp;try with_reducible rfl);refine jD ?_;refine jf (v:=?_) rfl (λW hW=>?_) ?_;rotate_left;(· go_simp;try with_reducible rfl);refine jD ?_;refine zH rfl (λK H=>?_);go_simp;refine H _ _ ⟨E.1.trans (Touch.of_below (bR.alloc nL _)),E.2.below (bR.alloc nL _)⟩ ?_;clear H K;refine jD ?_;refine zH rfl (λK H=>?_);go_simp;refine (zx (E.2.below (bR.alloc nL _)) (kD.kAw _ [{ data:=#[97] },{ data:=#[98] },{ data:=#[110,101,119,115] },{ data:=#[120,45,49] },{ data:=#[49] },{ data:=#[107,101,121] }] bD0 bD0) (by have:=E.1.size;omega) bD0 bD0).mono ?_;rintro e wS1 ⟨y,ar,bz,rfl,au,aq⟩;replace E:=And.intro ((E.1.trans (Touch.of_below (bR.alloc nL _))).trans aq) au;clear au aq;refine H _ _ E ?_;clear H K;refine jD ?_;refine zH rfl (λK H=>?_);go_simp;have d7:=E.1.size;refine (kCv ((L.out.touch E.1 sM).own wM).rd bD1 nD).mono ?_;rintro e bx ⟨a2,n2,c2,b2,rfl,ab,ca,X⟩;replace E:=And.intro (E.1.trans (Touch.of_below X)) (E.2.below X);refine H _ _ E ?_;clear H K;refine jD ?_;have b3:=E.1.size;have ce:=X.size;have R4:=E.1.kC R bD1;have O:=E.1.kC B bD1;have aa:=J.trans E.1;have af:=E.2;have N:(if b2 then Y++[y] else Y).length<=Y.length + 1:=by split <;> simp
   have U:=yD (show yu (if b2 then Y++[y] else Y) by split;exact ae.out.snoc (kD.kCk bD0 ar);exact ae.out);generalize (if b2 then Y++[y] else Y)=qs at *;have bm:=yD (ca.wide (T:=jU V.heap.size bx.heap.size) qL);clear ca L R B J hc E X;have K4:Qd bx w1 0 (.slice a n c):=kE O rfl;have F4:bx.frozen? ⟨w1.heap.size,0,none⟩=false:=Aa bx w1.heap.size 0 _ _ O;refine zl trivial ?_;refine kX ?_;refine kX ?_;refine kX ?_;refine kY rfl (λK H=>?_);go_simp;refine H _ _ trivial ?_;clear H K;refine jD ?_;refine kR ?_;generalize F:World.setCell bx _ _=w5;have Z:Touch (λk=>k=w1.heap.size) bx w5:=vR;have B5:Qr w5 w1.heap.size #[.slice a2 n2 c2] 36:=by rw [<- F];exact kF O 0
   have ce:w5.heap.size=bx.heap.size:=by rw [<- F];simp [World.setCell]
   clear F K4 F4;have az:=yD ((bm.out.touch Z sM).wide (T:=jU V.heap.size w5.heap.size) (λk hk=>⟨hk.1,by have:=hk.2;omega⟩));have H5:=yD ce;clear ce;go_wp2;go_roundw;case rel=>exact ⟨j,a2,n2,c2,qs,by go_num,by omega,U,az,Z.kC R4 bD1,B5,by have:=H5.out;omega,af.touch Z bD1 wW,aa.jP Z bD1⟩
   case measure=>simp [intOf]
theorem kFa {w0 w:World} {p:Nat} (hc:yT w0 w p) :
    Calls prog 88 #[.pointer (some ⟨p,0,none⟩)] w λe w'=>∃ a c Y,e=.returned (.agg #[Qs a Y c])/\kW.own w' [Qs a Y c] Y (jU w.heap.size w'.heap.size)/\Y.length<=8/\yu Y/\yT w0 w' p/\Touch (λk=>k=p) w w':=by
 go_enter func88,ntmps88
 obtain ⟨ay,bt⟩:=hc.lt
 go_upto_region 1 with fail
 generalize F:World.alloc w _=w1
 obtain ⟨ag,R,bf⟩:=D7
 clear F
 obtain ⟨hc,J⟩:=xO
 clear ag
 go_wp2_with fail
 refine (kIz hc).mono ?_
 rintro e V ⟨a,n,c,Y,rfl,hO,ah,ak,G,D⟩
 have bg:=D.size
 obtain ⟨R,J⟩:=DX
 clear hc D
 have hc:=G
 clear G
 have ae:=yD ak
 clear ak
 have L:=yD (hO.wide (T:=jU w1.heap.size V.heap.size) (λ_ h=>h))
 clear hO
 go_upto_region 2 with fail
 generalize F:World.alloc V _=w3
 obtain ⟨aa,B,bi⟩:=FW
 clear F
 replace R:=kC R aa
 obtain ⟨L,hc,J⟩:=xR
 clear aa
 go_wp2_with fail
 refine (ku (n:=8) hc bD0).mono ?_
 rintro e w4 ⟨x,ao,U,a1,rfl,G,D⟩
 have bu:=D.size
 obtain ⟨R,B⟩:=FV
 obtain ⟨L,J⟩:=xK
 clear hc D
 have hc:=G
 clear G
 replace U:=U bD0
 clear a1
 obtain ⟨m,rfl⟩:=Int.eq_ofNat_of_zero_le ao
 by_cases bc:m=0
 · subst bc;go_upto_region 4 with fail;refine zZ (λW=>Touch (λk=>k=p) w4 W/\yT w0 W p) (λ_=>True) [] [(0,true),(1,true),(2,true),(3,false),(4,false),(5,false)] [(6,false),(7,true),(8,false)] bC5 bC5 pY (⟨Touch.of_below bR.drew,hc.below bR.drew⟩) ?_;intro wS E;simp only [jB,zK,List.getElem?_cons_succ,List.getElem?_cons_zero,List.map_cons,List.map_nil];refine pre_nil ?_;refine jf (v:=?_) rfl (λW hW=>?_) ?_;rotate_left;(· go_simp;try with_reducible rfl);refine jD ?_;refine jf (v:=?_) rfl (λW hW=>?_) ?_;rotate_left;(· have dt:=kE (hW.1.kC B bD1) (j:=0) (v:=.slice a n c) rfl;clear hW;go_simp;try with_reducible rfl);refine jD ?_;refine jf (v:=?_) rfl (λW hW=>?_) ?_;rotate_left;(· go_simp;try with_reducible rfl);refine jD ?_;refine zH rfl (λK H=>?_);go_simp;refine H _ _ ⟨E.1.trans (Touch.of_below (bR.alloc nL _)),E.2.below (bR.alloc nL _)⟩ ?_;clear H K;refine jD ?_;refine zH rfl (λK H=>?_);go_simp;refine (zx (E.2.below (bR.alloc nL _)) (kD.kAw _ [{ data:=#[] },{ data:=#[65] },{ data:=#[116,111,111,108,111,110,103,120,120] },{ data:=#[97,47,98] },{ data:=#[32] },{ data:=#[101,105,103,104,116,56,56,56] }] bD0 bD0) (by have:=E.1.size;omega) bD0 bD0).mono ?_;rintro e wS1 ⟨y,ar,bz,rfl,au,aq⟩;replace E:=And.intro ((E.1.trans (Touch.of_below (bR.alloc nL _))).trans aq) au;clear au aq;refine H _ _ E ?_;clear H K;refine jD ?_;refine zH rfl (λK H=>?_);go_simp;have a9:=yD (kD.kLp (e:=9) wS1 (kD.kFi (s:=y) nD));have af:Touch (λk=>k=p) w4 (World.alloc wS1 (Obj.cells #[Value.string y] 9))/\yT w0 (World.alloc wS1 (Obj.cells #[Value.string y] 9)) p:=⟨E.1.trans (Touch.of_below (bR.alloc nL _)),E.2.below (bR.alloc nL _)⟩;generalize az:World.alloc wS1 (Obj.cells #[Value.string y] 9)=wU at a9 af ⊢;clear az;refine H _ _ af ?_;clear H K E;refine jD ?_;have ce:=af.1.size;have R5:=af.1.kC R bD1;have B5:=af.1.kC B bD1;have o:=J.trans af.1;have am:=af.2;replace L:=yD (L.out.touch af.1 pX);clear R B J hc;obtain ⟨v3,u3,bd,ax,ba⟩:=kD.kYf (P:=prog) (t:=34) (ty:=34) (r:=kD.str) (e:=9) (v:=.slice a n c) (xs:=Y) underlying34 kCe rfl bD0 bD0 kD.kDj L.out (a9.out.own bC7).rd bC6;have bx:=ba.size;have X:=ba.kC B5 (λq=>by have:=q.2;omega);have R6:=ba.kC R5 tY;have aj:=o.kBq ba sM;have ai:=am.touch ba tY sM;obtain ⟨a3,n3,c3,av,be⟩:=ax.parts;obtain rfl:=av;have bb:=yD ax;have a5:=yD (ae.out.snoc (kD.kCk bD0 ar));generalize ab:Y++[y]=qs at *;have b8:qs.length<=4:=by rw [<- ab];simp;omega
   have K6:Qd u3 V 0 (.slice a n c):=kE X rfl;have F6:u3.frozen? ⟨V.heap.size,0,none⟩=false:=frozen_of_row u3 V.heap.size 0 _ _ X;clear ab ax L a9 B5 R5 o am af ba;refine zl trivial ?_;refine kY rfl (λK H=>?_);refine kD.kV _ _ _ rfl bD3 bD3 bd ?_;refine H _ _ trivial ?_;clear H K;refine jD ?_;refine kX ?_;refine kY rfl (λK H=>?_);go_simp;refine H _ _ trivial ?_;clear H K;refine jD ?_;refine kR ?_;generalize F:World.setCell u3 _ _=w7;have O:Touch (λk=>k=V.heap.size) u3 w7:=vR;have B7:Qr w7 V.heap.size #[.slice a3 n3 c3] 36:=by rw [<- F];exact kF X 0
   have z7:=O.size;clear F K6 F6;have al:=yD (bb.out.touch O (λk hk=>by rcases hk with hk | hk;(have:=hk.2;omega);omega));have R7:=O.kC R6 bD1;have bh:=ai.touch O bD1 wW;have bj:=aj.jP O bD1;clear bb R6 ai aj O;have KR:Qd w7 w 0 (.slice none 0 0):=kE R7 rfl;have KB:=kE B7 (j:=0) (v:=.slice a3 n3 c3) rfl;have FR:w7.frozen? ⟨w.heap.size,0,none⟩=false:=frozen_of_row w7 w.heap.size 0 _ _ R7;obtain ⟨_,_,_,a4,a2⟩:=al.out.parts;simp only [Value.slice.injEq] at a4;have bw:=yD (a4.2.1.trans a2.out);clear a4 a2;go_wp2;refine bodyPost_ret (v:=.agg #[.slice a3 n3 c3]) nU rfl ⟨_,_,qs,by rw [bw.out],?_,by omega,a5.out,bh.touch (jg w7 w.heap.size 0 _) bD1 wW,bj.jP (jg w7 w.heap.size 0 _) bD1⟩;have hq:=(al.out.touch (jg w7 w.heap.size 0 (.slice a3 n3 c3)) (λk hk=>by rcases hk with hk | hk;(have:=hk.1;omega);omega)).own wM;rw [bw.out] at hq ⊢;exact hq.wide (λj I=>⟨by rcases I with I | I;(have:=I.1;omega);omega,by rcases I with I | I;(have:=I.2;simp [World.setCell];omega);(simp [World.setCell];omega)⟩)
 have bo:¬ (m:Int)=0:=bD1
 by_cases ad:m=1
 · subst ad;go_wp2;go_loopw [] (λwr=>∃ (a:Option Addr) (n c:Nat) (Y:List ByteArray),Y.length<=8/\Hid (yu Y)/\Hid (n=Y.length)/\Hid (kD.kU 9 kD.str wr (.slice a n c) Y (λk=>(w1.heap.size<=k/\k < V.heap.size)\/(w4.heap.size<=k/\k < wr.heap.size)))/\Qr wr w.heap.size #[.slice none 0 0] 36/\Qr wr V.heap.size #[.slice a n c] 36/\w4.heap.size<=wr.heap.size/\yT w0 wr p/\Touch (λk=>k=p) w wr) (λwr=>match wr.cell? ⟨V.heap.size,0,none⟩ with | some (.slice _ n _)=>9 - n | _=>0);case atStart =>
    obtain ⟨_,_,_,a4,a2⟩:=L.out.parts;simp only [Value.slice.injEq] at a4;exact ⟨a,n,c,Y,by omega,ae,yD (a4.2.1.trans a2.out),yD (L.out.wide (λk hk=>.inl hk)),R,B,Nat.le_refl _,hc,J⟩
   clear hc J R B L ah ae;obtain ⟨a,n,c,Y,ah,ae,HN,L,R,B,dp,hc,J⟩:=hrel;have KM:=yD (show Qd wr V 0 (.slice a n c) from kE B rfl);have ac:(n:Int)=Y.length:=by rw [HN.out]
   have a6:=yD ac;clear ac;go_upto_region 6 with fail;have FX:=yD (λ(W:World) (hW:Touch (λk=>k=p) wr W/\yT w0 W p)=>kE (hW.1.kC B bD1) (j:=0) (v:=.slice a n c) rfl);refine kM (λW=>Touch (λk=>k=p) wr W/\yT w0 W p) [true,true,true,true,false,true,true] bC5 bC5 pY (⟨Touch.of_below bR.drew,hc.below bR.drew⟩) ?_;intro wS E;iterate 4
    all_goals refine kX ?_
   all_goals first|(refine kG rfl E ?_)|(refine kY rfl (λK H=>?_);go_simp;refine (ku (n:=3) E.2 bD0).mono ?_;rintro e wS1 ⟨x,ao,U,a1,rfl,au,aq⟩;replace U:=U bD0;clear a1;replace E:=And.intro (E.1.trans aq) au;clear au aq;have hw:IntKind.i64.wrap (5 + x)=5 + x:=IntWalk.i64_in _ bD1;refine H _ _ E ?_;clear H K)
   all_goals refine jD ?_
   all_goals refine kX ?_
   all_goals (refine jd λb c1=>?_;cases b <;> try simp only [jc] at c1)
   all_goals refine kR ?_
   all_goals have hzs:=E.1.size
   all_goals replace R:=E.1.kC R bD1
   all_goals replace B:=E.1.kC B bD1
   all_goals replace J:=J.trans E.1
   all_goals have am:=E.2
   all_goals replace L:=yD (L.out.touch E.1 nW)
   all_goals clear hc E
   · clear c1;have KR:Qd wS1 w 0 (.slice none 0 0):=kE R rfl;have KB:=kE B (j:=0) (v:=.slice a n c) rfl;have FR:wS1.frozen? ⟨w.heap.size,0,none⟩=false:=frozen_of_row wS1 w.heap.size 0 _ _ R;obtain ⟨_,_,_,a4,a2⟩:=L.out.parts;simp only [Value.slice.injEq] at a4;have bw:=yD (a4.2.1.trans a2.out);clear a4 a2;go_wp2;refine bodyPost_ret (v:=.agg #[.slice a n c]) nU rfl ⟨_,_,Y,by rw [bw.out],?_,by omega,ae.out,am.touch (jg wS1 w.heap.size 0 _) bD1 wW,J.jP (jg wS1 w.heap.size 0 _) bD1⟩;have hq:=(L.out.touch (jg wS1 w.heap.size 0 (.slice a n c)) nW).own wM;rw [bw.out] at hq ⊢;exact hq.wide (λj I=>⟨by rcases I with I | I <;> omega,by rcases I with I | I <;> (simp [World.setCell];omega)⟩)
   have hlt:(n:Int) < 5 + x:=by simpa using c1
   have bw:=HN.out;have KB:Qd wS1 V 0 (.slice a n c):=kE B rfl;have eh:=cL (kD.zL wS1 (.cells #[.string { data:=#[109] }] 9)) KB;clear c1 bw;go_wp2_with (at_builtin;refine kD.kZi rfl _ _ 34 rfl (r:=kD.str) (e:=9) underlying34 kCe rfl bD0 bD0 kD.kDj (L.out.below (kD.zL wS1 (.cells #[.string { data:=#[109] }] 9))) bD3 bD3 ((kD.kLp (e:=9) wS1 (kD.kFi (s:={ data:=#[109] }) bD0)).own bC7).rd bC6 ?_);intro v6 w6 an aw;have T6:=(Touch.of_below (S:=λk=>(w1.heap.size<=k/\k < V.heap.size)\/(w4.heap.size<=k/\k < wr.heap.size)) (kD.zL wS1 (.cells #[.string { data:=#[109] }] 9))).trans aw;have z6:=T6.size;have zA:wS1.heap.size + 1<=w6.heap.size:=by have:=aw.size;simpa using this
   have R6:=T6.kC R qB;have X:=T6.kC B qB;have aj:=J.kBq T6 pV;have ai:=am.touch T6 qB pV;have bb:=yD (an.wide (T:=λk=>(w1.heap.size<=k/\k < V.heap.size)\/(w4.heap.size<=k/\k < w6.heap.size)) (λk q=>by rcases q with (q | q) | q;exact .inl q;exact .inr ⟨q.1,by omega⟩;exact .inr ⟨by have:=q.1;omega,q.2⟩));obtain ⟨Z,n6,N,bk,a7⟩:=an.parts;obtain rfl:=bk;have b8:(Y++[({ data:=#[109] }:ByteArray)]).length=Y.length + 1:=bD2;have a8:=yD (ae.out.snoc (y:={ data:=#[109] }) bD0);generalize Y++[({ data:=#[109] }:ByteArray)]=qs at *;have ap:=yD b8;clear b8 an aw T6 R B J am L KB eh;have K6:Qd w6 V 0 (.slice a n c):=kE X rfl;have F6:w6.frozen? ⟨V.heap.size,0,none⟩=false:=frozen_of_row w6 V.heap.size 0 _ _ X;go_wp2;generalize F:World.setCell w6 _ _=w7;have O:Touch (λk=>k=V.heap.size) w6 w7:=vR;have B7:Qr w7 V.heap.size #[.slice Z n6 N] 36:=by rw [<- F];exact kF X 0
   have z7:=O.size;clear F K6 F6;have al:=yD ((bb.out.touch O pV).wide (T:=λk=>(w1.heap.size<=k/\k < V.heap.size)\/(w4.heap.size<=k/\k < w7.heap.size)) (λk q=>by rcases q with q | q;exact .inl q;exact .inr ⟨q.1,by omega⟩));go_roundw;case rel=>exact ⟨Z,n6,N,qs,by have:=ap.out;have:=a6.out;omega,a8,yD a7.out,al,O.kC R6 bD1,B7,by omega,ai.touch O bD1 wW,aj.jP O bD1⟩
   simp only [KM.out,kE B7 (j:=0) (v:=.slice Z n6 N) rfl];have h1:=ap.out;have h2:=a7.out;have h3:=a6.out;omega
 have b2:¬ (m:Int)=1:=bD1
 have KR:Qd w4 w 0 (.slice none 0 0):=kE R rfl
 have KB:=kE B (j:=0) (v:=.slice a n c) rfl
 have FR:w4.frozen? ⟨w.heap.size,0,none⟩=false:=frozen_of_row w4 w.heap.size 0 _ _ R
 obtain ⟨_,_,_,a4,a2⟩:=L.out.parts
 simp only [Value.slice.injEq] at a4
 have bw:=yD (a4.2.1.trans a2.out)
 clear a4 a2
 go_wp2
 refine bodyPost_ret (v:=.agg #[.slice a n c]) nU rfl ⟨_,_,Y,by rw [bw.out],?_,by omega,ae.out,hc.touch (jg w4 w.heap.size 0 _) bD1 wW,J.jP (jg w4 w.heap.size 0 _) bD1⟩
 have hq:=(L.out.touch (jg w4 w.heap.size 0 (.slice a n c)) sM).own wM
 rw [bw.out] at hq ⊢
 exact hq.wide fF
theorem specl4Any_c {w0 w:Ad} {p:Nat} (hc:yT w0 w p) :
    Ae prog 88 #[.pointer (some ⟨p,0,none⟩)] w λe w'=>∃ a c Y,e=.returned (.agg #[Qs a Y c])/\kW.own w' [Qs a Y c] Y (jU w.heap.size w'.heap.size)/\Y.length<=8/\yT w0 w' p/\Touch (λk=>k=p) w w' :=
  (kFa hc).mono λe w1 ⟨a,c,Y,h0,h1,h2,_,h4⟩=>⟨a,c,Y,h0,h1,h2,h4⟩
end Go.Proofs.YtjhfdpopkkmigaaGreat

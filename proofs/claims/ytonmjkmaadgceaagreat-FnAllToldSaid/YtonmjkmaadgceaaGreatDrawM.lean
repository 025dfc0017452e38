/-
  Names as the reference draws them.
-/
import Derived.Test.YtonmjkmaadgceaaGreatSoft4
set_option linter.unusedVariables false
set_option linter.unusedSimpArgs false
set_option linter.unnecessarySimpa false
set_option maxRecDepth 100000
set_option maxHeartbeats 4000000
namespace Go.Proofs.YtonmjkmaadgceaaGreat
open Go.RowKit _root_.Go.Proofs.Tryz
theorem kWe {w:World} {ca:List Value} {x:kQ} (ha:kM.rd w ca x):Calls prog 153 #[.agg ca.toArray] w fun e w'=>∃ a n c,e=.returned (.agg #[.slice a n c])∧kE.ku 9 kE.str w' (.slice a n c) x (jR w.heap.size w'.heap.size)∧Below w.heap.size w w':=by
 have HA:=yD ha
 obtain ⟨av,rfl,ac⟩:=kU ha.1
 obtain ⟨aa,J,rfl,la⟩:=kE.sl ac
 have hb:x.length≤16777216:=ha.2.1
 clear ha
 go_enter func153,ntmps153
 have O0:kE.ku 9 kE.str (((w.alloc (.cells #[.slice aa x.length J] 41)).alloc (.cells #[.slice none 0 0] 41)).alloc (.cells #[] 9)) (.slice (some ⟨w.heap.size + 1 + 1,0,none⟩) 0 0) [] (fun k=>k=w.heap.size + 1 + 1):=by
  exact aL
 go_wp2_with (at_builtin;refine kE.yF rfl _ _ 39 rfl (r:=kE.str) (e:=9) underlying39 kCp rfl bB8 bB8 kE.kCg (B:=w.heap.size + 1 + 1) O0 bC1 bC1 (HA.out.below bI) qZ bC0 bB5 ?_)
 intro v2 V hown D hz
 obtain ⟨a2,c2,hv⟩:=hown.zL
 obtain rfl:=hv
 replace hown:=hown.cast (List.nil_append _)
 have L:=yD hown
 have G:Below w.heap.size w V:=Below.trans bI (D.mono rH)
 clear hown O0
 obtain ⟨R0,F0⟩:=uL
 clear D
 go_wp2
 refine bodyPost_ret (v:=.agg #[.slice a2 x.length c2]) nJ rfl ⟨_,_,_,rfl,?_,?_⟩
 · exact (L.out.setCell fI).wide gD
 exact G.setCell bC0 _
theorem kCn {w:World} {cn:List Value} {n:kQ} (hn:kM.rd w cn n) (cq:n.length≤1000) {s:ByteArray} (hs:s.size≤Big) :
    Calls prog 116 #[.agg cn.toArray,.string s] w fun e w'=>∃ a m c b,e=.returned (.tuple #[.agg #[.slice a m c],.bool b])∧b=yZ (n++[s])∧kE.ku 9 kE.str w' (.slice a m c) (if b then n++[s] else n) (jR w.heap.size w'.heap.size)∧Below w.heap.size w w':=by
 have HN:=yD hn
 obtain ⟨av,rfl,ac⟩:=kU hn.1
 obtain ⟨aa,J,rfl,la⟩:=kE.sl ac
 clear hn ac
 have E:=yD hs
 clear hs
 go_enter func116,ntmps116
 go_upto_region 1 with fail
 generalize H:World.alloc (World.alloc w _) _=N
 have Z:Below w.heap.size w N:=by rw [← H];exact bI
 have b8:w.heap.size + 2≤N.heap.size:=bA4
 have B0:N.heap[w.heap.size]?=some (.cells #[.slice aa n.length J] 41 (0,0)):=sP
 have B1:N.heap[w.heap.size + 1]?=some (.cells #[.slice none 0 0] 41 (0,0)):=by rw [← H];exact kG bC0
 have K0:=cL (kE.zD N (.cells #[] 9)) (kF B0 (j:=0) rfl)
 clear H
 have O0:kE.ku 9 kE.str (N.alloc (.cells #[] 9)) (.slice (some ⟨N.heap.size,0,none⟩) 0 0) [] (fun k=>k=N.heap.size):=kE.ku.void
 go_wp2_with (at_builtin;refine kE.yF rfl _ _ 39 rfl (r:=kE.str) (e:=9) underlying39 kCp rfl bB8 bB8 kE.kCg (B:=N.heap.size) O0 bC1 bC1 ((HN.out.below Z).below (bR.alloc nL _)) qZ bC0 bB5 ?_)
 intro v2 V hown D hz
 have L:=yD (hown.cast (List.nil_append _))
 obtain ⟨a2,n2,c2,hv,al⟩:=L.out.parts;obtain rfl:=hv
 have U:Below N.heap.size N V:=Below.trans (bR.alloc nL _) D
 have E2:Below w.heap.size w V:=Z.trans (U.mono bB9)
 have an:=U.size
 clear hown O0 D
 go_wp2_with (at_builtin;refine kE.jK rfl _ _ 39 rfl (r:=kE.str) (e:=9) underlying39 kCp rfl bB8 bB8 (B:=N.heap.size) L.out bC1 bC1 rfl (kE.flat.own (S:=fun _=>False) (kE.kCy E.out)) rfl (fun _ _ h=>h) rE (fun _ h=>h.elim) bB9 sN ?_)
 intro v3 w3 af Y a7
 have ae:=yD af
 obtain ⟨a3,n3,c3,hv,ai⟩:=ae.out.parts;obtain rfl:=hv
 have E3:=E2.trans (Y.mono bB9)
 have ab:=U.trans Y
 clear af Y
 go_upto_region 2 with fail
 generalize F:World.alloc w3 _=R
 have EC:Below w3.heap.size w3 R:=rX
 have B6:R.heap[w3.heap.size]?=some (.cells #[.slice a3 n3 c3] 41 (0,0)):=tX
 have K6:=kF B6 (j:=0) rfl
 clear F
 have a7:=ab.size
 have bo:=EC.size
 have W:=ab.trans (EC.mono a7)
 have E4:=(tQ E3 EC)
 replace B0:=kD B0 W
 replace B1:=kD B1 W
 clear K0
 have K0:=kF B0 (j:=0) rfl
 have G:=yD (ae.out.below EC)
 clear L ae
 go_wp2_with fail
 refine (yS (n:=n++[s]) G.out.raw0).mono ?_
 rintro e w4 ⟨rfl,X⟩
 have bt:=X.size
 have au:=yD (G.out.below X)
 have E5:=(tQ E4 X)
 replace K0:=cL X K0
 replace K6:=cL X K6
 replace B1:=kD B1 X
 have K1:=kF B1 (j:=0) rfl
 have F1:=frozen_of_row w4 (w.heap.size + 1) 0 _ _ B1
 clear G B0 B6 X
 generalize hv:yZ (n++[s])=b
 cases b
 · go_wp2_with fail
   refine (kWe (HN.out.below E5)).mono ?_
   rintro e w5 ⟨a5,n5,c5,rfl,O5,O⟩
   have bi:=O.size
   have aw:=yD O5
   have E6:=(tQ E5 O)
   have R1:=cL O K1
   have F2:=frozen_of_row w5 (w.heap.size + 1) 0 _ _ (kD B1 O)
   clear O5 O K1 F1
   go_wp2
   refine bodyPost_ret (v:=.tuple #[.agg #[.slice a5 n5 c5],.bool false]) (by simp [results,results116,go_sem,R1,F2]) rfl ⟨_,_,_,_,rfl,hv.symm,?_,?_⟩
   · exact (aw.out.setCell (fun q=>by have:=q.1;simp at this;omega)).wide gD
   exact E6.setCell bC0 _
 go_wp2
 refine bodyPost_ret (v:=.tuple #[.agg #[.slice a3 n3 c3],.bool true]) (by simp [results,results116,go_sem,K1,F1]) rfl ⟨_,_,_,_,rfl,hv.symm,?_,?_⟩
 · exact (au.out.setCell (fun q=>by have:=q.1;simp at this;omega)).wide fK
 exact E5.setCell bC0 _
def ParsedName (M:Nat) (w:World) (e:Ending) (w':World):Prop:=∃ a c b ps,e=.returned (.tuple #[.agg #[.slice a ps.length c],.bool b])∧kM.own w' [.slice a ps.length c] ps (jR w.heap.size w'.heap.size)∧ps.length≤M∧Hid (kCd M ps)∧Below w.heap.size w w'
theorem kQy {w:World} {s:ByteArray} {M:Nat} (hM:M≤1000) (hs:s.size≤M) :
    Calls prog 127 #[.string s] w (ParsedName M w):=by
 go_enter func127,ntmps127
 cases hq:(s.toList==[47])
 case true =>
  go_wp2
  refine bodyPost_ret (v:=.tuple #[.agg #[.slice none 0 0],.bool true]) (by simp [results,results127,go_sem]) rfl ⟨none,0,true,[],rfl,kE.jf,by simp,yD kCd.nil,?_⟩
  exact bI
 go_wp2_with fail
 refine (kLl (by0:=47) hM hs bB8).mono ?_
 rintro e V ⟨v,rfl,ps,O2,b7,cj,G,ab⟩
 have ah:=yD (G.drop 1)
 clear G
 obtain ⟨b2,c2,rfl,H,bk,bt,U⟩:=kE.kBu O2 b7
 have an:=ab.size
 have L:=yD O2
 clear O2
 have E:(0:Int) < ps.length:=bB9
 have ai:(1:Int)≤ps.length:=bB9
 have af:(ps.length:Int)≤c2:=bB9
 have N:c2≤9223372036854775807:=U
 go_upto_region 5 with fail
 have HD:Hid (1 < ps.length→(kE.slice 9 kE.str).own V [.slice (if c2=1 then some ⟨b2,0,none⟩ else some ⟨b2,1,none⟩) (ps.length - 1) (c2 - 1)] (ps.drop 1) (jR (w.heap.size + 1) V.heap.size)):=yD (by
   intro h1
   have h:=(L.out.own vV).wide (T:=jR (w.heap.size + 1) V.heap.size) nE
   have ag:¬ c2=1:=bB9
   rw [if_neg ag]
   exact kE.kOc h (k:=1) bB9)
 generalize (if c2=1 then some ⟨b2,0,none⟩ else some ⟨b2,1,none⟩:Option Addr)=A at *
 obtain ⟨cb,J,he,c0,cr,bd⟩:=kE.kBo (L.out.raw0) (i:=0) b7 rfl
 simp only [Option.some.injEq,Addr.mk.injEq,and_true] at he
 obtain ⟨rfl,rfl⟩:=he
 have be:[c0]=[.string ps[0]]:=(kE.yY cr).1
 obtain rfl:c0=.string ps[0]:=wK
 clear cr be
 generalize ps[0]=y0 at *
 have D:=yD (show (ps.drop 1).length=ps.length - 1 by simp)
 generalize ps.drop 1=qs at *
 have HM:=yD cj
 generalize F:World.alloc V _=R
 have EC:Below V.heap.size V R:=rX
 have B2:V.heap[w.heap.size]?=some (.cells #[.slice none 0 0] 41 (0,0)):=kD (kG rfl) ab
 have B5:R.heap[V.heap.size]?=some (.cells #[.slice A (ps.length - 1) (c2 - 1)] 41 (0,0)):=tX
 clear F
 obtain ⟨bo,bb,E2,B2,HD,AC,K5⟩:=BO
 clear bd ab H L an
 by_cases h2:(ps.length:Int) < 2
 · have K2:=kF B2 (j:=0) rfl
   have F2:=frozen_of_row R w.heap.size 0 _ _ B2
   clear AC
   exact eP
 cases hy:y0.toList.isEmpty
 case false =>
  have K2:=kF B2 (j:=0) rfl
  have F2:=frozen_of_row R w.heap.size 0 _ _ B2
  exact eP
 replace HD:=yD (HD.out bB9)
 go_wp2_with fail
 refine (yS (n:=qs) HD.out.rd.1).mono ?_
 rintro e w3 ⟨rfl,Y⟩
 have a7:=Y.size
 replace HD:=yD (HD.out.below Y)
 have E3:=(tQ E2 Y)
 replace K5:=cL Y K5
 replace B2:=kD B2 Y
 have K2:=kF B2 (j:=0) rfl
 have F2:=frozen_of_row w3 w.heap.size 0 _ _ B2
 clear AC
 generalize hv:yZ qs=b
 cases b
 · go_wp2
   refine bodyPost_ret (v:=.tuple #[.agg #[.slice none 0 0],.bool false]) nD rfl ⟨none,0,false,[],rfl,kE.jf,by simp,yD kCd.nil,?_⟩
   exact E3.setCell bC0 _
 go_wp2
 refine bodyPost_ret (v:=.tuple #[.agg #[.slice A (ps.length - 1) (c2 - 1)],.bool true]) nD rfl ⟨A,c2 - 1,true,qs,by rw [D.out],?_,by rw [D.out];omega,ah,E3.setCell bC0 _⟩
 rw [D.out]
 exact ((HD.out.touch (kC w3 w.heap.size 0 _) sM).wide fK)
theorem kMd {w:World} {s:ByteArray} {M:Nat} (hM:M≤1000) (hs:s.size≤M) :
    Calls prog 85 #[.string s] w fun e w'=>∃ a c ps,e=.returned (.agg #[.slice a ps.length c])∧kM.own w' [.slice a ps.length c] ps (jR w.heap.size w'.heap.size)∧ps.length≤M∧kCd M ps∧Below w.heap.size w w':=by
 go_enter func85,ntmps85
 go_upto_region 1 with fail
 generalize F:World.alloc w _=w1
 obtain ⟨ak,R,bn⟩:=uW
 clear F
 have X:=ak
 clear ak
 go_wp2_with fail
 refine (kQy hM hs).mono ?_
 rintro e V ⟨a,c,b,ps,rfl,hr,hl,ah,hb⟩
 have bo:=hb.size
 replace R:=kD R hb
 replace X:=(tQ X hb)
 clear hb
 have HR:=yD (hr.wide (T:=jR (w.heap.size + 1) V.heap.size) rF)
 clear hr
 go_upto_region 2 with fail
 generalize F:World.alloc V _=w3
 have ap:Below V.heap.size V w3:=rX
 have B:w3.heap[V.heap.size]?=some (.cells #[.slice a ps.length c] 41 (0,0)):=tX
 have bp:V.heap.size + 1≤w3.heap.size:=bA3
 clear F
 replace R:=kD R ap
 replace HR:=yD (HR.out.below ap)
 replace X:=(tQ X ap)
 clear ap
 have ac:w3.cell? ⟨w.heap.size,0,none⟩=some (.slice none 0 0):=kF R rfl
 have av:w3.cell? ⟨V.heap.size,0,none⟩=some (.slice a ps.length c):=kF B rfl
 have aq:w3.frozen? ⟨w.heap.size,0,none⟩=false:=frozen_of_row w3 (w.heap.size) 0 _ _ R
 go_wp2
 refine bodyPost_ret (v:=.agg #[.slice a ps.length c]) (by simp [results,results85,go_sem,ac,aq]) rfl ⟨_,_,ps,rfl,?_,hl,ah.out,X.setCell bC0 _⟩
 exact (HR.out.touch (kC w3 w.heap.size 0 _) sM).wide fK
theorem yP {w:World} {s:ByteArray} (hs:s.size≤64) :
    Calls prog 85 #[.string s] w fun e w'=>∃ a c ps,e=.returned (.agg #[.slice a ps.length c])∧kM.own w' [.slice a ps.length c] ps (jR w.heap.size w'.heap.size)∧ps.length≤64∧yM ps∧Below w.heap.size w w':=kMd (M:=64) bB8 hs
theorem kSf {w:World} {s:ByteArray} (hs:s.size≤64) :
    Calls prog 85 #[.string s] w fun e w'=>∃ a c ps,e=.returned (.agg #[.slice a ps.length c])∧kM.own w' [.slice a ps.length c] ps (jR w.heap.size w'.heap.size)∧ps.length≤64∧Below w.heap.size w w' :=
  (yP hs).mono fun e w1 ⟨a,c,ps,h0,h1,h2,_,h4⟩=>⟨a,c,ps,h0,h1,h2,h4⟩
theorem kIq {w0 w:World} {p:Nat} (hc:yK w0 w p) :
    Calls prog 158 #[.pointer (some ⟨p,0,none⟩)] w fun e w'=>∃ a n c ps,e=.returned (.agg #[.slice a n c])∧kE.ku 9 kE.str w' (.slice a n c) ps (jR w.heap.size w'.heap.size)∧ps.length≤3∧yM ps∧yK w0 w' p∧Touch (fun k=>k=p) w w':=by
 go_enter func158,ntmps158
 obtain ⟨b7,cj⟩:=hc.lt
 go_upto_region 1 with fail
 generalize F:World.alloc w _=w1
 obtain ⟨ak,R,bn⟩:=uW
 clear F
 obtain ⟨hc,H⟩:=q8
 clear ak
 go_upto_region 2 with fail
 generalize F:World.alloc w1 _=V
 have N:Below w1.heap.size w1 V:=rX
 have B:V.heap[w1.heap.size]?=some (.cells #[.slice none 0 0] 41 (0,0)):=tX
 have bo:w1.heap.size + 1≤V.heap.size:=bA3
 clear F
 replace R:=kD R N
 replace hc:=hc.below N
 replace H:=H.trans (Touch.of_below N)
 clear N
 go_wp2_with fail
 refine (kV (n:=4) hc bB8).mono ?_
 rintro e w3 ⟨m,bq,ao,ck,rfl,G,D⟩
 have bp:=D.size
 obtain ⟨R,B⟩:=BZ
 replace H:=H.trans D
 clear hc D
 have hc:=G
 clear G
 replace ao:=ao bB8
 clear ck
 obtain ⟨m,rfl⟩:=Int.eq_ofNat_of_zero_le bq
 go_wp2
 go_loopw [4] (fun i wr=>∃ (j:Nat) (a:Option Addr) (n c:Nat) (ps:List ByteArray),i=.int .i64 j∧ps.length + j≤3∧Hid (yM ps)∧Hid (kE.ku 9 kE.str wr (.slice a n c) ps (jR V.heap.size wr.heap.size))∧wr.heap[w.heap.size]?=some (.cells #[.slice none 0 0] 41 (0,0))∧wr.heap[w1.heap.size]?=some (.cells #[.slice a n c] 41 (0,0))∧V.heap.size≤wr.heap.size∧yK w0 wr p∧Touch (fun k=>k=p) w wr) (fun i _=>(intOf i).toNat)
 case atStart=>exact ⟨m,none,0,0,[],rfl,by simp;omega,yD yM.nil,yD kE.ku.void,R,B,bp,hc,H⟩
 clear hc H R B
 obtain ⟨j,a,n,c,ps,rfl,I,ah,L,R,B,dh,hc,H⟩:=hrel
 cases j with
 | zero =>
   have ac:wr.cell? ⟨w.heap.size,0,none⟩=some (.slice none 0 0):=kF R rfl
   have av:wr.cell? ⟨w1.heap.size,0,none⟩=some (.slice a n c):=kF B rfl
   have aq:wr.frozen? ⟨w.heap.size,0,none⟩=false:=frozen_of_row wr (w.heap.size) 0 _ _ R
   go_wp2
   refine bodyPost_ret (v:=.agg #[.slice a n c]) (by simp [results,results158,go_sem,ac,aq]) rfl ⟨_,_,_,ps,rfl,?_,by omega,ah.out,hc.touch (kC wr w.heap.size 0 _) bB9 wB,H.jJ (kC wr w.heap.size 0 _) bB9⟩
   exact (L.out.touch (kC wr w.heap.size 0 _) sM).wide fK
 | succ j =>
   have dn:(0:Int) < (j:Int) + 1:=bB9
   go_upto_region 5 with fail
   refine zT (fun W=>Touch (fun k=>k=p) wr W∧yK w0 W p) (fun _=>True) [] [(0,true),(1,true),(2,false),(3,false),(4,false)] [(5,true),(6,true),(7,true),(8,false)] bB4 bB4 qD (⟨Touch.of_below bR.drew,hc.below bR.drew⟩) ?_
   intro wS E
   simp only [jD,kAv,List.getElem?_cons_succ,List.getElem?_cons_zero,List.map_cons,List.map_nil]
   refine pre_nil ?_
   refine jX (v:=?_) rfl (fun W hW=>?_) ?_;rotate_left;(· have cg:=kF (hW.1.kD B bB9) (j:=0) (v:=.slice a n c) rfl;clear hW;go_simp;try with_reducible rfl)
   refine kX ?_
   refine jX (v:=?_) rfl (fun W hW=>?_) ?_;rotate_left;(· go_simp;try with_reducible rfl)
   refine kX ?_
   refine yu rfl (fun K J=>?_);go_simp;refine J _ _ ⟨E.1.trans (Touch.of_below (bR.alloc nL _)),E.2.below (bR.alloc nL _)⟩ ?_;clear J K
   refine kX ?_
   refine yu rfl (fun K J=>?_);go_simp;refine (zo (E.2.below (bR.alloc nL _)) (kE.kAw _ [{ data:=#[97] },{ data:=#[98] },{ data:=#[110,101,119,115] },{ data:=#[120,45,49] },{ data:=#[49] },{ data:=#[107,101,121] }] bB8 bB8) (by have:=E.1.size;omega) bB8 bB8).mono ?_;rintro e wS1 ⟨y,al,a8,rfl,be,a9⟩;replace E:=And.intro ((E.1.trans (Touch.of_below (bR.alloc nL _))).trans a9) be;clear be a9;refine J _ _ E ?_;clear J K
   refine kX ?_
   refine yu rfl (fun K J=>?_);go_simp;have d1:=E.1.size;refine (kCn ((L.out.touch E.1 sM).own vV).rd bB9 mX).mono ?_;rintro e bj ⟨a2,n2,c2,b2,rfl,ab,cc,af⟩;replace E:=And.intro (E.1.trans (Touch.of_below af)) (E.2.below af);refine J _ _ E ?_;clear J K
   refine kX ?_
   have bt:=E.1.size
   have bi:=af.size
   have R4:=E.1.kD R bB9
   have B4:=E.1.kD B bB9
   have X:=H.trans E.1
   have Y:=E.2
   have U:(if b2 then ps++[y] else ps).length≤ps.length + 1:=by split <;> simp
   have O:=yD (show yM (if b2 then ps++[y] else ps) by split;exact ah.out.snoc (kE.kBz bB8 al);exact ah.out)
   generalize (if b2 then ps++[y] else ps)=qs at *
   have au:=yD (cc.wide (T:=jR V.heap.size bj.heap.size) qU)
   clear cc L R B H hc E af
   have K4:bj.cell? ⟨w1.heap.size,0,none⟩=some (.slice a n c):=kF B4 rfl
   have F4:bj.frozen? ⟨w1.heap.size,0,none⟩=false:=frozen_of_row bj w1.heap.size 0 _ _ B4
   refine zl trivial ?_
   refine kS ?_
   refine kS ?_
   refine kS ?_
   refine ko rfl (fun K J=>?_);go_simp;refine J _ _ trivial ?_;clear J K
   refine kX ?_
   refine kZ ?_
   generalize F:World.setCell bj _ _=w5
   have T5:Touch (fun k=>k=w1.heap.size) bj w5:=sU
   have B5:w5.heap[w1.heap.size]?=some (.cells #[.slice a2 n2 c2] 41 (0,0)):=by rw [← F];exact kH B4 0
   have bi:w5.heap.size=bj.heap.size:=by rw [← F];simp [World.setCell]
   clear F K4 F4
   have aw:=yD ((au.out.touch T5 sM).wide (T:=jR V.heap.size w5.heap.size) (fun k hk=>⟨hk.1,by have:=hk.2;omega⟩))
   have Z:=yD bi
   clear bi
   go_wp2
   go_roundw
   case rel=>exact ⟨j,a2,n2,c2,qs,by go_num,by omega,O,aw,T5.kD R4 bB9,B5,by have:=Z.out;omega,Y.touch T5 bB9 wB,X.jJ T5 bB9⟩
   case measure=>simp [intOf]
theorem kEy {w0 w:World} {p:Nat} (hc:yK w0 w p) :
    Calls prog 114 #[.pointer (some ⟨p,0,none⟩)] w fun e w'=>∃ a c ps,e=.returned (.agg #[.slice a ps.length c])∧kM.own w' [.slice a ps.length c] ps (jR w.heap.size w'.heap.size)∧ps.length≤8∧yM ps∧yK w0 w' p∧Touch (fun k=>k=p) w w':=by
 go_enter func114,ntmps114
 obtain ⟨b7,cj⟩:=hc.lt
 go_upto_region 1 with fail
 generalize F:World.alloc w _=w1
 obtain ⟨ak,R,bn⟩:=uW
 clear F
 obtain ⟨hc,H⟩:=q8
 clear ak
 go_wp2_with fail
 refine (kIq hc).mono ?_
 rintro e V ⟨a,n,c,ps,rfl,hO,aj,av,G,D⟩
 obtain ⟨bo,R,H⟩:=xE
 clear hc D
 have hc:=G
 clear G
 have ah:=yD av
 clear av
 have L:=yD (hO.wide (T:=jR w1.heap.size V.heap.size) (fun _ h=>h))
 clear hO
 go_upto_region 2 with fail
 generalize F:World.alloc V _=w3
 obtain ⟨ap,B,bp⟩:=xW
 clear F
 obtain ⟨R,L,hc,H⟩:=x8
 clear ap
 go_wp2_with fail
 refine (kV (n:=8) hc bB8).mono ?_
 rintro e w4 ⟨x,ax,Z,b4,rfl,G,D⟩
 have b9:=D.size
 obtain ⟨R,B⟩:=BZ
 obtain ⟨L,H⟩:=oZ
 clear hc D
 have hc:=G
 clear G
 replace Z:=Z bB8
 clear b4
 obtain ⟨m,rfl⟩:=Int.eq_ofNat_of_zero_le ax
 by_cases bq:m=0
 · subst bq
   go_upto_region 4 with fail
   refine zT (fun W=>Touch (fun k=>k=p) w4 W∧yK w0 W p) (fun _=>True) [] [(0,true),(1,true),(2,true),(3,false),(4,false),(5,false)] [(6,false),(7,true),(8,false)] bB4 bB4 qD (⟨Touch.of_below bR.drew,hc.below bR.drew⟩) ?_
   intro wS E
   simp only [jD,kAv,List.getElem?_cons_succ,List.getElem?_cons_zero,List.map_cons,List.map_nil]
   refine pre_nil ?_
   refine jX (v:=?_) rfl (fun W hW=>?_) ?_;rotate_left;(· go_simp;try with_reducible rfl)
   refine kX ?_
   refine jX (v:=?_) rfl (fun W hW=>?_) ?_;rotate_left;(· have cg:=kF (hW.1.kD B bB9) (j:=0) (v:=.slice a n c) rfl;clear hW;go_simp;try with_reducible rfl)
   refine kX ?_
   refine jX (v:=?_) rfl (fun W hW=>?_) ?_;rotate_left;(· go_simp;try with_reducible rfl)
   refine kX ?_
   refine yu rfl (fun K J=>?_);go_simp;refine J _ _ ⟨E.1.trans (Touch.of_below (bR.alloc nL _)),E.2.below (bR.alloc nL _)⟩ ?_;clear J K
   refine kX ?_
   refine yu rfl (fun K J=>?_);go_simp;refine (zo (E.2.below (bR.alloc nL _)) (kE.kAw _ [{ data:=#[] },{ data:=#[65] },{ data:=#[116,111,111,108,111,110,103,120,120] },{ data:=#[97,47,98] },{ data:=#[32] },{ data:=#[101,105,103,104,116,56,56,56] }] bB8 bB8) (by have:=E.1.size;omega) bB8 bB8).mono ?_;rintro e wS1 ⟨y,al,a8,rfl,be,a9⟩;replace E:=And.intro ((E.1.trans (Touch.of_below (bR.alloc nL _))).trans a9) be;clear be a9;refine J _ _ E ?_;clear J K
   refine kX ?_
   refine yu rfl (fun K J=>?_);go_simp;have a2:=yD (kE.kGr (e:=9) wS1 (kE.kCy (s:=y) mX));have aa:Touch (fun k=>k=p) w4 (World.alloc wS1 (Obj.cells #[Value.string y] 9))∧yK w0 (World.alloc wS1 (Obj.cells #[Value.string y] 9)) p:=⟨E.1.trans (Touch.of_below (bR.alloc nL _)),E.2.below (bR.alloc nL _)⟩;generalize aw:World.alloc wS1 (Obj.cells #[Value.string y] 9)=wU at a2 aa ⊢;clear aw;refine J _ _ aa ?_;clear J K E
   refine kX ?_
   have bi:=aa.1.size
   have R5:=aa.1.kD R bB9
   have B5:=aa.1.kD B bB9
   have Y:=H.trans aa.1
   have bc:=aa.2
   replace L:=yD (L.out.touch aa.1 qB)
   clear R B H hc
   obtain ⟨v3,u3,ba,af,an⟩:=kE.kVb (P:=prog) (t:=39) (ty:=39) (r:=kE.str) (e:=9) (v:=.slice a n c) (xs:=ps) underlying39 kCp rfl bB8 bB8 kE.kCg L.out (a2.out.own bB6).rd bB5
   have b3:=an.size
   have B6:=an.kD B5 (fun q=>by have:=q.2;omega)
   have R6:=an.kD R5 tT
   have aq:=Y.kBj an sM
   have am:=bc.touch an tT sM
   obtain ⟨a3,n3,c3,ac,ai⟩:=af.parts
   obtain rfl:=ac
   have ae:=yD af
   have az:=yD (ah.out.snoc (kE.kBz bB8 al))
   generalize ag:ps++[y]=qs at *
   have bf:qs.length≤4:=by rw [← ag];simp;omega
   have K6:u3.cell? ⟨V.heap.size,0,none⟩=some (.slice a n c):=kF B6 rfl
   have F6:u3.frozen? ⟨V.heap.size,0,none⟩=false:=frozen_of_row u3 V.heap.size 0 _ _ B6
   clear ag af L a2 B5 R5 Y bc aa an
   refine zl trivial ?_
   refine ko rfl (fun K J=>?_);refine kE.jP _ _ _ rfl bC1 bC1 ba ?_;refine J _ _ trivial ?_;clear J K
   refine kX ?_
   refine kS ?_
   refine ko rfl (fun K J=>?_);go_simp;refine J _ _ trivial ?_;clear J K
   refine kX ?_
   refine kZ ?_
   generalize F:World.setCell u3 _ _=w7
   have T7:Touch (fun k=>k=V.heap.size) u3 w7:=sU
   have B7:w7.heap[V.heap.size]?=some (.cells #[.slice a3 n3 c3] 41 (0,0)):=by rw [← F];exact kH B6 0
   have z7:=T7.size
   clear F K6 F6
   have ab:=yD (ae.out.touch T7 (fun k hk=>by rcases hk with hk | hk;(have:=hk.2;omega);omega))
   have R7:=T7.kD R6 bB9
   have bb:=am.touch T7 bB9 wB
   have bd:=aq.jJ T7 bB9
   clear ae R6 am aq T7
   have KR:w7.cell? ⟨w.heap.size,0,none⟩=some (.slice none 0 0):=kF R7 rfl
   have KB:=kF B7 (j:=0) (v:=.slice a3 n3 c3) rfl
   have FR:w7.frozen? ⟨w.heap.size,0,none⟩=false:=frozen_of_row w7 w.heap.size 0 _ _ R7
   obtain ⟨_,_,_,a1,a7⟩:=ab.out.parts
   simp only [Value.slice.injEq] at a1
   have cq:=yD (a1.2.1.trans a7.out)
   clear a1 a7
   go_wp2
   refine bodyPost_ret (v:=.agg #[.slice a3 n3 c3]) nH rfl ⟨_,_,qs,by rw [cq.out],?_,by omega,az.out,bb.touch (kC w7 w.heap.size 0 _) bB9 wB,bd.jJ (kC w7 w.heap.size 0 _) bB9⟩
   have hq:=(ab.out.touch (kC w7 w.heap.size 0 (.slice a3 n3 c3)) (fun k hk=>by rcases hk with hk | hk;(have:=hk.1;omega);omega)).own vV
   rw [cq.out] at hq ⊢
   exact hq.wide (fun j I=>⟨by rcases I with I | I;(have:=I.1;omega);omega,by rcases I with I | I;(have:=I.2;simp [World.setCell];omega);(simp [World.setCell];omega)⟩)
 have bm:¬ (m:Int)=0:=bB9
 by_cases ao:m=1
 · subst ao
   go_wp2
   go_loopw [] (fun wr=>∃ (a:Option Addr) (n c:Nat) (ps:List ByteArray),ps.length≤8∧Hid (yM ps)∧Hid (n=ps.length)∧Hid (kE.ku 9 kE.str wr (.slice a n c) ps (fun k=>(w1.heap.size≤k∧k < V.heap.size)∨(w4.heap.size≤k∧k < wr.heap.size)))∧wr.heap[w.heap.size]?=some (.cells #[.slice none 0 0] 41 (0,0))∧wr.heap[V.heap.size]?=some (.cells #[.slice a n c] 41 (0,0))∧w4.heap.size≤wr.heap.size∧yK w0 wr p∧Touch (fun k=>k=p) w wr) (fun wr=>match wr.cell? ⟨V.heap.size,0,none⟩ with | some (.slice _ n _)=>9 - n | _=>0)
   case atStart =>
    obtain ⟨_,_,_,a1,a7⟩:=L.out.parts
    simp only [Value.slice.injEq] at a1
    exact ⟨a,n,c,ps,by omega,ah,yD (a1.2.1.trans a7.out),yD (L.out.wide (fun k hk=>.inl hk)),R,B,Nat.le_refl _,hc,H⟩
   clear hc H R B L aj ah
   obtain ⟨a,n,c,ps,aj,ah,HN,L,R,B,dh,hc,H⟩:=hrel
   have KM:=yD (show wr.cell? ⟨V.heap.size,0,none⟩=some (.slice a n c) from kF B rfl)
   have au:(n:Int)=ps.length:=by rw [HN.out]
   have a4:=yD au
   clear au
   go_upto_region 6 with fail
   have FX:=yD (fun (W:World) (hW:Touch (fun k=>k=p) wr W∧yK w0 W p)=>kF (hW.1.kD B bB9) (j:=0) (v:=.slice a n c) rfl)
   refine kW (fun W=>Touch (fun k=>k=p) wr W∧yK w0 W p) [true,true,true,true,false,true,true] bB4 bB4 qD (⟨Touch.of_below bR.drew,hc.below bR.drew⟩) ?_
   intro wS E
   iterate 4
    all_goals refine kS ?_
   all_goals first|(refine kK rfl E ?_)|(refine ko rfl (fun K J=>?_);go_simp;refine (kV (n:=3) E.2 bB8).mono ?_;rintro e wS1 ⟨x,ax,Z,b4,rfl,be,a9⟩;replace Z:=Z bB8;clear b4;replace E:=And.intro (E.1.trans a9) be;clear be a9;have hw:IntKind.i64.wrap (5 + x)=5 + x:=IntWalk.i64_in _ bB9;refine J _ _ E ?_;clear J K)
   all_goals refine kX ?_
   all_goals refine kS ?_
   all_goals (have O:=True.intro;first|(refine yT (fun b O=>?_);cases b;all_goals first | exact Bool.noConfusion O | simp only [zU,zV] at O | skip) | refine kS ?_)
   all_goals refine kX ?_
   all_goals refine kZ ?_
   all_goals have hzs:=E.1.size
   all_goals replace R:=E.1.kD R bB9
   all_goals replace B:=E.1.kD B bB9
   all_goals replace H:=H.trans E.1
   all_goals have bc:=E.2
   all_goals replace L:=yD (L.out.touch E.1 nR)
   all_goals clear hc E
   · clear O
     have KR:wS1.cell? ⟨w.heap.size,0,none⟩=some (.slice none 0 0):=kF R rfl
     have KB:=kF B (j:=0) (v:=.slice a n c) rfl
     have FR:wS1.frozen? ⟨w.heap.size,0,none⟩=false:=frozen_of_row wS1 w.heap.size 0 _ _ R
     obtain ⟨_,_,_,a1,a7⟩:=L.out.parts
     simp only [Value.slice.injEq] at a1
     have cq:=yD (a1.2.1.trans a7.out)
     clear a1 a7
     go_wp2
     refine bodyPost_ret (v:=.agg #[.slice a n c]) nH rfl ⟨_,_,ps,by rw [cq.out],?_,by omega,ah.out,bc.touch (kC wS1 w.heap.size 0 _) bB9 wB,H.jJ (kC wS1 w.heap.size 0 _) bB9⟩
     have hq:=(L.out.touch (kC wS1 w.heap.size 0 (.slice a n c)) nR).own vV
     rw [cq.out] at hq ⊢
     exact hq.wide (fun j I=>⟨by rcases I with I | I <;> omega,by rcases I with I | I <;> (simp [World.setCell];omega)⟩)
   have hlt:(n:Int) < 5 + x:=bA8
   have cq:=HN.out
   have KB:wS1.cell? ⟨V.heap.size,0,none⟩=some (.slice a n c):=kF B rfl
   have eh:=cL (kE.zD wS1 (.cells #[.string { data:=#[109] }] 9)) KB
   clear O cq
   go_wp2_with (at_builtin;refine kE.kWb rfl _ _ 39 rfl (r:=kE.str) (e:=9) underlying39 kCp rfl bB8 bB8 kE.kCg (L.out.below (kE.zD wS1 (.cells #[.string { data:=#[109] }] 9))) bC1 bC1 ((kE.kGr (e:=9) wS1 (kE.kCy (s:={ data:=#[109] }) bB8)).own bB6).rd bB5 ?_)
   intro v6 w6 ay X
   have T6:=(Touch.of_below (S:=fun k=>(w1.heap.size≤k∧k < V.heap.size)∨(w4.heap.size≤k∧k < wr.heap.size)) (kE.zD wS1 (.cells #[.string { data:=#[109] }] 9))).trans X
   have z6:=T6.size
   have zA:wS1.heap.size + 1≤w6.heap.size:=by have:=X.size;simpa using this
   have R6:=T6.kD R qI
   have B6:=T6.kD B qI
   have aq:=H.kBj T6 pU
   have am:=bc.touch T6 qI pU
   have ae:=yD (ay.wide (T:=fun k=>(w1.heap.size≤k∧k < V.heap.size)∨(w4.heap.size≤k∧k < w6.heap.size)) (fun k q=>by rcases q with (q | q) | q;exact .inl q;exact .inr ⟨q.1,by omega⟩;exact .inr ⟨by have:=q.1;omega,q.2⟩))
   obtain ⟨U,n6,N,bg,a5⟩:=ay.parts
   obtain rfl:=bg
   have bf:(ps++[({ data:=#[109] }:ByteArray)]).length=ps.length + 1:=bC0
   have a6:=yD (ah.out.snoc (y:={ data:=#[109] }) bB8)
   generalize ps++[({ data:=#[109] }:ByteArray)]=qs at *
   have ar:=yD bf
   clear bf ay X T6 R B H bc L KB eh
   have K6:w6.cell? ⟨V.heap.size,0,none⟩=some (.slice a n c):=kF B6 rfl
   have F6:w6.frozen? ⟨V.heap.size,0,none⟩=false:=frozen_of_row w6 V.heap.size 0 _ _ B6
   go_wp2
   generalize F:World.setCell w6 _ _=w7
   have T7:Touch (fun k=>k=V.heap.size) w6 w7:=sU
   have B7:w7.heap[V.heap.size]?=some (.cells #[.slice U n6 N] 41 (0,0)):=by rw [← F];exact kH B6 0
   have z7:=T7.size
   clear F K6 F6
   have ab:=yD ((ae.out.touch T7 pU).wide (T:=fun k=>(w1.heap.size≤k∧k < V.heap.size)∨(w4.heap.size≤k∧k < w7.heap.size)) (fun k q=>by rcases q with q | q;exact .inl q;exact .inr ⟨q.1,by omega⟩))
   go_roundw
   case rel=>exact ⟨U,n6,N,qs,by have:=ar.out;have:=a4.out;omega,a6,yD a5.out,ab,T7.kD R6 bB9,B7,by omega,am.touch T7 bB9 wB,aq.jJ T7 bB9⟩
   simp only [KM.out,kF B7 (j:=0) (v:=.slice U n6 N) rfl];have h1:=ar.out;have h2:=a5.out;have h3:=a4.out;omega
 have bv:¬ (m:Int)=1:=bB9
 have KR:w4.cell? ⟨w.heap.size,0,none⟩=some (.slice none 0 0):=kF R rfl
 have KB:=kF B (j:=0) (v:=.slice a n c) rfl
 have FR:w4.frozen? ⟨w.heap.size,0,none⟩=false:=frozen_of_row w4 w.heap.size 0 _ _ R
 obtain ⟨_,_,_,a1,a7⟩:=L.out.parts
 simp only [Value.slice.injEq] at a1
 have cq:=yD (a1.2.1.trans a7.out)
 clear a1 a7
 go_wp2
 refine bodyPost_ret (v:=.agg #[.slice a n c]) nH rfl ⟨_,_,ps,by rw [cq.out],?_,by omega,ah.out,hc.touch (kC w4 w.heap.size 0 _) bB9 wB,H.jJ (kC w4 w.heap.size 0 _) bB9⟩
 have hq:=(L.out.touch (kC w4 w.heap.size 0 (.slice a n c)) sM).own vV
 rw [cq.out] at hq ⊢
 exact hq.wide fK
theorem specl4Any_c {w0 w:World} {p:Nat} (hc:yK w0 w p) :
    Calls prog 114 #[.pointer (some ⟨p,0,none⟩)] w fun e w'=>∃ a c ps,e=.returned (.agg #[.slice a ps.length c])∧kM.own w' [.slice a ps.length c] ps (jR w.heap.size w'.heap.size)∧ps.length≤8∧yK w0 w' p∧Touch (fun k=>k=p) w w' :=
  (kEy hc).mono fun e w1 ⟨a,c,ps,h0,h1,h2,_,h4⟩=>⟨a,c,ps,h0,h1,h2,h4⟩
end Go.Proofs.YtonmjkmaadgceaaGreat

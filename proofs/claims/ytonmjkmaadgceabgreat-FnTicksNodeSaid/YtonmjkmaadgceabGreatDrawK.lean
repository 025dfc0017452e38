/-
  Patterns, rules, keys and trust as the reference draws them.
-/
import Derived.Test.YtonmjkmaadgceabGreatLenN
set_option linter.unusedVariables false
set_option linter.defProp false
set_option linter.unusedSimpArgs false
set_option linter.unnecessarySimpa false
set_option maxRecDepth 100000
set_option maxHeartbeats 8000000
open Bool renaming true->Tt,false->Ff
open Go.Act renaming put->Aa
open _root_ renaming Option->Ab,List->Aj,ByteArray->Ap
open Go renaming World->Ac,Addr->Ae,bodyPost_ret->Ag,Value->Ak,frozen_of_row->Al
open Option.some renaming injEq->Ad
open List renaming getElem_mem->Ah,mem_singleton->Am
open Go.Addr.mk renaming injEq->Ai
namespace Go.Proofs.YtonmjkmaadgceabGreat
open Go.RowKit _root_.Go.Proofs.Tryz
def ParsedPat (w:Ac) (e:Ending) (w':Ac):Prop:=∃ a c b ps,e=.returned (.tuple #[.agg #[Qs a ps c],.bool b])/\zR.own w' [Qs a ps c] ps (jX w.heap.size w'.heap.size)/\ps.length<=64/\Hid (yj ps)/\Qb w w'
def kGc {w:Ac} {s:Ap} (hs:s.size<=64) :
    Calls prog 186 #[.string s] w (ParsedPat w):=by
 go_enter func186,ntmps186
 cases hq:(s.toList==[47])
 case true =>
  go_wp2;refine Ag (v:=.tuple #[.agg #[.slice none 0 0],.bool true]) (by simp [results,results186,go_sem]) rfl ⟨none,0,true,[],rfl,kD.jd,by simp,yD yj.nil,?_⟩;exact bF
 go_wp2_with fail
 refine (kMi (by0:=47) hs bC8).mono ?_
 rintro e V ⟨v,rfl,ps,O2,bf,b4,E,ak⟩
 have ae:=yD (E.drop 1)
 clear E
 obtain ⟨b2,c2,rfl,H,az,bc,aa⟩:=kD.kAn O2 bf
 have a6:=ak.size
 have J:=yD O2
 clear O2
 have o:(0:Int) < ps.length:=bC9
 have ag:(1:Int)<=ps.length:=bC9
 have ac:(ps.length:Int)<=c2:=bC9
 have D:c2<=9223372036854775807:=aa
 go_upto_region 5 with fail
 have HD:Hid (1 < ps.length->(kD.slice 9 kD.str).own V [.slice (if c2=1 then some ⟨b2,0,none⟩ else some ⟨b2,1,none⟩) (ps.length - 1) (c2 - 1)] (ps.drop 1) (jX (w.heap.size + 1) V.heap.size)):=yD (by
   intro h1;have h:=(J.out.own wH).wide (T:=jX (w.heap.size + 1) V.heap.size) mZ;have G:¬ c2=1:=bC9;rw [if_neg G];exact kD.kPf h (k:=1) bC9)
 generalize (if c2=1 then some ⟨b2,0,none⟩ else some ⟨b2,1,none⟩:Ab Ae)=A at *
 obtain ⟨cb,Z,he,c0,cr,ax⟩:=kD.kCv (J.out.kBc) (i:=0) bf rfl
 simp only [Ad,Ai,and_true] at he
 obtain ⟨rfl,rfl⟩:=he
 have ba:[c0]=[.string ps[0]]:=(kD.zi cr).1
 obtain rfl:c0=.string ps[0]:=wY
 clear cr ba
 generalize ps[0]=y0 at *
 have br:=yD (show (ps.drop 1).length=ps.length - 1 by simp)
 generalize ps.drop 1=qs at *
 have HM:=yD b4
 generalize X:World.alloc V _=wC
 have EC:Qb V wC:=rO
 have U:Qr V w.heap.size #[.slice none 0 0] 174:=kC (kG rfl) ak
 have B5:Qr wC V.heap.size #[.slice A (ps.length - 1) (c2 - 1)] 174:=vD
 clear X
 obtain ⟨ca,bx,E2,U,HD,R,K5⟩:=EY
 clear ax ak H J a6
 by_cases h2:(ps.length:Int) < 2
 · have K2:=kE U (j:=0) rfl;have F2:=Al wC w.heap.size 0 _ _ U;clear R;exact bC
 cases hy:y0.toList.isEmpty
 case false =>
  have K2:=kE U (j:=0) rfl;have F2:=Al wC w.heap.size 0 _ _ U;exact bC
 replace HD:=yD (HD.out bC9)
 go_wp2_with fail
 refine (kDk (p:=qs) HD.out.rd.1).mono ?_
 rintro e w3 ⟨rfl,ar⟩
 have bk:=ar.size
 replace HD:=yD (HD.out.below ar)
 have E3:=(tQ E2 ar)
 replace K5:=cL ar K5
 replace U:=kC U ar
 have K2:=kE U (j:=0) rfl
 have F2:=Al w3 w.heap.size 0 _ _ U
 clear R
 generalize hv:kLt qs=b
 cases b
 · go_wp2;refine Ag (v:=.tuple #[.agg #[.slice none 0 0],.bool false]) mW rfl ⟨none,0,false,[],rfl,kD.jd,by simp,yD yj.nil,?_⟩;exact E3.setCell bD0 _
 go_wp2
 refine Ag (v:=.tuple #[.agg #[.slice A (ps.length - 1) (c2 - 1)],.bool true]) mW rfl ⟨A,c2 - 1,true,qs,by rw [br.out],?_,by rw [br.out];omega,ae,E3.setCell bD0 _⟩
 rw [br.out]
 exact ((HD.out.touch (jZ w3 w.heap.size 0 _) sD).wide fB)
def rule_form {w:Ac} {ds:Aj Ak} {r:kJv} (h:kLd.raw w ds r):∃ a c a2 c2,ds=[.slice a r.1.length c,.slice a2 r.2.length c2]:=by
 obtain ⟨v0,v1,rfl,ab,Z,ai,ah⟩:=kYu h;obtain ⟨a0,c0,rfl,_⟩:=kD.sl Z;obtain ⟨a1,c1,rfl,_⟩:=kD.sl ah;exact ⟨_,_,_,_,rfl⟩
def ParsedRule (w:Ac) (e:Ending) (w':Ac):Prop:=∃ ds r b,e=.returned (.tuple #[.agg ds.toArray,.bool b])/\kLd.own w' ds r (jX w.heap.size w'.heap.size)/\Qb w w'
def list3_get {α:Type} {l:List α} (h:l.length=3):0 < l.length/\1 < l.length/\2 < l.length:=by omega
def kSe {w:Ac} {s:Ap} (hs:s.size<=64) :
    Calls prog 156 #[.string s] w (ParsedRule w):=by
 go_enter func156,ntmps156
 go_upto_region 1 with fail
 generalize F:World.alloc w _=Y
 have X:Qb w Y:=rM
 have R:Qr Y w.heap.size #[.slice none 0 0,.slice none 0 0] 176:=vB
 have bd:w.heap.size + 1<=Y.heap.size:=bB1
 clear F
 have U:=X
 clear X
 go_wp2_with fail
 refine (kMi (by0:=32) hs bC8).mono ?_
 rintro e V ⟨v,rfl,ps,O2,bf,b4,be,hb⟩
 have bk:=hb.size
 replace R:=kC R hb
 replace U:=(tQ U hb)
 clear hb
 obtain ⟨b2,c2,rfl,H,az,bc,aa⟩:=kD.kAn O2 bf
 have J:=yD O2.kBc
 clear O2 H
 by_cases h3:ps.length=3
 · obtain ⟨g0,g1,g2⟩:=list3_get h3;have O:=be _ (Ah g0);have af:=be _ (Ah g2);obtain ⟨cb,Z,he,N,cr,ax⟩:=kD.kCv J.out (i:=0) g0 rfl;simp only [Ad,Ai,and_true] at he;obtain ⟨rfl,rfl⟩:=he;have ba:[N]=[.string ps[0]]:=(kD.zi cr).1;obtain rfl:N=.string ps[0]:=wY;clear cr ba;obtain ⟨cb,Z,he,ab,cr,o⟩:=kD.kCv J.out (i:=1) g1 rfl;simp only [Ad,Ai,and_true] at he;obtain ⟨rfl,rfl⟩:=he;have ba:[ab]=[.string ps[1]]:=(kD.zi cr).1;obtain rfl:ab=.string ps[1]:=wY;clear cr ba;obtain ⟨cb,Z,he,W,cr,D⟩:=kD.kCv J.out (i:=2) g2 rfl;simp only [Ad,Ai,and_true] at he;obtain ⟨rfl,rfl⟩:=he;have ba:[W]=[.string ps[2]]:=(kD.zi cr).1;obtain rfl:W=.string ps[2]:=wY;clear cr ba;simp only [Nat.zero_add] at ax o D;generalize ps[0]=y0 at *;generalize ps[1]=y1 at *;generalize ps[2]=y2 at *;clear be J bf b4 az;have ac:(3:Int)<=c2:=bC9;rw [h3];clear h3 g0 g1 g2 bc;cases hy:(y1.toList==[60])
   · have ad:Qd V w 0 (.slice none 0 0):=kE R rfl;have an:Qd V w 1 (.slice none 0 0):=kE R rfl;exact bO
   go_wp2_with fail;refine (kGc O).mono ?_;rintro e w3 ⟨pa,pc,ae,P,rfl,hr,dj,ai,hb⟩;have bl:=hb.size;replace R:=kC R hb;replace ax:=cL hb ax;replace o:=cL hb o;replace D:=cL hb D;replace U:=(tQ U hb);clear hb;have HP:=yD (hr);clear hr;go_upto_region 5 with fail;generalize F:World.alloc w3 _=w4;have a2:Qb w3 w4:=rM;have G:Qr w4 w3.heap.size #[Qs pa P pc] 174:=vB;have bw:w3.heap.size + 1<=w4.heap.size:=bB1;clear F;replace R:=kC R a2;replace ax:=cL a2 ax;replace o:=cL a2 o;replace D:=cL a2 D;replace HP:=yD (HP.out.below a2);replace U:=(tQ U a2);clear a2;go_wp2_with fail;refine (kGc af).mono ?_;rintro e w5 ⟨qa,qc,ah,Q,rfl,hr,a8,E,hb⟩;have bv:=hb.size;replace R:=kC R hb;replace G:=kC G hb;replace ax:=cL hb ax;replace o:=cL hb o;replace D:=cL hb D;replace HP:=yD (HP.out.below hb);replace U:=(tQ U hb);clear hb;have HQ:=yD (hr);clear hr;go_upto_region 6 with fail;generalize F:World.alloc w5 _=w6;have aq:Qb w5 w6:=rM;have BQ:Qr w6 w5.heap.size #[Qs qa Q qc] 174:=vB;have cf:w5.heap.size + 1<=w6.heap.size:=bB1;clear F;replace R:=kC R aq;replace G:=kC G aq;replace ax:=cL aq ax;replace o:=cL aq o;replace D:=cL aq D;replace HP:=yD (HP.out.below aq);replace HQ:=yD (HQ.out.below aq);replace U:=(tQ U aq);clear aq;have L:Qd w6 w3 0 (.slice pa P.length pc):=kE G rfl;have b3:Qd w6 w5 0 (.slice qa Q.length qc):=kE BQ rfl;go_upto_region 7 with fail;generalize F:World.alloc w6 _=w7;have ag:Qb w6 w7:=rM;have BR:Qr w7 w6.heap.size #[Qs pa P pc,Qs qa Q qc] 176:=vB;have dp:w6.heap.size + 1<=w7.heap.size:=bB1;clear F;replace R:=kC R ag;replace G:=kC G ag;replace BQ:=kC BQ ag;replace ax:=cL ag ax;replace o:=cL ag o;replace D:=cL ag D;replace HP:=yD (HP.out.below ag);replace HQ:=yD (HQ.out.below ag);replace U:=(tQ U ag);clear L b3;clear ag;cases ae
   · exact dJ
   cases ah
   · exact dJ
   have a4:Qd w7 w6 0 (.slice pa P.length pc):=kE BR rfl;have a5:Qd w7 w6 1 (.slice qa Q.length qc):=kE BR rfl;have av:=yD (kD.jl (r:=zR) (q:=zR) (cs:=[.slice pa P.length pc]) (ds:=[.slice qa Q.length qc]) (S:=λk=>w.heap.size < k/\k < w7.heap.size) HP.out HQ.out mJ mJ nT);clear HP HQ;go_wp2_with fail;refine (kSb (cr:=[.slice pa P.length pc,.slice qa Q.length qc]) (r:=(P,Q)) av.out.raw).mono ?_;rintro e w8 ⟨rfl,hb⟩;have c7:=hb.size;replace R:=kC R hb;replace G:=kC G hb;replace BQ:=kC BQ hb;replace BR:=kC BR hb;replace ax:=cL hb ax;replace o:=cL hb o;replace D:=cL hb D;replace av:=yD (av.out.below hb);replace U:=(tQ U hb);clear a4 a5;clear hb;generalize kQv (P,Q)=vr;cases vr
   · have ad:Qd w8 w 0 (.slice none 0 0):=kE R rfl;have an:Qd w8 w 1 (.slice none 0 0):=kE R rfl;exact bO
   have a4:Qd w8 w6 0 (.slice pa P.length pc):=kE BR rfl;have a5:Qd w8 w6 1 (.slice qa Q.length qc):=kE BR rfl;obtain ⟨ad,an⟩:=yT R;obtain ⟨aj,al⟩:=kCm R;go_wp2;refine Ag (v:=.tuple #[.agg #[Qs pa P pc,Qs qa Q qc],.bool true]) gL rfl ⟨[Qs pa P pc,Qs qa Q qc],(P,Q),true,rfl,?_,?_⟩
   · exact (av.out.touch sT2 rZ).wide fB
   exact U.trans (Touch.below sT2 U.size wM)
 have dq:¬ (ps.length:Int)=3:=bC9
 obtain ⟨ad,an⟩:=yT R
 exact bO
def kTb {w:Ac} {cs:Aj Ak} {x:ko} (h:kU.raw w cs x):∃ a c,cs=[.slice a x.length c]:=by
 obtain ⟨v0,rfl,h0⟩:=kZ h;obtain ⟨a,c,h1,_⟩:=kD.kAy h0;obtain rfl:v0=_:=by simpa using h1
 exact ⟨a,c,rfl⟩
def SignedW (m:Nat) (w:Ac) (e:Ending) (w':Ac):Prop:=∃ ds x ok,e=.returned (.tuple #[.agg ds.toArray,.bool ok])/\jJ.own w' ds x (jX w.heap.size w'.heap.size)/\x.2.1.length<=m/\Qb w w'
def kYp {w:Ac} {S:Nat->Prop}:jJ.own w [.slice none 0 0,.slice none 0 0,.slice none 0 0,Qn 0,Qn 0] ([],[],[],0,0) S:=⟨jJ.is_zero,jJ.bdd_zero⟩
def kEa {w:Ac} {vl:Ak} {l:Aj kNu} (hl:(kD.slice 173 kJg).raw w [vl] l) {cb:Aj Ak} {yb:ko} (hby:kU.rd w cb yb) {cn:Aj Ak} {n:ko} (hn:kU.rd w cn n) {D:Ak} {b_:Aj UInt8} (V:(kD.slice 5 kD.byte).rd w [D] b_) (aw:b_.length<=1000) {tl:Int} (ht:Qi tl) :
    Calls prog 162 #[vl,.agg cb.toArray,.agg cn.toArray,D,.int .i64 tl] w (SignedW b_.length w):=by
 obtain ⟨la,lc,rfl,_⟩:=kD.sl hl
 obtain ⟨ya,X,rfl⟩:=kTb hby.1
 obtain ⟨na,nc,rfl⟩:=kTb hn.1
 obtain ⟨ba,bc,rfl,_⟩:=kD.sl V.1
 have HL:=yD hl
 have HY:=yD hby
 have HN:=yD hn
 have HB:=yD V
 have ar:=sec_rng (n:=yb) hl
 clear hl hby hn V
 go_enter func162,ntmps162
 go_upto_region 1 with fail
 generalize F:World.alloc (World.alloc (World.alloc w _) _) _=Y
 have U:Qb w Y:=by rw [<- F];exact bF
 have BY:Qr Y w.heap.size #[Qs ya yb X] 40:=qO
 have BN:Qr Y (w.heap.size + 1) #[Qs na n nc] 40:=by rw [<- F];exact jV (kG bD0)
 obtain ⟨BR,bd⟩:=FQ
 clear F
 go_cut [12] from 13 to 22 (λab wc=>∃ (b:Nat) (ac ai am:Ab Ae) (ae af ah:Nat) (sg:Int),ab=.pointer (some ⟨b,0,none⟩)/\Qr wc b #[Qs ac n ae,Qs ai b_ af,Qs am yb ah,Qn tl,Qn sg] 68/\Hid (jJ.own wc [Qs ac n ae,Qs ai b_ af,Qs am yb ah,Qn tl,Qn sg] (n,b_,yb,tl,sg) (Ql Y wc b))/\Y.heap.size<=b/\b < wc.heap.size/\Qb Y wc)
 case first =>
  have FX:=yD (λ(W:Ac) (hW:Qb Y W)=>And.intro (kE (kC BY hW) (j:=0) (v:=.slice ya yb.length X) rfl) (kE (kC BN hW) (j:=0) (v:=.slice na n.length nc) rfl));refine yR (λW=>Qb Y W) bC3 (bR.drew) ?_;intro t E;have d9:=E.size;refine kQ 0 ?_;refine kQ 1 ?_;refine kQ 3 ?_;refine kQ 4 ?_;refine kQ 5 ?_;refine kQ 6 ?_;refine kQ 7 ?_;refine kIq ?_;intro T A hT hA;have G:∀ (ac:Ab Ae) (ae:Nat) (ai:Ab Ae) (af:Nat) (am:Ab Ae) (ah:Nat) (sg:Int) (b:Nat) (W:Ac),Qb Y W->(Hid (jJ.own W [Qs ac n ae,Qs ai b_ af,Qs am yb ah,Qn tl,Qn sg] (n,b_,yb,tl,sg) (Ql Y W b)))->(Y.heap.size<=b/\b < W.heap.size)->(Qr W b #[Qs ac n ae,Qs ai b_ af,Qs am yb ah,Qn tl,Qn sg] 68)->T 0 [Tt,Tt,Tt,Tt,Tt,Tt,Tt,Tt,Tt,Tt,Tt] (Aa (Aa (Aa A (some 15) (.int .i64 (kBq l yb))) (some 21) (.agg #[Qs ac n ae,Qs ai b_ af,Qs am yb ah,Qn tl,Qn sg])) (some 12) (.pointer (some ⟨b,0,none⟩))) W:=by
   intro ac ae ai af am ah sg b W E HQ o BB;have bo:=E.size;subst hT;subst hA;simp only [Aa,zA,zB,zC];refine jf bC3 ?_;go_wp2;go_meet;exact ⟨b,ac,ai,am,ae,af,ah,sg,rfl,BB,HQ,o.1,o.2,E⟩
  have J:∀ (ac:Ab Ae) (ae:Nat) (ai:Ab Ae) (af:Nat) (am:Ab Ae) (ah:Nat) (sg:Int) (b:Nat) (W:Ac),Qb Y W->(Hid (jJ.own W [Qs ac n ae,Qs ai b_ af,Qs am yb ah,Qn tl,Qn sg] (n,b_,yb,tl,sg) (Ql Y W b)))->(Y.heap.size<=b/\b < W.heap.size)->(Qr W b #[.slice none 0 0,.slice none 0 0,.slice none 0 0,Qn 0,Qn 0] 68)->T 1 [Tt,Tt,Tt,Tt,Tt,Tt,Tt,Tt,Tt,Tt,Ff] (Aa (Aa (Aa A (some 15) (.int .i64 (kBq l yb))) (some 21) (.agg #[Qs ac n ae,Qs ai b_ af,Qs am yb ah,Qn tl,Qn sg])) (some 12) (.pointer (some ⟨b,0,none⟩))) W:=by
   intro ac ae ai af am ah sg b W E HQ o BB;have bo:=E.size;subst hT;subst hA;simp only [Aa,zA,zB,zC];refine kP (k:=10) rfl bC3 rfl (λK H=>?_);obtain ⟨dg,c8,dd,db,dk⟩:=yt BB;obtain ⟨c5,dh,dr,dm,df⟩:=kBr BB;go_simp;generalize F:World.setCell (World.setCell (World.setCell (World.setCell (World.setCell W _ _) _ _) _ _) _ _) _ _=v;have hT:Touch (λk=>k=b) W v:=(by rw [<- F];exact sT5);replace BB:Qr v b #[Qs ac n ae,Qs ai b_ af,Qs am yb ah,Qn tl,Qn sg] 68:=(by rw [<- F];exact kK (kK (kK (kK (kK (BB) 0) 1) 2) 3) 4);clear F dg c5 c8 dh dd dr db dm dk df;have zv:=hT.size;replace HQ:Hid (jJ.own v [Qs ac n ae,Qs ai b_ af,Qs am yb ah,Qn tl,Qn sg] (n,b_,yb,tl,sg) (Ql Y v b)):=yD ((HQ.out.touch hT (λk q h=>q.2.2 h)).wide (λk q=>⟨q.1,Nat.lt_of_lt_of_le q.2.1 hT.size,q.2.2⟩));replace o:Y.heap.size<=b/\b < v.heap.size:=⟨o.1,Nat.lt_of_lt_of_le o.2 hT.size⟩;replace E:=E.trans (hT.below E.size wM);refine H _ _ E ?_;clear H K;refine jF ?_;have h_:=G ac ae ai af am ah sg b v E HQ o BB;exact aY
  have Z:∀ (ac:Ab Ae) (ae:Nat) (ai:Ab Ae) (af:Nat) (am:Ab Ae) (ah:Nat) (sg:Int) (W:Ac),Qb Y W->(Hid (jJ.own W [Qs ac n ae,Qs ai b_ af,Qs am yb ah,Qn tl,Qn sg] (n,b_,yb,tl,sg) (λk=>Y.heap.size<=k/\k < W.heap.size/\k≠w.heap.size)))->T 2 [Tt,Tt,Tt,Tt,Tt,Tt,Tt,Tt,Tt,Ff,Ff] (Aa (Aa A (some 15) (.int .i64 (kBq l yb))) (some 21) (.agg #[Qs ac n ae,Qs ai b_ af,Qs am yb ah,Qn tl,Qn sg])) W:=by
   intro ac ae ai af am ah sg W E HQ;have bo:=E.size;subst hT;subst hA;simp only [Aa,zA,zB,zC];refine kP (k:=9) rfl bC3 rfl (λK H=>?_);go_simp;generalize F:World.alloc W _=v;obtain ⟨hb,BB,zv⟩:=xD;clear F;obtain ⟨b,ag⟩:∃ b_,b_=W.heap.size:=⟨_,rfl⟩;rw [<- ag] at BB ⊢;replace HQ:Hid (jJ.own v [Qs ac n ae,Qs ai b_ af,Qs am yb ah,Qn tl,Qn sg] (n,b_,yb,tl,sg) (Ql Y v b)):=yD ((HQ.out.below hb).wide dD);have o:Y.heap.size<=b/\b < v.heap.size:=⟨by omega,by omega⟩;exact dM
  have R:∀ (b:Nat) (W:Ac),Qb Y W->(Y.heap.size<=b/\b < W.heap.size)->(Qr W b #[.slice none 0 0,.slice none 0 0,.slice none 0 0,Qn 0,Qn 0] 68)->T 2 [Tt,Tt,Tt,Tt,Tt,Tt,Tt,Tt,Ff,Tt,Ff] (Aa (Aa A (some 15) (.int .i64 (kBq l yb))) (some 12) (.pointer (some ⟨b,0,none⟩))) W:=by
   intro b W E o BB;have bo:=E.size;subst hT;subst hA;simp only [Aa,zA,zB,zC];refine kP (k:=8) rfl bC3 rfl (λK H=>?_);go_simp;refine (kGb (s:=kBq l yb) ar (cx:=[.slice na n.length nc,.slice ba b_.length bc,.slice ya yb.length X,.int .i64 tl,.int .i64 0]) (x:=(n,b_,yb,tl,0)) (kVx (S:=λ_=>True) ((HN.out.below U).below E) ((HB.out.below U).below E) ((HY.out.below U).below E) ht bC9) (by show b_.length<=_;omega)).mono ?_;rintro e v ⟨sg,ds,rfl,hO,co,hb⟩;have zv:=hb.size;have ck:=o.2;replace BB:=kC BB hb;replace o:Y.heap.size<=b/\b < v.heap.size:=⟨o.1,Nat.lt_of_lt_of_le o.2 hb.size⟩;obtain ⟨ac,ae,ai,af,am,ah,rfl⟩:=zZ hO.raw;have HQ:Hid (jJ.own v [Qs ac n ae,Qs ai b_ af,Qs am yb ah,Qn tl,Qn sg] (n,b_,yb,tl,sg) (Ql Y v b)):=yD (hO.wide gK);exact dM
  have T2:∀ (W:Ac),Qb Y W->T 3 [Tt,Tt,Tt,Tt,Tt,Tt,Tt,Tt,Ff,Ff,Ff] (Aa A (some 15) (.int .i64 (kBq l yb))) W:=by
   intro W E;have bo:=E.size;subst hT;subst hA;simp only [Aa,zA,zB,zC];refine je (i:=8) (j:=9) rfl rfl bC3 rfl rfl (λK H=>?_) (λK H=>?_)
   · go_simp;refine (kGb (s:=kBq l yb) ar (cx:=[.slice na n.length nc,.slice ba b_.length bc,.slice ya yb.length X,.int .i64 tl,.int .i64 0]) (x:=(n,b_,yb,tl,0)) (kVx (S:=λ_=>True) ((HN.out.below U).below E) ((HB.out.below U).below E) ((HY.out.below U).below E) ht bC9) (by show b_.length<=_;omega)).mono ?_;rintro e v ⟨sg,ds,rfl,hO,co,hb⟩;have zv:=hb.size;obtain ⟨ac,ae,ai,af,am,ah,rfl⟩:=zZ hO.raw;have HQ:Hid (jJ.own v [Qs ac n ae,Qs ai b_ af,Qs am yb ah,Qn tl,Qn sg] (n,b_,yb,tl,sg) (λk=>Y.heap.size<=k/\k < v.heap.size/\k≠w.heap.size)):=yD (hO.wide gK);replace E:=(tQ E hb);refine H _ _ E ?_;clear H K;refine jF ?_;have h_:=Z ac ae ai af am ah sg v E HQ;exact aY
   go_simp;generalize F:World.alloc W _=v;obtain ⟨hb,BB,zv⟩:=xD;clear F;obtain ⟨b,ag⟩:∃ b_,b_=W.heap.size:=⟨_,rfl⟩;rw [<- ag] at BB ⊢;have o:Y.heap.size<=b/\b < v.heap.size:=⟨by omega,by omega⟩;exact dN
  have T9:∀ (b:Nat) (W:Ac),Qb Y W->(Y.heap.size<=b/\b < W.heap.size)->(Qr W b #[.slice none 0 0,.slice none 0 0,.slice none 0 0,Qn 0,Qn 0] 68)->T 3 [Tt,Tt,Ff,Tt,Tt,Tt,Tt,Tt,Ff,Tt,Ff] (Aa A (some 12) (.pointer (some ⟨b,0,none⟩))) W:=by
   intro b W E o BB;have bo:=E.size;subst hT;subst hA;simp only [Aa,zA,zB,zC];refine kP (k:=2) rfl bC3 rfl (λK H=>?_);go_simp;refine (kEb ((HL.out.below U).below E) (cn:=[.slice ya yb.length X]) ((HY.out.1.below U).below E)).mono ?_;rintro e v ⟨rfl,hb⟩;have zv:=hb.size;have ck:=o.2;replace BB:=kC BB hb;replace o:Y.heap.size<=b/\b < v.heap.size:=⟨o.1,Nat.lt_of_lt_of_le o.2 hb.size⟩;exact dN
  subst hT;subst hA;refine je (i:=2) (j:=9) rfl rfl bC3 rfl rfl (λK H=>?_) (λK H=>?_)
  · go_simp;refine (kEb ((HL.out.below U).below E) (cn:=[.slice ya yb.length X]) ((HY.out.1.below U).below E)).mono ?_;rintro e v ⟨rfl,hb⟩;have zv:=hb.size;replace E:=(tQ E hb);refine H _ _ E ?_;clear H K;refine jF ?_;have h_:=T2 v E;exact aY
  go_simp;generalize F:World.alloc t _=v;obtain ⟨hb,BB,zv⟩:=AJ;clear F;obtain ⟨b,ag⟩:∃ b_,b_=t.heap.size:=⟨_,rfl⟩;rw [<- ag] at BB ⊢;have o:Y.heap.size<=b/\b < v.heap.size:=⟨by omega,by omega⟩;exact dO
 obtain ⟨b,ac,ai,am,ae,af,ah,sg,rfl,BQ,HQ,cq,O,L⟩:=hcut
 have zc:=L.size
 replace BY:=kC BY L
 replace BR:=kC BR L
 replace U:=(tQ U L)
 have N:=HL
 replace HL:=yD (N.out.below U)
 have aa:=HY
 replace HY:=yD (aa.out.below U)
 clear N aa HN HB BN L
 have aq:Qd wc w 0 (.slice ya yb.length X):=kE BY rfl
 go_wp2_with fail
 refine (kEb HL.out (cn:=[.slice ya yb.length X]) HY.out.1).mono ?_
 rintro e w4 ⟨rfl,hb⟩
 have bw:=hb.size
 replace BY:=kC BY hb
 replace BR:=kC BR hb
 replace BQ:=kC BQ hb
 replace HQ:=yD (HQ.out.below hb)
 replace HL:=yD (HL.out.below hb)
 replace HY:=yD (HY.out.below hb)
 replace U:=(tQ U hb)
 clear aq
 clear hb
 by_cases da:kBq l yb=0
 · have a4:Qc w4 (w.heap.size + 2) 0 (.slice none 0 0):=kE BR rfl;have a5:Qc w4 (w.heap.size + 2) 1 (.slice none 0 0):=kE BR rfl;have b8:Qc w4 (w.heap.size + 2) 2 (.slice none 0 0):=kE BR rfl;have b5:Qc w4 (w.heap.size + 2) 3 (.int .i64 0):=kE BR rfl;have ca:Qc w4 (w.heap.size + 2) 4 (.int .i64 0):=kE BR rfl;exact eD
 have b3:Qc w4 b 0 (.slice ac n.length ae):=kE BQ rfl
 have ce:Qc w4 b 1 (.slice ai b_.length af):=kE BQ rfl
 have cg:Qc w4 b 2 (.slice am yb.length ah):=kE BQ rfl
 have cd:Qc w4 b 3 (.int .i64 tl):=kE BQ rfl
 have ch:Qc w4 b 4 (.int .i64 sg):=kE BQ rfl
 go_wp2_with fail
 refine (kDf (x:=(n,b_,yb,tl,sg)) HQ.out.raw).mono ?_
 rintro e w5 ⟨rfl,hb⟩
 have bv:=hb.size
 replace BY:=kC BY hb
 replace BR:=kC BR hb
 replace BQ:=kC BQ hb
 replace HQ:=yD (HQ.out.below hb)
 replace HL:=yD (HL.out.below hb)
 replace HY:=yD (HY.out.below hb)
 replace U:=(tQ U hb)
 clear b3 ce cg cd ch
 clear hb
 generalize kBh (n,b_,yb,tl,sg)=ok
 cases ok
 · have a4:Qc w5 (w.heap.size + 2) 0 (.slice none 0 0):=kE BR rfl;obtain ⟨a5,b8,b5,ca⟩:=DZ;exact eD
 have a4:Qc w5 (w.heap.size + 2) 0 (.slice none 0 0):=kE BR rfl
 obtain ⟨a5,b8,b5,ca⟩:=DZ
 obtain ⟨b3,ce,cg,cd,ch⟩:=yt BQ
 obtain ⟨bh,bf,b4,b7,b9⟩:=kBr BR
 go_wp2
 refine Ag (v:=.tuple #[.agg #[Qs ac n ae,Qs ai b_ af,Qs am yb ah,Qn tl,Qn sg],.bool true]) dY rfl ⟨[Qs ac n ae,Qs ai b_ af,Qs am yb ah,Qn tl,Qn sg],(n,b_,yb,tl,sg),true,rfl,?_,?_,?_⟩
 · exact (HQ.out.touch sT5 rZ).wide dU
 · simp
 exact U.trans (Touch.below sT5 U.size wM)
def kEc {w:Ac} {vl:Ak} {l:Aj kNu} (hl:(kD.slice 173 kJg).raw w [vl] l) {cn:Aj Ak} {n:ko} (hn:kU.rd w cn n) {cb:Aj Ak} {yb:ko} (hby:kU.rd w cb yb) {tl:Int} (ht:Qi tl) :
    Calls prog 157 #[vl,.agg cn.toArray,.agg cb.toArray,.int .i64 tl] w (SignedW 64 w):=by
 obtain ⟨la,lc,rfl,_⟩:=kD.sl hl
 obtain ⟨ya,X,rfl⟩:=kTb hby.1
 obtain ⟨na,nc,rfl⟩:=kTb hn.1
 have a8:=keyDig_len (l:=l) (n:=n)
 go_enter func157,ntmps157
 go_upto_region 1 with fail
 generalize F:World.alloc (World.alloc (World.alloc w _) _) _=Y
 have U:Qb w Y:=by rw [<- F];exact bF
 have HL:=yD (hl.below U)
 have HY:=yD (hby.below U)
 have HN:=yD (hn.below U)
 clear hl hby hn
 have BN:Qr Y w.heap.size #[Qs na n nc] 40:=qO
 have BY:Qr Y (w.heap.size + 1) #[Qs ya yb X] 40:=by rw [<- F];exact jV (kG bD0)
 obtain ⟨BR,bd⟩:=FQ
 clear F
 have ao:Qd Y w 0 (.slice na n.length nc):=kE BN rfl
 have aq:Qc Y (w.heap.size + 1) 0 (.slice ya yb.length X):=kE BY rfl
 have FX:=yD (λ(W:Ac) (hW:Qb Y W)=>kIk hW ao aq)
 refine jU (λW=>Qb Y W) [(0,true),(1,true),(2,true),(3,true),(4,true),(6,true),(5,false),(7,false),(8,true),(9,true)] bC3 bC3 pK (bR.drew) ?_
 intro wS E
 simp only [kz,List.length_cons,List.length_nil,List.getElem?_cons_succ,List.getElem?_cons_zero,List.map_cons,List.map_nil,List.cons_append,List.nil_append,List.drop_succ_cons,List.drop_zero]
 iterate 6
  all_goals refine ku ?_
 all_goals first|(refine kI rfl E ?_)|(refine kw rfl (λK H=>?_);go_simp;refine (kSg (HL.out.below E) (HN.out.1.below E) (cn:=[.slice na n.length nc])).mono ?_;rintro e wS1 ⟨vg,rfl,OG,ab⟩;obtain ⟨ag,ng,cg,ap,au⟩:=OG.parts;obtain rfl:=ap;have RG:=yD ((OG.own wH).rd);clear OG;replace E:=(tQ E ab);refine H _ _ E ?_;clear H K ab)
 all_goals refine jF ?_
 all_goals first|(refine kI rfl E ?_)|(refine kw rfl (λK H=>?_);go_simp;refine (kEa (l:=l) (HL.out.below E) (cb:=[.slice ya yb.length X]) (HY.out.below E) (cn:=[.slice na n.length nc]) (HN.out.below E) RG.out bC9 ht).mono ?_;rintro e a9 ⟨ds,x,ok,rfl,hO,b0,ab⟩;have HQ:=yD hO;have o:=ab.size;have G:=E.size;obtain ⟨ac,ae,ai,af,am,ah,rfl⟩:=zZ hO.raw;clear hO;replace E:=(tQ E ab);refine H _ _ E ?_;clear H K ab)
 all_goals refine jF ?_
 all_goals refine ku ?_
 all_goals refine ku ?_
 all_goals refine jc ?_
 replace BR:=kC BR E
 have D:=E.size
 have E2:=(tQ U E)
 obtain ⟨ad,an,bb,bh,bm⟩:=yt BR
 obtain ⟨aj,al,av,bg,bi⟩:=kBr BR
 go_wp2
 refine Ag (v:=.tuple #[.agg #[Qs ac x.1 ae,Qs ai x.2.1 af,Qs am x.2.2.1 ah,Qn x.2.2.2.1,Qn x.2.2.2.2],.bool ok]) (by simp [results,results157,go_sem,ad,aj,an,al,bb,av,bh,bg,bm,bi]) rfl ⟨[Qs ac x.1 ae,Qs ai x.2.1 af,Qs am x.2.2.1 ah,Qn x.2.2.2.1,Qn x.2.2.2.2],x,ok,rfl,?_,by omega,?_⟩
 · exact (HQ.out.touch sT5 rZ).wide fB
 exact E2.trans (Touch.below sT5 E2.size wM)
def lit_rdB {α:Type} {r:kD α} {e:TypeId} {w:Ac} {b:Nat} {cs:Aj Ak} {xs:Aj α} {S:Nat->Prop} (hb:w.heap[b]?=some (.cells cs.toArray e (0,0))) (hr:kD.row r false w cs xs S) (hd:∀ x∈xs,r.bdd Big x) (hl:xs.length<=64):(kD.slice e r).ji w [.slice (some ⟨b,0,none⟩) xs.length xs.length] xs (λk=>S k\/k=b):=by
 refine ⟨⟨_,_,xs.length,rfl,rfl,Nat.le_refl _,by unfold maxLen;omega,.inr ⟨b,0,rfl,cs.toArray,e,(0,0),[],cs,[],hb,by simp,rfl,?_,(λh=>by cases h),.inr rfl,?_⟩⟩,by unfold Big;omega,hd⟩
 · have:=kD.zK hr;simp;omega
 exact kD.yL hr (λk hk=>⟨.inl hk,λh=>by cases h⟩)
def kOl {α:Type} {r:kD α} {w:Ac} {c d:Aj Ak} {y:α} {ys:Aj α} {S:Nat->Prop} (h:r.ji w c y S) (k:kD.row r false w d ys S):kD.row r false w (c++d) (y :: ys) S:=⟨c,d,S,S,rfl,h.1,k,λ_ h=>h,λ_ h=>h,λh=>by cases h⟩
def kTc {w:Ac} {v:Ak} {n:ko} {s:Int} {S:Nat->Prop} (h:kU.ji w [v] n S) (hs:Qi s):kJg.ji w [v,Qn s] (n,s) S :=
  kD.kAp (r:=kU) (q:=.int) (z:=(n,s)) h (kD.flat.ji (kD.jB hs))
def Touch.jh {S U:Nat->Prop} {w Y V:Ac} (h:Touch S w Y) (t:Touch U Y V) (hb:∀ k,U k->S k\/w.heap.size<=k):Touch S w V:=by
 refine ⟨t.os.trans h.os,t.tape.trans h.tape,t.output.trans h.output,Nat.le_trans h.size t.size,λk hk hn=>?_⟩;exact (t.block k (Nat.lt_of_lt_of_le hk h.size) (λq=>by rcases hb k q with q | q;exact hn q;omega)).trans (h.block k hk hn)
def trust_rdB {w:Ac} {v0 v1 v2 v3:Ak} {x0:Aj kNu} {x1:Aj kJv} {x2:Aj ko} {x3:Aj jN} {S:Nat->Prop} (h0:(kD.slice 173 kJg).ji w [v0] x0 S) (h1:(kD.slice 176 kLd).ji w [v1] x1 S) (h2:(kD.slice 40 kU).ji w [v2] x2 S) (h3:(kD.slice 68 jJ).ji w [v3] x3 S):kAz.ji w [v0,v1,v2,v3] (x0,x1,x2,x3) S :=
  kD.kAp (r:=(kD.slice 173 kJg)) (q:=.pair (kD.slice 176 kLd) (.pair (kD.slice 40 kU) (kD.slice 68 jJ))) (z:=(x0,x1,x2,x3)) h0 (kD.kAp (r:=(kD.slice 176 kLd)) (q:=.pair (kD.slice 40 kU) (kD.slice 68 jJ)) (z:=(x1,x2,x3)) h1 (kD.kAp (r:=(kD.slice 40 kU)) (q:=(kD.slice 68 jJ)) (z:=(x2,x3)) h2 h3))
def DrawnT (w0 w:Ac) (p:Nat) (e:Ending) (w':Ac):Prop:=∃ ds t,e=.returned (.agg ds.toArray)/\kAz.ji w' ds t (jX w.heap.size w'.heap.size)/\lenT t/\yU w0 w' p/\Touch (λk=>k=p) w w'
def kUb {w0 w:Ac} {p:Nat} (hc:yU w0 w p) :
    Calls prog 130 #[.pointer (some ⟨p,0,none⟩)] w λe w'=>DrawnT w0 w p e w':=by
 go_enter func130,ntmps130
 obtain ⟨bf,b4⟩:=hc.lt
 go_upto_region 1 with fail
 generalize F:World.alloc w _=Y
 have X:Qb w Y:=rM
 have R:Qr Y w.heap.size #[.slice none 0 0,.slice none 0 0,.slice none 0 0,.slice none 0 0] 84:=vB
 have bd:w.heap.size + 1<=Y.heap.size:=bB1
 clear F
 obtain ⟨hc,N⟩:=xQ
 clear X
 go_wp2_with fail
 refine (yV (s:={ data:=#[47,107,101,121,47,97] }) bC8).mono ?_
 rintro e V ⟨a0,c0,k0,rfl,hr,bm,da,hb⟩
 have bk:=hb.size
 replace R:=kC R hb
 obtain ⟨hc,N⟩:=xG
 clear hb
 have H0:=yD (hr)
 clear hr bm da
 go_wp2_with fail
 refine (yV (s:={ data:=#[47,97,47,107,101,121] }) bC8).mono ?_
 rintro e w3 ⟨a1,c1,k1,rfl,hr,dj,b9,hb⟩
 have bl:=hb.size
 replace R:=kC R hb
 replace H0:=yD (H0.out.below hb)
 obtain ⟨hc,N⟩:=xG
 clear hb
 have H1:=yD (hr)
 clear hr dj b9
 go_wp2_with fail
 refine (yV (s:={ data:=#[47,98,47,107,101,121] }) bC8).mono ?_
 rintro e w4 ⟨a2,c2,k2,rfl,hr,a8,bt,hb⟩
 have bw:=hb.size
 replace R:=kC R hb
 replace H0:=yD (H0.out.below hb)
 replace H1:=yD (H1.out.below hb)
 obtain ⟨hc,N⟩:=xG
 clear hb
 have H2:=yD (hr)
 clear hr a8 bt
 go_wp2_with fail
 refine (yV (s:={ data:=#[47,98,97,100,47,107,101,121] }) bC8).mono ?_
 rintro e w5 ⟨a3,c3,k3,rfl,hr,d5,dl,hb⟩
 have bv:=hb.size
 replace R:=kC R hb
 replace H0:=yD (H0.out.below hb)
 replace H1:=yD (H1.out.below hb)
 replace H2:=yD (H2.out.below hb)
 obtain ⟨hc,N⟩:=xG
 clear hb
 have H3:=yD (hr)
 clear hr d5 dl
 go_wp2_with fail
 generalize F:World.alloc w5 _=w6
 have aq:Qb w5 w6:=rM
 have BK:Qr w6 w5.heap.size #[Qs a0 k0 c0,Qn 100,Qs a1 k1 c1,Qn 101,Qs a2 k2 c2,Qn 102,Qs a3 k3 c3,Qn 103] 173:=vB
 have cf:w5.heap.size + 1<=w6.heap.size:=bB1
 clear F
 replace R:=kC R aq
 replace H0:=yD (H0.out.below aq)
 replace H1:=yD (H1.out.below aq)
 replace H2:=yD (H2.out.below aq)
 replace H3:=yD (H3.out.below aq)
 replace hc:=hc.below aq
 replace N:=N.trans (Touch.of_below aq)
 clear aq
 refine (yV (s:={ data:=#[47,107,101,121,47,97] }) bC8).mono ?_
 rintro e w7 ⟨a4,c4,k4,rfl,hr,ek,c6,hb⟩
 have dp:=hb.size
 replace R:=kC R hb
 replace BK:=kC BK hb
 replace H0:=yD (H0.out.below hb)
 replace H1:=yD (H1.out.below hb)
 replace H2:=yD (H2.out.below hb)
 replace H3:=yD (H3.out.below hb)
 obtain ⟨hc,N⟩:=xG
 clear hb
 have H4:=yD (hr)
 clear hr ek c6
 go_upto_region 2 with fail
 generalize F:World.alloc (World.alloc w7 _) _=w8
 have E_:Qb w7 w8:=by rw [<- F];exact (bR.alloc nL _).alloc bD0 _
 have BA:Qr w8 w7.heap.size #[Qs a4 k4 c4] 40:=sI
 have BT:Qr w8 (w7.heap.size + 1) #[.slice (some ⟨w5.heap.size,0,none⟩) 4 4,.slice none 0 0,.slice (some ⟨w7.heap.size,0,none⟩) 1 1,.slice none 0 0] 84:=by rw [<- F];exact kG bD0
 have c7:w7.heap.size + 2<=w8.heap.size:=bB1
 clear F
 replace R:=kC R E_
 replace BK:=kC BK E_
 replace H0:=yD (H0.out.below E_)
 replace H1:=yD (H1.out.below E_)
 replace H2:=yD (H2.out.below E_)
 replace H3:=yD (H3.out.below E_)
 replace H4:=yD (H4.out.below E_)
 replace hc:=hc.below E_
 replace N:=N.trans (Touch.of_below E_)
 clear E_
 obtain ⟨au,d1⟩:∃ b_,b_=w7.heap.size + 1:=⟨_,rfl⟩
 rw [<- d1] at BT ⊢
 have ev:=Nat.le_of_eq d1
 have ep:=Nat.le_of_eq d1.symm
 clear d1
 have HK:Hid ((kD.slice 173 kJg).ji w8 [.slice (some ⟨w5.heap.size,0,none⟩) 4 4] [(k0,100),(k1,101),(k2,102),(k3,103)] (λk=>w.heap.size < k/\k < au/\k≠p)):=yD ((lit_rdB (r:=kJg) (xs:=[(k0,100),(k1,101),(k2,102),(k3,103)]) (S:=(λk=>w.heap.size < k/\k < au/\k≠p)) BK (kOl (c:=[.slice a0 k0.length c0,.int .i64 100]) (kTc (H0.out.ji.wide fG) bC9) (kOl (c:=[.slice a1 k1.length c1,.int .i64 101]) (kTc (H1.out.ji.wide fG) bC9) (kOl (c:=[.slice a2 k2.length c2,.int .i64 102]) (kTc (H2.out.ji.wide fG) bC9) (kOl (c:=[.slice a3 k3.length c3,.int .i64 103]) (kTc (H3.out.ji.wide fG) bC9) (rfl))))) (by intro x hx;simp only [List.mem_cons,List.not_mem_nil,or_false] at hx;rcases hx with rfl | rfl | rfl | rfl;exact ⟨H0.out.ji.2,trivial⟩;exact ⟨H1.out.ji.2,trivial⟩;exact ⟨H2.out.ji.2,trivial⟩;exact ⟨H3.out.ji.2,trivial⟩) bD0).wide dQ)
 have HA:Hid ((kD.slice 40 kU).ji w8 [.slice (some ⟨w7.heap.size,0,none⟩) 1 1] [k4] (λk=>w.heap.size < k/\k < au/\k≠p)):=yD ((lit_rdB (r:=kU) (xs:=[k4]) (S:=(λk=>w.heap.size < k/\k < au/\k≠p)) BA (kOl (c:=[.slice a4 k4.length c4]) (H4.out.ji.wide fG) rfl) (by intro x hx;rw [Am.1 hx];exact H4.out.ji.2) bD0).wide dQ)
 clear H0 H1 H2 H3 H4 BK BA
 obtain ⟨kb,cw⟩:∃ b_,b_=w5.heap.size:=⟨_,rfl⟩
 obtain ⟨ab,dq⟩:∃ b_,b_=w7.heap.size:=⟨_,rfl⟩
 rw [<- cw] at HK BT
 clear cw
 rw [<- dq] at HA BT
 clear dq
 generalize aa:[(k0,(100:Int)),(k1,101),(k2,102),(k3,103)]=kl at HK
 clear aa
 have e4:au < w8.heap.size/\w.heap.size < au:=⟨by omega,by omega⟩
 have e7:w.heap.size < au/\p < au:=⟨by omega,by omega⟩
 go_wp2
 have di:Hid ((kD.slice 9 kD.str).own (World.alloc w8 (.cells #[.string { data:=#[47,63,120,47,107,101,121,32,60,32,47,107,101,121,47,97] },.string { data:=#[47,63,120,47,42,42,32,60,32,47,63,120,47,107,101,121] }] 9)) [.slice (some ⟨w8.heap.size,0,none⟩) 2 2] [{ data:=#[47,63,120,47,107,101,121,32,60,32,47,107,101,121,47,97] },{ data:=#[47,63,120,47,42,42,32,60,32,47,63,120,47,107,101,121] }] (λk=>k=w8.heap.size)):=yD (kD.kAx w8 [{ data:=#[47,63,120,47,107,101,121,32,60,32,47,107,101,121,47,97] },{ data:=#[47,63,120,47,42,42,32,60,32,47,63,120,47,107,101,121] }] bC8 bC8)
 generalize F:World.alloc w8 _=w9 at di ⊢
 have E_:Qb w8 w9:=rM
 have de:w8.heap.size + 1<=w9.heap.size:=bB1
 have en:w9.heap.size<=w8.heap.size + 1:=bB1
 clear F
 replace R:=kC R E_
 replace BT:=kC BT E_
 replace HK:=yD (HK.out.below E_)
 replace HA:=yD (HA.out.below E_)
 replace hc:=hc.below E_
 replace N:=N.trans (Touch.of_below E_)
 clear E_
 obtain ⟨lb,a5⟩:∃ b_,b_=w8.heap.size:=⟨_,rfl⟩
 rw [<- a5] at di ⊢
 have eu:=Nat.le_of_eq a5
 have er:=Nat.le_of_eq a5.symm
 clear a5
 generalize hlt:([{ data:=#[47,63,120,47,107,101,121,32,60,32,47,107,101,121,47,97] },{ data:=#[47,63,120,47,42,42,32,60,32,47,63,120,47,107,101,121] }]:Aj Ap)=lt at di
 have az:lt.length=2:=by rw [<- hlt];rfl
 have el:=yD (show ∀ y∈lt,y.size<=64 from λy hy=>kD.kCn bC8 (hlt ▸ hy))
 clear hlt
 go_loopw [26] (λi wr=>∃ (j:Nat) (ra:Ab Ae) (rc:Nat) (rl:Aj kJv),i=.int .i64 j/\j<=2/\Hid (rl.length=j)/\Qr wr au #[.slice (some ⟨kb,0,none⟩) 4 4,Qs ra rl rc,.slice (some ⟨ab,0,none⟩) 1 1,.slice none 0 0] 84/\Hid ((kD.slice 176 kLd).own wr [Qs ra rl rc] rl (λk=>lb < k/\k < wr.heap.size))/\w9.heap.size<=wr.heap.size/\Touch (λk=>k=au) w9 wr) (λi _=>2 - (intOf i).toNat)
 case atStart=>exact ⟨0,none,0,[],rfl,by omega,yD rfl,BT,yD kD.jd,Nat.le_refl _,Touch.of_below bR⟩
 obtain ⟨j,ra,rc,rl,rfl,I,ef,du,HR,dt,Z⟩:=hrel
 clear BT
 have BT:=du
 clear du
 by_cases hlt:j < 2
 · have a6:(j:Int) < 2:=bC9;have br:j < lt.length:=bC9;obtain ⟨sb,so,he,c0,cr,ax⟩:=kD.kCv (di.out.touch Z wI).raw (i:=j) br rfl;simp only [Ad,Ai,and_true] at he;obtain ⟨rfl,rfl⟩:=he;have ba:[c0]=[.string lt[j]]:=(kD.zi cr).1;obtain rfl:c0=.string lt[j]:=wY;clear cr ba;have dn:=el.out _ (Ah br);generalize lt[j]=y at *;simp only [Nat.zero_add] at ax;go_wp2_with fail;refine (kSe dn).mono ?_;rintro e b6 ⟨ds,r,b,rfl,hr,hb⟩;have cv:=hb.size;replace Z:=Z.trans (Touch.of_below hb);replace BT:=kC BT hb;replace HR:=yD (HR.out.below hb);clear hb;obtain ⟨pa,pc,qa,qc,rfl⟩:=rule_form hr.raw;have HU:=yD hr;clear hr ax;go_upto_region 6 with fail;generalize F:World.alloc b6 _=bi;have hb:Qb b6 bi:=rM;have BU:Qr bi b6.heap.size #[Qs pa r.1 pc,Qs qa r.2 qc] 176:=vB;have d2:b6.heap.size + 1<=bi.heap.size:=bB1;clear F;have dc:=hb.size;replace Z:=Z.trans (Touch.of_below hb);replace BT:=kC BT hb;replace HR:=yD (HR.out.below hb);replace HU:=yD (HU.out.below hb);clear hb;obtain ⟨ay,bn,bq,cm⟩:=kKm BT;obtain ⟨d4,d8⟩:=yT BU;obtain ⟨bj,bx,be,bu⟩:=kUm BT;go_wp2_with (at_builtin;refine kD.yZ rfl _ _ 81 rfl (r:=kLd) (e:=176) underlying81 infRule rfl bC8 bC8 (w:=bi) HR.out bR HU.out bD1 bD1 nS (by have:=ef.out;omega) ?_);intro v9 w9 bp ap;have de:=ap.size;have dx:=yD (show (rl++[r]).length=j + 1 by simp [ef.out]);generalize rl++[r]=q at *;obtain ⟨a9,c9,b7,_⟩:=kD.kAy bp.raw;obtain rfl:v9=_:=by simpa using b7
   have b5:=yD (bp.wide (T:=λk=>lb < k/\k < w9.heap.size) bH);have hT:Touch (λk=>lb < k/\k < bi.heap.size) bi w9:=ap.wide (λk q=>⟨q.1.1,q.2⟩);clear bp ap b7 HR HU ay bn bq cm d4 d8 bj bx be bu;replace BT:=hT.kC BT bC9;clear BU;replace Z:=Z.jh hT wP;clear hT;obtain ⟨ay,bn,bq,cm⟩:=kKm BT;obtain ⟨bj,bx,be,bu⟩:=kUm BT;go_upto_region 7 with fail;generalize F:World.setCell w9 _ _=dw;have hT:Touch (λk=>k=au) w9 dw:=vO;replace BT:Qr dw au #[.slice (some ⟨kb,0,none⟩) 4 4,Qs a9 q c9,.slice (some ⟨ab,0,none⟩) 1 1,.slice none 0 0] 84:=by rw [<- F];exact kK BT 1
   have ed:=hT.size;clear F ay bn bq cm bj bx be bu;replace b5:=yD (b5.out.touch hT nV);replace Z:=Z.jh hT wP;clear hT;go_wp2;go_roundw;case rel=>exact ⟨j + 1,a9,c9,q,by go_num,by omega,dx,BT,yD (b5.out.wide rD),by omega,Z⟩
   simp [intOf];omega
 obtain rfl:j=2:=bC9
 have a6:¬ ((2:Nat):Int) < 2:=bC9
 replace HK:=yD (HK.out.touch Z (λk q h=>by have:=q.2.1;omega))
 replace HA:=yD (HA.out.touch Z (λk q h=>by have:=q.2.1;omega))
 replace R:=Z.kC R bC9
 replace hc:=hc.touch Z bC9 wM
 replace N:=N.jO Z bC9
 clear Z
 go_wp2
 have co:Hid ((kD.slice 9 kD.str).own (World.alloc wr (.cells #[.string { data:=#[47,97,47,107,101,121] },.string { data:=#[47,98,47,107,101,121] }] 9)) [.slice (some ⟨wr.heap.size,0,none⟩) 2 2] [{ data:=#[47,97,47,107,101,121] },{ data:=#[47,98,47,107,101,121] }] (λk=>k=wr.heap.size)):=yD (kD.kAx wr [{ data:=#[47,97,47,107,101,121] },{ data:=#[47,98,47,107,101,121] }] bC8 bC8)
 generalize F:World.alloc wr _=wL at co ⊢
 have hb:Qb wr wL:=rM
 have ec:wr.heap.size + 1<=wL.heap.size:=bB1
 have d6:wL.heap.size<=wr.heap.size + 1:=bB1
 clear F
 replace HK:=yD (HK.out.below hb)
 replace HA:=yD (HA.out.below hb)
 replace HR:=yD (HR.out.below hb)
 replace R:=kC R hb
 replace BT:=kC BT hb
 obtain ⟨hc,N⟩:=xG
 clear hb
 obtain ⟨mb,d0⟩:∃ b_,b_=wr.heap.size:=⟨_,rfl⟩
 rw [<- d0] at co ec d6 HR dt ⊢
 have es:=Nat.le_of_eq d0
 have ew:=Nat.le_of_eq d0.symm
 clear d0
 generalize ea:([{ data:=#[47,97,47,107,101,121] },{ data:=#[47,98,47,107,101,121] }]:Aj Ap)=lu at co
 have ey:lu.length=2:=by rw [<- ea];rfl
 have em:=yD (show ∀ y∈lu,y.size<=64 from λy hy=>kD.kCn bC8 (ea ▸ hy))
 clear ea
 go_loopw [44] (λi wq=>∃ (j:Nat) (ca:Ab Ae) (cc:Nat) (cl:Aj jN),i=.int .i64 j/\j<=2/\Hid (cl.length<=j)/\Hid (∀ x∈cl,x.2.1.length<=64)/\Qr wq au #[.slice (some ⟨kb,0,none⟩) 4 4,Qs ra rl rc,.slice (some ⟨ab,0,none⟩) 1 1,Qs ca cl cc] 84/\Hid ((kD.slice 68 jJ).own wq [Qs ca cl cc] cl (λk=>mb < k/\k < wq.heap.size))/\yU w0 wq p/\wL.heap.size<=wq.heap.size/\Touch (λk=>k=au\/k=p) wL wq) (λi _=>2 - (intOf i).toNat)
 case atStart=>exact ⟨0,none,0,[],rfl,by omega,yD bD0,yD (λx h=>by simp at h),BT,yD kD.jd,hc,Nat.le_refl _,Touch.of_below bR⟩
 obtain ⟨j,ca,cc,cl,rfl,br,aw,dz,du,HC,bc,et,Z⟩:=hrel
 clear BT hc
 have BT:=du
 have hc:=bc
 clear du bc
 have e5:=Z.size
 by_cases eq:j < 2
 · have a6:(j:Int) < 2:=bC9;have ee:j < lu.length:=bC9;obtain ⟨sb,so,he,c0,cr,ax⟩:=kD.kCv (co.out.touch Z wI).raw (i:=j) ee rfl;simp only [Ad,Ai,and_true] at he;obtain ⟨rfl,rfl⟩:=he;have ba:[c0]=[.string lu[j]]:=(kD.zi cr).1;obtain rfl:c0=.string lu[j]:=wY;clear cr ba;have dn:=em.out _ (Ah ee);generalize lu[j]=y at *;simp only [Nat.zero_add] at ax;have d7:=yD (HK.out.touch Z mF);go_upto_region 11 with fail;clear ax;go_cut [10,11] from 48 to 57 (λei eh wc=>∃ (b:Nat) (ac:Ab Ae) (ae:Nat) (ai:Ab Ae) (af:Nat) (am:Ab Ae) (ah:Nat) (x:jN) (ok:Bool),ei=.pointer (some ⟨b,0,none⟩)/\eh=.bool ok/\Qr wc b #[Qs ac x.1 ae,Qs ai x.2.1 af,Qs am x.2.2.1 ah,Qn x.2.2.2.1,Qn x.2.2.2.2] 68/\Hid (jJ.own wc [Qs ac x.1 ae,Qs ai x.2.1 af,Qs am x.2.2.1 ah,Qn x.2.2.2.1,Qn x.2.2.2.2] x (Ql wr wc b))/\x.2.1.length<=64/\wr.heap.size<=b/\b < wc.heap.size/\Qb wr wc);case first =>
    have FX:=yD (λ(W:Ac) (hW:Qb wr W)=>kE (kC BT hW) (j:=0) (v:=.slice (some ⟨kb,0,none⟩) 4 4) rfl);refine yR (λW=>Qb wr W) bC3 (bR.drew) ?_;intro t E;have d9:=E.size;refine kQ 0 ?_;refine kQ 1 ?_;refine kQ 2 ?_;refine kIq ?_;intro T A hT hA;have b8:∀ (J:Ab Ae) (U:Nat) (n1:ko) (ak:Ab Ae) (ao:Nat) (n2:ko) (ac:Ab Ae) (ae:Nat) (ai:Ab Ae) (af:Nat) (am:Ab Ae) (ah:Nat) (x:jN) (ok:Bool) (b:Nat) (W:Ac),Qb wr W->(Hid (kU.ji W [Qs J n1 U] n1 (Ql wr W b)))->(Hid (kU.ji W [Qs ak n2 ao] n2 (Ql wr W b)))->(x.2.1.length<=64)->(Hid (jJ.own W [Qs ac x.1 ae,Qs ai x.2.1 af,Qs am x.2.2.1 ah,Qn x.2.2.2.1,Qn x.2.2.2.2] x (Ql wr W b)))->(wr.heap.size<=b/\b < W.heap.size)->(Qr W b #[Qs ac x.1 ae,Qs ai x.2.1 af,Qs am x.2.2.1 ah,Qn x.2.2.2.1,Qn x.2.2.2.2] 68)->T 0 [Tt,Tt,Tt,Tt,Tt,Tt,Tt,Tt,Tt,Tt,Tt,Tt] (Aa (Aa (Aa (Aa (Aa (Aa (Aa (Aa A (some 52) (.agg #[Qs J n1 U])) (some 53) (.agg #[Qs ak n2 ao])) (some 54) (.tuple #[.agg #[Qs ac x.1 ae,Qs ai x.2.1 af,Qs am x.2.2.1 ah,Qn x.2.2.2.1,Qn x.2.2.2.2],.bool ok])) (some 48) (.tuple #[.agg #[Qs ac x.1 ae,Qs ai x.2.1 af,Qs am x.2.2.1 ah,Qn x.2.2.2.1,Qn x.2.2.2.2],.bool ok])) (some 55) (.agg #[Qs ac x.1 ae,Qs ai x.2.1 af,Qs am x.2.2.1 ah,Qn x.2.2.2.1,Qn x.2.2.2.2])) (some 56) (.bool ok)) (some 10) (.pointer (some ⟨b,0,none⟩))) (some 11) (.bool ok)) W:=by
     intro J U n1 ak ao n2 ac ae ai af am ah x ok b W E ar a7 b0 HQ o BB;have bo:=E.size;subst hT;subst hA;simp only [Aa,zA,zB,zC];refine jf bC3 ?_;go_wp2;go_meet;exact ⟨b,ac,ae,ai,af,am,ah,x,ok,rfl,rfl,BB,HQ,b0,o.1,o.2,E⟩
    have bz:∀ (J:Ab Ae) (U:Nat) (n1:ko) (ak:Ab Ae) (ao:Nat) (n2:ko) (ac:Ab Ae) (ae:Nat) (ai:Ab Ae) (af:Nat) (am:Ab Ae) (ah:Nat) (x:jN) (ok:Bool) (b:Nat) (W:Ac),Qb wr W->(Hid (kU.ji W [Qs J n1 U] n1 (Ql wr W b)))->(Hid (kU.ji W [Qs ak n2 ao] n2 (Ql wr W b)))->(x.2.1.length<=64)->(Hid (jJ.own W [Qs ac x.1 ae,Qs ai x.2.1 af,Qs am x.2.2.1 ah,Qn x.2.2.2.1,Qn x.2.2.2.2] x (Ql wr W b)))->(wr.heap.size<=b/\b < W.heap.size)->(Qr W b #[.slice none 0 0,.slice none 0 0,.slice none 0 0,Qn 0,Qn 0] 68)->T 2 [Tt,Tt,Tt,Tt,Tt,Tt,Tt,Tt,Tt,Tt,Ff,Ff] (Aa (Aa (Aa (Aa (Aa (Aa (Aa A (some 52) (.agg #[Qs J n1 U])) (some 53) (.agg #[Qs ak n2 ao])) (some 54) (.tuple #[.agg #[Qs ac x.1 ae,Qs ai x.2.1 af,Qs am x.2.2.1 ah,Qn x.2.2.2.1,Qn x.2.2.2.2],.bool ok])) (some 48) (.tuple #[.agg #[Qs ac x.1 ae,Qs ai x.2.1 af,Qs am x.2.2.1 ah,Qn x.2.2.2.1,Qn x.2.2.2.2],.bool ok])) (some 55) (.agg #[Qs ac x.1 ae,Qs ai x.2.1 af,Qs am x.2.2.1 ah,Qn x.2.2.2.1,Qn x.2.2.2.2])) (some 56) (.bool ok)) (some 10) (.pointer (some ⟨b,0,none⟩))) W:=by
     intro J U n1 ak ao n2 ac ae ai af am ah x ok b W E ar a7 b0 HQ o BB;have bo:=E.size;subst hT;subst hA;simp only [Aa,zA,zB,zC];refine kP (k:=10) rfl bC3 rfl (λK H=>?_);obtain ⟨dg,c8,dd,db,dk⟩:=yt BB;obtain ⟨c5,dh,dr,dm,df⟩:=kBr BB;go_simp;generalize F:World.setCell (World.setCell (World.setCell (World.setCell (World.setCell W _ _) _ _) _ _) _ _) _ _=v;have hT:Touch (λk=>k=b) W v:=(by rw [<- F];exact sT5);replace BB:Qr v b #[Qs ac x.1 ae,Qs ai x.2.1 af,Qs am x.2.2.1 ah,Qn x.2.2.2.1,Qn x.2.2.2.2] 68:=(by rw [<- F];exact kK (kK (kK (kK (kK (BB) 0) 1) 2) 3) 4);clear F dg c5 c8 dh dd dr db dm dk df;have zv:=hT.size;replace ar:Hid (kU.ji v [Qs J n1 U] n1 (Ql wr v b)):=yD ((ar.out.touch hT (λk q h=>q.2.2 h)).wide (λk q=>⟨q.1,Nat.lt_of_lt_of_le q.2.1 hT.size,q.2.2⟩));replace a7:Hid (kU.ji v [Qs ak n2 ao] n2 (Ql wr v b)):=yD ((a7.out.touch hT (λk q h=>q.2.2 h)).wide (λk q=>⟨q.1,Nat.lt_of_lt_of_le q.2.1 hT.size,q.2.2⟩));replace HQ:Hid (jJ.own v [Qs ac x.1 ae,Qs ai x.2.1 af,Qs am x.2.2.1 ah,Qn x.2.2.2.1,Qn x.2.2.2.2] x (Ql wr v b)):=yD ((HQ.out.touch hT (λk q h=>q.2.2 h)).wide (λk q=>⟨q.1,Nat.lt_of_lt_of_le q.2.1 hT.size,q.2.2⟩));replace o:wr.heap.size<=b/\b < v.heap.size:=⟨o.1,Nat.lt_of_lt_of_le o.2 hT.size⟩;replace E:=E.trans (hT.below E.size wM);refine H _ _ E ?_;clear H K;refine jF ?_;refine kQ 11 ?_;have h_:=b8 J U n1 ak ao n2 ac ae ai af am ah x ok b v E ar a7 b0 HQ o BB;exact aY
    have dy:∀ (J:Ab Ae) (U:Nat) (n1:ko) (ak:Ab Ae) (ao:Nat) (n2:ko) (ac:Ab Ae) (ae:Nat) (ai:Ab Ae) (af:Nat) (am:Ab Ae) (ah:Nat) (x:jN) (ok:Bool) (W:Ac),Qb wr W->(Hid (kU.ji W [Qs J n1 U] n1 (Ql wr W au)))->(Hid (kU.ji W [Qs ak n2 ao] n2 (Ql wr W au)))->(x.2.1.length<=64)->(Hid (jJ.own W [Qs ac x.1 ae,Qs ai x.2.1 af,Qs am x.2.2.1 ah,Qn x.2.2.2.1,Qn x.2.2.2.2] x (Ql wr W au)))->T 3 [Tt,Tt,Tt,Tt,Tt,Tt,Tt,Tt,Tt,Ff,Ff,Ff] (Aa (Aa (Aa (Aa (Aa (Aa A (some 52) (.agg #[Qs J n1 U])) (some 53) (.agg #[Qs ak n2 ao])) (some 54) (.tuple #[.agg #[Qs ac x.1 ae,Qs ai x.2.1 af,Qs am x.2.2.1 ah,Qn x.2.2.2.1,Qn x.2.2.2.2],.bool ok])) (some 48) (.tuple #[.agg #[Qs ac x.1 ae,Qs ai x.2.1 af,Qs am x.2.2.1 ah,Qn x.2.2.2.1,Qn x.2.2.2.2],.bool ok])) (some 55) (.agg #[Qs ac x.1 ae,Qs ai x.2.1 af,Qs am x.2.2.1 ah,Qn x.2.2.2.1,Qn x.2.2.2.2])) (some 56) (.bool ok)) W:=by
     intro J U n1 ak ao n2 ac ae ai af am ah x ok W E ar a7 b0 HQ;have bo:=E.size;subst hT;subst hA;simp only [Aa,zA,zB,zC];refine kP (k:=9) rfl bC3 rfl (λK H=>?_);go_simp;generalize F:World.alloc W _=v;obtain ⟨hb,BB,zv⟩:=xD;clear F;obtain ⟨b,ag⟩:∃ b_,b_=W.heap.size:=⟨_,rfl⟩;rw [<- ag] at BB ⊢;obtain ⟨ar,a7⟩:=FM;replace HQ:Hid (jJ.own v [Qs ac x.1 ae,Qs ai x.2.1 af,Qs am x.2.2.1 ah,Qn x.2.2.2.1,Qn x.2.2.2.2] x (Ql wr v b)):=yD ((HQ.out.below hb).wide dD);have o:wr.heap.size<=b/\b < v.heap.size:=⟨by omega,by omega⟩;replace E:=(tQ E hb);refine H _ _ E ?_;clear H K;refine jF ?_;exact eF
    have cz:∀ (J:Ab Ae) (U:Nat) (n1:ko) (ak:Ab Ae) (ao:Nat) (n2:ko) (b:Nat) (W:Ac),Qb wr W->(Hid (kU.ji W [Qs J n1 U] n1 (Ql wr W b)))->(Hid (kU.ji W [Qs ak n2 ao] n2 (Ql wr W b)))->(wr.heap.size<=b/\b < W.heap.size)->(Qr W b #[.slice none 0 0,.slice none 0 0,.slice none 0 0,Qn 0,Qn 0] 68)->T 6 [Tt,Tt,Tt,Tt,Tt,Ff,Ff,Ff,Ff,Tt,Ff,Ff] (Aa (Aa (Aa A (some 52) (.agg #[Qs J n1 U])) (some 53) (.agg #[Qs ak n2 ao])) (some 10) (.pointer (some ⟨b,0,none⟩))) W:=by
     intro J U n1 ak ao n2 b W E ar a7 o BB;have bo:=E.size;subst hT;subst hA;simp only [Aa,zA,zB,zC];refine kP (k:=5) rfl bC3 rfl (λK H=>?_);go_simp;refine (kEc (l:=kl) (d7.out.rd.below E).1 (cn:=[.slice J n1.length U]) ar.out.rd (cb:=[.slice ak n2.length ao]) a7.out.rd (tl:=5000) bC8).mono ?_;rintro e v ⟨ds,x,ok,rfl,hO,b0,hb⟩;obtain ⟨zv,ck,ar⟩:=G9;replace a7:Hid (kU.ji v [Qs ak n2 ao] n2 (Ql wr v b)):=yD ((a7.out.below hb).wide (λk q=>⟨q.1,Nat.lt_of_lt_of_le q.2.1 hb.size,q.2.2⟩));obtain ⟨BB,o⟩:=EM;obtain ⟨ac,ae,ai,af,am,ah,rfl⟩:=zZ hO.raw;have HQ:Hid (jJ.own v [Qs ac x.1 ae,Qs ai x.2.1 af,Qs am x.2.2.1 ah,Qn x.2.2.2.1,Qn x.2.2.2.2] x (Ql wr v b)):=yD (hO.wide gK);replace E:=(tQ E hb);refine H _ _ E ?_;clear H K;refine jF ?_;refine kQ 6 ?_;refine kQ 7 ?_;refine kQ 8 ?_;exact eF
    have dv:∀ (J:Ab Ae) (U:Nat) (n1:ko) (ak:Ab Ae) (ao:Nat) (n2:ko) (W:Ac),Qb wr W->(Hid (kU.ji W [Qs J n1 U] n1 (Ql wr W au)))->(Hid (kU.ji W [Qs ak n2 ao] n2 (Ql wr W au)))->T 7 [Tt,Tt,Tt,Tt,Tt,Ff,Ff,Ff,Ff,Ff,Ff,Ff] (Aa (Aa A (some 52) (.agg #[Qs J n1 U])) (some 53) (.agg #[Qs ak n2 ao])) W:=by
     intro J U n1 ak ao n2 W E ar a7;have bo:=E.size;subst hT;subst hA;simp only [Aa,zA,zB,zC];refine je (i:=5) (j:=9) rfl rfl bC3 rfl rfl (λK H=>?_) (λK H=>?_)
     · go_simp;refine (kEc (l:=kl) (d7.out.rd.below E).1 (cn:=[.slice J n1.length U]) ar.out.rd (cb:=[.slice ak n2.length ao]) a7.out.rd (tl:=5000) bC8).mono ?_;rintro e v ⟨ds,x,ok,rfl,hO,b0,hb⟩;obtain ⟨zv,ar⟩:=G6;replace a7:Hid (kU.ji v [Qs ak n2 ao] n2 (Ql wr v au)):=yD ((a7.out.below hb).wide (λk q=>⟨q.1,Nat.lt_of_lt_of_le q.2.1 hb.size,q.2.2⟩));obtain ⟨ac,ae,ai,af,am,ah,rfl⟩:=zZ hO.raw;have HQ:Hid (jJ.own v [Qs ac x.1 ae,Qs ai x.2.1 af,Qs am x.2.2.1 ah,Qn x.2.2.2.1,Qn x.2.2.2.2] x (Ql wr v au)):=yD (hO.wide gK);replace E:=(tQ E hb);refine H _ _ E ?_;clear H K;refine jF ?_;refine kQ 6 ?_;refine kQ 7 ?_;refine kQ 8 ?_;have h_:=dy J U n1 ak ao n2 ac ae ai af am ah x ok v E ar a7 b0 HQ;exact aY
     go_simp;generalize F:World.alloc W _=v;obtain ⟨hb,BB,zv⟩:=xD;clear F;obtain ⟨b,ag⟩:∃ b_,b_=W.heap.size:=⟨_,rfl⟩;rw [<- ag] at BB ⊢;obtain ⟨ar,a7⟩:=FM;have o:wr.heap.size<=b/\b < v.heap.size:=⟨by omega,by omega⟩;exact eG
    have d3:∀ (J:Ab Ae) (U:Nat) (n1:ko) (b:Nat) (W:Ac),Qb wr W->(Hid (kU.ji W [Qs J n1 U] n1 (Ql wr W b)))->(wr.heap.size<=b/\b < W.heap.size)->(Qr W b #[.slice none 0 0,.slice none 0 0,.slice none 0 0,Qn 0,Qn 0] 68)->T 7 [Tt,Tt,Tt,Tt,Ff,Ff,Ff,Ff,Ff,Tt,Ff,Ff] (Aa (Aa A (some 52) (.agg #[Qs J n1 U])) (some 10) (.pointer (some ⟨b,0,none⟩))) W:=by
     intro J U n1 b W E ar o BB;have bo:=E.size;subst hT;subst hA;simp only [Aa,zA,zB,zC];refine kP (k:=4) rfl bC3 rfl (λK H=>?_);go_simp;refine (yV (s:={ data:=#[47,107,101,121,47,97] }) bC8).mono ?_;rintro e v ⟨ak,ao,n2,rfl,hO,a8,bt,hb⟩;obtain ⟨zv,ck,ar⟩:=G9;obtain ⟨BB,o⟩:=EM;have a7:Hid (kU.ji v [Qs ak n2 ao] n2 (Ql wr v b)):=yD (hO.ji.wide gK);exact eG
    have T3:∀ (J:Ab Ae) (U:Nat) (n1:ko) (W:Ac),Qb wr W->(Hid (kU.ji W [Qs J n1 U] n1 (Ql wr W au)))->T 8 [Tt,Tt,Tt,Tt,Ff,Ff,Ff,Ff,Ff,Ff,Ff,Ff] (Aa A (some 52) (.agg #[Qs J n1 U])) W:=by
     intro J U n1 W E ar;have bo:=E.size;subst hT;subst hA;simp only [Aa,zA,zB,zC];refine je (i:=4) (j:=9) rfl rfl bC3 rfl rfl (λK H=>?_) (λK H=>?_)
     · go_simp;refine (yV (s:={ data:=#[47,107,101,121,47,97] }) bC8).mono ?_;rintro e v ⟨ak,ao,n2,rfl,hO,a8,bt,hb⟩;obtain ⟨zv,ar⟩:=G6;have a7:Hid (kU.ji v [Qs ak n2 ao] n2 (Ql wr v au)):=yD (hO.ji.wide gK);replace E:=(tQ E hb);refine H _ _ E ?_;clear H K;refine jF ?_;have h_:=dv J U n1 ak ao n2 v E ar a7;exact aY
     go_simp;generalize F:World.alloc W _=v;obtain ⟨hb,BB,zv⟩:=xD;clear F;obtain ⟨b,ag⟩:∃ b_,b_=W.heap.size:=⟨_,rfl⟩;rw [<- ag] at BB ⊢;replace ar:Hid (kU.ji v [Qs J n1 U] n1 (Ql wr v b)):=yD ((ar.out.below hb).wide dD);have o:wr.heap.size<=b/\b < v.heap.size:=⟨by omega,by omega⟩;exact eH
    have T9:∀ (b:Nat) (W:Ac),Qb wr W->(wr.heap.size<=b/\b < W.heap.size)->(Qr W b #[.slice none 0 0,.slice none 0 0,.slice none 0 0,Qn 0,Qn 0] 68)->T 8 [Tt,Tt,Tt,Ff,Ff,Ff,Ff,Ff,Ff,Tt,Ff,Ff] (Aa A (some 10) (.pointer (some ⟨b,0,none⟩))) W:=by
     intro b W E o BB;have bo:=E.size;subst hT;subst hA;simp only [Aa,zA,zB,zC];refine kP (k:=3) rfl bC3 rfl (λK H=>?_);go_simp;refine (yV dn).mono ?_;rintro e v ⟨J,U,n1,rfl,hO,dj,b9,hb⟩;have zv:=hb.size;have ck:=o.2;obtain ⟨BB,o⟩:=EM;have ar:Hid (kU.ji v [Qs J n1 U] n1 (Ql wr v b)):=yD (hO.ji.wide gK);exact eH
    subst hT;subst hA;refine je (i:=3) (j:=9) rfl rfl bC3 rfl rfl (λK H=>?_) (λK H=>?_)
    · go_simp;refine (yV dn).mono ?_;rintro e v ⟨J,U,n1,rfl,hO,dj,b9,hb⟩;have zv:=hb.size;have ar:Hid (kU.ji v [Qs J n1 U] n1 (Ql wr v au)):=yD (hO.ji.wide gK);replace E:=(tQ E hb);refine H _ _ E ?_;clear H K;refine jF ?_;have h_:=T3 J U n1 v E ar;exact aY
    go_simp;generalize F:World.alloc t _=v;obtain ⟨hb,BB,zv⟩:=AJ;clear F;obtain ⟨b,ag⟩:∃ b_,b_=t.heap.size:=⟨_,rfl⟩;rw [<- ag] at BB ⊢;have o:wr.heap.size<=b/\b < v.heap.size:=⟨by omega,by omega⟩;exact dO
   obtain ⟨b,ac,ae,ai,af,am,ah,x,ok,rfl,rfl,BQ,HQ,b0,cq,O,hb⟩:=hcut;have eo:=hb.size;replace Z:=Z.trans (Touch.of_below hb);replace BT:=kC BT hb;replace HC:=yD (HC.out.below hb);replace hc:=hc.below hb;clear hb d7;have ez:mb < wr.heap.size:=bC9;cases ok
   · exact eO
   go_wp2_with fail;refine (kAk (n:=8) hc bC8).mono ?_;rintro e wo ⟨b1,rfl,G,D⟩;have e0:=D.size;replace Z:=Z.trans (D.wide (λk q=>.inr q));replace BT:=D.kC BT bC9;replace BQ:=D.kC BQ bC9;replace HC:=yD (HC.out.touch D rZ);replace HQ:=yD (HQ.out.touch D rZ);clear hc D;have hc:=G;clear G;cases b1
   · have ay:Qc wo au 0 (.slice (some ⟨kb,0,none⟩) 4 4):=kE BT rfl;have bn:Qc wo au 1 (.slice ra rl.length rc):=kE BT rfl;have bq:Qc wo au 2 (.slice (some ⟨ab,0,none⟩) 1 1):=kE BT rfl;have cm:Qc wo au 3 (.slice ca cl.length cc):=kE BT rfl;obtain ⟨b3,ce,cg,cd,ch⟩:=yt BQ;obtain ⟨bj,bx,be,bu⟩:=kUm BT;go_wp2_with (at_builtin;refine kD.yZ rfl _ _ 24 rfl (r:=jJ) (e:=68) underlying24 kOx rfl bC8 bC8 (w:=wo) HC.out bR HQ.out bD1 bD1 nS wE ?_);intro v9 w9 bp ap;have de:=ap.size;have dx:=yD (show (cl++[x]).length<=j + 1 by have:=aw.out;simp;omega);have b2:=yD (show ∀ z∈cl++[x],z.2.1.length<=64 from λz hz=>by rcases List.mem_append.1 hz with hz | hz;exact dz.out z hz;rw [Am.1 hz];exact b0);generalize cl++[x]=q at *;obtain ⟨a9,c9,b7,_⟩:=kD.kAy bp.raw;obtain rfl:v9=_:=by simpa using b7
     have b5:=yD (bp.wide (T:=λk=>mb < k/\k < w9.heap.size) bH);have hT:Touch (λk=>mb < k/\k < wo.heap.size) wo w9:=ap.wide (λk q=>⟨q.1.1,q.2⟩);clear bp ap b7 HC HQ ay bn bq cm b3 ce cg cd ch bj bx be bu;replace BT:=hT.kC BT bC9;clear BQ;replace hc:=hc.touch hT bC0 wP;replace Z:=Z.jh hT wP;clear hT;obtain ⟨ay,bn,bq,cm⟩:=kKm BT;obtain ⟨bj,bx,be,bu⟩:=kUm BT;go_upto_region 14 with fail;generalize F:World.setCell w9 _ _=eb;have hT:Touch (λk=>k=au) w9 eb:=vO;replace BT:Qr eb au #[.slice (some ⟨kb,0,none⟩) 4 4,Qs ra rl rc,.slice (some ⟨ab,0,none⟩) 1 1,Qs a9 q c9] 84:=by rw [<- F];exact kK BT 3
     have ej:=hT.size;clear F ay bn bq cm bj bx be bu;replace b5:=yD (b5.out.touch hT nV);obtain ⟨hc,Z⟩:=A9;clear hT;go_wp2;go_roundw;case rel=>exact ⟨j + 1,a9,c9,q,by go_num,by omega,dx,b2,BT,yD (b5.out.wide rD),hc,by omega,Z⟩
     simp [intOf];omega
   exact eO
 have a6:¬ (j:Int) < 2:=bC9
 replace HK:=yD (HK.out.touch Z mF)
 replace HA:=yD (HA.out.touch Z mF)
 replace HR:=yD (HR.out.touch Z (λk q h=>by have h1:=q.1;omega))
 replace R:=Z.kC R bC9
 replace N:=N.jh Z wP
 obtain ⟨e1,e6,eg,e3⟩:=kKm BT
 obtain ⟨ad,an,bb,bh⟩:=kKm R
 obtain ⟨aj,al,av,bg⟩:=kUm R
 have L:=yD (trust_rdB (S:=(λk=>w.heap.size < k/\k < wr.heap.size/\k≠p)) (HK.out.wide fV) (HR.out.ji.wide fG) (HA.out.wide fV) (HC.out.ji.wide fG))
 go_wp2
 refine Ag (v:=.agg #[.slice (some ⟨kb,0,none⟩) 4 4,Qs ra rl rc,.slice (some ⟨ab,0,none⟩) 1 1,Qs ca cl cc]) (by simp [results,results130,go_sem,ad,aj,an,al,bb,av,bh,bg]) rfl ⟨[.slice (some ⟨kb,0,none⟩) 4 4,Qs ra rl rc,.slice (some ⟨ab,0,none⟩) 1 1,Qs ca cl cc],(kl,rl,[k4],cl),rfl,?_,?_,hc.touch sT4 bC9 wM,N.jO sT4 bC9⟩
 · exact (L.out.touch sT4 rZ).wide (T:=jX w.heap.size _) dU
 exact λk h=>by have:=dz.out _ (Ah h);omega
end Go.Proofs.YtonmjkmaadgceabGreat

/-
  Patterns, rules, keys and trust as the reference draws them.
-/
import Derived.Test.YtjhfdpopkkmigaaGreatLenN
set_option linter.unusedVariables false
set_option linter.defProp false
set_option linter.unusedSimpArgs false
set_option linter.unnecessarySimpa false
set_option maxRecDepth 100000
set_option maxHeartbeats 8000000
open Bool renaming true->Tt,false->Ff
open Go.Act renaming put->Aa
open _root_ renaming Option->Ab,List->Aj,ByteArray->Ap
open Go renaming World->Ac,Addr->Ae,bodyPost_ret->Ag,Value->Ak,frozen_of_row->Al
open Option.some renaming injEq->Ad
open List renaming getElem_mem->Ah,mem_singleton->Am
open Go.Addr.mk renaming injEq->Ai
namespace Go.Proofs.YtjhfdpopkkmigaaGreat
open Go.RowKit _root_.Go.Proofs.Tryz
def ParsedPat (w:Ac) (e:Ending) (w':Ac):Prop:=∃ a c b Y,e=.returned (.tuple #[.agg #[Qs a Y c],.bool b])/\zP.own w' [Qs a Y c] Y (jU w.heap.size w'.heap.size)/\Y.length<=64/\Hid (yu Y)/\Qb w w'
def kGh {w:Ac} {s:Ap} (hs:s.size<=64) :
    Calls prog 220 #[.string s] w (ParsedPat w):=by
 go_enter func220,ntmps220
 cases hq:(s.toList==[47])
 case true =>
  go_wp2;refine Ag (v:=.tuple #[.agg #[.slice none 0 0],.bool true]) (by simp [results,results220,go_sem]) rfl ⟨none,0,true,[],rfl,kD.jr,by simp,yD yu.nil,?_⟩;exact bG
 go_wp2_with fail
 refine (kMj (by0:=47) hs bD0).mono ?_
 rintro e V ⟨v,rfl,Y,O2,ay,bt,E,ab⟩
 have ae:=yD (E.drop 1)
 clear E
 obtain ⟨b2,c2,rfl,a5,X,cd,aa⟩:=kD.kAr O2 ay
 have a7:=ab.size
 have L:=yD O2
 clear O2
 have o:(0:Int) < Y.length:=bD1
 have ag:(1:Int)<=Y.length:=bD1
 have ad:(Y.length:Int)<=c2:=bD1
 have F:c2<=9223372036854775807:=aa
 go_upto_region 5 with fail
 have HD:Hid (1 < Y.length->(kD.slice 9 kD.str).own V [.slice (if c2=1 then some ⟨b2,0,none⟩ else some ⟨b2,1,none⟩) (Y.length - 1) (c2 - 1)] (Y.drop 1) (jU (w.heap.size + 1) V.heap.size)):=yD (by
   intro h1;have h:=(L.out.own wM).wide (T:=jU (w.heap.size + 1) V.heap.size) nK;have ac:¬ c2=1:=bD1;rw [if_neg ac];exact kD.kWl h (k:=1) bD1)
 generalize (if c2=1 then some ⟨b2,0,none⟩ else some ⟨b2,1,none⟩:Ab Ae)=A at *
 obtain ⟨cb,O,he,c0,cr,az⟩:=kD.kCa (L.out.kAz) (i:=0) ay rfl
 simp only [Ad,Ai,and_true] at he
 obtain ⟨rfl,rfl⟩:=he
 have bb:[c0]=[.string Y[0]]:=(kD.zi cr).1
 obtain rfl:c0=.string Y[0]:=bA3
 clear cr bb
 generalize Y[0]=y0 at *
 have br:=yD (show (Y.drop 1).length=Y.length - 1 by simp)
 generalize Y.drop 1=qs at *
 have HM:=yD bt
 generalize D:World.alloc V _=wC
 have EC:Qb V wC:=rU
 have B2:Qr V w.heap.size #[.slice none 0 0] 200:=kC (kH rfl) ab
 have B5:Qr wC V.heap.size #[.slice A (Y.length - 1) (c2 - 1)] 200:=vG
 clear D
 obtain ⟨cl,b1,E2,B2,HD,AC,K5⟩:=G5
 clear az ab a5 L a7
 by_cases h2:(Y.length:Int) < 2
 · have K2:=kE B2 (j:=0) rfl;have F2:=Al wC w.heap.size 0 _ _ B2;clear AC;exact bL
 cases hy:y0.toList.isEmpty
 case false =>
  have K2:=kE B2 (j:=0) rfl;have F2:=Al wC w.heap.size 0 _ _ B2;exact bL
 replace HD:=yD (HD.out bD1)
 go_wp2_with fail
 refine (kDg (p:=qs) HD.out.rd.1).mono ?_
 rintro e w3 ⟨rfl,ap⟩
 have ar:=ap.size
 replace HD:=yD (HD.out.below ap)
 have E3:=(tQ E2 ap)
 replace K5:=cL ap K5
 replace B2:=kC B2 ap
 have K2:=kE B2 (j:=0) rfl
 have F2:=Al w3 w.heap.size 0 _ _ B2
 clear AC
 generalize hv:kLw qs=b
 cases b
 · go_wp2;refine Ag (v:=.tuple #[.agg #[.slice none 0 0],.bool false]) nI rfl ⟨none,0,false,[],rfl,kD.jr,by simp,yD yu.nil,?_⟩;exact E3.setCell bD2 _
 go_wp2
 refine Ag (v:=.tuple #[.agg #[.slice A (Y.length - 1) (c2 - 1)],.bool true]) nI rfl ⟨A,c2 - 1,true,qs,by rw [br.out],?_,by rw [br.out];omega,ae,E3.setCell bD2 _⟩
 rw [br.out]
 exact ((HD.out.touch (jg w3 w.heap.size 0 _) sM).wide fF)
def rule_form {w:Ac} {ds:Aj Ak} {r:kJy} (h:kLc.raw w ds r):∃ a c a2 c2,ds=[.slice a r.1.length c,.slice a2 r.2.length c2]:=by
 obtain ⟨v0,v1,rfl,ac,Z,ao,ai⟩:=kZh h;obtain ⟨a0,c0,rfl,_⟩:=kD.sl Z;obtain ⟨a1,c1,rfl,_⟩:=kD.sl ai;exact ⟨_,_,_,_,rfl⟩
def ParsedRule (w:Ac) (e:Ending) (w':Ac):Prop:=∃ ds r b,e=.returned (.tuple #[.agg ds.toArray,.bool b])/\kLc.own w' ds r (jU w.heap.size w'.heap.size)/\Qb w w'
def list3_get {α:Type} {l:List α} (h:l.length=3):0 < l.length/\1 < l.length/\2 < l.length:=by omega
def kSl {w:Ac} {s:Ap} (hs:s.size<=64) :
    Calls prog 195 #[.string s] w (ParsedRule w):=by
 go_enter func195,ntmps195
 go_upto_region 1 with fail
 generalize F:World.alloc w _=w1
 have ag:Qb w w1:=rT
 have R:Qr w1 w.heap.size #[.slice none 0 0,.slice none 0 0] 202:=vD
 have bf:w.heap.size + 1<=w1.heap.size:=bB3
 clear F
 have EE:=ag
 clear ag
 go_wp2_with fail
 refine (kMj (by0:=32) hs bD0).mono ?_
 rintro e V ⟨v,rfl,Y,O2,ay,bt,a6,hb⟩
 have bg:=hb.size
 replace R:=kC R hb
 replace EE:=(tQ EE hb)
 clear hb
 obtain ⟨b2,c2,rfl,a5,X,cd,aa⟩:=kD.kAr O2 ay
 have L:=yD O2.kAz
 clear O2 a5
 by_cases h3:Y.length=3
 · obtain ⟨g0,g1,g2⟩:=list3_get h3;have Z:=a6 _ (Ah g0);have af:=a6 _ (Ah g2);obtain ⟨cb,O,he,J,cr,az⟩:=kD.kCa L.out (i:=0) g0 rfl;simp only [Ad,Ai,and_true] at he;obtain ⟨rfl,rfl⟩:=he;have bb:[J]=[.string Y[0]]:=(kD.zi cr).1;obtain rfl:J=.string Y[0]:=bA3;clear cr bb;obtain ⟨cb,O,he,U,cr,o⟩:=kD.kCa L.out (i:=1) g1 rfl;simp only [Ad,Ai,and_true] at he;obtain ⟨rfl,rfl⟩:=he;have bb:[U]=[.string Y[1]]:=(kD.zi cr).1;obtain rfl:U=.string Y[1]:=bA3;clear cr bb;obtain ⟨cb,O,he,N,cr,D⟩:=kD.kCa L.out (i:=2) g2 rfl;simp only [Ad,Ai,and_true] at he;obtain ⟨rfl,rfl⟩:=he;have bb:[N]=[.string Y[2]]:=(kD.zi cr).1;obtain rfl:N=.string Y[2]:=bA3;clear cr bb;simp only [Nat.zero_add] at az o D;generalize Y[0]=y0 at *;generalize Y[1]=y1 at *;generalize Y[2]=y2 at *;clear a6 L ay bt X;have ad:(3:Int)<=c2:=bD1;rw [h3];clear h3 g0 g1 g2 cd;cases hy:(y1.toList==[60])
   · have ac:Qd V w 0 (.slice none 0 0):=kE R rfl;have an:Qd V w 1 (.slice none 0 0):=kE R rfl;exact bS
   go_wp2_with fail;refine (kGh Z).mono ?_;rintro e w3 ⟨pa,pc,W,P,rfl,hr,cz,ah,hb⟩;have bi:=hb.size;replace R:=kC R hb;replace az:=cL hb az;replace o:=cL hb o;replace D:=cL hb D;replace EE:=(tQ EE hb);clear hb;have HP:=yD (hr);clear hr;go_upto_region 5 with fail;generalize F:World.alloc w3 _=w4;have ab:Qb w3 w4:=rT;have G:Qr w4 w3.heap.size #[Qs pa P pc] 200:=vD;have bu:w3.heap.size + 1<=w4.heap.size:=bB3;clear F;replace R:=kC R ab;replace az:=cL ab az;replace o:=cL ab o;replace D:=cL ab D;replace HP:=yD (HP.out.below ab);replace EE:=(tQ EE ab);clear ab;go_wp2_with fail;refine (kGh af).mono ?_;rintro e w5 ⟨qa,qc,ae,Q,rfl,hr,ba,E,hb⟩;have br:=hb.size;replace R:=kC R hb;replace G:=kC G hb;replace az:=cL hb az;replace o:=cL hb o;replace D:=cL hb D;replace HP:=yD (HP.out.below hb);replace EE:=(tQ EE hb);clear hb;have HQ:=yD (hr);clear hr;go_upto_region 6 with fail;generalize F:World.alloc w5 _=w6;have aw:Qb w5 w6:=rT;have BQ:Qr w6 w5.heap.size #[Qs qa Q qc] 200:=vD;have da:w5.heap.size + 1<=w6.heap.size:=bB3;clear F;replace R:=kC R aw;replace G:=kC G aw;replace az:=cL aw az;replace o:=cL aw o;replace D:=cL aw D;replace HP:=yD (HP.out.below aw);replace HQ:=yD (HQ.out.below aw);replace EE:=(tQ EE aw);clear aw;have H:Qd w6 w3 0 (.slice pa P.length pc):=kE G rfl;have bw:Qd w6 w5 0 (.slice qa Q.length qc):=kE BQ rfl;go_upto_region 7 with fail;generalize F:World.alloc w6 _=w7;have aj:Qb w6 w7:=rT;have BR:Qr w7 w6.heap.size #[Qs pa P pc,Qs qa Q qc] 202:=vD;have ea:w6.heap.size + 1<=w7.heap.size:=bB3;clear F;replace R:=kC R aj;replace G:=kC G aj;replace BQ:=kC BQ aj;replace az:=cL aj az;replace o:=cL aj o;replace D:=cL aj D;replace HP:=yD (HP.out.below aj);replace HQ:=yD (HQ.out.below aj);replace EE:=(tQ EE aj);clear H bw;clear aj;cases W
   · exact dN
   cases ae
   · exact dN
   have ar:Qd w7 w6 0 (.slice pa P.length pc):=kE BR rfl;have au:Qd w7 w6 1 (.slice qa Q.length qc):=kE BR rfl;have am:=yD (kD.jY (r:=zP) (q:=zP) (cs:=[.slice pa P.length pc]) (ds:=[.slice qa Q.length qc]) (S:=λk=>w.heap.size < k/\k < w7.heap.size) HP.out HQ.out mX mX pG);clear HP HQ;go_wp2_with fail;refine (kSj (cr:=[.slice pa P.length pc,.slice qa Q.length qc]) (r:=(P,Q)) am.out.raw).mono ?_;rintro e w8 ⟨rfl,hb⟩;have d9:=hb.size;replace R:=kC R hb;replace G:=kC G hb;replace BQ:=kC BQ hb;replace BR:=kC BR hb;replace az:=cL hb az;replace o:=cL hb o;replace D:=cL hb D;replace am:=yD (am.out.below hb);replace EE:=(tQ EE hb);clear ar au;clear hb;generalize kRd (P,Q)=vr;cases vr
   · have ac:Qd w8 w 0 (.slice none 0 0):=kE R rfl;have an:Qd w8 w 1 (.slice none 0 0):=kE R rfl;exact bS
   have ar:Qd w8 w6 0 (.slice pa P.length pc):=kE BR rfl;have au:Qd w8 w6 1 (.slice qa Q.length qc):=kE BR rfl;obtain ⟨ac,an⟩:=yQ R;obtain ⟨ak,al⟩:=kCj R;go_wp2;refine Ag (v:=.tuple #[.agg #[Qs pa P pc,Qs qa Q qc],.bool true]) gX rfl ⟨[Qs pa P pc,Qs qa Q qc],(P,Q),true,rfl,?_,?_⟩
   · exact (am.out.touch sT2 sK).wide fF
   exact EE.trans (Touch.below sT2 EE.size wW)
 have ai:¬ (Y.length:Int)=3:=bD1
 obtain ⟨ac,an⟩:=yQ R
 exact bS
def kTq {w:Ac} {cs:Aj Ak} {x:kr} (h:kW.raw w cs x):∃ a c,cs=[.slice a x.length c]:=by
 obtain ⟨v0,rfl,h0⟩:=ko h;obtain ⟨a,c,h1,_⟩:=kD.kAx h0;obtain rfl:v0=_:=by simpa using h1
 exact ⟨a,c,rfl⟩
def SignedW (m:Nat) (w:Ac) (e:Ending) (w':Ac):Prop:=∃ ds x ok,e=.returned (.tuple #[.agg ds.toArray,.bool ok])/\jF.own w' ds x (jU w.heap.size w'.heap.size)/\x.2.1.length<=m/\Qb w w'
def kZc {w:Ac} {S:Nat->Prop}:jF.own w [.slice none 0 0,.slice none 0 0,.slice none 0 0,Qn 0,Qn 0] ([],[],[],0,0) S:=⟨jF.is_zero,jF.bdd_zero⟩
def kDy {w:Ac} {vl:Ak} {l:Aj kOb} (hl:(kD.slice 199 kJh).raw w [vl] l) {cb:Aj Ak} {yb:kr} (hby:kW.rd w cb yb) {cn:Aj Ak} {n:kr} (hn:kW.rd w cn n) {L:Ak} {b_:Aj UInt8} (ag:(kD.slice 5 kD.byte).rd w [L] b_) (aw:b_.length<=1000) {tl:Int} (ht:Qi tl) :
    Calls prog 197 #[vl,.agg cb.toArray,.agg cn.toArray,L,.int .i64 tl] w (SignedW b_.length w):=by
 obtain ⟨la,lc,rfl,_⟩:=kD.sl hl
 obtain ⟨ya,yc,rfl⟩:=kTq hby.1
 obtain ⟨na,nc,rfl⟩:=kTq hn.1
 obtain ⟨ba,bc,rfl,_⟩:=kD.sl ag.1
 have HL:=yD hl
 have HY:=yD hby
 have HN:=yD hn
 have HB:=yD ag
 have am:=sec_rng (n:=yb) hl
 clear hl hby hn ag
 go_enter func197,ntmps197
 go_upto_region 1 with fail
 generalize F:World.alloc (World.alloc (World.alloc w _) _) _=w1
 have EE:Qb w w1:=by rw [<- F];exact bG
 have BY:Qr w1 w.heap.size #[Qs ya yb yc] 36:=qX
 have BN:Qr w1 (w.heap.size + 1) #[Qs na n nc] 36:=by rw [<- F];exact jR (kH bD2)
 obtain ⟨BR,bf⟩:=GQ
 clear F
 go_cut [12] from 13 to 22 (λao wc=>∃ (b:Nat) (ad ai aj:Ab Ae) (ae af ah:Nat) (sg:Int),ao=.pointer (some ⟨b,0,none⟩)/\Qr wc b #[Qs ad n ae,Qs ai b_ af,Qs aj yb ah,Qn tl,Qn sg] 38/\Hid (jF.own wc [Qs ad n ae,Qs ai b_ af,Qs aj yb ah,Qn tl,Qn sg] (n,b_,yb,tl,sg) (Ql w1 wc b))/\w1.heap.size<=b/\b < wc.heap.size/\Qb w1 wc)
 case first =>
  have FX:=yD (λ(W:Ac) (hW:Qb w1 W)=>And.intro (kE (kC BY hW) (j:=0) (v:=.slice ya yb.length yc) rfl) (kE (kC BN hW) (j:=0) (v:=.slice na n.length nc) rfl));refine yM (λW=>Qb w1 W) bC5 (bR.drew) ?_;intro t E;have d6:=E.size;refine kQ 0 ?_;refine kQ 1 ?_;refine kQ 3 ?_;refine kQ 4 ?_;refine kQ 5 ?_;refine kQ 6 ?_;refine kQ 7 ?_;refine kIv ?_;intro T A N hA;have V:∀ (ad:Ab Ae) (ae:Nat) (ai:Ab Ae) (af:Nat) (aj:Ab Ae) (ah:Nat) (sg:Int) (b:Nat) (W:Ac),Qb w1 W->(Hid (jF.own W [Qs ad n ae,Qs ai b_ af,Qs aj yb ah,Qn tl,Qn sg] (n,b_,yb,tl,sg) (Ql w1 W b)))->(w1.heap.size<=b/\b < W.heap.size)->(Qr W b #[Qs ad n ae,Qs ai b_ af,Qs aj yb ah,Qn tl,Qn sg] 38)->T 0 [Tt,Tt,Tt,Tt,Tt,Tt,Tt,Tt,Tt,Tt,Tt] (Aa (Aa (Aa A (some 15) (.int .i64 (kBp l yb))) (some 21) (.agg #[Qs ad n ae,Qs ai b_ af,Qs aj yb ah,Qn tl,Qn sg])) (some 12) (.pointer (some ⟨b,0,none⟩))) W:=by
   intro ad ae ai af aj ah sg b W E HQ o BB;have a5:=E.size;subst N;subst hA;simp only [Aa,zA,zB,zC];refine jW bC5 ?_;go_wp2;go_meet;exact ⟨b,ad,ai,aj,ae,af,ah,sg,rfl,BB,HQ,o.1,o.2,E⟩
  have Y:∀ (ad:Ab Ae) (ae:Nat) (ai:Ab Ae) (af:Nat) (aj:Ab Ae) (ah:Nat) (sg:Int) (b:Nat) (W:Ac),Qb w1 W->(Hid (jF.own W [Qs ad n ae,Qs ai b_ af,Qs aj yb ah,Qn tl,Qn sg] (n,b_,yb,tl,sg) (Ql w1 W b)))->(w1.heap.size<=b/\b < W.heap.size)->(Qr W b #[.slice none 0 0,.slice none 0 0,.slice none 0 0,Qn 0,Qn 0] 38)->T 1 [Tt,Tt,Tt,Tt,Tt,Tt,Tt,Tt,Tt,Tt,Ff] (Aa (Aa (Aa A (some 15) (.int .i64 (kBp l yb))) (some 21) (.agg #[Qs ad n ae,Qs ai b_ af,Qs aj yb ah,Qn tl,Qn sg])) (some 12) (.pointer (some ⟨b,0,none⟩))) W:=by
   intro ad ae ai af aj ah sg b W E HQ o BB;have a5:=E.size;subst N;subst hA;simp only [Aa,zA,zB,zC];refine kN (k:=10) rfl bC5 rfl (λK H=>?_);obtain ⟨d3,du,dz,dv,c8⟩:=yI BB;obtain ⟨c5,c7,dc,db,c6⟩:=kBh BB;go_simp;generalize F:World.setCell (World.setCell (World.setCell (World.setCell (World.setCell W _ _) _ _) _ _) _ _) _ _=v;have N:Touch (λk=>k=b) W v:=(by rw [<- F];exact sT5);replace BB:Qr v b #[Qs ad n ae,Qs ai b_ af,Qs aj yb ah,Qn tl,Qn sg] 38:=(by rw [<- F];exact kF (kF (kF (kF (kF (BB) 0) 1) 2) 3) 4);clear F d3 c5 du c7 dz dc dv db c8 c6;have zv:=N.size;replace HQ:Hid (jF.own v [Qs ad n ae,Qs ai b_ af,Qs aj yb ah,Qn tl,Qn sg] (n,b_,yb,tl,sg) (Ql w1 v b)):=yD ((HQ.out.touch N (λk q h=>q.2.2 h)).wide (λk q=>⟨q.1,Nat.lt_of_lt_of_le q.2.1 N.size,q.2.2⟩));replace o:w1.heap.size<=b/\b < v.heap.size:=⟨o.1,Nat.lt_of_lt_of_le o.2 N.size⟩;replace E:=E.trans (N.below E.size wW);refine H _ _ E ?_;clear H K;refine jD ?_;have h_:=V ad ae ai af aj ah sg b v E HQ o BB;exact aZ
  have an:∀ (ad:Ab Ae) (ae:Nat) (ai:Ab Ae) (af:Nat) (aj:Ab Ae) (ah:Nat) (sg:Int) (W:Ac),Qb w1 W->(Hid (jF.own W [Qs ad n ae,Qs ai b_ af,Qs aj yb ah,Qn tl,Qn sg] (n,b_,yb,tl,sg) (λk=>w1.heap.size<=k/\k < W.heap.size/\k≠w.heap.size)))->T 2 [Tt,Tt,Tt,Tt,Tt,Tt,Tt,Tt,Tt,Ff,Ff] (Aa (Aa A (some 15) (.int .i64 (kBp l yb))) (some 21) (.agg #[Qs ad n ae,Qs ai b_ af,Qs aj yb ah,Qn tl,Qn sg])) W:=by
   intro ad ae ai af aj ah sg W E HQ;have a5:=E.size;subst N;subst hA;simp only [Aa,zA,zB,zC];refine kN (k:=9) rfl bC5 rfl (λK H=>?_);go_simp;generalize F:World.alloc W _=v;obtain ⟨hb,BB,zv⟩:=xB;clear F;obtain ⟨b,ap⟩:∃ b_,b_=W.heap.size:=⟨_,rfl⟩;rw [<- ap] at BB ⊢;replace HQ:Hid (jF.own v [Qs ad n ae,Qs ai b_ af,Qs aj yb ah,Qn tl,Qn sg] (n,b_,yb,tl,sg) (Ql w1 v b)):=yD ((HQ.out.below hb).wide dG);have o:w1.heap.size<=b/\b < v.heap.size:=⟨by omega,by omega⟩;exact dQ
  have ac:∀ (b:Nat) (W:Ac),Qb w1 W->(w1.heap.size<=b/\b < W.heap.size)->(Qr W b #[.slice none 0 0,.slice none 0 0,.slice none 0 0,Qn 0,Qn 0] 38)->T 2 [Tt,Tt,Tt,Tt,Tt,Tt,Tt,Tt,Ff,Tt,Ff] (Aa (Aa A (some 15) (.int .i64 (kBp l yb))) (some 12) (.pointer (some ⟨b,0,none⟩))) W:=by
   intro b W E o BB;have a5:=E.size;subst N;subst hA;simp only [Aa,zA,zB,zC];refine kN (k:=8) rfl bC5 rfl (λK H=>?_);go_simp;refine (kGg (s:=kBp l yb) am (cx:=[.slice na n.length nc,.slice ba b_.length bc,.slice ya yb.length yc,.int .i64 tl,.int .i64 0]) (x:=(n,b_,yb,tl,0)) (kWo (S:=λ_=>True) ((HN.out.below EE).below E) ((HB.out.below EE).below E) ((HY.out.below EE).below E) ht bD1) (by show b_.length<=_;omega)).mono ?_;rintro e v ⟨sg,ds,rfl,hO,co,hb⟩;have zv:=hb.size;have b9:=o.2;replace BB:=kC BB hb;replace o:w1.heap.size<=b/\b < v.heap.size:=⟨o.1,Nat.lt_of_lt_of_le o.2 hb.size⟩;obtain ⟨ad,ae,ai,af,aj,ah,rfl⟩:=yS hO.raw;have HQ:Hid (jF.own v [Qs ad n ae,Qs ai b_ af,Qs aj yb ah,Qn tl,Qn sg] (n,b_,yb,tl,sg) (Ql w1 v b)):=yD (hO.wide gW);exact dQ
  have T2:∀ (W:Ac),Qb w1 W->T 3 [Tt,Tt,Tt,Tt,Tt,Tt,Tt,Tt,Ff,Ff,Ff] (Aa A (some 15) (.int .i64 (kBp l yb))) W:=by
   intro W E;have a5:=E.size;subst N;subst hA;simp only [Aa,zA,zB,zC];refine jl (i:=8) (j:=9) rfl rfl bC5 rfl rfl (λK H=>?_) (λK H=>?_)
   · go_simp;refine (kGg (s:=kBp l yb) am (cx:=[.slice na n.length nc,.slice ba b_.length bc,.slice ya yb.length yc,.int .i64 tl,.int .i64 0]) (x:=(n,b_,yb,tl,0)) (kWo (S:=λ_=>True) ((HN.out.below EE).below E) ((HB.out.below EE).below E) ((HY.out.below EE).below E) ht bD1) (by show b_.length<=_;omega)).mono ?_;rintro e v ⟨sg,ds,rfl,hO,co,hb⟩;have zv:=hb.size;obtain ⟨ad,ae,ai,af,aj,ah,rfl⟩:=yS hO.raw;have HQ:Hid (jF.own v [Qs ad n ae,Qs ai b_ af,Qs aj yb ah,Qn tl,Qn sg] (n,b_,yb,tl,sg) (λk=>w1.heap.size<=k/\k < v.heap.size/\k≠w.heap.size)):=yD (hO.wide gW);replace E:=(tQ E hb);refine H _ _ E ?_;clear H K;refine jD ?_;have h_:=an ad ae ai af aj ah sg v E HQ;exact aZ
   go_simp;generalize F:World.alloc W _=v;obtain ⟨hb,BB,zv⟩:=xB;clear F;obtain ⟨b,ap⟩:∃ b_,b_=W.heap.size:=⟨_,rfl⟩;rw [<- ap] at BB ⊢;have o:w1.heap.size<=b/\b < v.heap.size:=⟨by omega,by omega⟩;exact dR
  have T9:∀ (b:Nat) (W:Ac),Qb w1 W->(w1.heap.size<=b/\b < W.heap.size)->(Qr W b #[.slice none 0 0,.slice none 0 0,.slice none 0 0,Qn 0,Qn 0] 38)->T 3 [Tt,Tt,Ff,Tt,Tt,Tt,Tt,Tt,Ff,Tt,Ff] (Aa A (some 12) (.pointer (some ⟨b,0,none⟩))) W:=by
   intro b W E o BB;have a5:=E.size;subst N;subst hA;simp only [Aa,zA,zB,zC];refine kN (k:=2) rfl bC5 rfl (λK H=>?_);go_simp;refine (kDz ((HL.out.below EE).below E) (cn:=[.slice ya yb.length yc]) ((HY.out.1.below EE).below E)).mono ?_;rintro e v ⟨rfl,hb⟩;have zv:=hb.size;have b9:=o.2;replace BB:=kC BB hb;replace o:w1.heap.size<=b/\b < v.heap.size:=⟨o.1,Nat.lt_of_lt_of_le o.2 hb.size⟩;exact dR
  subst N;subst hA;refine jl (i:=2) (j:=9) rfl rfl bC5 rfl rfl (λK H=>?_) (λK H=>?_)
  · go_simp;refine (kDz ((HL.out.below EE).below E) (cn:=[.slice ya yb.length yc]) ((HY.out.1.below EE).below E)).mono ?_;rintro e v ⟨rfl,hb⟩;have zv:=hb.size;replace E:=(tQ E hb);refine H _ _ E ?_;clear H K;refine jD ?_;have h_:=T2 v E;exact aZ
  go_simp;generalize F:World.alloc t _=v;obtain ⟨hb,BB,zv⟩:=BJ;clear F;obtain ⟨b,ap⟩:∃ b_,b_=t.heap.size:=⟨_,rfl⟩;rw [<- ap] at BB ⊢;have o:w1.heap.size<=b/\b < v.heap.size:=⟨by omega,by omega⟩;exact dS
 obtain ⟨b,ad,ai,aj,ae,af,ah,sg,rfl,BQ,HQ,cf,O,aa⟩:=hcut
 have zc:=aa.size
 replace BY:=kC BY aa
 replace BR:=kC BR aa
 replace EE:=(tQ EE aa)
 have Z:=HL
 replace HL:=yD (Z.out.below EE)
 have X:=HY
 replace HY:=yD (X.out.below EE)
 clear Z X HN HB BN aa
 have aq:Qd wc w 0 (.slice ya yb.length yc):=kE BY rfl
 go_wp2_with fail
 refine (kDz HL.out (cn:=[.slice ya yb.length yc]) HY.out.1).mono ?_
 rintro e w4 ⟨rfl,hb⟩
 have bu:=hb.size
 replace BY:=kC BY hb
 replace BR:=kC BR hb
 replace BQ:=kC BQ hb
 replace HQ:=yD (HQ.out.below hb)
 replace HL:=yD (HL.out.below hb)
 replace HY:=yD (HY.out.below hb)
 replace EE:=(tQ EE hb)
 clear aq
 clear hb
 by_cases cq:kBp l yb=0
 · have ar:Qc w4 (w.heap.size + 2) 0 (.slice none 0 0):=kE BR rfl;have au:Qc w4 (w.heap.size + 2) 1 (.slice none 0 0):=kE BR rfl;have R:Qc w4 (w.heap.size + 2) 2 (.slice none 0 0):=kE BR rfl;have G:Qc w4 (w.heap.size + 2) 3 (.int .i64 0):=kE BR rfl;have ab:Qc w4 (w.heap.size + 2) 4 (.int .i64 0):=kE BR rfl;exact dV
 have bw:Qc w4 b 0 (.slice ad n.length ae):=kE BQ rfl
 have bx:Qc w4 b 1 (.slice ai b_.length af):=kE BQ rfl
 have b4:Qc w4 b 2 (.slice aj yb.length ah):=kE BQ rfl
 have b0:Qc w4 b 3 (.int .i64 tl):=kE BQ rfl
 have b3:Qc w4 b 4 (.int .i64 sg):=kE BQ rfl
 go_wp2_with fail
 refine (kDc (x:=(n,b_,yb,tl,sg)) HQ.out.raw).mono ?_
 rintro e w5 ⟨rfl,hb⟩
 have br:=hb.size
 replace BY:=kC BY hb
 replace BR:=kC BR hb
 replace BQ:=kC BQ hb
 replace HQ:=yD (HQ.out.below hb)
 replace HL:=yD (HL.out.below hb)
 replace HY:=yD (HY.out.below hb)
 replace EE:=(tQ EE hb)
 clear bw bx b4 b0 b3
 clear hb
 generalize kBi (n,b_,yb,tl,sg)=ok
 cases ok
 · have ar:Qc w5 (w.heap.size + 2) 0 (.slice none 0 0):=kE BR rfl;obtain ⟨au,R,G,ab⟩:=F8;exact dV
 have ar:Qc w5 (w.heap.size + 2) 0 (.slice none 0 0):=kE BR rfl
 obtain ⟨au,R,G,ab⟩:=F8
 obtain ⟨bw,bx,b4,b0,b3⟩:=yI BQ
 obtain ⟨al,ak,D,J,U⟩:=kBh BR
 go_wp2
 refine Ag (v:=.tuple #[.agg #[Qs ad n ae,Qs ai b_ af,Qs aj yb ah,Qn tl,Qn sg],.bool true]) fU rfl ⟨[Qs ad n ae,Qs ai b_ af,Qs aj yb ah,Qn tl,Qn sg],(n,b_,yb,tl,sg),true,rfl,?_,?_,?_⟩
 · exact (HQ.out.touch sT5 sK).wide dZ
 · simp
 exact EE.trans (Touch.below sT5 EE.size wW)
def kEa {w:Ac} {vl:Ak} {l:Aj kOb} (hl:(kD.slice 199 kJh).raw w [vl] l) {cn:Aj Ak} {n:kr} (hn:kW.rd w cn n) {cb:Aj Ak} {yb:kr} (hby:kW.rd w cb yb) {tl:Int} (ht:Qi tl) :
    Calls prog 196 #[vl,.agg cn.toArray,.agg cb.toArray,.int .i64 tl] w (SignedW 64 w):=by
 obtain ⟨la,lc,rfl,_⟩:=kD.sl hl
 obtain ⟨ya,yc,rfl⟩:=kTq hby.1
 obtain ⟨na,nc,rfl⟩:=kTq hn.1
 have a2:=keyDig_len (l:=l) (n:=n)
 go_enter func196,ntmps196
 go_upto_region 1 with fail
 generalize F:World.alloc (World.alloc (World.alloc w _) _) _=w1
 have EE:Qb w w1:=by rw [<- F];exact bG
 have HL:=yD (hl.below EE)
 have HY:=yD (hby.below EE)
 have HN:=yD (hn.below EE)
 clear hl hby hn
 have BN:Qr w1 w.heap.size #[Qs na n nc] 36:=qX
 have BY:Qr w1 (w.heap.size + 1) #[Qs ya yb yc] 36:=by rw [<- F];exact jR (kH bD2)
 obtain ⟨BR,bf⟩:=GQ
 clear F
 have ao:Qd w1 w 0 (.slice na n.length nc):=kE BN rfl
 have aq:Qc w1 (w.heap.size + 1) 0 (.slice ya yb.length yc):=kE BY rfl
 have FX:=yD (λ(W:Ac) (hW:Qb w1 W)=>kHv hW ao aq)
 refine jS (λW=>Qb w1 W) [(0,true),(1,true),(2,true),(3,true),(4,true),(6,true),(5,false),(7,false),(8,true),(9,true)] bC5 bC5 pY (bR.drew) ?_
 intro wS E
 simp only [jB,List.length_cons,List.length_nil,List.getElem?_cons_succ,List.getElem?_cons_zero,List.map_cons,List.map_nil,List.cons_append,List.nil_append,List.drop_succ_cons,List.drop_zero]
 iterate 6
  all_goals refine kX ?_
 all_goals first|(refine kG rfl E ?_)|(refine kY rfl (λK H=>?_);go_simp;refine (kSn (HL.out.below E) (HN.out.1.below E) (cn:=[.slice na n.length nc])).mono ?_;rintro e wS1 ⟨vg,rfl,OG,X⟩;obtain ⟨ag,ng,cg,a3,ba⟩:=OG.parts;obtain rfl:=a3;have RG:=yD ((OG.own wM).rd);clear OG;replace E:=(tQ E X);refine H _ _ E ?_;clear H K X)
 all_goals refine jD ?_
 all_goals first|(refine kG rfl E ?_)|(refine kY rfl (λK H=>?_);go_simp;refine (kDy (l:=l) (HL.out.below E) (cb:=[.slice ya yb.length yc]) (HY.out.below E) (cn:=[.slice na n.length nc]) (HN.out.below E) RG.out bD1 ht).mono ?_;rintro e bx ⟨ds,x,ok,rfl,hO,b5,X⟩;have HQ:=yD hO;have o:=X.size;have G:=E.size;obtain ⟨ad,ae,ai,af,aj,ah,rfl⟩:=yS hO.raw;clear hO;replace E:=(tQ E X);refine H _ _ E ?_;clear H K X)
 all_goals refine jD ?_
 all_goals refine kX ?_
 all_goals refine kX ?_
 all_goals refine jy ?_
 replace BR:=kC BR E
 have D:=E.size
 have E2:=(tQ EE E)
 obtain ⟨ac,an,bd,bh,bp⟩:=yI BR
 obtain ⟨ak,al,ax,be,bo⟩:=kBh BR
 go_wp2
 refine Ag (v:=.tuple #[.agg #[Qs ad x.1 ae,Qs ai x.2.1 af,Qs aj x.2.2.1 ah,Qn x.2.2.2.1,Qn x.2.2.2.2],.bool ok]) (by simp [results,results196,go_sem,ac,ak,an,al,bd,ax,bh,be,bp,bo]) rfl ⟨[Qs ad x.1 ae,Qs ai x.2.1 af,Qs aj x.2.2.1 ah,Qn x.2.2.2.1,Qn x.2.2.2.2],x,ok,rfl,?_,by omega,?_⟩
 · exact (HQ.out.touch sT5 sK).wide fF
 exact E2.trans (Touch.below sT5 E2.size wW)
def lit_rdB {α:Type} {r:kD α} {e:TypeId} {w:Ac} {b:Nat} {cs:Aj Ak} {xs:Aj α} {S:Nat->Prop} (hb:w.heap[b]?=some (.cells cs.toArray e (0,0))) (hr:kD.row r false w cs xs S) (hd:∀ x∈xs,r.bdd Big x) (hl:xs.length<=64):(kD.slice e r).ji w [.slice (some ⟨b,0,none⟩) xs.length xs.length] xs (λk=>S k\/k=b):=by
 refine ⟨⟨_,_,xs.length,rfl,rfl,Nat.le_refl _,by unfold maxLen;omega,.inr ⟨b,0,rfl,cs.toArray,e,(0,0),[],cs,[],hb,by simp,rfl,?_,(λh=>by cases h),.inr rfl,?_⟩⟩,by unfold Big;omega,hd⟩
 · have:=kD.zQ hr;simp;omega
 exact kD.yK hr (λk hk=>⟨.inl hk,λh=>by cases h⟩)
def kOt {α:Type} {r:kD α} {w:Ac} {c d:Aj Ak} {y:α} {ys:Aj α} {S:Nat->Prop} (h:r.ji w c y S) (k:kD.row r false w d ys S):kD.row r false w (c++d) (y :: ys) S:=⟨c,d,S,S,rfl,h.1,k,λ_ h=>h,λ_ h=>h,λh=>by cases h⟩
def kTr {w:Ac} {v:Ak} {n:kr} {s:Int} {S:Nat->Prop} (h:kW.ji w [v] n S) (hs:Qi s):kJh.ji w [v,Qn s] (n,s) S :=
  kD.kAn (r:=kW) (q:=.int) (z:=(n,s)) h (kD.flat.ji (kD.jG hs))
def Touch.ja {S U:Nat->Prop} {w w1 V:Ac} (h:Touch S w w1) (t:Touch U w1 V) (hb:∀ k,U k->S k\/w.heap.size<=k):Touch S w V:=by
 refine ⟨t.os.trans h.os,t.tape.trans h.tape,t.output.trans h.output,Nat.le_trans h.size t.size,λk hk hn=>?_⟩;exact (t.block k (Nat.lt_of_lt_of_le hk h.size) (λq=>by rcases hb k q with q | q;exact hn q;omega)).trans (h.block k hk hn)
def trust_rdB {w:Ac} {v0 v1 v2 v3:Ak} {x0:Aj kOb} {x1:Aj kJy} {x2:Aj kr} {x3:Aj jL} {S:Nat->Prop} (h0:(kD.slice 199 kJh).ji w [v0] x0 S) (h1:(kD.slice 202 kLc).ji w [v1] x1 S) (h2:(kD.slice 36 kW).ji w [v2] x2 S) (h3:(kD.slice 38 jF).ji w [v3] x3 S):kAy.ji w [v0,v1,v2,v3] (x0,x1,x2,x3) S :=
  kD.kAn (r:=(kD.slice 199 kJh)) (q:=.pair (kD.slice 202 kLc) (.pair (kD.slice 36 kW) (kD.slice 38 jF))) (z:=(x0,x1,x2,x3)) h0 (kD.kAn (r:=(kD.slice 202 kLc)) (q:=.pair (kD.slice 36 kW) (kD.slice 38 jF)) (z:=(x1,x2,x3)) h1 (kD.kAn (r:=(kD.slice 36 kW)) (q:=(kD.slice 38 jF)) (z:=(x2,x3)) h2 h3))
def DrawnT (w0 w:Ac) (p:Nat) (e:Ending) (w':Ac):Prop:=∃ ds t,e=.returned (.agg ds.toArray)/\kAy.ji w' ds t (jU w.heap.size w'.heap.size)/\lenT t/\yT w0 w' p/\Touch (λk=>k=p) w w'
def kUr {w0 w:Ac} {p:Nat} (hc:yT w0 w p) :
    Calls prog 166 #[.pointer (some ⟨p,0,none⟩)] w λe w'=>DrawnT w0 w p e w':=by
 go_enter func166,ntmps166
 obtain ⟨ay,bt⟩:=hc.lt
 go_upto_region 1 with fail
 generalize F:World.alloc w _=w1
 have ag:Qb w w1:=rT
 have R:Qr w1 w.heap.size #[.slice none 0 0,.slice none 0 0,.slice none 0 0,.slice none 0 0] 79:=vD
 have bf:w.heap.size + 1<=w1.heap.size:=bB3
 clear F
 obtain ⟨hc,J⟩:=xO
 clear ag
 go_wp2_with fail
 refine (yV (s:={ data:=#[47,107,101,121,47,97] }) bD0).mono ?_
 rintro e V ⟨a0,c0,k0,rfl,hr,bp,cq,hb⟩
 have bg:=hb.size
 replace R:=kC R hb
 obtain ⟨hc,J⟩:=xE
 clear hb
 have H0:=yD (hr)
 clear hr bp cq
 go_wp2_with fail
 refine (yV (s:={ data:=#[47,97,47,107,101,121] }) bD0).mono ?_
 rintro e w3 ⟨a1,c1,k1,rfl,hr,cz,cm,hb⟩
 have bi:=hb.size
 replace R:=kC R hb
 replace H0:=yD (H0.out.below hb)
 obtain ⟨hc,J⟩:=xE
 clear hb
 have H1:=yD (hr)
 clear hr cz cm
 go_wp2_with fail
 refine (yV (s:={ data:=#[47,98,47,107,101,121] }) bD0).mono ?_
 rintro e w4 ⟨a2,c2,k2,rfl,hr,ba,bo,hb⟩
 have bu:=hb.size
 replace R:=kC R hb
 replace H0:=yD (H0.out.below hb)
 replace H1:=yD (H1.out.below hb)
 obtain ⟨hc,J⟩:=xE
 clear hb
 have H2:=yD (hr)
 clear hr ba bo
 go_wp2_with fail
 refine (yV (s:={ data:=#[47,98,97,100,47,107,101,121] }) bD0).mono ?_
 rintro e w5 ⟨a3,c3,k3,rfl,hr,ck,dl,hb⟩
 have br:=hb.size
 replace R:=kC R hb
 replace H0:=yD (H0.out.below hb)
 replace H1:=yD (H1.out.below hb)
 replace H2:=yD (H2.out.below hb)
 obtain ⟨hc,J⟩:=xE
 clear hb
 have H3:=yD (hr)
 clear hr ck dl
 go_wp2_with fail
 generalize F:World.alloc w5 _=w6
 have aw:Qb w5 w6:=rT
 have BK:Qr w6 w5.heap.size #[Qs a0 k0 c0,Qn 100,Qs a1 k1 c1,Qn 101,Qs a2 k2 c2,Qn 102,Qs a3 k3 c3,Qn 103] 199:=vD
 have da:w5.heap.size + 1<=w6.heap.size:=bB3
 clear F
 replace R:=kC R aw
 replace H0:=yD (H0.out.below aw)
 replace H1:=yD (H1.out.below aw)
 replace H2:=yD (H2.out.below aw)
 replace H3:=yD (H3.out.below aw)
 replace hc:=hc.below aw
 replace J:=J.trans (Touch.of_below aw)
 clear aw
 refine (yV (s:={ data:=#[47,107,101,121,47,97] }) bD0).mono ?_
 rintro e w7 ⟨a4,c4,k4,rfl,hr,el,de,hb⟩
 have ea:=hb.size
 replace R:=kC R hb
 replace BK:=kC BK hb
 replace H0:=yD (H0.out.below hb)
 replace H1:=yD (H1.out.below hb)
 replace H2:=yD (H2.out.below hb)
 replace H3:=yD (H3.out.below hb)
 obtain ⟨hc,J⟩:=xE
 clear hb
 have H4:=yD (hr)
 clear hr el de
 go_upto_region 2 with fail
 generalize F:World.alloc (World.alloc w7 _) _=w8
 have E_:Qb w7 w8:=by rw [<- F];exact (bR.alloc nL _).alloc bD2 _
 have BA:Qr w8 w7.heap.size #[Qs a4 k4 c4] 36:=sN
 have BT:Qr w8 (w7.heap.size + 1) #[.slice (some ⟨w5.heap.size,0,none⟩) 4 4,.slice none 0 0,.slice (some ⟨w7.heap.size,0,none⟩) 1 1,.slice none 0 0] 79:=by rw [<- F];exact kH bD2
 have d9:w7.heap.size + 2<=w8.heap.size:=bB3
 clear F
 replace R:=kC R E_
 replace BK:=kC BK E_
 replace H0:=yD (H0.out.below E_)
 replace H1:=yD (H1.out.below E_)
 replace H2:=yD (H2.out.below E_)
 replace H3:=yD (H3.out.below E_)
 replace H4:=yD (H4.out.below E_)
 replace hc:=hc.below E_
 replace J:=J.trans (Touch.of_below E_)
 clear E_
 obtain ⟨au,dq⟩:∃ b_,b_=w7.heap.size + 1:=⟨_,rfl⟩
 rw [<- dq] at BT ⊢
 have eu:=Nat.le_of_eq dq
 have eq:=Nat.le_of_eq dq.symm
 clear dq
 have HK:Hid ((kD.slice 199 kJh).ji w8 [.slice (some ⟨w5.heap.size,0,none⟩) 4 4] [(k0,100),(k1,101),(k2,102),(k3,103)] (λk=>w.heap.size < k/\k < au/\k≠p)):=yD ((lit_rdB (r:=kJh) (xs:=[(k0,100),(k1,101),(k2,102),(k3,103)]) (S:=(λk=>w.heap.size < k/\k < au/\k≠p)) BK (kOt (c:=[.slice a0 k0.length c0,.int .i64 100]) (kTr (H0.out.ji.wide fO) bD1) (kOt (c:=[.slice a1 k1.length c1,.int .i64 101]) (kTr (H1.out.ji.wide fO) bD1) (kOt (c:=[.slice a2 k2.length c2,.int .i64 102]) (kTr (H2.out.ji.wide fO) bD1) (kOt (c:=[.slice a3 k3.length c3,.int .i64 103]) (kTr (H3.out.ji.wide fO) bD1) (rfl))))) (by intro x hx;simp only [List.mem_cons,List.not_mem_nil,or_false] at hx;rcases hx with rfl | rfl | rfl | rfl;exact ⟨H0.out.ji.2,trivial⟩;exact ⟨H1.out.ji.2,trivial⟩;exact ⟨H2.out.ji.2,trivial⟩;exact ⟨H3.out.ji.2,trivial⟩) bD2).wide dW)
 have HA:Hid ((kD.slice 36 kW).ji w8 [.slice (some ⟨w7.heap.size,0,none⟩) 1 1] [k4] (λk=>w.heap.size < k/\k < au/\k≠p)):=yD ((lit_rdB (r:=kW) (xs:=[k4]) (S:=(λk=>w.heap.size < k/\k < au/\k≠p)) BA (kOt (c:=[.slice a4 k4.length c4]) (H4.out.ji.wide fO) rfl) (by intro x hx;rw [Am.1 hx];exact H4.out.ji.2) bD2).wide dW)
 clear H0 H1 H2 H3 H4 BK BA
 obtain ⟨kb,dd⟩:∃ b_,b_=w5.heap.size:=⟨_,rfl⟩
 obtain ⟨ab,ec⟩:∃ b_,b_=w7.heap.size:=⟨_,rfl⟩
 rw [<- dd] at HK BT
 clear dd
 rw [<- ec] at HA BT
 clear ec
 generalize am:[(k0,(100:Int)),(k1,101),(k2,102),(k3,103)]=kl at HK
 clear am
 have e3:au < w8.heap.size/\w.heap.size < au:=⟨by omega,by omega⟩
 have e6:w.heap.size < au/\p < au:=⟨by omega,by omega⟩
 go_wp2
 have dn:Hid ((kD.slice 9 kD.str).own (World.alloc w8 (.cells #[.string { data:=#[47,63,120,47,107,101,121,32,60,32,47,107,101,121,47,97] },.string { data:=#[47,63,120,47,42,42,32,60,32,47,63,120,47,107,101,121] }] 9)) [.slice (some ⟨w8.heap.size,0,none⟩) 2 2] [{ data:=#[47,63,120,47,107,101,121,32,60,32,47,107,101,121,47,97] },{ data:=#[47,63,120,47,42,42,32,60,32,47,63,120,47,107,101,121] }] (λk=>k=w8.heap.size)):=yD (kD.kAw w8 [{ data:=#[47,63,120,47,107,101,121,32,60,32,47,107,101,121,47,97] },{ data:=#[47,63,120,47,42,42,32,60,32,47,63,120,47,107,101,121] }] bD0 bD0)
 generalize F:World.alloc w8 _=w9 at dn ⊢
 have E_:Qb w8 w9:=rT
 have d4:w8.heap.size + 1<=w9.heap.size:=bB3
 have eo:w9.heap.size<=w8.heap.size + 1:=bB3
 clear F
 replace R:=kC R E_
 replace BT:=kC BT E_
 replace HK:=yD (HK.out.below E_)
 replace HA:=yD (HA.out.below E_)
 replace hc:=hc.below E_
 replace J:=J.trans (Touch.of_below E_)
 clear E_
 obtain ⟨lb,bc⟩:∃ b_,b_=w8.heap.size:=⟨_,rfl⟩
 rw [<- bc] at dn ⊢
 have dy:=Nat.le_of_eq bc
 have dt:=Nat.le_of_eq bc.symm
 clear bc
 generalize hlt:([{ data:=#[47,63,120,47,107,101,121,32,60,32,47,107,101,121,47,97] },{ data:=#[47,63,120,47,42,42,32,60,32,47,63,120,47,107,101,121] }]:Aj Ap)=lt at dn
 have X:lt.length=2:=by rw [<- hlt];rfl
 have em:=yD (show ∀ y∈lt,y.size<=64 from λy hy=>kD.kCk bD0 (hlt ▸ hy))
 clear hlt
 go_loopw [26] (λi wr=>∃ (j:Nat) (ra:Ab Ae) (rc:Nat) (rl:Aj kJy),i=.int .i64 j/\j<=2/\Hid (rl.length=j)/\Qr wr au #[.slice (some ⟨kb,0,none⟩) 4 4,Qs ra rl rc,.slice (some ⟨ab,0,none⟩) 1 1,.slice none 0 0] 79/\Hid ((kD.slice 202 kLc).own wr [Qs ra rl rc] rl (λk=>lb < k/\k < wr.heap.size))/\w9.heap.size<=wr.heap.size/\Touch (λk=>k=au) w9 wr) (λi _=>2 - (intOf i).toNat)
 case atStart=>exact ⟨0,none,0,[],rfl,by omega,yD rfl,BT,yD kD.jr,Nat.le_refl _,Touch.of_below bR⟩
 obtain ⟨j,ra,rc,rl,rfl,I,eg,dg,HR,dp,Z⟩:=hrel
 clear BT
 have BT:=dg
 clear dg
 by_cases hlt:j < 2
 · have a7:(j:Int) < 2:=bD1;have bn:j < lt.length:=bD1;obtain ⟨sb,so,he,c0,cr,az⟩:=kD.kCa (dn.out.touch Z wO).raw (i:=j) bn rfl;simp only [Ad,Ai,and_true] at he;obtain ⟨rfl,rfl⟩:=he;have bb:[c0]=[.string lt[j]]:=(kD.zi cr).1;obtain rfl:c0=.string lt[j]:=bA3;clear cr bb;have dh:=em.out _ (Ah bn);generalize lt[j]=y at *;simp only [Nat.zero_add] at az;go_wp2_with fail;refine (kSl dh).mono ?_;rintro e b8 ⟨ds,r,b,rfl,hr,hb⟩;have dr:=hb.size;replace Z:=Z.trans (Touch.of_below hb);replace BT:=kC BT hb;replace HR:=yD (HR.out.below hb);clear hb;obtain ⟨pa,pc,qa,qc,rfl⟩:=rule_form hr.raw;have HU:=yD hr;clear hr az;go_upto_region 6 with fail;generalize F:World.alloc b8 _=a6;have hb:Qb b8 a6:=rT;have BU:Qr a6 b8.heap.size #[Qs pa r.1 pc,Qs qa r.2 qc] 202:=vD;have dw:b8.heap.size + 1<=a6.heap.size:=bB3;clear F;have ee:=hb.size;replace Z:=Z.trans (Touch.of_below hb);replace BT:=kC BT hb;replace HR:=yD (HR.out.below hb);replace HU:=yD (HU.out.below hb);clear hb;obtain ⟨bm,bj,bl,bk⟩:=kKs BT;obtain ⟨d0,d5⟩:=yQ BU;obtain ⟨bz,cg,bq,ce⟩:=kVf BT;go_wp2_with (at_builtin;refine kD.zR rfl _ _ 76 rfl (r:=kLc) (e:=202) underlying76 infRule rfl bD0 bD0 (w:=a6) HR.out bR HU.out bD3 bD3 pF (by have:=eg.out;omega) ?_);intro v9 w9 bv aa;have d4:=aa.size;have di:=yD (show (rl++[r]).length=j + 1 by simp [eg.out]);generalize rl++[r]=q at *;obtain ⟨a9,c9,b7,_⟩:=kD.kAx bv.raw;obtain rfl:v9=_:=by simpa using b7
   have b6:=yD (bv.wide (T:=λk=>lb < k/\k < w9.heap.size) bI);have N:Touch (λk=>lb < k/\k < a6.heap.size) a6 w9:=aa.wide (λk q=>⟨q.1.1,q.2⟩);clear bv aa b7 HR HU bm bj bl bk d0 d5 bz cg bq ce;replace BT:=N.kC BT bD1;clear BU;replace Z:=Z.ja N wZ;clear N;obtain ⟨bm,bj,bl,bk⟩:=kKs BT;obtain ⟨bz,cg,bq,ce⟩:=kVf BT;go_upto_region 7 with fail;generalize F:World.setCell w9 _ _=eb;have N:Touch (λk=>k=au) w9 eb:=vR;replace BT:Qr eb au #[.slice (some ⟨kb,0,none⟩) 4 4,Qs a9 q c9,.slice (some ⟨ab,0,none⟩) 1 1,.slice none 0 0] 79:=by rw [<- F];exact kF BT 1
   have g7:=N.size;clear F bm bj bl bk bz cg bq ce;replace b6:=yD (b6.out.touch N pJ);replace Z:=Z.ja N wZ;clear N;go_wp2;go_roundw;case rel=>exact ⟨j + 1,a9,c9,q,by go_num,by omega,di,BT,yD (b6.out.wide rM),by omega,Z⟩
   simp [intOf];omega
 obtain rfl:j=2:=bD1
 have a7:¬ ((2:Nat):Int) < 2:=bD1
 replace HK:=yD (HK.out.touch Z (λk q h=>by have:=q.2.1;omega))
 replace HA:=yD (HA.out.touch Z (λk q h=>by have:=q.2.1;omega))
 replace R:=Z.kC R bD1
 replace hc:=hc.touch Z bD1 wW
 replace J:=J.jP Z bD1
 clear Z
 go_wp2
 have co:Hid ((kD.slice 9 kD.str).own (World.alloc wr (.cells #[.string { data:=#[47,97,47,107,101,121] },.string { data:=#[47,98,47,107,101,121] }] 9)) [.slice (some ⟨wr.heap.size,0,none⟩) 2 2] [{ data:=#[47,97,47,107,101,121] },{ data:=#[47,98,47,107,101,121] }] (λk=>k=wr.heap.size)):=yD (kD.kAw wr [{ data:=#[47,97,47,107,101,121] },{ data:=#[47,98,47,107,101,121] }] bD0 bD0)
 generalize F:World.alloc wr _=wL at co ⊢
 have hb:Qb wr wL:=rT
 have ed:wr.heap.size + 1<=wL.heap.size:=bB3
 have d1:wL.heap.size<=wr.heap.size + 1:=bB3
 clear F
 replace HK:=yD (HK.out.below hb)
 replace HA:=yD (HA.out.below hb)
 replace HR:=yD (HR.out.below hb)
 replace R:=kC R hb
 replace BT:=kC BT hb
 obtain ⟨hc,J⟩:=xE
 clear hb
 obtain ⟨mb,dm⟩:∃ b_,b_=wr.heap.size:=⟨_,rfl⟩
 rw [<- dm] at co ed d1 HR dp ⊢
 have es:=Nat.le_of_eq dm
 have ev:=Nat.le_of_eq dm.symm
 clear dm
 generalize d7:([{ data:=#[47,97,47,107,101,121] },{ data:=#[47,98,47,107,101,121] }]:Aj Ap)=lu at co
 have ew:lu.length=2:=by rw [<- d7];rfl
 have en:=yD (show ∀ y∈lu,y.size<=64 from λy hy=>kD.kCk bD0 (d7 ▸ hy))
 clear d7
 go_loopw [44] (λi wq=>∃ (j:Nat) (ca:Ab Ae) (cc:Nat) (cl:Aj jL),i=.int .i64 j/\j<=2/\Hid (cl.length<=j)/\Hid (∀ x∈cl,x.2.1.length<=64)/\Qr wq au #[.slice (some ⟨kb,0,none⟩) 4 4,Qs ra rl rc,.slice (some ⟨ab,0,none⟩) 1 1,Qs ca cl cc] 79/\Hid ((kD.slice 38 jF).own wq [Qs ca cl cc] cl (λk=>mb < k/\k < wq.heap.size))/\yT w0 wq p/\wL.heap.size<=wq.heap.size/\Touch (λk=>k=au\/k=p) wL wq) (λi _=>2 - (intOf i).toNat)
 case atStart=>exact ⟨0,none,0,[],rfl,by omega,yD bD2,yD (λx h=>by simp at h),BT,yD kD.jr,hc,Nat.le_refl _,Touch.of_below bR⟩
 obtain ⟨j,ca,cc,cl,rfl,bn,av,dk,dg,HC,cd,et,Z⟩:=hrel
 clear BT hc
 have BT:=dg
 have hc:=cd
 clear dg cd
 have e4:=Z.size
 by_cases er:j < 2
 · have a7:(j:Int) < 2:=bD1;have ef:j < lu.length:=bD1;obtain ⟨sb,so,he,c0,cr,az⟩:=kD.kCa (co.out.touch Z wO).raw (i:=j) ef rfl;simp only [Ad,Ai,and_true] at he;obtain ⟨rfl,rfl⟩:=he;have bb:[c0]=[.string lu[j]]:=(kD.zi cr).1;obtain rfl:c0=.string lu[j]:=bA3;clear cr bb;have dh:=en.out _ (Ah ef);generalize lu[j]=y at *;simp only [Nat.zero_add] at az;have d2:=yD (HK.out.touch Z mQ);go_upto_region 11 with fail;clear az;go_cut [10,11] from 48 to 57 (λej ei wc=>∃ (b:Nat) (ad:Ab Ae) (ae:Nat) (ai:Ab Ae) (af:Nat) (aj:Ab Ae) (ah:Nat) (x:jL) (ok:Bool),ej=.pointer (some ⟨b,0,none⟩)/\ei=.bool ok/\Qr wc b #[Qs ad x.1 ae,Qs ai x.2.1 af,Qs aj x.2.2.1 ah,Qn x.2.2.2.1,Qn x.2.2.2.2] 38/\Hid (jF.own wc [Qs ad x.1 ae,Qs ai x.2.1 af,Qs aj x.2.2.1 ah,Qn x.2.2.2.1,Qn x.2.2.2.2] x (Ql wr wc b))/\x.2.1.length<=64/\wr.heap.size<=b/\b < wc.heap.size/\Qb wr wc);case first =>
    have FX:=yD (λ(W:Ac) (hW:Qb wr W)=>kE (kC BT hW) (j:=0) (v:=.slice (some ⟨kb,0,none⟩) 4 4) rfl);refine yM (λW=>Qb wr W) bC5 (bR.drew) ?_;intro t E;have d6:=E.size;refine kQ 0 ?_;refine kQ 1 ?_;refine kQ 2 ?_;refine kIv ?_;intro T A N hA;have cv:∀ (L:Ab Ae) (Y:Nat) (n1:kr) (ao:Ab Ae) (aq:Nat) (n2:kr) (ad:Ab Ae) (ae:Nat) (ai:Ab Ae) (af:Nat) (aj:Ab Ae) (ah:Nat) (x:jL) (ok:Bool) (b:Nat) (W:Ac),Qb wr W->(Hid (kW.ji W [Qs L n1 Y] n1 (Ql wr W b)))->(Hid (kW.ji W [Qs ao n2 aq] n2 (Ql wr W b)))->(x.2.1.length<=64)->(Hid (jF.own W [Qs ad x.1 ae,Qs ai x.2.1 af,Qs aj x.2.2.1 ah,Qn x.2.2.2.1,Qn x.2.2.2.2] x (Ql wr W b)))->(wr.heap.size<=b/\b < W.heap.size)->(Qr W b #[Qs ad x.1 ae,Qs ai x.2.1 af,Qs aj x.2.2.1 ah,Qn x.2.2.2.1,Qn x.2.2.2.2] 38)->T 0 [Tt,Tt,Tt,Tt,Tt,Tt,Tt,Tt,Tt,Tt,Tt,Tt] (Aa (Aa (Aa (Aa (Aa (Aa (Aa (Aa A (some 52) (.agg #[Qs L n1 Y])) (some 53) (.agg #[Qs ao n2 aq])) (some 54) (.tuple #[.agg #[Qs ad x.1 ae,Qs ai x.2.1 af,Qs aj x.2.2.1 ah,Qn x.2.2.2.1,Qn x.2.2.2.2],.bool ok])) (some 48) (.tuple #[.agg #[Qs ad x.1 ae,Qs ai x.2.1 af,Qs aj x.2.2.1 ah,Qn x.2.2.2.1,Qn x.2.2.2.2],.bool ok])) (some 55) (.agg #[Qs ad x.1 ae,Qs ai x.2.1 af,Qs aj x.2.2.1 ah,Qn x.2.2.2.1,Qn x.2.2.2.2])) (some 56) (.bool ok)) (some 10) (.pointer (some ⟨b,0,none⟩))) (some 11) (.bool ok)) W:=by
     intro L Y n1 ao aq n2 ad ae ai af aj ah x ok b W E ar a8 b5 HQ o BB;have a5:=E.size;subst N;subst hA;simp only [Aa,zA,zB,zC];refine jW bC5 ?_;go_wp2;go_meet;exact ⟨b,ad,ae,ai,af,aj,ah,x,ok,rfl,rfl,BB,HQ,b5,o.1,o.2,E⟩
    have ch:∀ (L:Ab Ae) (Y:Nat) (n1:kr) (ao:Ab Ae) (aq:Nat) (n2:kr) (ad:Ab Ae) (ae:Nat) (ai:Ab Ae) (af:Nat) (aj:Ab Ae) (ah:Nat) (x:jL) (ok:Bool) (b:Nat) (W:Ac),Qb wr W->(Hid (kW.ji W [Qs L n1 Y] n1 (Ql wr W b)))->(Hid (kW.ji W [Qs ao n2 aq] n2 (Ql wr W b)))->(x.2.1.length<=64)->(Hid (jF.own W [Qs ad x.1 ae,Qs ai x.2.1 af,Qs aj x.2.2.1 ah,Qn x.2.2.2.1,Qn x.2.2.2.2] x (Ql wr W b)))->(wr.heap.size<=b/\b < W.heap.size)->(Qr W b #[.slice none 0 0,.slice none 0 0,.slice none 0 0,Qn 0,Qn 0] 38)->T 2 [Tt,Tt,Tt,Tt,Tt,Tt,Tt,Tt,Tt,Tt,Ff,Ff] (Aa (Aa (Aa (Aa (Aa (Aa (Aa A (some 52) (.agg #[Qs L n1 Y])) (some 53) (.agg #[Qs ao n2 aq])) (some 54) (.tuple #[.agg #[Qs ad x.1 ae,Qs ai x.2.1 af,Qs aj x.2.2.1 ah,Qn x.2.2.2.1,Qn x.2.2.2.2],.bool ok])) (some 48) (.tuple #[.agg #[Qs ad x.1 ae,Qs ai x.2.1 af,Qs aj x.2.2.1 ah,Qn x.2.2.2.1,Qn x.2.2.2.2],.bool ok])) (some 55) (.agg #[Qs ad x.1 ae,Qs ai x.2.1 af,Qs aj x.2.2.1 ah,Qn x.2.2.2.1,Qn x.2.2.2.2])) (some 56) (.bool ok)) (some 10) (.pointer (some ⟨b,0,none⟩))) W:=by
     intro L Y n1 ao aq n2 ad ae ai af aj ah x ok b W E ar a8 b5 HQ o BB;have a5:=E.size;subst N;subst hA;simp only [Aa,zA,zB,zC];refine kN (k:=10) rfl bC5 rfl (λK H=>?_);obtain ⟨d3,du,dz,dv,c8⟩:=yI BB;obtain ⟨c5,c7,dc,db,c6⟩:=kBh BB;go_simp;generalize F:World.setCell (World.setCell (World.setCell (World.setCell (World.setCell W _ _) _ _) _ _) _ _) _ _=v;have N:Touch (λk=>k=b) W v:=(by rw [<- F];exact sT5);replace BB:Qr v b #[Qs ad x.1 ae,Qs ai x.2.1 af,Qs aj x.2.2.1 ah,Qn x.2.2.2.1,Qn x.2.2.2.2] 38:=(by rw [<- F];exact kF (kF (kF (kF (kF (BB) 0) 1) 2) 3) 4);clear F d3 c5 du c7 dz dc dv db c8 c6;have zv:=N.size;replace ar:Hid (kW.ji v [Qs L n1 Y] n1 (Ql wr v b)):=yD ((ar.out.touch N (λk q h=>q.2.2 h)).wide (λk q=>⟨q.1,Nat.lt_of_lt_of_le q.2.1 N.size,q.2.2⟩));replace a8:Hid (kW.ji v [Qs ao n2 aq] n2 (Ql wr v b)):=yD ((a8.out.touch N (λk q h=>q.2.2 h)).wide (λk q=>⟨q.1,Nat.lt_of_lt_of_le q.2.1 N.size,q.2.2⟩));replace HQ:Hid (jF.own v [Qs ad x.1 ae,Qs ai x.2.1 af,Qs aj x.2.2.1 ah,Qn x.2.2.2.1,Qn x.2.2.2.2] x (Ql wr v b)):=yD ((HQ.out.touch N (λk q h=>q.2.2 h)).wide (λk q=>⟨q.1,Nat.lt_of_lt_of_le q.2.1 N.size,q.2.2⟩));replace o:wr.heap.size<=b/\b < v.heap.size:=⟨o.1,Nat.lt_of_lt_of_le o.2 N.size⟩;replace E:=E.trans (N.below E.size wW);refine H _ _ E ?_;clear H K;refine jD ?_;refine kQ 11 ?_;have h_:=cv L Y n1 ao aq n2 ad ae ai af aj ah x ok b v E ar a8 b5 HQ o BB;exact aZ
    have dj:∀ (L:Ab Ae) (Y:Nat) (n1:kr) (ao:Ab Ae) (aq:Nat) (n2:kr) (ad:Ab Ae) (ae:Nat) (ai:Ab Ae) (af:Nat) (aj:Ab Ae) (ah:Nat) (x:jL) (ok:Bool) (W:Ac),Qb wr W->(Hid (kW.ji W [Qs L n1 Y] n1 (Ql wr W au)))->(Hid (kW.ji W [Qs ao n2 aq] n2 (Ql wr W au)))->(x.2.1.length<=64)->(Hid (jF.own W [Qs ad x.1 ae,Qs ai x.2.1 af,Qs aj x.2.2.1 ah,Qn x.2.2.2.1,Qn x.2.2.2.2] x (Ql wr W au)))->T 3 [Tt,Tt,Tt,Tt,Tt,Tt,Tt,Tt,Tt,Ff,Ff,Ff] (Aa (Aa (Aa (Aa (Aa (Aa A (some 52) (.agg #[Qs L n1 Y])) (some 53) (.agg #[Qs ao n2 aq])) (some 54) (.tuple #[.agg #[Qs ad x.1 ae,Qs ai x.2.1 af,Qs aj x.2.2.1 ah,Qn x.2.2.2.1,Qn x.2.2.2.2],.bool ok])) (some 48) (.tuple #[.agg #[Qs ad x.1 ae,Qs ai x.2.1 af,Qs aj x.2.2.1 ah,Qn x.2.2.2.1,Qn x.2.2.2.2],.bool ok])) (some 55) (.agg #[Qs ad x.1 ae,Qs ai x.2.1 af,Qs aj x.2.2.1 ah,Qn x.2.2.2.1,Qn x.2.2.2.2])) (some 56) (.bool ok)) W:=by
     intro L Y n1 ao aq n2 ad ae ai af aj ah x ok W E ar a8 b5 HQ;have a5:=E.size;subst N;subst hA;simp only [Aa,zA,zB,zC];refine kN (k:=9) rfl bC5 rfl (λK H=>?_);go_simp;generalize F:World.alloc W _=v;obtain ⟨hb,BB,zv⟩:=xB;clear F;obtain ⟨b,ap⟩:∃ b_,b_=W.heap.size:=⟨_,rfl⟩;rw [<- ap] at BB ⊢;obtain ⟨ar,a8⟩:=GN;replace HQ:Hid (jF.own v [Qs ad x.1 ae,Qs ai x.2.1 af,Qs aj x.2.2.1 ah,Qn x.2.2.2.1,Qn x.2.2.2.2] x (Ql wr v b)):=yD ((HQ.out.below hb).wide dG);have o:wr.heap.size<=b/\b < v.heap.size:=⟨by omega,by omega⟩;replace E:=(tQ E hb);refine H _ _ E ?_;clear H K;refine jD ?_;exact eD
    have cw:∀ (L:Ab Ae) (Y:Nat) (n1:kr) (ao:Ab Ae) (aq:Nat) (n2:kr) (b:Nat) (W:Ac),Qb wr W->(Hid (kW.ji W [Qs L n1 Y] n1 (Ql wr W b)))->(Hid (kW.ji W [Qs ao n2 aq] n2 (Ql wr W b)))->(wr.heap.size<=b/\b < W.heap.size)->(Qr W b #[.slice none 0 0,.slice none 0 0,.slice none 0 0,Qn 0,Qn 0] 38)->T 6 [Tt,Tt,Tt,Tt,Tt,Ff,Ff,Ff,Ff,Tt,Ff,Ff] (Aa (Aa (Aa A (some 52) (.agg #[Qs L n1 Y])) (some 53) (.agg #[Qs ao n2 aq])) (some 10) (.pointer (some ⟨b,0,none⟩))) W:=by
     intro L Y n1 ao aq n2 b W E ar a8 o BB;have a5:=E.size;subst N;subst hA;simp only [Aa,zA,zB,zC];refine kN (k:=5) rfl bC5 rfl (λK H=>?_);go_simp;refine (kEa (l:=kl) (d2.out.rd.below E).1 (cn:=[.slice L n1.length Y]) ar.out.rd (cb:=[.slice ao n2.length aq]) a8.out.rd (tl:=5000) bD0).mono ?_;rintro e v ⟨ds,x,ok,rfl,hO,b5,hb⟩;obtain ⟨zv,b9,ar⟩:=I8;replace a8:Hid (kW.ji v [Qs ao n2 aq] n2 (Ql wr v b)):=yD ((a8.out.below hb).wide (λk q=>⟨q.1,Nat.lt_of_lt_of_le q.2.1 hb.size,q.2.2⟩));obtain ⟨BB,o⟩:=FM;obtain ⟨ad,ae,ai,af,aj,ah,rfl⟩:=yS hO.raw;have HQ:Hid (jF.own v [Qs ad x.1 ae,Qs ai x.2.1 af,Qs aj x.2.2.1 ah,Qn x.2.2.2.1,Qn x.2.2.2.2] x (Ql wr v b)):=yD (hO.wide gW);replace E:=(tQ E hb);refine H _ _ E ?_;clear H K;refine jD ?_;refine kQ 6 ?_;refine kQ 7 ?_;refine kQ 8 ?_;exact eD
    have df:∀ (L:Ab Ae) (Y:Nat) (n1:kr) (ao:Ab Ae) (aq:Nat) (n2:kr) (W:Ac),Qb wr W->(Hid (kW.ji W [Qs L n1 Y] n1 (Ql wr W au)))->(Hid (kW.ji W [Qs ao n2 aq] n2 (Ql wr W au)))->T 7 [Tt,Tt,Tt,Tt,Tt,Ff,Ff,Ff,Ff,Ff,Ff,Ff] (Aa (Aa A (some 52) (.agg #[Qs L n1 Y])) (some 53) (.agg #[Qs ao n2 aq])) W:=by
     intro L Y n1 ao aq n2 W E ar a8;have a5:=E.size;subst N;subst hA;simp only [Aa,zA,zB,zC];refine jl (i:=5) (j:=9) rfl rfl bC5 rfl rfl (λK H=>?_) (λK H=>?_)
     · go_simp;refine (kEa (l:=kl) (d2.out.rd.below E).1 (cn:=[.slice L n1.length Y]) ar.out.rd (cb:=[.slice ao n2.length aq]) a8.out.rd (tl:=5000) bD0).mono ?_;rintro e v ⟨ds,x,ok,rfl,hO,b5,hb⟩;obtain ⟨zv,ar⟩:=I4;replace a8:Hid (kW.ji v [Qs ao n2 aq] n2 (Ql wr v au)):=yD ((a8.out.below hb).wide (λk q=>⟨q.1,Nat.lt_of_lt_of_le q.2.1 hb.size,q.2.2⟩));obtain ⟨ad,ae,ai,af,aj,ah,rfl⟩:=yS hO.raw;have HQ:Hid (jF.own v [Qs ad x.1 ae,Qs ai x.2.1 af,Qs aj x.2.2.1 ah,Qn x.2.2.2.1,Qn x.2.2.2.2] x (Ql wr v au)):=yD (hO.wide gW);replace E:=(tQ E hb);refine H _ _ E ?_;clear H K;refine jD ?_;refine kQ 6 ?_;refine kQ 7 ?_;refine kQ 8 ?_;have h_:=dj L Y n1 ao aq n2 ad ae ai af aj ah x ok v E ar a8 b5 HQ;exact aZ
     go_simp;generalize F:World.alloc W _=v;obtain ⟨hb,BB,zv⟩:=xB;clear F;obtain ⟨b,ap⟩:∃ b_,b_=W.heap.size:=⟨_,rfl⟩;rw [<- ap] at BB ⊢;obtain ⟨ar,a8⟩:=GN;have o:wr.heap.size<=b/\b < v.heap.size:=⟨by omega,by omega⟩;exact eF
    have dx:∀ (L:Ab Ae) (Y:Nat) (n1:kr) (b:Nat) (W:Ac),Qb wr W->(Hid (kW.ji W [Qs L n1 Y] n1 (Ql wr W b)))->(wr.heap.size<=b/\b < W.heap.size)->(Qr W b #[.slice none 0 0,.slice none 0 0,.slice none 0 0,Qn 0,Qn 0] 38)->T 7 [Tt,Tt,Tt,Tt,Ff,Ff,Ff,Ff,Ff,Tt,Ff,Ff] (Aa (Aa A (some 52) (.agg #[Qs L n1 Y])) (some 10) (.pointer (some ⟨b,0,none⟩))) W:=by
     intro L Y n1 b W E ar o BB;have a5:=E.size;subst N;subst hA;simp only [Aa,zA,zB,zC];refine kN (k:=4) rfl bC5 rfl (λK H=>?_);go_simp;refine (yV (s:={ data:=#[47,107,101,121,47,97] }) bD0).mono ?_;rintro e v ⟨ao,aq,n2,rfl,hO,ba,bo,hb⟩;obtain ⟨zv,b9,ar⟩:=I8;obtain ⟨BB,o⟩:=FM;have a8:Hid (kW.ji v [Qs ao n2 aq] n2 (Ql wr v b)):=yD (hO.ji.wide gW);exact eF
    have T3:∀ (L:Ab Ae) (Y:Nat) (n1:kr) (W:Ac),Qb wr W->(Hid (kW.ji W [Qs L n1 Y] n1 (Ql wr W au)))->T 8 [Tt,Tt,Tt,Tt,Ff,Ff,Ff,Ff,Ff,Ff,Ff,Ff] (Aa A (some 52) (.agg #[Qs L n1 Y])) W:=by
     intro L Y n1 W E ar;have a5:=E.size;subst N;subst hA;simp only [Aa,zA,zB,zC];refine jl (i:=4) (j:=9) rfl rfl bC5 rfl rfl (λK H=>?_) (λK H=>?_)
     · go_simp;refine (yV (s:={ data:=#[47,107,101,121,47,97] }) bD0).mono ?_;rintro e v ⟨ao,aq,n2,rfl,hO,ba,bo,hb⟩;obtain ⟨zv,ar⟩:=I4;have a8:Hid (kW.ji v [Qs ao n2 aq] n2 (Ql wr v au)):=yD (hO.ji.wide gW);replace E:=(tQ E hb);refine H _ _ E ?_;clear H K;refine jD ?_;have h_:=df L Y n1 ao aq n2 v E ar a8;exact aZ
     go_simp;generalize F:World.alloc W _=v;obtain ⟨hb,BB,zv⟩:=xB;clear F;obtain ⟨b,ap⟩:∃ b_,b_=W.heap.size:=⟨_,rfl⟩;rw [<- ap] at BB ⊢;replace ar:Hid (kW.ji v [Qs L n1 Y] n1 (Ql wr v b)):=yD ((ar.out.below hb).wide dG);have o:wr.heap.size<=b/\b < v.heap.size:=⟨by omega,by omega⟩;exact eG
    have T9:∀ (b:Nat) (W:Ac),Qb wr W->(wr.heap.size<=b/\b < W.heap.size)->(Qr W b #[.slice none 0 0,.slice none 0 0,.slice none 0 0,Qn 0,Qn 0] 38)->T 8 [Tt,Tt,Tt,Ff,Ff,Ff,Ff,Ff,Ff,Tt,Ff,Ff] (Aa A (some 10) (.pointer (some ⟨b,0,none⟩))) W:=by
     intro b W E o BB;have a5:=E.size;subst N;subst hA;simp only [Aa,zA,zB,zC];refine kN (k:=3) rfl bC5 rfl (λK H=>?_);go_simp;refine (yV dh).mono ?_;rintro e v ⟨L,Y,n1,rfl,hO,cz,cm,hb⟩;have zv:=hb.size;have b9:=o.2;obtain ⟨BB,o⟩:=FM;have ar:Hid (kW.ji v [Qs L n1 Y] n1 (Ql wr v b)):=yD (hO.ji.wide gW);exact eG
    subst N;subst hA;refine jl (i:=3) (j:=9) rfl rfl bC5 rfl rfl (λK H=>?_) (λK H=>?_)
    · go_simp;refine (yV dh).mono ?_;rintro e v ⟨L,Y,n1,rfl,hO,cz,cm,hb⟩;have zv:=hb.size;have ar:Hid (kW.ji v [Qs L n1 Y] n1 (Ql wr v au)):=yD (hO.ji.wide gW);replace E:=(tQ E hb);refine H _ _ E ?_;clear H K;refine jD ?_;have h_:=T3 L Y n1 v E ar;exact aZ
    go_simp;generalize F:World.alloc t _=v;obtain ⟨hb,BB,zv⟩:=BJ;clear F;obtain ⟨b,ap⟩:∃ b_,b_=t.heap.size:=⟨_,rfl⟩;rw [<- ap] at BB ⊢;have o:wr.heap.size<=b/\b < v.heap.size:=⟨by omega,by omega⟩;exact dS
   obtain ⟨b,ad,ae,ai,af,aj,ah,x,ok,rfl,rfl,BQ,HQ,b5,cf,O,hb⟩:=hcut;have ep:=hb.size;replace Z:=Z.trans (Touch.of_below hb);replace BT:=kC BT hb;replace HC:=yD (HC.out.below hb);replace hc:=hc.below hb;clear hb d2;have ey:mb < wr.heap.size:=bD1;cases ok
   · exact eH
   go_wp2_with fail;refine (zk (n:=8) hc bD0).mono ?_;rintro e wo ⟨b1,rfl,G,D⟩;have ez:=D.size;replace Z:=Z.trans (D.wide (λk q=>.inr q));replace BT:=D.kC BT bD1;replace BQ:=D.kC BQ bD1;replace HC:=yD (HC.out.touch D sK);replace HQ:=yD (HQ.out.touch D sK);clear hc D;have hc:=G;clear G;cases b1
   · have bm:Qc wo au 0 (.slice (some ⟨kb,0,none⟩) 4 4):=kE BT rfl;have bj:Qc wo au 1 (.slice ra rl.length rc):=kE BT rfl;have bl:Qc wo au 2 (.slice (some ⟨ab,0,none⟩) 1 1):=kE BT rfl;have bk:Qc wo au 3 (.slice ca cl.length cc):=kE BT rfl;obtain ⟨bw,bx,b4,b0,b3⟩:=yI BQ;obtain ⟨bz,cg,bq,ce⟩:=kVf BT;go_wp2_with (at_builtin;refine kD.zR rfl _ _ 24 rfl (r:=jF) (e:=38) underlying24 kLr rfl bD0 bD0 (w:=wo) HC.out bR HQ.out bD3 bD3 pF wH ?_);intro v9 w9 bv aa;have d4:=aa.size;have di:=yD (show (cl++[x]).length<=j + 1 by have:=av.out;simp;omega);have b2:=yD (show ∀ z∈cl++[x],z.2.1.length<=64 from λz hz=>by rcases List.mem_append.1 hz with hz | hz;exact dk.out z hz;rw [Am.1 hz];exact b5);generalize cl++[x]=q at *;obtain ⟨a9,c9,b7,_⟩:=kD.kAx bv.raw;obtain rfl:v9=_:=by simpa using b7
     have b6:=yD (bv.wide (T:=λk=>mb < k/\k < w9.heap.size) bI);have N:Touch (λk=>mb < k/\k < wo.heap.size) wo w9:=aa.wide (λk q=>⟨q.1.1,q.2⟩);clear bv aa b7 HC HQ bm bj bl bk bw bx b4 b0 b3 bz cg bq ce;replace BT:=N.kC BT bD1;clear BQ;replace hc:=hc.touch N bC2 wZ;replace Z:=Z.ja N wZ;clear N;obtain ⟨bm,bj,bl,bk⟩:=kKs BT;obtain ⟨bz,cg,bq,ce⟩:=kVf BT;go_upto_region 14 with fail;generalize F:World.setCell w9 _ _=d8;have N:Touch (λk=>k=au) w9 d8:=vR;replace BT:Qr d8 au #[.slice (some ⟨kb,0,none⟩) 4 4,Qs ra rl rc,.slice (some ⟨ab,0,none⟩) 1 1,Qs a9 q c9] 79:=by rw [<- F];exact kF BT 3
     have ek:=N.size;clear F bm bj bl bk bz cg bq ce;replace b6:=yD (b6.out.touch N pJ);obtain ⟨hc,Z⟩:=BO;clear N;go_wp2;go_roundw;case rel=>exact ⟨j + 1,a9,c9,q,by go_num,by omega,di,b2,BT,yD (b6.out.wide rM),hc,by omega,Z⟩
     simp [intOf];omega
   exact eH
 have a7:¬ (j:Int) < 2:=bD1
 replace HK:=yD (HK.out.touch Z mQ)
 replace HA:=yD (HA.out.touch Z mQ)
 replace HR:=yD (HR.out.touch Z (λk q h=>by have h1:=q.1;omega))
 replace R:=Z.kC R bD1
 replace J:=J.ja Z wZ
 obtain ⟨e0,e5,eh,e1⟩:=kKs BT
 obtain ⟨ac,an,bd,bh⟩:=kKs R
 obtain ⟨ak,al,ax,be⟩:=kVf R
 have U:=yD (trust_rdB (S:=(λk=>w.heap.size < k/\k < wr.heap.size/\k≠p)) (HK.out.wide gM) (HR.out.ji.wide fO) (HA.out.wide gM) (HC.out.ji.wide fO))
 go_wp2
 refine Ag (v:=.agg #[.slice (some ⟨kb,0,none⟩) 4 4,Qs ra rl rc,.slice (some ⟨ab,0,none⟩) 1 1,Qs ca cl cc]) (by simp [results,results166,go_sem,ac,ak,an,al,bd,ax,bh,be]) rfl ⟨[.slice (some ⟨kb,0,none⟩) 4 4,Qs ra rl rc,.slice (some ⟨ab,0,none⟩) 1 1,Qs ca cl cc],(kl,rl,[k4],cl),rfl,?_,?_,hc.touch sT4 bD1 wW,J.jP sT4 bD1⟩
 · exact (U.out.touch sT4 sK).wide (T:=jU w.heap.size _) dZ
 exact λk h=>by have:=dk.out _ (Ah h);omega
end Go.Proofs.YtjhfdpopkkmigaaGreat

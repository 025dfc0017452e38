/-
  Patterns, rules, keys and trust as the reference draws them.
-/
import Derived.Test.YtjhfdpopkkmigabGreatLenN
set_option linter.unusedVariables false
set_option linter.defProp false
set_option linter.unusedSimpArgs false
set_option linter.unnecessarySimpa false
set_option maxRecDepth 100000
set_option maxHeartbeats 8000000
open Bool renaming true->Tt,false->Ff
open Go.Act renaming put->Aa
open _root_ renaming Option->Ab,List->Aj,ByteArray->Ap
open Go renaming World->Ac,Addr->Ae,bodyPost_ret->Ag,Value->Ak,frozen_of_row->Al
open Option.some renaming injEq->Ad
open List renaming getElem_mem->Ah,mem_singleton->Am
open Go.Addr.mk renaming injEq->Ai
namespace Go.Proofs.YtjhfdpopkkmigabGreat
open Go.RowKit _root_.Go.Proofs.Tryz
def ParsedPat (w:Ac) (e:Ending) (w':Ac):Prop:=∃ a c b ps,e=.returned (.tuple #[.agg #[Qs a ps c],.bool b])/\zf.own w' [Qs a ps c] ps (jb w.heap.size w'.heap.size)/\ps.length<=64/\Hid (zF ps)/\Qb w w'
def kHh {w:Ac} {s:Ap} (hs:s.size<=64) :
    Calls prog 203 #[.string s] w (ParsedPat w):=by
 go_enter func203,ntmps203
 cases hq:(s.toList==[47])
 case true =>
  go_wp2;refine Ag (v:=.tuple #[.agg #[.slice none 0 0],.bool true]) (by simp [results,results203,go_sem]) rfl ⟨none,0,true,[],rfl,kD.jm,by simp,yD zF.nil,?_⟩;exact bI
 go_wp2_with fail
 refine (kOf (by0:=47) hs bH2).mono ?_
 rintro e V ⟨v,rfl,ps,O2,bd,bw,F,af⟩
 have b8:=yD (F.drop 1)
 clear F
 obtain ⟨b2,c2,rfl,ax,ad,fj,g3⟩:=kD.zy O2 bd
 have a9:=af.size
 have I:=yD O2
 clear O2
 have o:(0:Int) < ps.length:=bH3
 have ae:(1:Int)<=ps.length:=bH3
 have aa:(ps.length:Int)<=c2:=bH3
 have E:c2<=9223372036854775807:=g3
 go_upto_region 5 with fail
 have HD:Hid (1 < ps.length->(kD.slice 9 kD.str).own V [.slice (if c2=1 then some ⟨b2,0,none⟩ else some ⟨b2,1,none⟩) (ps.length - 1) (c2 - 1)] (ps.drop 1) (jb (w.heap.size + 1) V.heap.size)):=yD (by
   intro h1;have h:=(I.out.own bD0).wide (T:=jb (w.heap.size + 1) V.heap.size) nN;have dp:¬ c2=1:=bH3;rw [if_neg dp];exact kD.kQx h (k:=1) bH3)
 generalize (if c2=1 then some ⟨b2,0,none⟩ else some ⟨b2,1,none⟩:Ab Ae)=A at *
 obtain ⟨cb,Z,he,c0,cr,bk⟩:=kD.kCu (I.out.kBi) (i:=0) bd rfl
 simp only [Ad,Ai,and_true] at he
 obtain ⟨rfl,rfl⟩:=he
 have bl:[c0]=[.string ps[0]]:=(kD.zz cr).1
 obtain rfl:c0=.string ps[0]:=bE3
 clear cr bl
 generalize ps[0]=y0 at *
 have bj:=yD (show (ps.drop 1).length=ps.length - 1 by simp)
 generalize ps.drop 1=qs at *
 have HM:=yD bw
 generalize D:World.alloc V _=wC
 have EC:Qb V wC:=tL
 have X:Qr V w.heap.size #[.slice none 0 0] 191:=kC (kG rfl) af
 have B5:Qr wC V.heap.size #[.slice A (ps.length - 1) (c2 - 1)] 191:=bA0
 clear D
 obtain ⟨aw,bi,E2,X,HD,O,K5⟩:=FZ
 clear bk af ax I a9
 by_cases h2:(ps.length:Int) < 2
 · have K2:=kE X (j:=0) rfl;have F2:=Al wC w.heap.size 0 _ _ X;clear O;exact eF
 cases hy:y0.toList.isEmpty
 case false =>
  have K2:=kE X (j:=0) rfl;have F2:=Al wC w.heap.size 0 _ _ X;exact eF
 replace HD:=yD (HD.out bH3)
 go_wp2_with fail
 refine (kEa (p:=qs) HD.out.rd.1).mono ?_
 rintro e w3 ⟨rfl,ap⟩
 have ay:=ap.size
 replace HD:=yD (HD.out.below ap)
 have E3:=(tQ E2 ap)
 replace K5:=cL ap K5
 replace X:=kC X ap
 have K2:=kE X (j:=0) rfl
 have F2:=Al w3 w.heap.size 0 _ _ X
 clear O
 generalize hv:kNq qs=b
 cases b
 · go_wp2;refine Ag (v:=.tuple #[.agg #[.slice none 0 0],.bool false]) pI rfl ⟨none,0,false,[],rfl,kD.jm,by simp,yD zF.nil,?_⟩;exact E3.setCell bH4 _
 go_wp2
 refine Ag (v:=.tuple #[.agg #[.slice A (ps.length - 1) (c2 - 1)],.bool true]) pI rfl ⟨A,c2 - 1,true,qs,by rw [bj.out],?_,by rw [bj.out];omega,b8,E3.setCell bH4 _⟩
 rw [bj.out]
 exact ((HD.out.touch (jl w3 w.heap.size 0 _) vE).wide fE)
def rule_form {w:Ac} {ds:Aj Ak} {r:kLj} (h:kMx.raw w ds r):∃ a c a2 c2,ds=[.slice a r.1.length c,.slice a2 r.2.length c2]:=by
 obtain ⟨v0,v1,rfl,Y,R,aj,ai⟩:=jAo h;obtain ⟨a0,c0,rfl,_⟩:=kD.sl R;obtain ⟨a1,c1,rfl,_⟩:=kD.sl ai;exact ⟨_,_,_,_,rfl⟩
def ParsedRule (w:Ac) (e:Ending) (w':Ac):Prop:=∃ ds r b,e=.returned (.tuple #[.agg ds.toArray,.bool b])/\kMx.own w' ds r (jb w.heap.size w'.heap.size)/\Qb w w'
def list3_get {α:Type} {l:List α} (h:l.length=3):0 < l.length/\1 < l.length/\2 < l.length:=by omega
def kUc {w:Ac} {s:Ap} (hs:s.size<=64) :
    Calls prog 174 #[.string s] w (ParsedRule w):=by
 go_enter func174,ntmps174
 go_upto_region 1 with fail
 generalize G:World.alloc w _=w1
 have U:Qb w w1:=tK
 have R:Qr w1 w.heap.size #[.slice none 0 0,.slice none 0 0] 193:=wW
 have bo:w.heap.size + 1<=w1.heap.size:=bF4
 clear G
 have o:=U
 clear U
 go_wp2_with fail
 refine (kOf (by0:=32) hs bH2).mono ?_
 rintro e V ⟨v,rfl,ps,O2,bd,bw,a3,hb⟩
 have bv:=hb.size
 replace R:=kC R hb
 replace o:=(tQ o hb)
 clear hb
 obtain ⟨b2,c2,rfl,ax,ad,fj,g3⟩:=kD.zy O2 bd
 have I:=yD O2.kBi
 clear O2 ax
 by_cases h3:ps.length=3
 · obtain ⟨g0,g1,g2⟩:=list3_get h3;have O:=a3 _ (Ah g0);have ab:=a3 _ (Ah g2);obtain ⟨cb,Z,he,N,cr,bk⟩:=kD.kCu I.out (i:=0) g0 rfl;simp only [Ad,Ai,and_true] at he;obtain ⟨rfl,rfl⟩:=he;have bl:[N]=[.string ps[0]]:=(kD.zz cr).1;obtain rfl:N=.string ps[0]:=bE3;clear cr bl;obtain ⟨cb,Z,he,Y,cr,D⟩:=kD.kCu I.out (i:=1) g1 rfl;simp only [Ad,Ai,and_true] at he;obtain ⟨rfl,rfl⟩:=he;have bl:[Y]=[.string ps[1]]:=(kD.zz cr).1;obtain rfl:Y=.string ps[1]:=bE3;clear cr bl;obtain ⟨cb,Z,he,W,cr,E⟩:=kD.kCu I.out (i:=2) g2 rfl;simp only [Ad,Ai,and_true] at he;obtain ⟨rfl,rfl⟩:=he;have bl:[W]=[.string ps[2]]:=(kD.zz cr).1;obtain rfl:W=.string ps[2]:=bE3;clear cr bl;simp only [Nat.zero_add] at bk D E;generalize ps[0]=y0 at *;generalize ps[1]=y1 at *;generalize ps[2]=y2 at *;clear a3 I bd bw ad;have aa:(3:Int)<=c2:=bH3;rw [h3];clear h3 g0 g1 g2 fj;cases hy:(y1.toList==[60])
   · have ak:Qd V w 0 (.slice none 0 0):=kE R rfl;have ao:Qd V w 1 (.slice none 0 0):=kE R rfl;exact eG
   go_wp2_with fail;refine (kHh O).mono ?_;rintro e w3 ⟨pa,pc,ac,P,rfl,hr,cw,af,hb⟩;have bt:=hb.size;replace R:=kC R hb;replace bk:=cL hb bk;replace D:=cL hb D;replace E:=cL hb E;replace o:=(tQ o hb);clear hb;have HP:=yD (hr);clear hr;go_upto_region 5 with fail;generalize G:World.alloc w3 _=w4;have cc:Qb w3 w4:=tK;have H:Qr w4 w3.heap.size #[Qs pa P pc] 191:=wW;have b5:w3.heap.size + 1<=w4.heap.size:=bF4;clear G;replace R:=kC R cc;replace bk:=cL cc bk;replace D:=cL cc D;replace E:=cL cc E;replace HP:=yD (HP.out.below cc);replace o:=(tQ o cc);clear cc;go_wp2_with fail;refine (kHh ab).mono ?_;rintro e w5 ⟨qa,qc,ae,Q,rfl,hr,ba,F,hb⟩;have b3:=hb.size;replace R:=kC R hb;replace H:=kC H hb;replace bk:=cL hb bk;replace D:=cL hb D;replace E:=cL hb E;replace HP:=yD (HP.out.below hb);replace o:=(tQ o hb);clear hb;have HQ:=yD (hr);clear hr;go_upto_region 6 with fail;generalize G:World.alloc w5 _=w6;have av:Qb w5 w6:=tK;have BQ:Qr w6 w5.heap.size #[Qs qa Q qc] 191:=wW;have dh:w5.heap.size + 1<=w6.heap.size:=bF4;clear G;replace R:=kC R av;replace H:=kC H av;replace bk:=cL av bk;replace D:=cL av D;replace E:=cL av E;replace HP:=yD (HP.out.below av);replace HQ:=yD (HQ.out.below av);replace o:=(tQ o av);clear av;have J:Qd w6 w3 0 (.slice pa P.length pc):=kE H rfl;have ag:Qd w6 w5 0 (.slice qa Q.length qc):=kE BQ rfl;go_upto_region 7 with fail;generalize G:World.alloc w6 _=w7;have L:Qb w6 w7:=tK;have X:Qr w7 w6.heap.size #[Qs pa P pc,Qs qa Q qc] 193:=wW;have et:w6.heap.size + 1<=w7.heap.size:=bF4;clear G;replace R:=kC R L;replace H:=kC H L;replace BQ:=kC BQ L;replace bk:=cL L bk;replace D:=cL L D;replace E:=cL L E;replace HP:=yD (HP.out.below L);replace HQ:=yD (HQ.out.below L);replace o:=(tQ o L);clear J ag;clear L;cases ac
   · exact eH
   cases ae
   · exact eH
   have au:Qd w7 w6 0 (.slice pa P.length pc):=kE X rfl;have aw:Qd w7 w6 1 (.slice qa Q.length qc):=kE X rfl;have ap:=yD (kD.jh (r:=zf) (q:=zf) (cs:=[.slice pa P.length pc]) (ds:=[.slice qa Q.length qc]) (S:=λk=>w.heap.size < k/\k < w7.heap.size) HP.out HQ.out nU nU qF);clear HP HQ;go_wp2_with fail;refine (kTz (cr:=[.slice pa P.length pc,.slice qa Q.length qc]) (r:=(P,Q)) ap.out.raw).mono ?_;rintro e w8 ⟨rfl,hb⟩;have eo:=hb.size;replace R:=kC R hb;replace H:=kC H hb;replace BQ:=kC BQ hb;replace X:=kC X hb;replace bk:=cL hb bk;replace D:=cL hb D;replace E:=cL hb E;replace ap:=yD (ap.out.below hb);replace o:=(tQ o hb);clear au aw;clear hb;generalize kTa (P,Q)=vr;cases vr
   · have ak:Qd w8 w 0 (.slice none 0 0):=kE R rfl;have ao:Qd w8 w 1 (.slice none 0 0):=kE R rfl;exact eG
   have au:Qd w8 w6 0 (.slice pa P.length pc):=kE X rfl;have aw:Qd w8 w6 1 (.slice qa Q.length qc):=kE X rfl;obtain ⟨ak,ao⟩:=yM R;obtain ⟨al,an⟩:=kBw R;go_wp2;refine Ag (v:=.tuple #[.agg #[Qs pa P pc,Qs qa Q qc],.bool true]) mP rfl ⟨[Qs pa P pc,Qs qa Q qc],(P,Q),true,rfl,?_,?_⟩
   · exact (ap.out.touch sT2 vD).wide fE
   exact o.trans (Touch.below sT2 o.size bD5)
 have ah:¬ (ps.length:Int)=3:=bH3
 obtain ⟨ak,ao⟩:=yM R
 exact eG
def kVb {w:Ac} {cs:Aj Ak} {x:kg} (h:kN.raw w cs x):∃ a c,cs=[.slice a x.length c]:=by
 obtain ⟨v0,rfl,h0⟩:=kX h;obtain ⟨a,c,h1,_⟩:=kD.kBd h0;obtain rfl:v0=_:=by simpa using h1
 exact ⟨a,c,rfl⟩
def SignedW (m:Nat) (w:Ac) (e:Ending) (w':Ac):Prop:=∃ ds x ok,e=.returned (.tuple #[.agg ds.toArray,.bool ok])/\jI.own w' ds x (jb w.heap.size w'.heap.size)/\x.2.1.length<=m/\Qb w w'
def jAj {w:Ac} {S:Nat->Prop}:jI.own w [.slice none 0 0,.slice none 0 0,.slice none 0 0,Qn 0,Qn 0] ([],[],[],0,0) S:=⟨jI.is_zero,jI.bdd_zero⟩
def kEq {w:Ac} {vl:Ak} {l:Aj kPr} (hl:(kD.slice 190 kKy).raw w [vl] l) {cb:Aj Ak} {yb:kg} (hby:kN.rd w cb yb) {cn:Aj Ak} {n:kg} (hn:kN.rd w cn n) {J:Ak} {b_:Aj UInt8} (V:(kD.slice 5 kD.byte).rd w [J] b_) (a8:b_.length<=1000) {tl:Int} (ht:Qi tl) :
    Calls prog 178 #[vl,.agg cb.toArray,.agg cn.toArray,J,.int .i64 tl] w (SignedW b_.length w):=by
 obtain ⟨la,lc,rfl,_⟩:=kD.sl hl
 obtain ⟨ya,yc,rfl⟩:=kVb hby.1
 obtain ⟨na,nc,rfl⟩:=kVb hn.1
 obtain ⟨ba,bc,rfl,_⟩:=kD.sl V.1
 have HL:=yD hl
 have HY:=yD hby
 have HN:=yD hn
 have HB:=yD V
 have Z:=sec_rng (n:=yb) hl
 clear hl hby hn V
 go_enter func178,ntmps178
 go_upto_region 1 with fail
 generalize G:World.alloc (World.alloc (World.alloc w _) _) _=w1
 have o:Qb w w1:=by rw [<- G];exact bI
 have BY:Qr w1 w.heap.size #[Qs ya yb yc] 36:=sI
 have BN:Qr w1 (w.heap.size + 1) #[Qs na n nc] 36:=by rw [<- G];exact jM (kG bH4)
 obtain ⟨X,bo⟩:=GN
 clear G
 go_cut [12] from 13 to 22 (λab wc=>∃ (b:Nat) (ac ai aj:Ab Ae) (Y ae ah:Nat) (sg:Int),ab=.pointer (some ⟨b,0,none⟩)/\Qr wc b #[Qs ac n Y,Qs ai b_ ae,Qs aj yb ah,Qn tl,Qn sg] 70/\Hid (jI.own wc [Qs ac n Y,Qs ai b_ ae,Qs aj yb ah,Qn tl,Qn sg] (n,b_,yb,tl,sg) (Ql w1 wc b))/\w1.heap.size<=b/\b < wc.heap.size/\Qb w1 wc)
 case first =>
  have FX:=yD (λ(W:Ac) (hW:Qb w1 W)=>And.intro (kE (kC BY hW) (j:=0) (v:=.slice ya yb.length yc) rfl) (kE (kC BN hW) (j:=0) (v:=.slice na n.length nc) rfl));refine yP (λW=>Qb w1 W) bG6 (bR.drew) ?_;intro t E;have dx:=E.size;refine kL 0 ?_;refine kL 1 ?_;refine kL 3 ?_;refine kL 4 ?_;refine kL 5 ?_;refine kL 6 ?_;refine kL 7 ?_;refine kHe ?_;intro T A hT hA;have F:∀ (ac:Ab Ae) (Y:Nat) (ai:Ab Ae) (ae:Nat) (aj:Ab Ae) (ah:Nat) (sg:Int) (b:Nat) (W:Ac),Qb w1 W->(Hid (jI.own W [Qs ac n Y,Qs ai b_ ae,Qs aj yb ah,Qn tl,Qn sg] (n,b_,yb,tl,sg) (Ql w1 W b)))->(w1.heap.size<=b/\b < W.heap.size)->(Qr W b #[Qs ac n Y,Qs ai b_ ae,Qs aj yb ah,Qn tl,Qn sg] 70)->T 0 [Tt,Tt,Tt,Tt,Tt,Tt,Tt,Tt,Tt,Tt,Tt] (Aa (Aa (Aa A (some 15) (.int .i64 (kBt l yb))) (some 21) (.agg #[Qs ac n Y,Qs ai b_ ae,Qs aj yb ah,Qn tl,Qn sg])) (some 12) (.pointer (some ⟨b,0,none⟩))) W:=by
   intro ac Y ai ae aj ah sg b W E HQ N BB;have bh:=E.size;subst hT;subst hA;simp only [Aa,zA,zB,zC];refine jg bG6 ?_;go_wp2;go_meet;exact ⟨b,ac,ai,aj,Y,ae,ah,sg,rfl,BB,HQ,N.1,N.2,E⟩
  have I:∀ (ac:Ab Ae) (Y:Nat) (ai:Ab Ae) (ae:Nat) (aj:Ab Ae) (ah:Nat) (sg:Int) (b:Nat) (W:Ac),Qb w1 W->(Hid (jI.own W [Qs ac n Y,Qs ai b_ ae,Qs aj yb ah,Qn tl,Qn sg] (n,b_,yb,tl,sg) (Ql w1 W b)))->(w1.heap.size<=b/\b < W.heap.size)->(Qr W b #[.slice none 0 0,.slice none 0 0,.slice none 0 0,Qn 0,Qn 0] 70)->T 1 [Tt,Tt,Tt,Tt,Tt,Tt,Tt,Tt,Tt,Tt,Ff] (Aa (Aa (Aa A (some 15) (.int .i64 (kBt l yb))) (some 21) (.agg #[Qs ac n Y,Qs ai b_ ae,Qs aj yb ah,Qn tl,Qn sg])) (some 12) (.pointer (some ⟨b,0,none⟩))) W:=by
   intro ac Y ai ae aj ah sg b W E HQ N BB;have bh:=E.size;subst hT;subst hA;simp only [Aa,zA,zB,zC];refine kP (k:=10) rfl bG6 rfl (λK H=>?_);obtain ⟨de,dc,dd,dk,db⟩:=zD BB;obtain ⟨cv,c7,c8,df,c5⟩:=kBv BB;go_simp;generalize G:World.setCell (World.setCell (World.setCell (World.setCell (World.setCell W _ _) _ _) _ _) _ _) _ _=v;have hT:Touch (λk=>k=b) W v:=(by rw [<- G];exact sT5);replace BB:Qr v b #[Qs ac n Y,Qs ai b_ ae,Qs aj yb ah,Qn tl,Qn sg] 70:=(by rw [<- G];exact kI (kI (kI (kI (kI (BB) 0) 1) 2) 3) 4);clear G de cv dc c7 dd c8 dk df db c5;have zv:=hT.size;replace HQ:Hid (jI.own v [Qs ac n Y,Qs ai b_ ae,Qs aj yb ah,Qn tl,Qn sg] (n,b_,yb,tl,sg) (Ql w1 v b)):=yD ((HQ.out.touch hT (λk q h=>q.2.2 h)).wide (λk q=>⟨q.1,Nat.lt_of_lt_of_le q.2.1 hT.size,q.2.2⟩));replace N:w1.heap.size<=b/\b < v.heap.size:=⟨N.1,Nat.lt_of_lt_of_le N.2 hT.size⟩;replace E:=E.trans (hT.below E.size bD5);refine H _ _ E ?_;clear H K;refine jG ?_;have h_:=F ac Y ai ae aj ah sg b v E HQ N BB;exact dR
  have aa:∀ (ac:Ab Ae) (Y:Nat) (ai:Ab Ae) (ae:Nat) (aj:Ab Ae) (ah:Nat) (sg:Int) (W:Ac),Qb w1 W->(Hid (jI.own W [Qs ac n Y,Qs ai b_ ae,Qs aj yb ah,Qn tl,Qn sg] (n,b_,yb,tl,sg) (λk=>w1.heap.size<=k/\k < W.heap.size/\k≠w.heap.size)))->T 2 [Tt,Tt,Tt,Tt,Tt,Tt,Tt,Tt,Tt,Ff,Ff] (Aa (Aa A (some 15) (.int .i64 (kBt l yb))) (some 21) (.agg #[Qs ac n Y,Qs ai b_ ae,Qs aj yb ah,Qn tl,Qn sg])) W:=by
   intro ac Y ai ae aj ah sg W E HQ;have bh:=E.size;subst hT;subst hA;simp only [Aa,zA,zB,zC];refine kP (k:=9) rfl bG6 rfl (λK H=>?_);go_simp;generalize G:World.alloc W _=v;obtain ⟨hb,BB,zv⟩:=xE;clear G;obtain ⟨b,ax⟩:∃ b_,b_=W.heap.size:=⟨_,rfl⟩;rw [<- ax] at BB ⊢;replace HQ:Hid (jI.own v [Qs ac n Y,Qs ai b_ ae,Qs aj yb ah,Qn tl,Qn sg] (n,b_,yb,tl,sg) (Ql w1 v b)):=yD ((HQ.out.below hb).wide dK);have N:w1.heap.size<=b/\b < v.heap.size:=⟨by omega,by omega⟩;exact eO
  have U:∀ (b:Nat) (W:Ac),Qb w1 W->(w1.heap.size<=b/\b < W.heap.size)->(Qr W b #[.slice none 0 0,.slice none 0 0,.slice none 0 0,Qn 0,Qn 0] 70)->T 2 [Tt,Tt,Tt,Tt,Tt,Tt,Tt,Tt,Ff,Tt,Ff] (Aa (Aa A (some 15) (.int .i64 (kBt l yb))) (some 12) (.pointer (some ⟨b,0,none⟩))) W:=by
   intro b W E N BB;have bh:=E.size;subst hT;subst hA;simp only [Aa,zA,zB,zC];refine kP (k:=8) rfl bG6 rfl (λK H=>?_);go_simp;refine (kHg (s:=kBt l yb) Z (cx:=[.slice na n.length nc,.slice ba b_.length bc,.slice ya yb.length yc,.int .i64 tl,.int .i64 0]) (x:=(n,b_,yb,tl,0)) (kXp (S:=λ_=>True) ((HN.out.below o).below E) ((HB.out.below o).below E) ((HY.out.below o).below E) ht bH3) (by show b_.length<=_;omega)).mono ?_;rintro e v ⟨sg,ds,rfl,hO,ck,hb⟩;have zv:=hb.size;have b4:=N.2;replace BB:=kC BB hb;replace N:w1.heap.size<=b/\b < v.heap.size:=⟨N.1,Nat.lt_of_lt_of_le N.2 hb.size⟩;obtain ⟨ac,Y,ai,ae,aj,ah,rfl⟩:=zk hO.raw;have HQ:Hid (jI.own v [Qs ac n Y,Qs ai b_ ae,Qs aj yb ah,Qn tl,Qn sg] (n,b_,yb,tl,sg) (Ql w1 v b)):=yD (hO.wide mM);exact eO
  have D:∀ (W:Ac),Qb w1 W->T 3 [Tt,Tt,Tt,Tt,Tt,Tt,Tt,Tt,Ff,Ff,Ff] (Aa A (some 15) (.int .i64 (kBt l yb))) W:=by
   intro W E;have bh:=E.size;subst hT;subst hA;simp only [Aa,zA,zB,zC];refine jr (i:=8) (j:=9) rfl rfl bG6 rfl rfl (λK H=>?_) (λK H=>?_)
   · go_simp;refine (kHg (s:=kBt l yb) Z (cx:=[.slice na n.length nc,.slice ba b_.length bc,.slice ya yb.length yc,.int .i64 tl,.int .i64 0]) (x:=(n,b_,yb,tl,0)) (kXp (S:=λ_=>True) ((HN.out.below o).below E) ((HB.out.below o).below E) ((HY.out.below o).below E) ht bH3) (by show b_.length<=_;omega)).mono ?_;rintro e v ⟨sg,ds,rfl,hO,ck,hb⟩;have zv:=hb.size;obtain ⟨ac,Y,ai,ae,aj,ah,rfl⟩:=zk hO.raw;have HQ:Hid (jI.own v [Qs ac n Y,Qs ai b_ ae,Qs aj yb ah,Qn tl,Qn sg] (n,b_,yb,tl,sg) (λk=>w1.heap.size<=k/\k < v.heap.size/\k≠w.heap.size)):=yD (hO.wide mM);replace E:=(tQ E hb);refine H _ _ E ?_;clear H K;refine jG ?_;have h_:=aa ac Y ai ae aj ah sg v E HQ;exact dR
   go_simp;generalize G:World.alloc W _=v;obtain ⟨hb,BB,zv⟩:=xE;clear G;obtain ⟨b,ax⟩:∃ b_,b_=W.heap.size:=⟨_,rfl⟩;rw [<- ax] at BB ⊢;have N:w1.heap.size<=b/\b < v.heap.size:=⟨by omega,by omega⟩;exact eP
  have T9:∀ (b:Nat) (W:Ac),Qb w1 W->(w1.heap.size<=b/\b < W.heap.size)->(Qr W b #[.slice none 0 0,.slice none 0 0,.slice none 0 0,Qn 0,Qn 0] 70)->T 3 [Tt,Tt,Ff,Tt,Tt,Tt,Tt,Tt,Ff,Tt,Ff] (Aa A (some 12) (.pointer (some ⟨b,0,none⟩))) W:=by
   intro b W E N BB;have bh:=E.size;subst hT;subst hA;simp only [Aa,zA,zB,zC];refine kP (k:=2) rfl bG6 rfl (λK H=>?_);go_simp;refine (kEr ((HL.out.below o).below E) (cn:=[.slice ya yb.length yc]) ((HY.out.1.below o).below E)).mono ?_;rintro e v ⟨rfl,hb⟩;have zv:=hb.size;have b4:=N.2;replace BB:=kC BB hb;replace N:w1.heap.size<=b/\b < v.heap.size:=⟨N.1,Nat.lt_of_lt_of_le N.2 hb.size⟩;exact eP
  subst hT;subst hA;refine jr (i:=2) (j:=9) rfl rfl bG6 rfl rfl (λK H=>?_) (λK H=>?_)
  · go_simp;refine (kEr ((HL.out.below o).below E) (cn:=[.slice ya yb.length yc]) ((HY.out.1.below o).below E)).mono ?_;rintro e v ⟨rfl,hb⟩;have zv:=hb.size;replace E:=(tQ E hb);refine H _ _ E ?_;clear H K;refine jG ?_;have h_:=D v E;exact dR
  go_simp;generalize G:World.alloc t _=v;obtain ⟨hb,BB,zv⟩:=AQ;clear G;obtain ⟨b,ax⟩:∃ b_,b_=t.heap.size:=⟨_,rfl⟩;rw [<- ax] at BB ⊢;have N:w1.heap.size<=b/\b < v.heap.size:=⟨by omega,by omega⟩;exact eQ
 obtain ⟨b,ac,ai,aj,Y,ae,ah,sg,rfl,BQ,HQ,b7,O,R⟩:=hcut
 have zc:=R.size
 replace BY:=kC BY R
 replace X:=kC X R
 replace o:=(tQ o R)
 have L:=HL
 replace HL:=yD (L.out.below o)
 have ad:=HY
 replace HY:=yD (ad.out.below o)
 clear L ad HN HB BN R
 have c1:Qd wc w 0 (.slice ya yb.length yc):=kE BY rfl
 go_wp2_with fail
 refine (kEr HL.out (cn:=[.slice ya yb.length yc]) HY.out.1).mono ?_
 rintro e w4 ⟨rfl,hb⟩
 have b5:=hb.size
 replace BY:=kC BY hb
 replace X:=kC X hb
 replace BQ:=kC BQ hb
 replace HQ:=yD (HQ.out.below hb)
 replace HL:=yD (HL.out.below hb)
 replace HY:=yD (HY.out.below hb)
 replace o:=(tQ o hb)
 clear c1
 clear hb
 by_cases b8:kBt l yb=0
 · have au:Qc w4 (w.heap.size + 2) 0 (.slice none 0 0):=kE X rfl;have aw:Qc w4 (w.heap.size + 2) 1 (.slice none 0 0):=kE X rfl;have be:Qc w4 (w.heap.size + 2) 2 (.slice none 0 0):=kE X rfl;have bd:Qc w4 (w.heap.size + 2) 3 (.int .i64 0):=kE X rfl;have bz:Qc w4 (w.heap.size + 2) 4 (.int .i64 0):=kE X rfl;exact eT
 have ag:Qc w4 b 0 (.slice ac n.length Y):=kE BQ rfl
 have ap:Qc w4 b 1 (.slice ai b_.length ae):=kE BQ rfl
 have ar:Qc w4 b 2 (.slice aj yb.length ah):=kE BQ rfl
 have aq:Qc w4 b 3 (.int .i64 tl):=kE BQ rfl
 have bm:Qc w4 b 4 (.int .i64 sg):=kE BQ rfl
 go_wp2_with fail
 refine (kDw (x:=(n,b_,yb,tl,sg)) HQ.out.raw).mono ?_
 rintro e w5 ⟨rfl,hb⟩
 have b3:=hb.size
 replace BY:=kC BY hb
 replace X:=kC X hb
 replace BQ:=kC BQ hb
 replace HQ:=yD (HQ.out.below hb)
 replace HL:=yD (HL.out.below hb)
 replace HY:=yD (HY.out.below hb)
 replace o:=(tQ o hb)
 clear ag ap ar aq bm
 clear hb
 generalize kKk (n,b_,yb,tl,sg)=ok
 cases ok
 · have au:Qc w5 (w.heap.size + 2) 0 (.slice none 0 0):=kE X rfl;obtain ⟨aw,be,bd,bz⟩:=FB;exact eT
 have au:Qc w5 (w.heap.size + 2) 0 (.slice none 0 0):=kE X rfl
 obtain ⟨aw,be,bd,bz⟩:=FB
 obtain ⟨ag,ap,ar,aq,bm⟩:=zD BQ
 obtain ⟨ao,an,a9,bb,br⟩:=kBv X
 go_wp2
 refine Ag (v:=.tuple #[.agg #[Qs ac n Y,Qs ai b_ ae,Qs aj yb ah,Qn tl,Qn sg],.bool true]) fI rfl ⟨[Qs ac n Y,Qs ai b_ ae,Qs aj yb ah,Qn tl,Qn sg],(n,b_,yb,tl,sg),true,rfl,?_,?_,?_⟩
 · exact (HQ.out.touch sT5 vD).wide fA
 · simp
 exact o.trans (Touch.below sT5 o.size bD5)
def kEs {w:Ac} {vl:Ak} {l:Aj kPr} (hl:(kD.slice 190 kKy).raw w [vl] l) {cn:Aj Ak} {n:kg} (hn:kN.rd w cn n) {cb:Aj Ak} {yb:kg} (hby:kN.rd w cb yb) {tl:Int} (ht:Qi tl) :
    Calls prog 175 #[vl,.agg cn.toArray,.agg cb.toArray,.int .i64 tl] w (SignedW 64 w):=by
 obtain ⟨la,lc,rfl,_⟩:=kD.sl hl
 obtain ⟨ya,yc,rfl⟩:=kVb hby.1
 obtain ⟨na,nc,rfl⟩:=kVb hn.1
 have ab:=keyDig_len (l:=l) (n:=n)
 go_enter func175,ntmps175
 go_upto_region 1 with fail
 generalize G:World.alloc (World.alloc (World.alloc w _) _) _=w1
 have o:Qb w w1:=by rw [<- G];exact bI
 have HL:=yD (hl.below o)
 have HY:=yD (hby.below o)
 have HN:=yD (hn.below o)
 clear hl hby hn
 have BN:Qr w1 w.heap.size #[Qs na n nc] 36:=sI
 have BY:Qr w1 (w.heap.size + 1) #[Qs ya yb yc] 36:=by rw [<- G];exact jM (kG bH4)
 obtain ⟨X,bo⟩:=GN
 clear G
 have aq:Qd w1 w 0 (.slice na n.length nc):=kE BN rfl
 have c1:Qc w1 (w.heap.size + 1) 0 (.slice ya yb.length yc):=kE BY rfl
 have FX:=yD (λ(W:Ac) (hW:Qb w1 W)=>kIz hW aq c1)
 refine jc (λW=>Qb w1 W) [(0,true),(1,true),(2,true),(3,true),(4,true),(6,true),(5,false),(7,false),(8,true),(9,true)] bG6 bG6 qY (bR.drew) ?_
 intro wS E
 simp only [jB,List.length_cons,List.length_nil,List.getElem?_cons_succ,List.getElem?_cons_zero,List.map_cons,List.map_nil,List.cons_append,List.nil_append,List.drop_succ_cons,List.drop_zero]
 iterate 6
  all_goals refine ky ?_
 all_goals first|(refine kJ rfl E ?_)|(refine kw rfl (λK H=>?_);go_simp;refine (kUe (HL.out.below E) (HN.out.1.below E) (cn:=[.slice na n.length nc])).mono ?_;rintro e wS1 ⟨vg,rfl,OG,Z⟩;obtain ⟨ag,ng,cg,av,a3⟩:=OG.parts;obtain rfl:=av;have RG:=yD ((OG.own bD0).rd);clear OG;replace E:=(tQ E Z);refine H _ _ E ?_;clear H K Z)
 all_goals refine jG ?_
 all_goals first|(refine kJ rfl E ?_)|(refine kw rfl (λK H=>?_);go_simp;refine (kEq (l:=l) (HL.out.below E) (cb:=[.slice ya yb.length yc]) (HY.out.below E) (cn:=[.slice na n.length nc]) (HN.out.below E) RG.out bH3 ht).mono ?_;rintro e bm ⟨ds,x,ok,rfl,hO,bg,Z⟩;have HQ:=yD hO;have D:=Z.size;have I:=E.size;obtain ⟨ac,Y,ai,ae,aj,ah,rfl⟩:=zk hO.raw;clear hO;replace E:=(tQ E Z);refine H _ _ E ?_;clear H K Z)
 all_goals refine jG ?_
 all_goals refine ky ?_
 all_goals refine ky ?_
 all_goals refine yG ?_
 replace X:=kC X E
 have F:=E.size
 have E2:=(tQ o E)
 obtain ⟨ak,ao,az,a7,bp⟩:=zD X
 obtain ⟨al,an,ay,a6,bn⟩:=kBv X
 go_wp2
 refine Ag (v:=.tuple #[.agg #[Qs ac x.1 Y,Qs ai x.2.1 ae,Qs aj x.2.2.1 ah,Qn x.2.2.2.1,Qn x.2.2.2.2],.bool ok]) (by simp [results,results175,go_sem,ak,al,ao,an,az,ay,a7,a6,bp,bn]) rfl ⟨[Qs ac x.1 Y,Qs ai x.2.1 ae,Qs aj x.2.2.1 ah,Qn x.2.2.2.1,Qn x.2.2.2.2],x,ok,rfl,?_,by omega,?_⟩
 · exact (HQ.out.touch sT5 vD).wide fE
 exact E2.trans (Touch.below sT5 E2.size bD5)
def lit_rdB {α:Type} {r:kD α} {e:TypeId} {w:Ac} {b:Nat} {cs:Aj Ak} {xs:Aj α} {S:Nat->Prop} (hb:w.heap[b]?=some (.cells cs.toArray e (0,0))) (hr:kD.row r false w cs xs S) (hd:∀ x∈xs,r.bdd Big x) (hl:xs.length<=64):(kD.slice e r).jo w [.slice (some ⟨b,0,none⟩) xs.length xs.length] xs (λk=>S k\/k=b):=by
 refine ⟨⟨_,_,xs.length,rfl,rfl,Nat.le_refl _,by unfold maxLen;omega,.inr ⟨b,0,rfl,cs.toArray,e,(0,0),[],cs,[],hb,by simp,rfl,?_,(λh=>by cases h),.inr rfl,?_⟩⟩,by unfold Big;omega,hd⟩
 · have:=kD.zH hr;simp;omega
 exact kD.yL hr (λk hk=>⟨.inl hk,λh=>by cases h⟩)
def kQh {α:Type} {r:kD α} {w:Ac} {c d:Aj Ak} {y:α} {ys:Aj α} {S:Nat->Prop} (h:r.jo w c y S) (k:kD.row r false w d ys S):kD.row r false w (c++d) (y :: ys) S:=⟨c,d,S,S,rfl,h.1,k,λ_ h=>h,λ_ h=>h,λh=>by cases h⟩
def kVc {w:Ac} {v:Ak} {n:kg} {s:Int} {S:Nat->Prop} (h:kN.jo w [v] n S) (hs:Qi s):kKy.jo w [v,Qn s] (n,s) S :=
  kD.kAg (r:=kN) (q:=.int) (z:=(n,s)) h (kD.flat.jo (kD.ku hs))
def Touch.ji {S U:Nat->Prop} {w w1 V:Ac} (h:Touch S w w1) (t:Touch U w1 V) (hb:∀ k,U k->S k\/w.heap.size<=k):Touch S w V:=by
 refine ⟨t.os.trans h.os,t.tape.trans h.tape,t.output.trans h.output,Nat.le_trans h.size t.size,λk hk hn=>?_⟩;exact (t.block k (Nat.lt_of_lt_of_le hk h.size) (λq=>by rcases hb k q with q | q;exact hn q;omega)).trans (h.block k hk hn)
def trust_rdB {w:Ac} {v0 v1 v2 v3:Ak} {U:Aj kPr} {F:Aj kLj} {x2:Aj kg} {x3:Aj jT} {S:Nat->Prop} (h0:(kD.slice 190 kKy).jo w [v0] U S) (h1:(kD.slice 193 kMx).jo w [v1] F S) (h2:(kD.slice 36 kN).jo w [v2] x2 S) (h3:(kD.slice 70 jI).jo w [v3] x3 S):kBh.jo w [v0,v1,v2,v3] (U,F,x2,x3) S :=
  kD.kAg (r:=(kD.slice 190 kKy)) (q:=.pair (kD.slice 193 kMx) (.pair (kD.slice 36 kN) (kD.slice 70 jI))) (z:=(U,F,x2,x3)) h0 (kD.kAg (r:=(kD.slice 193 kMx)) (q:=.pair (kD.slice 36 kN) (kD.slice 70 jI)) (z:=(F,x2,x3)) h1 (kD.kAg (r:=(kD.slice 36 kN)) (q:=(kD.slice 70 jI)) (z:=(x2,x3)) h2 h3))
def DrawnT (w0 w:Ac) (p:Nat) (e:Ending) (w':Ac):Prop:=∃ ds t,e=.returned (.agg ds.toArray)/\kBh.jo w' ds t (jb w.heap.size w'.heap.size)/\lenT t/\yS w0 w' p/\Touch (λk=>k=p) w w'
def kVw {w0 w:Ac} {p:Nat} (hc:yS w0 w p) :
    Calls prog 129 #[.pointer (some ⟨p,0,none⟩)] w λe w'=>DrawnT w0 w p e w':=by
 go_enter func129,ntmps129
 obtain ⟨bd,bw⟩:=hc.lt
 go_upto_region 1 with fail
 generalize G:World.alloc w _=w1
 have U:Qb w w1:=tK
 have R:Qr w1 w.heap.size #[.slice none 0 0,.slice none 0 0,.slice none 0 0,.slice none 0 0] 57:=wW
 have bo:w.heap.size + 1<=w1.heap.size:=bF4
 clear G
 obtain ⟨hc,J⟩:=xQ
 clear U
 go_wp2_with fail
 refine (yZ (s:={ data:=#[47,107,101,121,47,97] }) bH2).mono ?_
 rintro e V ⟨a0,c0,k0,rfl,hr,bi,b8,hb⟩
 have bv:=hb.size
 replace R:=kC R hb
 obtain ⟨hc,J⟩:=xI
 clear hb
 have H0:=yD (hr)
 clear hr bi b8
 go_wp2_with fail
 refine (yZ (s:={ data:=#[47,97,47,107,101,121] }) bH2).mono ?_
 rintro e w3 ⟨a1,c1,k1,rfl,hr,cw,ch,hb⟩
 have bt:=hb.size
 replace R:=kC R hb
 replace H0:=yD (H0.out.below hb)
 obtain ⟨hc,J⟩:=xI
 clear hb
 have H1:=yD (hr)
 clear hr cw ch
 go_wp2_with fail
 refine (yZ (s:={ data:=#[47,98,47,107,101,121] }) bH2).mono ?_
 rintro e w4 ⟨a2,c2,k2,rfl,hr,ba,bn,hb⟩
 have b5:=hb.size
 replace R:=kC R hb
 replace H0:=yD (H0.out.below hb)
 replace H1:=yD (H1.out.below hb)
 obtain ⟨hc,J⟩:=xI
 clear hb
 have H2:=yD (hr)
 clear hr ba bn
 go_wp2_with fail
 refine (yZ (s:={ data:=#[47,98,97,100,47,107,101,121] }) bH2).mono ?_
 rintro e w5 ⟨a3,c3,k3,rfl,hr,f7,dl,hb⟩
 have b3:=hb.size
 replace R:=kC R hb
 replace H0:=yD (H0.out.below hb)
 replace H1:=yD (H1.out.below hb)
 replace H2:=yD (H2.out.below hb)
 obtain ⟨hc,J⟩:=xI
 clear hb
 have H3:=yD (hr)
 clear hr f7 dl
 go_wp2_with fail
 generalize G:World.alloc w5 _=w6
 have av:Qb w5 w6:=tK
 have BK:Qr w6 w5.heap.size #[Qs a0 k0 c0,Qn 100,Qs a1 k1 c1,Qn 101,Qs a2 k2 c2,Qn 102,Qs a3 k3 c3,Qn 103] 190:=wW
 have dh:w5.heap.size + 1<=w6.heap.size:=bF4
 clear G
 replace R:=kC R av
 replace H0:=yD (H0.out.below av)
 replace H1:=yD (H1.out.below av)
 replace H2:=yD (H2.out.below av)
 replace H3:=yD (H3.out.below av)
 obtain ⟨hc,J⟩:=FV
 clear av
 refine (yZ (s:={ data:=#[47,107,101,121,47,97] }) bH2).mono ?_
 rintro e w7 ⟨a4,c4,k4,rfl,hr,i7,di,hb⟩
 have et:=hb.size
 replace R:=kC R hb
 replace BK:=kC BK hb
 replace H0:=yD (H0.out.below hb)
 replace H1:=yD (H1.out.below hb)
 replace H2:=yD (H2.out.below hb)
 replace H3:=yD (H3.out.below hb)
 obtain ⟨hc,J⟩:=xI
 clear hb
 have H4:=yD (hr)
 clear hr i7 di
 go_upto_region 2 with fail
 generalize G:World.alloc (World.alloc w7 _) _=w8
 have E_:Qb w7 w8:=by rw [<- G];exact (bR.alloc nL _).alloc bH4 _
 have BA:Qr w8 w7.heap.size #[Qs a4 k4 c4] 36:=vF
 have BT:Qr w8 (w7.heap.size + 1) #[.slice (some ⟨w5.heap.size,0,none⟩) 4 4,.slice none 0 0,.slice (some ⟨w7.heap.size,0,none⟩) 1 1,.slice none 0 0] 57:=by rw [<- G];exact kG bH4
 have eo:w7.heap.size + 2<=w8.heap.size:=bF4
 clear G
 replace R:=kC R E_
 replace BK:=kC BK E_
 replace H0:=yD (H0.out.below E_)
 replace H1:=yD (H1.out.below E_)
 replace H2:=yD (H2.out.below E_)
 replace H3:=yD (H3.out.below E_)
 replace H4:=yD (H4.out.below E_)
 replace hc:=hc.below E_
 replace J:=J.trans (Touch.of_below E_)
 clear E_
 obtain ⟨am,dv⟩:∃ b_,b_=w7.heap.size + 1:=⟨_,rfl⟩
 rw [<- dv] at BT ⊢
 have en:=Nat.le_of_eq dv
 have ei:=Nat.le_of_eq dv.symm
 clear dv
 have HK:Hid ((kD.slice 190 kKy).jo w8 [.slice (some ⟨w5.heap.size,0,none⟩) 4 4] [(k0,100),(k1,101),(k2,102),(k3,103)] (λk=>w.heap.size < k/\k < am/\k≠p)):=yD ((lit_rdB (r:=kKy) (xs:=[(k0,100),(k1,101),(k2,102),(k3,103)]) (S:=(λk=>w.heap.size < k/\k < am/\k≠p)) BK (kQh (c:=[.slice a0 k0.length c0,.int .i64 100]) (kVc (H0.out.jo.wide gD) bH3) (kQh (c:=[.slice a1 k1.length c1,.int .i64 101]) (kVc (H1.out.jo.wide gD) bH3) (kQh (c:=[.slice a2 k2.length c2,.int .i64 102]) (kVc (H2.out.jo.wide gD) bH3) (kQh (c:=[.slice a3 k3.length c3,.int .i64 103]) (kVc (H3.out.jo.wide gD) bH3) (rfl))))) (by intro x hx;simp only [List.mem_cons,List.not_mem_nil,or_false] at hx;rcases hx with rfl | rfl | rfl | rfl;exact ⟨H0.out.jo.2,trivial⟩;exact ⟨H1.out.jo.2,trivial⟩;exact ⟨H2.out.jo.2,trivial⟩;exact ⟨H3.out.jo.2,trivial⟩) bH4).wide fB)
 have HA:Hid ((kD.slice 36 kN).jo w8 [.slice (some ⟨w7.heap.size,0,none⟩) 1 1] [k4] (λk=>w.heap.size < k/\k < am/\k≠p)):=yD ((lit_rdB (r:=kN) (xs:=[k4]) (S:=(λk=>w.heap.size < k/\k < am/\k≠p)) BA (kQh (c:=[.slice a4 k4.length c4]) (H4.out.jo.wide gD) rfl) (by intro x hx;rw [Am.1 hx];exact H4.out.jo.2) bH4).wide fB)
 clear H0 H1 H2 H3 H4 BK BA
 obtain ⟨kb,ck⟩:∃ b_,b_=w5.heap.size:=⟨_,rfl⟩
 obtain ⟨ab,d8⟩:∃ b_,b_=w7.heap.size:=⟨_,rfl⟩
 rw [<- ck] at HK BT
 clear ck
 rw [<- d8] at HA BT
 clear d8
 generalize hkl:[(k0,(100:Int)),(k1,101),(k2,102),(k3,103)]=kl at HK
 clear hkl
 have ew:am < w8.heap.size/\w.heap.size < am:=⟨by omega,by omega⟩
 have e0:w.heap.size < am/\p < am:=⟨by omega,by omega⟩
 go_wp2
 have dt:Hid ((kD.slice 9 kD.str).own (World.alloc w8 (.cells #[.string { data:=#[47,63,120,47,107,101,121,32,60,32,47,107,101,121,47,97] },.string { data:=#[47,63,120,47,42,42,32,60,32,47,63,120,47,107,101,121] }] 9)) [.slice (some ⟨w8.heap.size,0,none⟩) 2 2] [{ data:=#[47,63,120,47,107,101,121,32,60,32,47,107,101,121,47,97] },{ data:=#[47,63,120,47,42,42,32,60,32,47,63,120,47,107,101,121] }] (λk=>k=w8.heap.size)):=yD (kD.kBg w8 [{ data:=#[47,63,120,47,107,101,121,32,60,32,47,107,101,121,47,97] },{ data:=#[47,63,120,47,42,42,32,60,32,47,63,120,47,107,101,121] }] bH2 bH2)
 generalize G:World.alloc w8 _=w9 at dt ⊢
 have E_:Qb w8 w9:=tK
 have e9:w8.heap.size + 1<=w9.heap.size:=bF4
 have eg:w9.heap.size<=w8.heap.size + 1:=bF4
 clear G
 replace R:=kC R E_
 replace BT:=kC BT E_
 replace HK:=yD (HK.out.below E_)
 replace HA:=yD (HA.out.below E_)
 replace hc:=hc.below E_
 replace J:=J.trans (Touch.of_below E_)
 clear E_
 obtain ⟨lb,bc⟩:∃ b_,b_=w8.heap.size:=⟨_,rfl⟩
 rw [<- bc] at dt ⊢
 have em:=Nat.le_of_eq bc
 have bq:=Nat.le_of_eq bc.symm
 clear bc
 generalize hlt:([{ data:=#[47,63,120,47,107,101,121,32,60,32,47,107,101,121,47,97] },{ data:=#[47,63,120,47,42,42,32,60,32,47,63,120,47,107,101,121] }]:Aj Ap)=lt at dt
 have ad:lt.length=2:=by rw [<- hlt];rfl
 have ee:=yD (show ∀ y∈lt,y.size<=64 from λy hy=>kD.kCr bH2 (hlt ▸ hy))
 clear hlt
 go_loopw [26] (λi wr=>∃ (j:Nat) (ra:Ab Ae) (rc:Nat) (rl:Aj kLj),i=.int .i64 j/\j<=2/\Hid (rl.length=j)/\Qr wr am #[.slice (some ⟨kb,0,none⟩) 4 4,Qs ra rl rc,.slice (some ⟨ab,0,none⟩) 1 1,.slice none 0 0] 57/\Hid ((kD.slice 193 kMx).own wr [Qs ra rl rc] rl (λk=>lb < k/\k < wr.heap.size))/\w9.heap.size<=wr.heap.size/\Touch (λk=>k=am) w9 wr) (λi _=>2 - (intOf i).toNat)
 case atStart=>exact ⟨0,none,0,[],rfl,by omega,yD rfl,BT,yD kD.jm,Nat.le_refl _,Touch.of_below bR⟩
 obtain ⟨j,ra,rc,rl,rfl,hj,ea,dm,HR,da,af⟩:=hrel
 clear BT
 have BT:=dm
 clear dm
 by_cases hlt:j < 2
 · have be:(j:Int) < 2:=bH3;have bf:j < lt.length:=bH3;obtain ⟨sb,so,he,c0,cr,bk⟩:=kD.kCu (dt.out.touch af bD1).raw (i:=j) bf rfl;simp only [Ad,Ai,and_true] at he;obtain ⟨rfl,rfl⟩:=he;have bl:[c0]=[.string lt[j]]:=(kD.zz cr).1;obtain rfl:c0=.string lt[j]:=bE3;clear cr bl;have dg:=ee.out _ (Ah bf);generalize lt[j]=y at *;simp only [Nat.zero_add] at bk;go_wp2_with fail;refine (kUc dg).mono ?_;rintro e bu ⟨ds,r,b,rfl,hr,hb⟩;have cm:=hb.size;replace af:=af.trans (Touch.of_below hb);replace BT:=kC BT hb;replace HR:=yD (HR.out.below hb);clear hb;obtain ⟨pa,pc,qa,qc,rfl⟩:=rule_form hr.raw;have HU:=yD hr;clear hr bk;go_upto_region 6 with fail;generalize G:World.alloc bu _=bj;have hb:Qb bu bj:=tK;have BU:Qr bj bu.heap.size #[Qs pa r.1 pc,Qs qa r.2 qc] 193:=wW;have dy:bu.heap.size + 1<=bj.heap.size:=bF4;clear G;have c6:=hb.size;replace af:=af.trans (Touch.of_below hb);replace BT:=kC BT hb;replace HR:=yD (HR.out.below hb);replace HU:=yD (HU.out.below hb);clear hb;obtain ⟨cg,b6,cf,cd⟩:=jZ BT;obtain ⟨dz,d4⟩:=yM BU;obtain ⟨bx,b0,aw,bz⟩:=kAq BT;go_wp2_with (at_builtin;refine kD.zh rfl _ _ 54 rfl (r:=kMx) (e:=193) underlying54 infRule rfl bH2 bH2 (w:=bj) HR.out bR HU.out bH5 bH5 qE (by have:=ea.out;omega) ?_);intro v9 w9 a5 Z;have e9:=Z.size;have dp:=yD (show (rl++[r]).length=j + 1 by simp [ea.out]);generalize rl++[r]=q at *;obtain ⟨a9,c9,ce,_⟩:=kD.kBd a5.raw;obtain rfl:v9=_:=by simpa using ce
   have bp:=yD (a5.wide (T:=λk=>lb < k/\k < w9.heap.size) bL);have hT:Touch (λk=>lb < k/\k < bj.heap.size) bj w9:=Z.wide (λk q=>⟨q.1.1,q.2⟩);clear a5 Z ce HR HU cg b6 cf cd dz d4 bx b0 aw bz;replace BT:=hT.kC BT bH3;clear BU;replace af:=af.ji hT bD7;clear hT;obtain ⟨cg,b6,cf,cd⟩:=jZ BT;obtain ⟨bx,b0,aw,bz⟩:=kAq BT;go_upto_region 7 with fail;generalize G:World.setCell w9 _ _=dn;have hT:Touch (λk=>k=am) w9 dn:=bB2;replace BT:Qr dn am #[.slice (some ⟨kb,0,none⟩) 4 4,Qs a9 q c9,.slice (some ⟨ab,0,none⟩) 1 1,.slice none 0 0] 57:=by rw [<- G];exact kI BT 1
   have d6:=hT.size;clear G cg b6 cf cd bx b0 aw bz;replace bp:=yD (bp.out.touch hT qI);replace af:=af.ji hT bD7;clear hT;go_wp2;go_roundw;case rel=>exact ⟨j + 1,a9,c9,q,by go_num,by omega,dp,BT,yD (bp.out.wide sW),by omega,af⟩
   simp [intOf];omega
 obtain rfl:j=2:=bH3
 have be:¬ ((2:Nat):Int) < 2:=bH3
 replace HK:=yD (HK.out.touch af (λk q h=>by have:=q.2.1;omega))
 replace HA:=yD (HA.out.touch af (λk q h=>by have:=q.2.1;omega))
 replace R:=af.kC R bH3
 replace hc:=hc.touch af bH3 bD5
 replace J:=J.jJ af bH3
 clear af
 go_wp2
 have b9:Hid ((kD.slice 9 kD.str).own (World.alloc wr (.cells #[.string { data:=#[47,97,47,107,101,121] },.string { data:=#[47,98,47,107,101,121] }] 9)) [.slice (some ⟨wr.heap.size,0,none⟩) 2 2] [{ data:=#[47,97,47,107,101,121] },{ data:=#[47,98,47,107,101,121] }] (λk=>k=wr.heap.size)):=yD (kD.kBg wr [{ data:=#[47,97,47,107,101,121] },{ data:=#[47,98,47,107,101,121] }] bH2 bH2)
 generalize G:World.alloc wr _=wL at b9 ⊢
 have hb:Qb wr wL:=tK
 have d9:wr.heap.size + 1<=wL.heap.size:=bF4
 have d1:wL.heap.size<=wr.heap.size + 1:=bF4
 clear G
 replace HK:=yD (HK.out.below hb)
 replace HA:=yD (HA.out.below hb)
 replace HR:=yD (HR.out.below hb)
 replace R:=kC R hb
 replace BT:=kC BT hb
 obtain ⟨hc,J⟩:=xI
 clear hb
 obtain ⟨mb,du⟩:∃ b_,b_=wr.heap.size:=⟨_,rfl⟩
 rw [<- du] at b9 d9 d1 HR da ⊢
 have ek:=Nat.le_of_eq du
 have ep:=Nat.le_of_eq du.symm
 clear du
 generalize d5:([{ data:=#[47,97,47,107,101,121] },{ data:=#[47,98,47,107,101,121] }]:Aj Ap)=lu at b9
 have eq:lu.length=2:=by rw [<- d5];rfl
 have ef:=yD (show ∀ y∈lu,y.size<=64 from λy hy=>kD.kCr bH2 (d5 ▸ hy))
 clear d5
 go_loopw [44] (λi wq=>∃ (j:Nat) (ca:Ab Ae) (cc:Nat) (cl:Aj jT),i=.int .i64 j/\j<=2/\Hid (cl.length<=j)/\Hid (∀ x∈cl,x.2.1.length<=64)/\Qr wq am #[.slice (some ⟨kb,0,none⟩) 4 4,Qs ra rl rc,.slice (some ⟨ab,0,none⟩) 1 1,Qs ca cl cc] 57/\Hid ((kD.slice 70 jI).own wq [Qs ca cl cc] cl (λk=>mb < k/\k < wq.heap.size))/\yS w0 wq p/\wL.heap.size<=wq.heap.size/\Touch (λk=>k=am\/k=p) wL wq) (λi _=>2 - (intOf i).toNat)
 case atStart=>exact ⟨0,none,0,[],rfl,by omega,yD bH4,yD (λx h=>by simp at h),BT,yD kD.jm,hc,Nat.le_refl _,Touch.of_below bR⟩
 obtain ⟨j,ca,cc,cl,rfl,bf,au,dr,dm,HC,fj,el,af⟩:=hrel
 clear BT hc
 have BT:=dm
 have hc:=fj
 clear dm fj
 have ey:=af.size
 by_cases ej:j < 2
 · have be:(j:Int) < 2:=bH3;have d3:j < lu.length:=bH3;obtain ⟨sb,so,he,c0,cr,bk⟩:=kD.kCu (b9.out.touch af bD1).raw (i:=j) d3 rfl;simp only [Ad,Ai,and_true] at he;obtain ⟨rfl,rfl⟩:=he;have bl:[c0]=[.string lu[j]]:=(kD.zz cr).1;obtain rfl:c0=.string lu[j]:=bE3;clear cr bl;have dg:=ef.out _ (Ah d3);generalize lu[j]=y at *;simp only [Nat.zero_add] at bk;have d2:=yD (HK.out.touch af nO);go_upto_region 11 with fail;clear bk;go_cut [10,11] from 48 to 57 (λd0 ec wc=>∃ (b:Nat) (ac:Ab Ae) (Y:Nat) (ai:Ab Ae) (ae:Nat) (aj:Ab Ae) (ah:Nat) (x:jT) (ok:Bool),d0=.pointer (some ⟨b,0,none⟩)/\ec=.bool ok/\Qr wc b #[Qs ac x.1 Y,Qs ai x.2.1 ae,Qs aj x.2.2.1 ah,Qn x.2.2.2.1,Qn x.2.2.2.2] 70/\Hid (jI.own wc [Qs ac x.1 Y,Qs ai x.2.1 ae,Qs aj x.2.2.1 ah,Qn x.2.2.2.1,Qn x.2.2.2.2] x (Ql wr wc b))/\x.2.1.length<=64/\wr.heap.size<=b/\b < wc.heap.size/\Qb wr wc);case first =>
    have FX:=yD (λ(W:Ac) (hW:Qb wr W)=>kE (kC BT hW) (j:=0) (v:=.slice (some ⟨kb,0,none⟩) 4 4) rfl);refine yP (λW=>Qb wr W) bG6 (bR.drew) ?_;intro t E;have dx:=E.size;refine kL 0 ?_;refine kL 1 ?_;refine kL 2 ?_;refine kHe ?_;intro T A hT hA;have co:∀ (o:Ab Ae) (I:Nat) (n1:kg) (X:Ab Ae) (aa:Nat) (n2:kg) (ac:Ab Ae) (Y:Nat) (ai:Ab Ae) (ae:Nat) (aj:Ab Ae) (ah:Nat) (x:jT) (ok:Bool) (b:Nat) (W:Ac),Qb wr W->(Hid (kN.jo W [Qs o n1 I] n1 (Ql wr W b)))->(Hid (kN.jo W [Qs X n2 aa] n2 (Ql wr W b)))->(x.2.1.length<=64)->(Hid (jI.own W [Qs ac x.1 Y,Qs ai x.2.1 ae,Qs aj x.2.2.1 ah,Qn x.2.2.2.1,Qn x.2.2.2.2] x (Ql wr W b)))->(wr.heap.size<=b/\b < W.heap.size)->(Qr W b #[Qs ac x.1 Y,Qs ai x.2.1 ae,Qs aj x.2.2.1 ah,Qn x.2.2.2.1,Qn x.2.2.2.2] 70)->T 0 [Tt,Tt,Tt,Tt,Tt,Tt,Tt,Tt,Tt,Tt,Tt,Tt] (Aa (Aa (Aa (Aa (Aa (Aa (Aa (Aa A (some 52) (.agg #[Qs o n1 I])) (some 53) (.agg #[Qs X n2 aa])) (some 54) (.tuple #[.agg #[Qs ac x.1 Y,Qs ai x.2.1 ae,Qs aj x.2.2.1 ah,Qn x.2.2.2.1,Qn x.2.2.2.2],.bool ok])) (some 48) (.tuple #[.agg #[Qs ac x.1 Y,Qs ai x.2.1 ae,Qs aj x.2.2.1 ah,Qn x.2.2.2.1,Qn x.2.2.2.2],.bool ok])) (some 55) (.agg #[Qs ac x.1 Y,Qs ai x.2.1 ae,Qs aj x.2.2.1 ah,Qn x.2.2.2.1,Qn x.2.2.2.2])) (some 56) (.bool ok)) (some 10) (.pointer (some ⟨b,0,none⟩))) (some 11) (.bool ok)) W:=by
     intro o I n1 X aa n2 ac Y ai ae aj ah x ok b W E a8 bb bg HQ N BB;have bh:=E.size;subst hT;subst hA;simp only [Aa,zA,zB,zC];refine jg bG6 ?_;go_wp2;go_meet;exact ⟨b,ac,Y,ai,ae,aj,ah,x,ok,rfl,rfl,BB,HQ,bg,N.1,N.2,E⟩
    have b2:∀ (o:Ab Ae) (I:Nat) (n1:kg) (X:Ab Ae) (aa:Nat) (n2:kg) (ac:Ab Ae) (Y:Nat) (ai:Ab Ae) (ae:Nat) (aj:Ab Ae) (ah:Nat) (x:jT) (ok:Bool) (b:Nat) (W:Ac),Qb wr W->(Hid (kN.jo W [Qs o n1 I] n1 (Ql wr W b)))->(Hid (kN.jo W [Qs X n2 aa] n2 (Ql wr W b)))->(x.2.1.length<=64)->(Hid (jI.own W [Qs ac x.1 Y,Qs ai x.2.1 ae,Qs aj x.2.2.1 ah,Qn x.2.2.2.1,Qn x.2.2.2.2] x (Ql wr W b)))->(wr.heap.size<=b/\b < W.heap.size)->(Qr W b #[.slice none 0 0,.slice none 0 0,.slice none 0 0,Qn 0,Qn 0] 70)->T 2 [Tt,Tt,Tt,Tt,Tt,Tt,Tt,Tt,Tt,Tt,Ff,Ff] (Aa (Aa (Aa (Aa (Aa (Aa (Aa A (some 52) (.agg #[Qs o n1 I])) (some 53) (.agg #[Qs X n2 aa])) (some 54) (.tuple #[.agg #[Qs ac x.1 Y,Qs ai x.2.1 ae,Qs aj x.2.2.1 ah,Qn x.2.2.2.1,Qn x.2.2.2.2],.bool ok])) (some 48) (.tuple #[.agg #[Qs ac x.1 Y,Qs ai x.2.1 ae,Qs aj x.2.2.1 ah,Qn x.2.2.2.1,Qn x.2.2.2.2],.bool ok])) (some 55) (.agg #[Qs ac x.1 Y,Qs ai x.2.1 ae,Qs aj x.2.2.1 ah,Qn x.2.2.2.1,Qn x.2.2.2.2])) (some 56) (.bool ok)) (some 10) (.pointer (some ⟨b,0,none⟩))) W:=by
     intro o I n1 X aa n2 ac Y ai ae aj ah x ok b W E a8 bb bg HQ N BB;have bh:=E.size;subst hT;subst hA;simp only [Aa,zA,zB,zC];refine kP (k:=10) rfl bG6 rfl (λK H=>?_);obtain ⟨de,dc,dd,dk,db⟩:=zD BB;obtain ⟨cv,c7,c8,df,c5⟩:=kBv BB;go_simp;generalize G:World.setCell (World.setCell (World.setCell (World.setCell (World.setCell W _ _) _ _) _ _) _ _) _ _=v;have hT:Touch (λk=>k=b) W v:=(by rw [<- G];exact sT5);replace BB:Qr v b #[Qs ac x.1 Y,Qs ai x.2.1 ae,Qs aj x.2.2.1 ah,Qn x.2.2.2.1,Qn x.2.2.2.2] 70:=(by rw [<- G];exact kI (kI (kI (kI (kI (BB) 0) 1) 2) 3) 4);clear G de cv dc c7 dd c8 dk df db c5;have zv:=hT.size;replace a8:Hid (kN.jo v [Qs o n1 I] n1 (Ql wr v b)):=yD ((a8.out.touch hT (λk q h=>q.2.2 h)).wide (λk q=>⟨q.1,Nat.lt_of_lt_of_le q.2.1 hT.size,q.2.2⟩));replace bb:Hid (kN.jo v [Qs X n2 aa] n2 (Ql wr v b)):=yD ((bb.out.touch hT (λk q h=>q.2.2 h)).wide (λk q=>⟨q.1,Nat.lt_of_lt_of_le q.2.1 hT.size,q.2.2⟩));replace HQ:Hid (jI.own v [Qs ac x.1 Y,Qs ai x.2.1 ae,Qs aj x.2.2.1 ah,Qn x.2.2.2.1,Qn x.2.2.2.2] x (Ql wr v b)):=yD ((HQ.out.touch hT (λk q h=>q.2.2 h)).wide (λk q=>⟨q.1,Nat.lt_of_lt_of_le q.2.1 hT.size,q.2.2⟩));replace N:wr.heap.size<=b/\b < v.heap.size:=⟨N.1,Nat.lt_of_lt_of_le N.2 hT.size⟩;replace E:=E.trans (hT.below E.size bD5);refine H _ _ E ?_;clear H K;refine jG ?_;refine kL 11 ?_;have h_:=co o I n1 X aa n2 ac Y ai ae aj ah x ok b v E a8 bb bg HQ N BB;exact dR
    have dq:∀ (o:Ab Ae) (I:Nat) (n1:kg) (X:Ab Ae) (aa:Nat) (n2:kg) (ac:Ab Ae) (Y:Nat) (ai:Ab Ae) (ae:Nat) (aj:Ab Ae) (ah:Nat) (x:jT) (ok:Bool) (W:Ac),Qb wr W->(Hid (kN.jo W [Qs o n1 I] n1 (Ql wr W am)))->(Hid (kN.jo W [Qs X n2 aa] n2 (Ql wr W am)))->(x.2.1.length<=64)->(Hid (jI.own W [Qs ac x.1 Y,Qs ai x.2.1 ae,Qs aj x.2.2.1 ah,Qn x.2.2.2.1,Qn x.2.2.2.2] x (Ql wr W am)))->T 3 [Tt,Tt,Tt,Tt,Tt,Tt,Tt,Tt,Tt,Ff,Ff,Ff] (Aa (Aa (Aa (Aa (Aa (Aa A (some 52) (.agg #[Qs o n1 I])) (some 53) (.agg #[Qs X n2 aa])) (some 54) (.tuple #[.agg #[Qs ac x.1 Y,Qs ai x.2.1 ae,Qs aj x.2.2.1 ah,Qn x.2.2.2.1,Qn x.2.2.2.2],.bool ok])) (some 48) (.tuple #[.agg #[Qs ac x.1 Y,Qs ai x.2.1 ae,Qs aj x.2.2.1 ah,Qn x.2.2.2.1,Qn x.2.2.2.2],.bool ok])) (some 55) (.agg #[Qs ac x.1 Y,Qs ai x.2.1 ae,Qs aj x.2.2.1 ah,Qn x.2.2.2.1,Qn x.2.2.2.2])) (some 56) (.bool ok)) W:=by
     intro o I n1 X aa n2 ac Y ai ae aj ah x ok W E a8 bb bg HQ;have bh:=E.size;subst hT;subst hA;simp only [Aa,zA,zB,zC];refine kP (k:=9) rfl bG6 rfl (λK H=>?_);go_simp;generalize G:World.alloc W _=v;obtain ⟨hb,BB,zv⟩:=xE;clear G;obtain ⟨b,ax⟩:∃ b_,b_=W.heap.size:=⟨_,rfl⟩;rw [<- ax] at BB ⊢;obtain ⟨a8,bb⟩:=GQ;replace HQ:Hid (jI.own v [Qs ac x.1 Y,Qs ai x.2.1 ae,Qs aj x.2.2.1 ah,Qn x.2.2.2.1,Qn x.2.2.2.2] x (Ql wr v b)):=yD ((HQ.out.below hb).wide dK);have N:wr.heap.size<=b/\b < v.heap.size:=⟨by omega,by omega⟩;replace E:=(tQ E hb);refine H _ _ E ?_;clear H K;refine jG ?_;exact eU
    have cz:∀ (o:Ab Ae) (I:Nat) (n1:kg) (X:Ab Ae) (aa:Nat) (n2:kg) (b:Nat) (W:Ac),Qb wr W->(Hid (kN.jo W [Qs o n1 I] n1 (Ql wr W b)))->(Hid (kN.jo W [Qs X n2 aa] n2 (Ql wr W b)))->(wr.heap.size<=b/\b < W.heap.size)->(Qr W b #[.slice none 0 0,.slice none 0 0,.slice none 0 0,Qn 0,Qn 0] 70)->T 6 [Tt,Tt,Tt,Tt,Tt,Ff,Ff,Ff,Ff,Tt,Ff,Ff] (Aa (Aa (Aa A (some 52) (.agg #[Qs o n1 I])) (some 53) (.agg #[Qs X n2 aa])) (some 10) (.pointer (some ⟨b,0,none⟩))) W:=by
     intro o I n1 X aa n2 b W E a8 bb N BB;have bh:=E.size;subst hT;subst hA;simp only [Aa,zA,zB,zC];refine kP (k:=5) rfl bG6 rfl (λK H=>?_);go_simp;refine (kEs (l:=kl) (d2.out.rd.below E).1 (cn:=[.slice o n1.length I]) a8.out.rd (cb:=[.slice X n2.length aa]) bb.out.rd (tl:=5000) bH2).mono ?_;rintro e v ⟨ds,x,ok,rfl,hO,bg,hb⟩;obtain ⟨zv,b4,a8⟩:=I5;replace bb:Hid (kN.jo v [Qs X n2 aa] n2 (Ql wr v b)):=yD ((bb.out.below hb).wide (λk q=>⟨q.1,Nat.lt_of_lt_of_le q.2.1 hb.size,q.2.2⟩));obtain ⟨BB,N⟩:=FM;obtain ⟨ac,Y,ai,ae,aj,ah,rfl⟩:=zk hO.raw;have HQ:Hid (jI.own v [Qs ac x.1 Y,Qs ai x.2.1 ae,Qs aj x.2.2.1 ah,Qn x.2.2.2.1,Qn x.2.2.2.2] x (Ql wr v b)):=yD (hO.wide mM);replace E:=(tQ E hb);refine H _ _ E ?_;clear H K;refine jG ?_;refine kL 6 ?_;refine kL 7 ?_;refine kL 8 ?_;exact eU
    have dj:∀ (o:Ab Ae) (I:Nat) (n1:kg) (X:Ab Ae) (aa:Nat) (n2:kg) (W:Ac),Qb wr W->(Hid (kN.jo W [Qs o n1 I] n1 (Ql wr W am)))->(Hid (kN.jo W [Qs X n2 aa] n2 (Ql wr W am)))->T 7 [Tt,Tt,Tt,Tt,Tt,Ff,Ff,Ff,Ff,Ff,Ff,Ff] (Aa (Aa A (some 52) (.agg #[Qs o n1 I])) (some 53) (.agg #[Qs X n2 aa])) W:=by
     intro o I n1 X aa n2 W E a8 bb;have bh:=E.size;subst hT;subst hA;simp only [Aa,zA,zB,zC];refine jr (i:=5) (j:=9) rfl rfl bG6 rfl rfl (λK H=>?_) (λK H=>?_)
     · go_simp;refine (kEs (l:=kl) (d2.out.rd.below E).1 (cn:=[.slice o n1.length I]) a8.out.rd (cb:=[.slice X n2.length aa]) bb.out.rd (tl:=5000) bH2).mono ?_;rintro e v ⟨ds,x,ok,rfl,hO,bg,hb⟩;obtain ⟨zv,a8⟩:=HV;replace bb:Hid (kN.jo v [Qs X n2 aa] n2 (Ql wr v am)):=yD ((bb.out.below hb).wide (λk q=>⟨q.1,Nat.lt_of_lt_of_le q.2.1 hb.size,q.2.2⟩));obtain ⟨ac,Y,ai,ae,aj,ah,rfl⟩:=zk hO.raw;have HQ:Hid (jI.own v [Qs ac x.1 Y,Qs ai x.2.1 ae,Qs aj x.2.2.1 ah,Qn x.2.2.2.1,Qn x.2.2.2.2] x (Ql wr v am)):=yD (hO.wide mM);replace E:=(tQ E hb);refine H _ _ E ?_;clear H K;refine jG ?_;refine kL 6 ?_;refine kL 7 ?_;refine kL 8 ?_;have h_:=dq o I n1 X aa n2 ac Y ai ae aj ah x ok v E a8 bb bg HQ;exact dR
     go_simp;generalize G:World.alloc W _=v;obtain ⟨hb,BB,zv⟩:=xE;clear G;obtain ⟨b,ax⟩:∃ b_,b_=W.heap.size:=⟨_,rfl⟩;rw [<- ax] at BB ⊢;obtain ⟨a8,bb⟩:=GQ;have N:wr.heap.size<=b/\b < v.heap.size:=⟨by omega,by omega⟩;exact eX
    have dw:∀ (o:Ab Ae) (I:Nat) (n1:kg) (b:Nat) (W:Ac),Qb wr W->(Hid (kN.jo W [Qs o n1 I] n1 (Ql wr W b)))->(wr.heap.size<=b/\b < W.heap.size)->(Qr W b #[.slice none 0 0,.slice none 0 0,.slice none 0 0,Qn 0,Qn 0] 70)->T 7 [Tt,Tt,Tt,Tt,Ff,Ff,Ff,Ff,Ff,Tt,Ff,Ff] (Aa (Aa A (some 52) (.agg #[Qs o n1 I])) (some 10) (.pointer (some ⟨b,0,none⟩))) W:=by
     intro o I n1 b W E a8 N BB;have bh:=E.size;subst hT;subst hA;simp only [Aa,zA,zB,zC];refine kP (k:=4) rfl bG6 rfl (λK H=>?_);go_simp;refine (yZ (s:={ data:=#[47,107,101,121,47,97] }) bH2).mono ?_;rintro e v ⟨X,aa,n2,rfl,hO,ba,bn,hb⟩;obtain ⟨zv,b4,a8⟩:=I5;obtain ⟨BB,N⟩:=FM;have bb:Hid (kN.jo v [Qs X n2 aa] n2 (Ql wr v b)):=yD (hO.jo.wide mM);exact eX
    have T3:∀ (o:Ab Ae) (I:Nat) (n1:kg) (W:Ac),Qb wr W->(Hid (kN.jo W [Qs o n1 I] n1 (Ql wr W am)))->T 8 [Tt,Tt,Tt,Tt,Ff,Ff,Ff,Ff,Ff,Ff,Ff,Ff] (Aa A (some 52) (.agg #[Qs o n1 I])) W:=by
     intro o I n1 W E a8;have bh:=E.size;subst hT;subst hA;simp only [Aa,zA,zB,zC];refine jr (i:=4) (j:=9) rfl rfl bG6 rfl rfl (λK H=>?_) (λK H=>?_)
     · go_simp;refine (yZ (s:={ data:=#[47,107,101,121,47,97] }) bH2).mono ?_;rintro e v ⟨X,aa,n2,rfl,hO,ba,bn,hb⟩;obtain ⟨zv,a8⟩:=HV;have bb:Hid (kN.jo v [Qs X n2 aa] n2 (Ql wr v am)):=yD (hO.jo.wide mM);replace E:=(tQ E hb);refine H _ _ E ?_;clear H K;refine jG ?_;have h_:=dj o I n1 X aa n2 v E a8 bb;exact dR
     go_simp;generalize G:World.alloc W _=v;obtain ⟨hb,BB,zv⟩:=xE;clear G;obtain ⟨b,ax⟩:∃ b_,b_=W.heap.size:=⟨_,rfl⟩;rw [<- ax] at BB ⊢;replace a8:Hid (kN.jo v [Qs o n1 I] n1 (Ql wr v b)):=yD ((a8.out.below hb).wide dK);have N:wr.heap.size<=b/\b < v.heap.size:=⟨by omega,by omega⟩;exact eY
    have T9:∀ (b:Nat) (W:Ac),Qb wr W->(wr.heap.size<=b/\b < W.heap.size)->(Qr W b #[.slice none 0 0,.slice none 0 0,.slice none 0 0,Qn 0,Qn 0] 70)->T 8 [Tt,Tt,Tt,Ff,Ff,Ff,Ff,Ff,Ff,Tt,Ff,Ff] (Aa A (some 10) (.pointer (some ⟨b,0,none⟩))) W:=by
     intro b W E N BB;have bh:=E.size;subst hT;subst hA;simp only [Aa,zA,zB,zC];refine kP (k:=3) rfl bG6 rfl (λK H=>?_);go_simp;refine (yZ dg).mono ?_;rintro e v ⟨o,I,n1,rfl,hO,cw,ch,hb⟩;have zv:=hb.size;have b4:=N.2;obtain ⟨BB,N⟩:=FM;have a8:Hid (kN.jo v [Qs o n1 I] n1 (Ql wr v b)):=yD (hO.jo.wide mM);exact eY
    subst hT;subst hA;refine jr (i:=3) (j:=9) rfl rfl bG6 rfl rfl (λK H=>?_) (λK H=>?_)
    · go_simp;refine (yZ dg).mono ?_;rintro e v ⟨o,I,n1,rfl,hO,cw,ch,hb⟩;have zv:=hb.size;have a8:Hid (kN.jo v [Qs o n1 I] n1 (Ql wr v am)):=yD (hO.jo.wide mM);replace E:=(tQ E hb);refine H _ _ E ?_;clear H K;refine jG ?_;have h_:=T3 o I n1 v E a8;exact dR
    go_simp;generalize G:World.alloc t _=v;obtain ⟨hb,BB,zv⟩:=AQ;clear G;obtain ⟨b,ax⟩:∃ b_,b_=t.heap.size:=⟨_,rfl⟩;rw [<- ax] at BB ⊢;have N:wr.heap.size<=b/\b < v.heap.size:=⟨by omega,by omega⟩;exact eQ
   obtain ⟨b,ac,Y,ai,ae,aj,ah,x,ok,rfl,rfl,BQ,HQ,bg,b7,O,hb⟩:=hcut;have eh:=hb.size;replace af:=af.trans (Touch.of_below hb);replace BT:=kC BT hb;replace HC:=yD (HC.out.below hb);replace hc:=hc.below hb;clear hb d2;have er:mb < wr.heap.size:=bH3;cases ok
   · exact eZ
   go_wp2_with fail;refine (zY (n:=8) hc bH2).mono ?_;rintro e wo ⟨b1,rfl,F,D⟩;have es:=D.size;replace af:=af.trans (D.wide (λk q=>.inr q));replace BT:=D.kC BT bH3;replace BQ:=D.kC BQ bH3;replace HC:=yD (HC.out.touch D vD);replace HQ:=yD (HQ.out.touch D vD);clear hc D;have hc:=F;clear F;cases b1
   · have cg:Qc wo am 0 (.slice (some ⟨kb,0,none⟩) 4 4):=kE BT rfl;have b6:Qc wo am 1 (.slice ra rl.length rc):=kE BT rfl;have cf:Qc wo am 2 (.slice (some ⟨ab,0,none⟩) 1 1):=kE BT rfl;have cd:Qc wo am 3 (.slice ca cl.length cc):=kE BT rfl;obtain ⟨ag,ap,ar,aq,bm⟩:=zD BQ;obtain ⟨bx,b0,aw,bz⟩:=kAq BT;go_wp2_with (at_builtin;refine kD.zh rfl _ _ 24 rfl (r:=jI) (e:=70) underlying24 kQr rfl bH2 bH2 (w:=wo) HC.out bR HQ.out bH5 bH5 qE bC6 ?_);intro v9 w9 a5 Z;have e9:=Z.size;have dp:=yD (show (cl++[x]).length<=j + 1 by have:=au.out;simp;omega);have br:=yD (show ∀ z∈cl++[x],z.2.1.length<=64 from λz hz=>by rcases List.mem_append.1 hz with hz | hz;exact dr.out z hz;rw [Am.1 hz];exact bg);generalize cl++[x]=q at *;obtain ⟨a9,c9,ce,_⟩:=kD.kBd a5.raw;obtain rfl:v9=_:=by simpa using ce
     have bp:=yD (a5.wide (T:=λk=>mb < k/\k < w9.heap.size) bL);have hT:Touch (λk=>mb < k/\k < wo.heap.size) wo w9:=Z.wide (λk q=>⟨q.1.1,q.2⟩);clear a5 Z ce HC HQ cg b6 cf cd ag ap ar aq bm bx b0 aw bz;replace BT:=hT.kC BT bH3;clear BQ;replace hc:=hc.touch hT bG3 bD7;replace af:=af.ji hT bD7;clear hT;obtain ⟨cg,b6,cf,cd⟩:=jZ BT;obtain ⟨bx,b0,aw,bz⟩:=kAq BT;go_upto_region 14 with fail;generalize G:World.setCell w9 _ _=d7;have hT:Touch (λk=>k=am) w9 d7:=bB2;replace BT:Qr d7 am #[.slice (some ⟨kb,0,none⟩) 4 4,Qs ra rl rc,.slice (some ⟨ab,0,none⟩) 1 1,Qs a9 q c9] 57:=by rw [<- G];exact kI BT 3
     have ed:=hT.size;clear G cg b6 cf cd bx b0 aw bz;replace bp:=yD (bp.out.touch hT qI);obtain ⟨hc,af⟩:=y9;clear hT;go_wp2;go_roundw;case rel=>exact ⟨j + 1,a9,c9,q,by go_num,by omega,dp,br,BT,yD (bp.out.wide sW),hc,by omega,af⟩
     simp [intOf];omega
   exact eZ
 have be:¬ (j:Int) < 2:=bH3
 replace HK:=yD (HK.out.touch af nO)
 replace HA:=yD (HA.out.touch af nO)
 replace HR:=yD (HR.out.touch af (λk q h=>by have h1:=q.1;omega))
 replace R:=af.kC R bH3
 replace J:=J.ji af bD7
 obtain ⟨eu,ez,eb,ev⟩:=jZ BT
 obtain ⟨ak,ao,az,a7⟩:=jZ R
 obtain ⟨al,an,ay,a6⟩:=kAq R
 have L:=yD (trust_rdB (S:=(λk=>w.heap.size < k/\k < wr.heap.size/\k≠p)) (HK.out.wide mF) (HR.out.jo.wide gD) (HA.out.wide mF) (HC.out.jo.wide gD))
 go_wp2
 refine Ag (v:=.agg #[.slice (some ⟨kb,0,none⟩) 4 4,Qs ra rl rc,.slice (some ⟨ab,0,none⟩) 1 1,Qs ca cl cc]) (by simp [results,results129,go_sem,ak,al,ao,an,az,ay,a7,a6]) rfl ⟨[.slice (some ⟨kb,0,none⟩) 4 4,Qs ra rl rc,.slice (some ⟨ab,0,none⟩) 1 1,Qs ca cl cc],(kl,rl,[k4],cl),rfl,?_,?_,hc.touch sT4 bH3 bD5,J.jJ sT4 bH3⟩
 · exact (L.out.touch sT4 vD).wide (T:=jb w.heap.size _) fA
 exact λk h=>by have:=dr.out _ (Ah h);omega
end Go.Proofs.YtjhfdpopkkmigabGreat

/-
  Patterns, rules, keys and trust as the reference draws them.
-/
import Derived.Test.YthocbplmdjkifaaGreatLenN
set_option linter.unusedVariables false
set_option linter.defProp false
set_option linter.unusedSimpArgs false
set_option linter.unnecessarySimpa false
set_option maxRecDepth 100000
set_option maxHeartbeats 8000000
open Bool renaming true->Tt,false->Ff
open Go.Act renaming put->Aa
open _root_ renaming Option->Ab,List->Aj,ByteArray->Ap
open Go renaming World->Ac,Addr->Ae,bodyPost_ret->Ag,Value->Ak,frozen_of_row->Al
open Option.some renaming injEq->Ad
open List renaming getElem_mem->Ah,mem_singleton->Am
open Go.Addr.mk renaming injEq->Ai
namespace Go.Proofs.YthocbplmdjkifaaGreat
open Go.RowKit _root_.Go.Proofs.Tryz
def ParsedPat (w:Ac) (e:Ending) (w':Ac):Prop:=∃ a c b ps,e=.returned (.tuple #[.agg #[Qs a ps c],.bool b])/\zu.own w' [Qs a ps c] ps (jg w w')/\ps.length<=64/\Hid (zO ps)/\Qb w w'
def kIi {w:Ac} {s:Ap} (hs:s.size<=64) :
    Calls prog 255 #[.string s] w (ParsedPat w):=by
 go_enter func255,ntmps255
 cases hq:(s.toList==[47])
 case true =>
  go_wp2;refine Ag (v:=.tuple #[.agg #[.slice none 0 0],.bool true]) (by simp [results,results255,go_sem]) rfl ⟨none,0,true,[],rfl,kD.yF,by simp,yD zO.nil,?_⟩;exact bI
 go_wp2_with fail
 refine (kQr (by0:=47) hs bF1).mono ?_
 rintro e w2 ⟨v,rfl,ps,O2,bh,br,E,ag⟩
 have cd:=yD (E.drop 1)
 clear E
 obtain ⟨b2,c2,rfl,ab,ai,eh,ho⟩:=kD.zm O2 bh
 have ax:=ag.size
 have J:=yD O2
 clear O2
 have o:(0:Int) < ps.length:=bF2
 have ad:(1:Int)<=ps.length:=bF2
 have Y:(ps.length:Int)<=c2:=bF2
 have D:c2<=9223372036854775807:=ho
 go_upto_region 5 with fail
 have HD:Hid (1 < ps.length->(kD.slice 9 kD.str).own w2 [.slice (if c2=1 then some ⟨b2,0,none⟩ else some ⟨b2,1,none⟩) (ps.length - 1) (c2 - 1)] (ps.drop 1) (jg (w.heap.size + 1) w2)):=yD (by
   intro h1;have h:=(J.out.own bB1).wide (T:=jg (w.heap.size + 1) w2) pE;have dj:¬ c2=1:=bF2;rw [if_neg dj];exact kD.kTt h (k:=1) bF2)
 generalize (if c2=1 then some ⟨b2,0,none⟩ else some ⟨b2,1,none⟩:Ab Ae)=A at *
 obtain ⟨cb,V,he,c0,cr,bd⟩:=kD.kCk (J.out.kKg) (i:=0) bh rfl
 simp only [Ad,Ai,and_true] at he
 obtain ⟨rfl,rfl⟩:=he
 have bf:[c0]=[.string ps[0]]:=(kD.kAj cr).1
 obtain rfl:c0=.string ps[0]:=bC4
 clear cr bf
 generalize ps[0]=y0 at *
 have a9:=yD (show (ps.drop 1).length=ps.length - 1 by simp)
 generalize ps.drop 1=qs at *
 have HM:=yD br
 refine ja ?_
 intro wC EC B5 _
 have B2:Qr w2 w #[.slice none 0 0] 227:=kC (jD rfl) ag
 have bt:=EC.size
 have a5:w.heap.size + 1<=w2.heap.size:=by simpa using ax
 obtain ⟨E2,B2,HD,O,K5⟩:=FH
 clear bd ag ab J ax
 by_cases h2:(ps.length:Int) < 2
 · have K2:=kE B2 (j:=0) rfl;have F2:=Al wC w 0 _ _ B2;clear O;exact eH
 cases hy:y0.toList.isEmpty
 case false =>
  have K2:=kE B2 (j:=0) rfl;have F2:=Al wC w 0 _ _ B2;exact eH
 replace HD:=yD (HD.out bF2)
 go_wp2_with fail
 refine (kEi (p:=qs) HD.out.rd.1).mono ?_
 rintro e w3 ⟨rfl,ac⟩
 have ap:=ac.size
 replace HD:=yD (HD.out.below ac)
 have E3:=(tQ E2 ac)
 replace K5:=cL ac K5
 replace B2:=kC B2 ac
 have K2:=kE B2 (j:=0) rfl
 have F2:=Al w3 w 0 _ _ B2
 clear O
 generalize hv:kPu qs=b
 cases b
 · go_wp2;refine Ag (v:=.tuple #[.agg #[.slice none 0 0],.bool false]) nY rfl ⟨none,0,false,[],rfl,kD.yF,by simp,yD zO.nil,?_⟩;exact E3.setCell bF3 _
 go_wp2
 refine Ag (v:=.tuple #[.agg #[.slice A (ps.length - 1) (c2 - 1)],.bool true]) nY rfl ⟨A,c2 - 1,true,qs,by rw [a9.out],?_,by rw [a9.out];omega,cd,E3.setCell bF3 _⟩
 rw [a9.out]
 exact ((HD.out.touch (jm w3 w 0 _) vB).wide fT)
def rule_form {w:Ac} {ds:Aj Ak} {r:kNm} (h:kOw.raw w ds r):∃ a c a2 c2,ds=[.slice a r.1.length c,.slice a2 r.2.length c2]:=by
 obtain ⟨v0,v1,rfl,ao,am,aq,ap⟩:=jEx h;obtain ⟨a0,c0,rfl,_,a1,c1,rfl,_⟩:=kD.sx am (kD.sl ap);exact ⟨_,_,_,_,rfl⟩
def ParsedRule (w:Ac) (e:Ending) (w':Ac):Prop:=∃ ds r b,e=.returned (.tuple #[.agg ds.toArray,.bool b])/\kOw.own w' ds r (jg w w')/\Qb w w'
def list3_get {α:Type} {l:List α} (h:l.length=3):0 < l.length/\1 < l.length/\2 < l.length:=by omega
def kXg {w:Ac} {s:Ap} (hs:s.size<=64) :
    Calls prog 231 #[.string s] w (ParsedRule w):=by
 go_enter func231,ntmps231
 go_upto_region 1 with fail
 refine ja ?_
 intro w1 ar R bj
 have U:=ar
 clear ar
 go_wp2_with fail
 refine (kQr (by0:=32) hs bF1).mono ?_
 rintro e w2 ⟨v,rfl,ps,O2,bh,br,a1,hb⟩
 have bw:=hb.size
 replace R:=kC R hb
 replace U:=(tQ U hb)
 clear hb
 obtain ⟨b2,c2,rfl,ab,ai,eh,ho⟩:=kD.zm O2 bh
 have J:=yD O2.kKg
 clear O2 ab
 by_cases h3:ps.length=3
 · obtain ⟨g0,g1,g2⟩:=list3_get h3;have X:=a1 _ (Ah g0);have N:=a1 _ (Ah g2);obtain ⟨cb,V,he,L,cr,bd⟩:=kD.kCk J.out (i:=0) g0 rfl;simp only [Ad,Ai,and_true] at he;obtain ⟨rfl,rfl⟩:=he;have bf:[L]=[.string ps[0]]:=(kD.kAj cr).1;obtain rfl:L=.string ps[0]:=bC4;clear cr bf;obtain ⟨cb,V,he,W,cr,o⟩:=kD.kCk J.out (i:=1) g1 rfl;simp only [Ad,Ai,and_true] at he;obtain ⟨rfl,rfl⟩:=he;have bf:[W]=[.string ps[1]]:=(kD.kAj cr).1;obtain rfl:W=.string ps[1]:=bC4;clear cr bf;obtain ⟨cb,V,he,O,cr,D⟩:=kD.kCk J.out (i:=2) g2 rfl;simp only [Ad,Ai,and_true] at he;obtain ⟨rfl,rfl⟩:=he;have bf:[O]=[.string ps[2]]:=(kD.kAj cr).1;obtain rfl:O=.string ps[2]:=bC4;clear cr bf;simp only [Nat.zero_add] at bd o D;generalize ps[0]=y0 at *;generalize ps[1]=y1 at *;generalize ps[2]=y2 at *;clear a1 J bh br ai;have Y:(3:Int)<=c2:=bF2;rw [h3];clear h3 g0 g1 g2 eh;cases hy:(y1.toList==[60])
   · have aj:Qd w2 w 0 (.slice none 0 0):=kE R rfl;have an:Qd w2 w 1 (.slice none 0 0):=kE R rfl;exact eO
   go_wp2_with fail;refine (kIi X).mono ?_;rintro e w3 ⟨pa,pc,Z,P,rfl,hr,cv,ac,hb⟩;have bz:=hb.size;replace R:=kC R hb;replace bd:=cL hb bd;replace o:=cL hb o;replace D:=cL hb D;replace U:=(tQ U hb);clear hb;have HP:=yD (hr);clear hr;go_upto_region 5 with fail;refine ja ?_;intro w4 ce F b5;replace R:=kC R ce;replace bd:=cL ce bd;replace o:=cL ce o;replace D:=cL ce D;replace HP:=yD (HP.out.below ce);replace U:=(tQ U ce);clear ce;go_wp2_with fail;refine (kIi N).mono ?_;rintro e w5 ⟨qa,qc,aa,Q,rfl,hr,bg,E,hb⟩;have b4:=hb.size;replace R:=kC R hb;replace F:=kC F hb;replace bd:=cL hb bd;replace o:=cL hb o;replace D:=cL hb D;replace HP:=yD (HP.out.below hb);replace U:=(tQ U hb);clear hb;have HQ:=yD (hr);clear hr;go_upto_region 6 with fail;refine ja ?_;intro w6 au BQ df;replace R:=kC R au;replace F:=kC F au;replace bd:=cL au bd;replace o:=cL au o;replace D:=cL au D;replace HP:=yD (HP.out.below au);replace HQ:=yD (HQ.out.below au);replace U:=(tQ U au);clear au;have H:Qd w6 w3 0 (Qs pa P pc):=kE F rfl;have aq:Qd w6 w5 0 (Qs qa Q qc):=kE BQ rfl;go_upto_region 7 with fail;refine ja ?_;intro w7 aw BR eo;replace R:=kC R aw;replace F:=kC F aw;replace BQ:=kC BQ aw;replace bd:=cL aw bd;replace o:=cL aw o;replace D:=cL aw D;replace HP:=yD (HP.out.below aw);replace HQ:=yD (HQ.out.below aw);replace U:=(tQ U aw);clear H aq aw;cases Z
   · exact eP
   cases aa
   · exact eP
   have ay:Qd w7 w6 0 (Qs pa P pc):=kE BR rfl;have az:Qd w7 w6 1 (Qs qa Q qc):=kE BR rfl;have a4:=yD (kD.jq (r:=zu) (q:=zu) (cs:=[.slice pa P.length pc]) (ds:=[.slice qa Q.length qc]) (S:=λk=>w.heap.size < k/\k < w7.heap.size) HP.out HQ.out nM nM qD);clear HP HQ;go_wp2_with fail;refine (kXd (cr:=[.slice pa P.length pc,.slice qa Q.length qc]) (r:=(P,Q)) a4.out.raw).mono ?_;rintro e w8 ⟨rfl,hb⟩;have d9:=hb.size;replace R:=kC R hb;replace F:=kC F hb;replace BQ:=kC BQ hb;replace BR:=kC BR hb;replace bd:=cL hb bd;replace o:=cL hb o;replace D:=cL hb D;replace a4:=yD (a4.out.below hb);replace U:=(tQ U hb);clear ay az hb;generalize kWb (P,Q)=vr;cases vr
   · have aj:Qd w8 w 0 (.slice none 0 0):=kE R rfl;have an:Qd w8 w 1 (.slice none 0 0):=kE R rfl;exact eO
   have ay:Qd w8 w6 0 (Qs pa P pc):=kE BR rfl;have az:Qd w8 w6 1 (Qs qa Q qc):=kE BR rfl;obtain ⟨aj,an⟩:=yN R;obtain ⟨ak,al⟩:=kCf R;go_wp2;refine Ag (v:=.tuple #[.agg #[Qs pa P pc,Qs qa Q qc],.bool true]) mO rfl ⟨[Qs pa P pc,Qs qa Q qc],(P,Q),true,rfl,?_,?_⟩
   · exact (a4.out.touch sT2 tZ).wide fT
   exact U.trans (Touch.below sT2 U.size bB6)
 have ad:¬ (ps.length:Int)=3:=bF2
 obtain ⟨aj,an⟩:=yN R
 exact eO
def kYh {w:Ac} {cs:Aj Ak} {x:ko} (h:kR.raw w cs x):∃ a c,cs=[.slice a x.length c]:=by
 obtain ⟨v0,rfl,h0⟩:=kw h;obtain ⟨a,c,h1,_⟩:=kD.kAw h0;obtain rfl:v0=_:=by simpa using h1
 exact ⟨a,c,rfl⟩
def SignedW (m:Nat) (w:Ac) (e:Ending) (w':Ac):Prop:=∃ ds x ok,e=.returned (.tuple #[.agg ds.toArray,.bool ok])/\jF.own w' ds x (jg w w')/\x.2.1.length<=m/\Qb w w'
def jEr {w:Ac} {S:Nat->Prop}:jF.own w [.slice none 0 0,.slice none 0 0,.slice none 0 0,Qn 0,Qn 0] ([],[],[],0,0) S:=⟨jF.is_zero,jF.bdd_zero⟩
def kFb {w:Ac} {vl:Ak} {l:Aj kQn} (hl:(kD.slice 226 kLs).raw w [vl] l) {cb:Aj Ak} {yb:ko} (hby:kR.rd w cb yb) {cn:Aj Ak} {n:ko} (hn:kR.rd w cn n) {O:Ak} {b_:Aj UInt8} (d3:(kD.slice 5 kD.byte).rd w [O] b_) (au:b_.length<=1000) {tl:Int} (ht:Qi tl) :
    Calls prog 235 #[vl,.agg cb.toArray,.agg cn.toArray,O,.int .i64 tl] w (SignedW b_.length w):=by
 obtain ⟨la,lc,rfl,_⟩:=kD.sl hl
 obtain ⟨ya,yc,rfl⟩:=kYh hby.1
 obtain ⟨na,nc,rfl⟩:=kYh hn.1
 obtain ⟨ba,bc,rfl,_⟩:=kD.sl d3.1
 have HL:=yD hl
 have HY:=yD hby
 have Y:=yD hn
 have HB:=yD d3
 have aa:=sec_rng (n:=yb) hl
 clear hl hby hn d3
 go_enter func235,ntmps235
 go_upto_region 1 with fail
 generalize o:World.alloc (World.alloc (World.alloc w _) _) _=w1
 have U:Qb w w1:=by rw [<- o];exact bI
 have BY:Qr w1 w #[Qs ya yb yc] 36:=rZ
 have BN:Qr w1 (w.heap.size + 1) #[Qs na n nc] 36:=by rw [<- o];exact jh (jD bF3)
 obtain ⟨BR,bj⟩:=EB
 clear o
 go_cut [12] from 13 to 22 (λag wc=>∃ (b:Nat) (ad am ao:Ab Ae) (ac ae af:Nat) (sg:Int),ag=.pointer (some ⟨b,0,none⟩)/\Qr wc b (Qj ad n ac am b_ ae ao yb af tl sg) 60/\Hid (jF.own wc [Qs ad n ac,Qs am b_ ae,Qs ao yb af,Qn tl,Qn sg] (n,b_,yb,tl,sg) (Ql w1 wc b))/\w1.heap.size<=b/\b < wc.heap.size/\Qb w1 wc)
 case first =>
  have FX:=yD (λ(W:Ac) (hW:Qb w1 W)=>And.intro (kE (kC BY hW) (j:=0) (v:=Qs ya yb yc) rfl) (kE (kC BN hW) (j:=0) (v:=Qs na n nc) rfl));refine yg (λW=>Qb w1 W) bE5 (bR.drew) ?_;intro t E;have dt:=E.size;refine kT 0 ?_;refine kT 1 ?_;refine kT 3 ?_;refine kT 4 ?_;refine kT 5 ?_;refine kT 6 ?_;refine kT 7 ?_;refine kIg ?_;intro T A hT hA;have F:∀ (ad:Ab Ae) (ac:Nat) (am:Ab Ae) (ae:Nat) (ao:Ab Ae) (af:Nat) (sg:Int) (b:Nat) (W:Ac),Qb w1 W->(Hid (jF.own W [Qs ad n ac,Qs am b_ ae,Qs ao yb af,Qn tl,Qn sg] (n,b_,yb,tl,sg) (Ql w1 W b)))->(w1.heap.size<=b/\b < W.heap.size)->(Qr W b (Qj ad n ac am b_ ae ao yb af tl sg) 60)->T 0 [Tt,Tt,Tt,Tt,Tt,Tt,Tt,Tt,Tt,Tt,Tt] (Aa (Aa (Aa A (some 15) (.int .i64 (kCe l yb))) (some 21) (.agg (Qj ad n ac am b_ ae ao yb af tl sg))) (some 12) (.pointer (some ⟨b,0,none⟩))) W:=by
   intro ad ac am ae ao af sg b W E HQ Z BB;have bk:=E.size;subst hT;subst hA;simp only [Aa,zA,zB,zC];refine jv bE5 ?_;go_wp2;go_meet;exact ⟨b,ad,am,ao,ac,ae,af,sg,rfl,BB,HQ,Z.1,Z.2,E⟩
  have J:∀ (ad:Ab Ae) (ac:Nat) (am:Ab Ae) (ae:Nat) (ao:Ab Ae) (af:Nat) (sg:Int) (b:Nat) (W:Ac),Qb w1 W->(Hid (jF.own W [Qs ad n ac,Qs am b_ ae,Qs ao yb af,Qn tl,Qn sg] (n,b_,yb,tl,sg) (Ql w1 W b)))->(w1.heap.size<=b/\b < W.heap.size)->(Qr W b #[.slice none 0 0,.slice none 0 0,.slice none 0 0,Qn 0,Qn 0] 60)->T 1 [Tt,Tt,Tt,Tt,Tt,Tt,Tt,Tt,Tt,Tt,Ff] (Aa (Aa (Aa A (some 15) (.int .i64 (kCe l yb))) (some 21) (.agg (Qj ad n ac am b_ ae ao yb af tl sg))) (some 12) (.pointer (some ⟨b,0,none⟩))) W:=by
   intro ad ac am ae ao af sg b W E HQ Z BB;have bk:=E.size;subst hT;subst hA;simp only [Aa,zA,zB,zC];refine kU (k:=10) rfl bE5 rfl (λK H=>?_);obtain ⟨dx,dj,dv,dy,de⟩:=yZ BB;obtain ⟨cz,da,db,dg,dc⟩:=kCo BB;go_simp;generalize o:World.setCell (World.setCell (World.setCell (World.setCell (World.setCell W _ _) _ _) _ _) _ _) _ _=v;have hT:Touch (λk=>k=b) W v:=(by rw [<- o];exact sT5);replace BB:Qr v b (Qj ad n ac am b_ ae ao yb af tl sg) 60:=(by rw [<- o];exact kG (kG (kG (kG (kG (BB) 0) 1) 2) 3) 4);clear o dx cz dj da dv db dy dg de dc;have zv:=hT.size;replace HQ:Hid (jF.own v [Qs ad n ac,Qs am b_ ae,Qs ao yb af,Qn tl,Qn sg] (n,b_,yb,tl,sg) (Ql w1 v b)):=yD ((HQ.out.touch hT (λk q h=>q.2.2 h)).wide (λk q=>⟨q.1,Nat.lt_of_lt_of_le q.2.1 hT.size,q.2.2⟩));replace Z:w1.heap.size<=b/\b < v.heap.size:=⟨Z.1,Nat.lt_of_lt_of_le Z.2 hT.size⟩;replace E:=E.trans (hT.below E.size bB6);refine H _ _ E ?_;clear H K;refine jH ?_;have h_:=F ad ac am ae ao af sg b v E HQ Z BB;exact dW
  have ab:∀ (ad:Ab Ae) (ac:Nat) (am:Ab Ae) (ae:Nat) (ao:Ab Ae) (af:Nat) (sg:Int) (W:Ac),Qb w1 W->(Hid (jF.own W [Qs ad n ac,Qs am b_ ae,Qs ao yb af,Qn tl,Qn sg] (n,b_,yb,tl,sg) (λk=>w1.heap.size<=k/\k < W.heap.size/\k≠w.heap.size)))->T 2 [Tt,Tt,Tt,Tt,Tt,Tt,Tt,Tt,Tt,Ff,Ff] (Aa (Aa A (some 15) (.int .i64 (kCe l yb))) (some 21) (.agg (Qj ad n ac am b_ ae ao yb af tl sg))) W:=by
   intro ad ac am ae ao af sg W E HQ;have bk:=E.size;subst hT;subst hA;simp only [Aa,zA,zB,zC];refine kU (k:=9) rfl bE5 rfl (λK H=>?_);go_simp;refine ja ?_;intro v hb BB zv;obtain ⟨b,a6⟩:∃ b_,b_=W.heap.size:=⟨_,rfl⟩;rw [<- a6] at BB ⊢;replace HQ:Hid (jF.own v [Qs ad n ac,Qs am b_ ae,Qs ao yb af,Qn tl,Qn sg] (n,b_,yb,tl,sg) (Ql w1 v b)):=yD ((HQ.out.below hb).wide dM);have Z:w1.heap.size<=b/\b < v.heap.size:=⟨by omega,by omega⟩;exact eQ
  have X:∀ (b:Nat) (W:Ac),Qb w1 W->(w1.heap.size<=b/\b < W.heap.size)->(Qr W b #[.slice none 0 0,.slice none 0 0,.slice none 0 0,Qn 0,Qn 0] 60)->T 2 [Tt,Tt,Tt,Tt,Tt,Tt,Tt,Tt,Ff,Tt,Ff] (Aa (Aa A (some 15) (.int .i64 (kCe l yb))) (some 12) (.pointer (some ⟨b,0,none⟩))) W:=by
   intro b W E Z BB;have bk:=E.size;subst hT;subst hA;simp only [Aa,zA,zB,zC];refine kU (k:=8) rfl bE5 rfl (λK H=>?_);go_simp;refine (kIh (s:=kCe l yb) aa (cx:=[.slice na n.length nc,.slice ba b_.length bc,.slice ya yb.length yc,.int .i64 tl,.int .i64 0]) (x:=(n,b_,yb,tl,0)) (jBm (S:=λ_=>True) ((Y.out.below U).below E) ((HB.out.below U).below E) ((HY.out.below U).below E) ht bF2) (by show b_.length<=_;omega)).mono ?_;rintro e v ⟨sg,ds,rfl,hO,cw,hb⟩;have zv:=hb.size;have b9:=Z.2;replace BB:=kC BB hb;replace Z:w1.heap.size<=b/\b < v.heap.size:=⟨Z.1,Nat.lt_of_lt_of_le Z.2 hb.size⟩;obtain ⟨ad,ac,am,ae,ao,af,rfl⟩:=zo hO.raw;have HQ:Hid (jF.own v [Qs ad n ac,Qs am b_ ae,Qs ao yb af,Qn tl,Qn sg] (n,b_,yb,tl,sg) (Ql w1 v b)):=yD (hO.wide mM);exact eQ
  have D:∀ (W:Ac),Qb w1 W->T 3 [Tt,Tt,Tt,Tt,Tt,Tt,Tt,Tt,Ff,Ff,Ff] (Aa A (some 15) (.int .i64 (kCe l yb))) W:=by
   intro W E;have bk:=E.size;subst hT;subst hA;simp only [Aa,zA,zB,zC];refine yH (i:=8) (j:=9) rfl rfl bE5 rfl rfl (λK H=>?_) (λK H=>?_)
   · go_simp;refine (kIh (s:=kCe l yb) aa (cx:=[.slice na n.length nc,.slice ba b_.length bc,.slice ya yb.length yc,.int .i64 tl,.int .i64 0]) (x:=(n,b_,yb,tl,0)) (jBm (S:=λ_=>True) ((Y.out.below U).below E) ((HB.out.below U).below E) ((HY.out.below U).below E) ht bF2) (by show b_.length<=_;omega)).mono ?_;rintro e v ⟨sg,ds,rfl,hO,cw,hb⟩;have zv:=hb.size;obtain ⟨ad,ac,am,ae,ao,af,rfl⟩:=zo hO.raw;have HQ:Hid (jF.own v [Qs ad n ac,Qs am b_ ae,Qs ao yb af,Qn tl,Qn sg] (n,b_,yb,tl,sg) (λk=>w1.heap.size<=k/\k < v.heap.size/\k≠w.heap.size)):=yD (hO.wide mM);replace E:=(tQ E hb);refine H _ _ E ?_;clear H K;refine jH ?_;have h_:=ab ad ac am ae ao af sg v E HQ;exact dW
   go_simp;refine ja ?_;intro v hb BB zv;obtain ⟨b,a6⟩:∃ b_,b_=W.heap.size:=⟨_,rfl⟩;rw [<- a6] at BB ⊢;have Z:w1.heap.size<=b/\b < v.heap.size:=⟨by omega,by omega⟩;exact eT
  have T9:∀ (b:Nat) (W:Ac),Qb w1 W->(w1.heap.size<=b/\b < W.heap.size)->(Qr W b #[.slice none 0 0,.slice none 0 0,.slice none 0 0,Qn 0,Qn 0] 60)->T 3 [Tt,Tt,Ff,Tt,Tt,Tt,Tt,Tt,Ff,Tt,Ff] (Aa A (some 12) (.pointer (some ⟨b,0,none⟩))) W:=by
   intro b W E Z BB;have bk:=E.size;subst hT;subst hA;simp only [Aa,zA,zB,zC];refine kU (k:=2) rfl bE5 rfl (λK H=>?_);go_simp;refine (kFc ((HL.out.below U).below E) (cn:=[.slice ya yb.length yc]) ((HY.out.1.below U).below E)).mono ?_;rintro e v ⟨rfl,hb⟩;have zv:=hb.size;have b9:=Z.2;replace BB:=kC BB hb;replace Z:w1.heap.size<=b/\b < v.heap.size:=⟨Z.1,Nat.lt_of_lt_of_le Z.2 hb.size⟩;exact eT
  subst hT;subst hA;refine yH (i:=2) (j:=9) rfl rfl bE5 rfl rfl (λK H=>?_) (λK H=>?_)
  · go_simp;refine (kFc ((HL.out.below U).below E) (cn:=[.slice ya yb.length yc]) ((HY.out.1.below U).below E)).mono ?_;rintro e v ⟨rfl,hb⟩;have zv:=hb.size;replace E:=(tQ E hb);refine H _ _ E ?_;clear H K;refine jH ?_;have h_:=D v E;exact dW
  go_simp;refine ja ?_;intro v hb BB zv;obtain ⟨b,a6⟩:∃ b_,b_=t.heap.size:=⟨_,rfl⟩;rw [<- a6] at BB ⊢;have Z:w1.heap.size<=b/\b < v.heap.size:=⟨by omega,by omega⟩;exact eU
 obtain ⟨b,ad,am,ao,ac,ae,af,sg,rfl,BQ,HQ,cd,N,V⟩:=hcut
 have zc:=V.size
 replace BY:=kC BY V
 replace BR:=kC BR V
 replace U:=(tQ U V)
 have R:=HL
 replace HL:=yD (R.out.below U)
 have L:=HY
 replace HY:=yD (L.out.below U)
 clear R L Y HB BN V
 have cv:Qd wc w 0 (Qs ya yb yc):=kE BY rfl
 go_wp2_with fail
 refine (kFc HL.out (cn:=[.slice ya yb.length yc]) HY.out.1).mono ?_
 rintro e w4 ⟨rfl,hb⟩
 have b5:=hb.size
 replace BY:=kC BY hb
 replace BR:=kC BR hb
 replace BQ:=kC BQ hb
 replace HQ:=yD (HQ.out.below hb)
 replace HL:=yD (HL.out.below hb)
 replace HY:=yD (HY.out.below hb)
 replace U:=(tQ U hb)
 clear cv hb
 by_cases bu:kCe l yb=0
 · have ay:Qc w4 (w.heap.size + 2) 0 (.slice none 0 0):=kE BR rfl;have az:Qc w4 (w.heap.size + 2) 1 (.slice none 0 0):=kE BR rfl;have bf:Qc w4 (w.heap.size + 2) 2 (.slice none 0 0):=kE BR rfl;have be:Qc w4 (w.heap.size + 2) 3 (Qn 0):=kE BR rfl;have b2:Qc w4 (w.heap.size + 2) 4 (Qn 0):=kE BR rfl;exact eX
 have aq:Qc w4 b 0 (Qs ad n ac):=kE BQ rfl
 have av:Qc w4 b 1 (Qs am b_ ae):=kE BQ rfl
 have ax:Qc w4 b 2 (Qs ao yb af):=kE BQ rfl
 have aw:Qc w4 b 3 (Qn tl):=kE BQ rfl
 have b3:Qc w4 b 4 (Qn sg):=kE BQ rfl
 go_wp2_with fail
 refine (kEd (x:=(n,b_,yb,tl,sg)) HQ.out.raw).mono ?_
 rintro e w5 ⟨rfl,hb⟩
 have b4:=hb.size
 replace BY:=kC BY hb
 replace BR:=kC BR hb
 replace BQ:=kC BQ hb
 replace HQ:=yD (HQ.out.below hb)
 replace HL:=yD (HL.out.below hb)
 replace HY:=yD (HY.out.below hb)
 replace U:=(tQ U hb)
 clear aq av ax aw b3 hb
 generalize kBk (n,b_,yb,tl,sg)=ok
 cases ok
 · have ay:Qc w5 (w.heap.size + 2) 0 (.slice none 0 0):=kE BR rfl;obtain ⟨az,bf,be,b2⟩:=CY;exact eX
 have ay:Qc w5 (w.heap.size + 2) 0 (.slice none 0 0):=kE BR rfl
 obtain ⟨az,bf,be,b2⟩:=CY
 obtain ⟨aq,av,ax,aw,b3⟩:=yZ BQ
 obtain ⟨al,aj,bb,bd,bx⟩:=kCo BR
 go_wp2
 refine Ag (v:=.tuple #[.agg (Qj ad n ac am b_ ae ao yb af tl sg),.bool true]) fM rfl ⟨[Qs ad n ac,Qs am b_ ae,Qs ao yb af,Qn tl,Qn sg],(n,b_,yb,tl,sg),true,rfl,?_,?_,?_⟩
 · exact (HQ.out.touch sT5 tZ).wide fH
 · simp
 exact U.trans (Touch.below sT5 U.size bB6)
def kFd {w:Ac} {vl:Ak} {l:Aj kQn} (hl:(kD.slice 226 kLs).raw w [vl] l) {cn:Aj Ak} {n:ko} (hn:kR.rd w cn n) {cb:Aj Ak} {yb:ko} (hby:kR.rd w cb yb) {tl:Int} (ht:Qi tl) :
    Calls prog 232 #[vl,.agg cn.toArray,.agg cb.toArray,.int .i64 tl] w (SignedW 64 w):=by
 obtain ⟨la,lc,rfl,_⟩:=kD.sl hl
 obtain ⟨ya,yc,rfl⟩:=kYh hby.1
 obtain ⟨na,nc,rfl⟩:=kYh hn.1
 have D:=keyDig_len (l:=l) (n:=n)
 go_enter func232,ntmps232
 go_upto_region 1 with fail
 generalize o:World.alloc (World.alloc (World.alloc w _) _) _=w1
 have U:Qb w w1:=by rw [<- o];exact bI
 have HL:=yD (hl.below U)
 have HY:=yD (hby.below U)
 have Y:=yD (hn.below U)
 clear hl hby hn
 have BN:Qr w1 w #[Qs na n nc] 36:=rZ
 have BY:Qr w1 (w.heap.size + 1) #[Qs ya yb yc] 36:=by rw [<- o];exact jh (jD bF3)
 obtain ⟨BR,bj⟩:=EB
 clear o
 have R:Qd w1 w 0 (Qs na n nc):=kE BN rfl
 have cv:Qc w1 (w.heap.size + 1) 0 (Qs ya yb yc):=kE BY rfl
 have FX:=yD (λ(W:Ac) (hW:Qb w1 W)=>kQm hW R cv)
 refine je (λW=>Qb w1 W) [(0,true),(1,true),(2,true),(3,true),(4,true),(6,true),(5,false),(7,false),(8,true),(9,true)] bE5 bE5 qW (bR.drew) ?_
 intro wS E
 simp only [jG,List.length_cons,List.length_nil,List.getElem?_cons_succ,List.getElem?_cons_zero,List.map_cons,List.map_nil,List.cons_append,List.nil_append,List.drop_succ_cons,List.drop_zero]
 all_goals ((iterate 6 refine kS ?_);(first|(refine kI rfl E ?_)|(refine ku rfl (λK H=>?_);go_simp;refine (kXi (HL.out.below E) (Y.out.1.below E) (cn:=[.slice na n.length nc])).mono ?_;rintro e wS1 ⟨vg,rfl,F,V⟩;obtain ⟨ag,ng,cg,L,av⟩:=F.parts;obtain rfl:=L;have RG:=yD ((F.own bB1).rd);clear F;replace E:=(tQ E V);refine H _ _ E ?_;clear H K V));refine jH ?_;(first|(refine kI rfl E ?_)|(refine ku rfl (λK H=>?_);go_simp;refine (kFb (l:=l) (HL.out.below E) (cb:=[.slice ya yb.length yc]) (HY.out.below E) (cn:=[.slice na n.length nc]) (Y.out.below E) RG.out bF2 ht).mono ?_;rintro e be ⟨ds,x,ok,rfl,hO,bi,V⟩;have HQ:=yD hO;have J:=V.size;have O:=E.size;obtain ⟨ad,ac,am,ae,ao,af,rfl⟩:=zo hO.raw;clear hO;replace E:=(tQ E V);refine H _ _ E ?_;clear H K V));refine jH ?_;refine kS ?_;refine kS ?_;refine yt ?_)
 replace BR:=kC BR E
 have N:=E.size
 have E2:=(tQ U E)
 obtain ⟨aj,an,az,a8,bt⟩:=yZ BR
 obtain ⟨ak,al,ay,a7,bm⟩:=kCo BR
 go_wp2
 refine Ag (v:=.tuple #[.agg (Qf ad ac am ae ao af x),.bool ok]) (by simp [results,results232,go_sem,aj,ak,an,al,az,ay,a8,a7,bt,bm]) rfl ⟨(Qe ad ac am ae ao af x),x,ok,rfl,?_,by omega,?_⟩
 · exact (HQ.out.touch sT5 tZ).wide fT
 exact E2.trans (Touch.below sT5 E2.size bB6)
def lit_rdB {α:Type} {r:kD α} {e:TypeId} {w:Ac} {b:Nat} {cs:Aj Ak} {xs:Aj α} {S:Nat->Prop} (hb:w.heap[b]?=some (.cells cs.toArray e (0,0))) (hr:kD.row r false w cs xs S) (hd:∀ x∈xs,r.bdd Big x) (hl:xs.length<=64):(kD.slice e r).jr w [.slice (some ⟨b,0,none⟩) xs.length xs.length] xs (λk=>S k\/k=b):=by
 refine ⟨⟨_,_,xs.length,rfl,rfl,Nat.le_refl _,by unfold maxLen;omega,.inr ⟨b,0,rfl,cs.toArray,e,(0,0),[],cs,[],hb,by simp,rfl,?_,bD0,.inr rfl,?_⟩⟩,by unfold Big;omega,hd⟩
 · have:=kD.zR hr;simp;omega
 exact kD.yU hr (λk hk=>⟨.inl hk,λh=>by cases h⟩)
def kTd {α:Type} {r:kD α} {w:Ac} {c d:Aj Ak} {y:α} {ys:Aj α} {S:Nat->Prop} (h:r.jr w c y S) (k:kD.row r false w d ys S):kD.row r false w (c++d) (y :: ys) S:=⟨c,d,S,S,rfl,h.1,k,λ_ h=>h,λ_ h=>h,λh=>by cases h⟩
def kYi {w:Ac} {v:Ak} {n:ko} {s:Int} {S:Nat->Prop} (h:kR.jr w [v] n S) (hs:Qi s):kLs.jr w [v,Qn s] (n,s) S :=
  kD.kBa (r:=kR) (q:=.int) (z:=(n,s)) h (kD.flat.jr (kD.ky hs))
def Touch.yB {S U:Nat->Prop} {w w1 w2:Ac} (h:Touch S w w1) (t:Touch U w1 w2) (hb:∀ k,U k->S k\/w.heap.size<=k):Touch S w w2:=by
 refine ⟨t.os.trans h.os,t.tape.trans h.tape,t.output.trans h.output,Nat.le_trans h.size t.size,λk hk hn=>?_⟩;exact (t.block k (Nat.lt_of_lt_of_le hk h.size) (λq=>by rcases hb k q with q | q;exact hn q;omega)).trans (h.block k hk hn)
def trust_rdB {w:Ac} {v0 v1 v2 v3:Ak} {x0:Aj kQn} {x1:Aj kNm} {x2:Aj ko} {x3:Aj jQ} {S:Nat->Prop} (h0:(kD.slice 226 kLs).jr w [v0] x0 S) (h1:(kD.slice 229 kOw).jr w [v1] x1 S) (h2:(kD.slice 36 kR).jr w [v2] x2 S) (h3:(kD.slice 60 jF).jr w [v3] x3 S):kBt.jr w [v0,v1,v2,v3] (x0,x1,x2,x3) S :=
  kD.kBa (r:=(kD.slice 226 kLs)) (q:=.pair (kD.slice 229 kOw) (.pair (kD.slice 36 kR) (kD.slice 60 jF))) (z:=(x0,x1,x2,x3)) h0 (kD.kBa (r:=(kD.slice 229 kOw)) (q:=.pair (kD.slice 36 kR) (kD.slice 60 jF)) (z:=(x1,x2,x3)) h1 (kD.kBa (r:=(kD.slice 36 kR)) (q:=(kD.slice 60 jF)) (z:=(x2,x3)) h2 h3))
def DrawnT (w0 w:Ac) (p:Nat) (e:Ending) (w':Ac):Prop:=∃ ds t,e=.returned (.agg ds.toArray)/\kBt.jr w' ds t (jg w w')/\lenT t/\ym w0 w' p/\Touch (λk=>k=p) w w'
def kZj {w0 w:Ac} {p:Nat} (hc:ym w0 w p) :
    Calls prog 170 #[.pointer (some ⟨p,0,none⟩)] w λe w'=>DrawnT w0 w p e w':=by
 go_enter func170,ntmps170
 obtain ⟨bh,br⟩:=hc.lt
 go_upto_region 1 with fail
 refine ja ?_
 intro w1 ar R bj
 obtain ⟨hc,O⟩:=uZ
 clear ar
 go_wp2_with fail
 refine (yz (s:={ data:=#[47,107,101,121,47,97] }) bF1).mono ?_
 rintro e w2 ⟨a0,c0,k0,rfl,hr,bl,bu,hb⟩
 have bw:=hb.size
 replace R:=kC R hb
 obtain ⟨hc,O⟩:=uT
 clear hb
 have H0:=yD (hr)
 clear hr bl bu
 go_wp2_with fail
 refine (yz (s:={ data:=#[47,97,47,107,101,121] }) bF1).mono ?_
 rintro e w3 ⟨a1,c1,k1,rfl,hr,cv,ck,hb⟩
 have bz:=hb.size
 replace R:=kC R hb
 replace H0:=yD (H0.out.below hb)
 obtain ⟨hc,O⟩:=uT
 clear hb
 have H1:=yD (hr)
 clear hr cv ck
 go_wp2_with fail
 refine (yz (s:={ data:=#[47,98,47,107,101,121] }) bF1).mono ?_
 rintro e w4 ⟨a2,c2,k2,rfl,hr,bg,bq,hb⟩
 have b5:=hb.size
 replace R:=kC R hb
 replace H0:=yD (H0.out.below hb)
 replace H1:=yD (H1.out.below hb)
 obtain ⟨hc,O⟩:=uT
 clear hb
 have H2:=yD (hr)
 clear hr bg bq
 go_wp2_with fail
 refine (yz (s:={ data:=#[47,98,97,100,47,107,101,121] }) bF1).mono ?_
 rintro e w5 ⟨a3,c3,k3,rfl,hr,f8,d3,hb⟩
 have b4:=hb.size
 replace R:=kC R hb
 replace H0:=yD (H0.out.below hb)
 replace H1:=yD (H1.out.below hb)
 replace H2:=yD (H2.out.below hb)
 obtain ⟨hc,O⟩:=uT
 clear hb
 have H3:=yD (hr)
 clear hr f8 d3
 go_wp2_with fail
 refine allC ?_
 intro w6 au BK df
 replace R:=kC R au
 replace H0:=yD (H0.out.below au)
 replace H1:=yD (H1.out.below au)
 replace H2:=yD (H2.out.below au)
 replace H3:=yD (H3.out.below au)
 obtain ⟨hc,O⟩:=BP
 clear au
 refine (yz (s:={ data:=#[47,107,101,121,47,97] }) bF1).mono ?_
 rintro e w7 ⟨a4,c4,k4,rfl,hr,il,d5,hb⟩
 have eo:=hb.size
 replace R:=kC R hb
 replace BK:=kC BK hb
 replace H0:=yD (H0.out.below hb)
 replace H1:=yD (H1.out.below hb)
 replace H2:=yD (H2.out.below hb)
 replace H3:=yD (H3.out.below hb)
 obtain ⟨hc,O⟩:=uT
 clear hb
 have H4:=yD (hr)
 clear hr il d5
 go_upto_region 2 with fail
 refine kAe ?_
 intro w8 E_ BA BT d9
 replace R:=kC R E_
 replace BK:=kC BK E_
 replace H0:=yD (H0.out.below E_)
 replace H1:=yD (H1.out.below E_)
 replace H2:=yD (H2.out.below E_)
 replace H3:=yD (H3.out.below E_)
 replace H4:=yD (H4.out.below E_)
 replace hc:=hc.below E_
 replace O:=O.trans (Touch.of_below E_)
 clear E_
 obtain ⟨aa,dr⟩:∃ b_,b_=w7.heap.size + 1:=⟨_,rfl⟩
 rw [<- dr] at BT ⊢
 have eq:=Nat.le_of_eq dr
 have ek:=Nat.le_of_eq dr.symm
 clear dr
 have HK:Hid ((kD.slice 226 kLs).jr w8 [.slice (some ⟨w5,0,none⟩) 4 4] [(k0,100),(k1,101),(k2,102),(k3,103)] (λk=>w.heap.size < k/\k < aa/\k≠p)):=yD ((lit_rdB (r:=kLs) (xs:=[(k0,100),(k1,101),(k2,102),(k3,103)]) (S:=(λk=>w.heap.size < k/\k < aa/\k≠p)) BK (kTd (c:=[.slice a0 k0.length c0,.int .i64 100]) (kYi (H0.out.jr.wide gF) bF2) (kTd (c:=[.slice a1 k1.length c1,.int .i64 101]) (kYi (H1.out.jr.wide gF) bF2) (kTd (c:=[.slice a2 k2.length c2,.int .i64 102]) (kYi (H2.out.jr.wide gF) bF2) (kTd (c:=[.slice a3 k3.length c3,.int .i64 103]) (kYi (H3.out.jr.wide gF) bF2) (rfl))))) (by intro x hx;simp only [List.mem_cons,List.not_mem_nil,or_false] at hx;rcases hx with rfl | rfl | rfl | rfl;exact ⟨H0.out.jr.2,trivial⟩;exact ⟨H1.out.jr.2,trivial⟩;exact ⟨H2.out.jr.2,trivial⟩;exact ⟨H3.out.jr.2,trivial⟩) bF3).wide fD)
 have HA:Hid ((kD.slice 36 kR).jr w8 [.slice (some ⟨w7,0,none⟩) 1 1] [k4] (λk=>w.heap.size < k/\k < aa/\k≠p)):=yD ((lit_rdB (r:=kR) (xs:=[k4]) (S:=(λk=>w.heap.size < k/\k < aa/\k≠p)) BA (kTd (c:=[.slice a4 k4.length c4]) (H4.out.jr.wide gF) rfl) (by intro x hx;rw [Am.1 hx];exact H4.out.jr.2) bF3).wide fD)
 clear H0 H1 H2 H3 H4 BK BA
 obtain ⟨kb,co⟩:∃ b_,b_=w5.heap.size:=⟨_,rfl⟩
 obtain ⟨ab,c8⟩:∃ b_,b_=w7.heap.size:=⟨_,rfl⟩
 rw [<- co] at HK BT
 clear co
 rw [<- c8] at HA BT
 clear c8
 generalize hkl:[(k0,(100:Int)),(k1,101),(k2,102),(k3,103)]=kl at HK
 clear hkl
 have ez:aa < w8.heap.size/\w.heap.size < aa:=⟨by omega,by omega⟩
 have e4:w.heap.size < aa/\p < aa:=⟨by omega,by omega⟩
 go_wp2
 have dl:Hid ((kD.slice 9 kD.str).own (World.alloc w8 (.cells #[.string { data:=#[47,63,120,47,107,101,121,32,60,32,47,107,101,121,47,97] },.string { data:=#[47,63,120,47,42,42,32,60,32,47,63,120,47,107,101,121] }] 9)) [.slice (some ⟨w8,0,none⟩) 2 2] [{ data:=#[47,63,120,47,107,101,121,32,60,32,47,107,101,121,47,97] },{ data:=#[47,63,120,47,42,42,32,60,32,47,63,120,47,107,101,121] }] (λk=>k=w8.heap.size)):=yD (kD.kBs w8 [{ data:=#[47,63,120,47,107,101,121,32,60,32,47,107,101,121,47,97] },{ data:=#[47,63,120,47,42,42,32,60,32,47,63,120,47,107,101,121] }] bF1 bF1)
 generalize o:World.alloc w8 _=w9 at dl ⊢
 have E_:Qb w8 w9:=tF
 have et:w8.heap.size + 1<=w9.heap.size:=bD6
 have ei:w9.heap.size<=w8.heap.size + 1:=bD6
 clear o
 replace R:=kC R E_
 replace BT:=kC BT E_
 replace HK:=yD (HK.out.below E_)
 replace HA:=yD (HA.out.below E_)
 replace hc:=hc.below E_
 replace O:=O.trans (Touch.of_below E_)
 clear E_
 obtain ⟨lb,bc⟩:∃ b_,b_=w8.heap.size:=⟨_,rfl⟩
 rw [<- bc] at dl ⊢
 have ep:=Nat.le_of_eq bc
 have ce:=Nat.le_of_eq bc.symm
 clear bc
 generalize hlt:([{ data:=#[47,63,120,47,107,101,121,32,60,32,47,107,101,121,47,97] },{ data:=#[47,63,120,47,42,42,32,60,32,47,63,120,47,107,101,121] }]:Aj Ap)=lt at dl
 have ai:lt.length=2:=by rw [<- hlt];rfl
 have ef:=yD (show ∀ y∈lt,y.size<=64 from λy hy=>kD.kDd bF1 (hlt ▸ hy))
 clear hlt
 go_loopw [26] (λi wr=>∃ (j:Nat) (ra:Ab Ae) (rc:Nat) (rl:Aj kNm),i=.int .i64 j/\j<=2/\Hid (rl.length=j)/\Qr wr aa #[.slice (some ⟨kb,0,none⟩) 4 4,Qs ra rl rc,.slice (some ⟨ab,0,none⟩) 1 1,.slice none 0 0] 71/\Hid ((kD.slice 229 kOw).own wr [Qs ra rl rc] rl (λk=>lb < k/\k < wr.heap.size))/\w9.heap.size<=wr.heap.size/\Touch (λk=>k=aa) w9 wr) (λi _=>2 - (intOf i).toNat)
 case atStart=>exact ⟨0,none,0,[],rfl,by omega,yD rfl,BT,yD kD.yF,Nat.le_refl _,Touch.of_below bR⟩
 obtain ⟨j,ra,rc,rl,rfl,I,ec,dd,HR,ch,ag⟩:=hrel
 clear BT
 have BT:=dd
 clear dd
 by_cases hlt:j < 2
 · have bt:(j:Int) < 2:=bF2;have bb:j < lt.length:=bF2;obtain ⟨sb,so,he,c0,cr,bd⟩:=kD.kCk (dl.out.touch ag bB2).raw (i:=j) bb rfl;simp only [Ad,Ai,and_true] at he;obtain ⟨rfl,rfl⟩:=he;have bf:[c0]=[.string lt[j]]:=(kD.kAj cr).1;obtain rfl:c0=.string lt[j]:=bC4;clear cr bf;have di:=ef.out _ (Ah bb);generalize lt[j]=y at *;simp only [Nat.zero_add] at bd;go_wp2_with fail;refine (kXg di).mono ?_;rintro e b8 ⟨ds,r,b,rfl,hr,hb⟩;have cg:=hb.size;replace ag:=ag.trans (Touch.of_below hb);replace BT:=kC BT hb;replace HR:=yD (HR.out.below hb);clear hb;obtain ⟨pa,pc,qa,qc,rfl⟩:=rule_form hr.raw;have HU:=yD hr;clear hr bd;go_upto_region 6 with fail;refine ja ?_;intro be hb BU du;have cm:=hb.size;replace ag:=ag.trans (Touch.of_below hb);replace BT:=kC BT hb;replace HR:=yD (HR.out.below hb);replace HU:=yD (HU.out.below hb);clear hb;obtain ⟨b7,bo,b2,bv⟩:=jW BT;obtain ⟨d0,d6⟩:=yN BU;obtain ⟨b0,cf,bn,b6⟩:=zy BT;go_wp2_with (at_builtin;refine kD.zQ rfl _ _ 68 rfl (r:=kOw) (e:=229) underlying68 infRule rfl bF1 bF1 (w:=be) HR.out bR HU.out bF4 bF4 qC (by have:=ec.out;omega) ?_);intro v9 w9 ah V;have et:=V.size;have dm:=yD (show (rl++[r]).length=j + 1 by simp [ec.out]);generalize rl++[r]=q at *;obtain ⟨a9,c9,bx,_⟩:=kD.kAw ah.raw;obtain rfl:v9=_:=by simpa using bx
   have bm:=yD (ah.wide (T:=λk=>lb < k/\k < w9.heap.size) bL);have hT:Touch (λk=>lb < k/\k < be.heap.size) be w9:=V.wide (λk q=>⟨q.1.1,q.2⟩);clear ah V bx HR HU b7 bo b2 bv d0 d6 b0 cf bn b6;replace BT:=hT.kC BT bF2;clear BU;replace ag:=ag.yB hT bB8;clear hT;obtain ⟨b7,bo,b2,bv⟩:=jW BT;obtain ⟨b0,cf,bn,b6⟩:=zy BT;go_upto_region 7 with fail;generalize o:World.setCell w9 _ _=dh;have hT:Touch (λk=>k=aa) w9 dh:=wY;replace BT:Qr dh aa #[.slice (some ⟨kb,0,none⟩) 4 4,Qs a9 q c9,.slice (some ⟨ab,0,none⟩) 1 1,.slice none 0 0] 71:=by rw [<- o];exact kG BT 1
   have d8:=hT.size;clear o b7 bo b2 bv b0 cf bn b6;replace bm:=yD (bm.out.touch hT qG);replace ag:=ag.yB hT bB8;clear hT;refine Qg ?_;exact ⟨j + 1,a9,c9,q,by go_num,by omega,dm,BT,yD (bm.out.wide sU),by omega,ag⟩
 obtain rfl:j=2:=bF2
 have bt:¬ ((2:Nat):Int) < 2:=bF2
 replace HK:=yD (HK.out.touch ag (λk q h=>by have:=q.2.1;omega))
 replace HA:=yD (HA.out.touch ag (λk q h=>by have:=q.2.1;omega))
 replace R:=ag.kC R bF2
 replace hc:=hc.touch ag bF2 bB6
 replace O:=O.jJ ag bF2
 clear ag
 go_wp2
 have dn:Hid ((kD.slice 9 kD.str).own (World.alloc wr (.cells #[.string { data:=#[47,97,47,107,101,121] },.string { data:=#[47,98,47,107,101,121] }] 9)) [.slice (some ⟨wr,0,none⟩) 2 2] [{ data:=#[47,97,47,107,101,121] },{ data:=#[47,98,47,107,101,121] }] (λk=>k=wr.heap.size)):=yD (kD.kBs wr [{ data:=#[47,97,47,107,101,121] },{ data:=#[47,98,47,107,101,121] }] bF1 bF1)
 generalize o:World.alloc wr _=wL at dn ⊢
 have hb:Qb wr wL:=tF
 have eb:wr.heap.size + 1<=wL.heap.size:=bD6
 have d1:wL.heap.size<=wr.heap.size + 1:=bD6
 clear o
 replace HK:=yD (HK.out.below hb)
 replace HA:=yD (HA.out.below hb)
 replace HR:=yD (HR.out.below hb)
 replace R:=kC R hb
 replace BT:=kC BT hb
 obtain ⟨hc,O⟩:=uT
 clear hb
 obtain ⟨mb,dq⟩:∃ b_,b_=wr.heap.size:=⟨_,rfl⟩
 rw [<- dq] at dn eb d1 HR ch ⊢
 have em:=Nat.le_of_eq dq
 have er:=Nat.le_of_eq dq.symm
 clear dq
 generalize d7:([{ data:=#[47,97,47,107,101,121] },{ data:=#[47,98,47,107,101,121] }]:Aj Ap)=lu at dn
 have es:lu.length=2:=by rw [<- d7];rfl
 have eg:=yD (show ∀ y∈lu,y.size<=64 from λy hy=>kD.kDd bF1 (d7 ▸ hy))
 clear d7
 go_loopw [44] (λi wq=>∃ (j:Nat) (ca:Ab Ae) (cc:Nat) (cl:Aj jQ),i=.int .i64 j/\j<=2/\Hid (cl.length<=j)/\Hid (∀ x∈cl,x.2.1.length<=64)/\Qr wq aa #[.slice (some ⟨kb,0,none⟩) 4 4,Qs ra rl rc,.slice (some ⟨ab,0,none⟩) 1 1,Qs ca cl cc] 71/\Hid ((kD.slice 60 jF).own wq [Qs ca cl cc] cl (λk=>mb < k/\k < wq.heap.size))/\ym w0 wq p/\wL.heap.size<=wq.heap.size/\Touch (λk=>k=aa\/k=p) wL wq) (λi _=>2 - (intOf i).toNat)
 case atStart=>exact ⟨0,none,0,[],rfl,by omega,yD bF3,yD (λx h=>by simp at h),BT,yD kD.yF,hc,Nat.le_refl _,Touch.of_below bR⟩
 obtain ⟨j,ca,cc,cl,rfl,bb,a5,dp,dd,HC,eh,en,ag⟩:=hrel
 clear BT hc
 have BT:=dd
 have hc:=eh
 clear dd eh
 have e0:=ag.size
 by_cases el:j < 2
 · have bt:(j:Int) < 2:=bF2;have d4:j < lu.length:=bF2;obtain ⟨sb,so,he,c0,cr,bd⟩:=kD.kCk (dn.out.touch ag bB2).raw (i:=j) d4 rfl;simp only [Ad,Ai,and_true] at he;obtain ⟨rfl,rfl⟩:=he;have bf:[c0]=[.string lu[j]]:=(kD.kAj cr).1;obtain rfl:c0=.string lu[j]:=bC4;clear cr bf;have di:=eg.out _ (Ah d4);generalize lu[j]=y at *;simp only [Nat.zero_add] at bd;have d2:=yD (HK.out.touch ag nG);go_upto_region 11 with fail;clear bd;go_cut [10,11] from 48 to 57 (λdz ed wc=>∃ (b:Nat) (ad:Ab Ae) (ac:Nat) (am:Ab Ae) (ae:Nat) (ao:Ab Ae) (af:Nat) (x:jQ) (ok:Bool),dz=.pointer (some ⟨b,0,none⟩)/\ed=.bool ok/\Qr wc b (Qf ad ac am ae ao af x) 60/\Hid (jF.own wc (Qe ad ac am ae ao af x) x (Ql wr wc b))/\x.2.1.length<=64/\wr.heap.size<=b/\b < wc.heap.size/\Qb wr wc);case first =>
    have FX:=yD (λ(W:Ac) (hW:Qb wr W)=>kE (kC BT hW) (j:=0) (v:=.slice (some ⟨kb,0,none⟩) 4 4) rfl);refine yg (λW=>Qb wr W) bE5 (bR.drew) ?_;intro t E;have dt:=E.size;refine kT 0 ?_;refine kT 1 ?_;refine kT 2 ?_;refine kIg ?_;intro T A hT hA;have c5:∀ (J:Ab Ae) (U:Nat) (n1:ko) (X:Ab Ae) (Y:Nat) (n2:ko) (ad:Ab Ae) (ac:Nat) (am:Ab Ae) (ae:Nat) (ao:Ab Ae) (af:Nat) (x:jQ) (ok:Bool) (b:Nat) (W:Ac),Qb wr W->(Hid (kR.jr W [Qs J n1 U] n1 (Ql wr W b)))->(Hid (kR.jr W [Qs X n2 Y] n2 (Ql wr W b)))->(x.2.1.length<=64)->(Hid (jF.own W (Qe ad ac am ae ao af x) x (Ql wr W b)))->(wr.heap.size<=b/\b < W.heap.size)->(Qr W b (Qf ad ac am ae ao af x) 60)->T 0 [Tt,Tt,Tt,Tt,Tt,Tt,Tt,Tt,Tt,Tt,Tt,Tt] (Aa (Aa (Aa (Aa (Aa (Aa (Aa (Aa A (some 52) (.agg #[Qs J n1 U])) (some 53) (.agg #[Qs X n2 Y])) (some 54) (.tuple #[.agg (Qf ad ac am ae ao af x),.bool ok])) (some 48) (.tuple #[.agg (Qf ad ac am ae ao af x),.bool ok])) (some 55) (.agg (Qf ad ac am ae ao af x))) (some 56) (.bool ok)) (some 10) (.pointer (some ⟨b,0,none⟩))) (some 11) (.bool ok)) W:=by
     intro J U n1 X Y n2 ad ac am ae ao af x ok b W E ap ba bi HQ Z BB;have bk:=E.size;subst hT;subst hA;simp only [Aa,zA,zB,zC];refine jv bE5 ?_;go_wp2;go_meet;exact ⟨b,ad,ac,am,ae,ao,af,x,ok,rfl,rfl,BB,HQ,bi,Z.1,Z.2,E⟩
    have cw:∀ (J:Ab Ae) (U:Nat) (n1:ko) (X:Ab Ae) (Y:Nat) (n2:ko) (ad:Ab Ae) (ac:Nat) (am:Ab Ae) (ae:Nat) (ao:Ab Ae) (af:Nat) (x:jQ) (ok:Bool) (b:Nat) (W:Ac),Qb wr W->(Hid (kR.jr W [Qs J n1 U] n1 (Ql wr W b)))->(Hid (kR.jr W [Qs X n2 Y] n2 (Ql wr W b)))->(x.2.1.length<=64)->(Hid (jF.own W (Qe ad ac am ae ao af x) x (Ql wr W b)))->(wr.heap.size<=b/\b < W.heap.size)->(Qr W b #[.slice none 0 0,.slice none 0 0,.slice none 0 0,Qn 0,Qn 0] 60)->T 2 [Tt,Tt,Tt,Tt,Tt,Tt,Tt,Tt,Tt,Tt,Ff,Ff] (Aa (Aa (Aa (Aa (Aa (Aa (Aa A (some 52) (.agg #[Qs J n1 U])) (some 53) (.agg #[Qs X n2 Y])) (some 54) (.tuple #[.agg (Qf ad ac am ae ao af x),.bool ok])) (some 48) (.tuple #[.agg (Qf ad ac am ae ao af x),.bool ok])) (some 55) (.agg (Qf ad ac am ae ao af x))) (some 56) (.bool ok)) (some 10) (.pointer (some ⟨b,0,none⟩))) W:=by
     intro J U n1 X Y n2 ad ac am ae ao af x ok b W E ap ba bi HQ Z BB;have bk:=E.size;subst hT;subst hA;simp only [Aa,zA,zB,zC];refine kU (k:=10) rfl bE5 rfl (λK H=>?_);obtain ⟨dx,dj,dv,dy,de⟩:=yZ BB;obtain ⟨cz,da,db,dg,dc⟩:=kCo BB;go_simp;generalize o:World.setCell (World.setCell (World.setCell (World.setCell (World.setCell W _ _) _ _) _ _) _ _) _ _=v;have hT:Touch (λk=>k=b) W v:=(by rw [<- o];exact sT5);replace BB:Qr v b (Qf ad ac am ae ao af x) 60:=(by rw [<- o];exact kG (kG (kG (kG (kG (BB) 0) 1) 2) 3) 4);clear o dx cz dj da dv db dy dg de dc;have zv:=hT.size;replace ap:Hid (kR.jr v [Qs J n1 U] n1 (Ql wr v b)):=yD ((ap.out.touch hT (λk q h=>q.2.2 h)).wide (λk q=>⟨q.1,Nat.lt_of_lt_of_le q.2.1 hT.size,q.2.2⟩));replace ba:Hid (kR.jr v [Qs X n2 Y] n2 (Ql wr v b)):=yD ((ba.out.touch hT (λk q h=>q.2.2 h)).wide (λk q=>⟨q.1,Nat.lt_of_lt_of_le q.2.1 hT.size,q.2.2⟩));replace HQ:Hid (jF.own v (Qe ad ac am ae ao af x) x (Ql wr v b)):=yD ((HQ.out.touch hT (λk q h=>q.2.2 h)).wide (λk q=>⟨q.1,Nat.lt_of_lt_of_le q.2.1 hT.size,q.2.2⟩));replace Z:wr.heap.size<=b/\b < v.heap.size:=⟨Z.1,Nat.lt_of_lt_of_le Z.2 hT.size⟩;replace E:=E.trans (hT.below E.size bB6);refine H _ _ E ?_;clear H K;refine jH ?_;refine kT 11 ?_;have h_:=c5 J U n1 X Y n2 ad ac am ae ao af x ok b v E ap ba bi HQ Z BB;exact dW
    have dk:∀ (J:Ab Ae) (U:Nat) (n1:ko) (X:Ab Ae) (Y:Nat) (n2:ko) (ad:Ab Ae) (ac:Nat) (am:Ab Ae) (ae:Nat) (ao:Ab Ae) (af:Nat) (x:jQ) (ok:Bool) (W:Ac),Qb wr W->(Hid (kR.jr W [Qs J n1 U] n1 (Ql wr W aa)))->(Hid (kR.jr W [Qs X n2 Y] n2 (Ql wr W aa)))->(x.2.1.length<=64)->(Hid (jF.own W (Qe ad ac am ae ao af x) x (Ql wr W aa)))->T 3 [Tt,Tt,Tt,Tt,Tt,Tt,Tt,Tt,Tt,Ff,Ff,Ff] (Aa (Aa (Aa (Aa (Aa (Aa A (some 52) (.agg #[Qs J n1 U])) (some 53) (.agg #[Qs X n2 Y])) (some 54) (.tuple #[.agg (Qf ad ac am ae ao af x),.bool ok])) (some 48) (.tuple #[.agg (Qf ad ac am ae ao af x),.bool ok])) (some 55) (.agg (Qf ad ac am ae ao af x))) (some 56) (.bool ok)) W:=by
     intro J U n1 X Y n2 ad ac am ae ao af x ok W E ap ba bi HQ;have bk:=E.size;subst hT;subst hA;simp only [Aa,zA,zB,zC];refine kU (k:=9) rfl bE5 rfl (λK H=>?_);go_simp;refine ja ?_;intro v hb BB zv;obtain ⟨b,a6⟩:∃ b_,b_=W.heap.size:=⟨_,rfl⟩;rw [<- a6] at BB ⊢;obtain ⟨ap,ba⟩:=EE;replace HQ:Hid (jF.own v (Qe ad ac am ae ao af x) x (Ql wr v b)):=yD ((HQ.out.below hb).wide dM);have Z:wr.heap.size<=b/\b < v.heap.size:=⟨by omega,by omega⟩;replace E:=(tQ E hb);refine H _ _ E ?_;clear H K;refine jH ?_;exact eY
    have c6:∀ (J:Ab Ae) (U:Nat) (n1:ko) (X:Ab Ae) (Y:Nat) (n2:ko) (b:Nat) (W:Ac),Qb wr W->(Hid (kR.jr W [Qs J n1 U] n1 (Ql wr W b)))->(Hid (kR.jr W [Qs X n2 Y] n2 (Ql wr W b)))->(wr.heap.size<=b/\b < W.heap.size)->(Qr W b #[.slice none 0 0,.slice none 0 0,.slice none 0 0,Qn 0,Qn 0] 60)->T 6 [Tt,Tt,Tt,Tt,Tt,Ff,Ff,Ff,Ff,Tt,Ff,Ff] (Aa (Aa (Aa A (some 52) (.agg #[Qs J n1 U])) (some 53) (.agg #[Qs X n2 Y])) (some 10) (.pointer (some ⟨b,0,none⟩))) W:=by
     intro J U n1 X Y n2 b W E ap ba Z BB;have bk:=E.size;subst hT;subst hA;simp only [Aa,zA,zB,zC];refine kU (k:=5) rfl bE5 rfl (λK H=>?_);go_simp;refine (kFd (l:=kl) (d2.out.rd.below E).1 (cn:=[.slice J n1.length U]) ap.out.rd (cb:=[.slice X n2.length Y]) ba.out.rd (tl:=5000) bF1).mono ?_;rintro e v ⟨ds,x,ok,rfl,hO,bi,hb⟩;obtain ⟨zv,b9,ap⟩:=EO;replace ba:Hid (kR.jr v [Qs X n2 Y] n2 (Ql wr v b)):=yD ((ba.out.below hb).wide (λk q=>⟨q.1,Nat.lt_of_lt_of_le q.2.1 hb.size,q.2.2⟩));obtain ⟨BB,Z⟩:=DI;obtain ⟨ad,ac,am,ae,ao,af,rfl⟩:=zo hO.raw;have HQ:Hid (jF.own v (Qe ad ac am ae ao af x) x (Ql wr v b)):=yD (hO.wide mM);replace E:=(tQ E hb);refine H _ _ E ?_;clear H K;refine jH ?_;refine kT 6 ?_;refine kT 7 ?_;refine kT 8 ?_;exact eY
    have c7:∀ (J:Ab Ae) (U:Nat) (n1:ko) (X:Ab Ae) (Y:Nat) (n2:ko) (W:Ac),Qb wr W->(Hid (kR.jr W [Qs J n1 U] n1 (Ql wr W aa)))->(Hid (kR.jr W [Qs X n2 Y] n2 (Ql wr W aa)))->T 7 [Tt,Tt,Tt,Tt,Tt,Ff,Ff,Ff,Ff,Ff,Ff,Ff] (Aa (Aa A (some 52) (.agg #[Qs J n1 U])) (some 53) (.agg #[Qs X n2 Y])) W:=by
     intro J U n1 X Y n2 W E ap ba;have bk:=E.size;subst hT;subst hA;simp only [Aa,zA,zB,zC];refine yH (i:=5) (j:=9) rfl rfl bE5 rfl rfl (λK H=>?_) (λK H=>?_)
     · go_simp;refine (kFd (l:=kl) (d2.out.rd.below E).1 (cn:=[.slice J n1.length U]) ap.out.rd (cb:=[.slice X n2.length Y]) ba.out.rd (tl:=5000) bF1).mono ?_;rintro e v ⟨ds,x,ok,rfl,hO,bi,hb⟩;obtain ⟨zv,ap⟩:=EM;replace ba:Hid (kR.jr v [Qs X n2 Y] n2 (Ql wr v aa)):=yD ((ba.out.below hb).wide (λk q=>⟨q.1,Nat.lt_of_lt_of_le q.2.1 hb.size,q.2.2⟩));obtain ⟨ad,ac,am,ae,ao,af,rfl⟩:=zo hO.raw;have HQ:Hid (jF.own v (Qe ad ac am ae ao af x) x (Ql wr v aa)):=yD (hO.wide mM);replace E:=(tQ E hb);refine H _ _ E ?_;clear H K;refine jH ?_;refine kT 6 ?_;refine kT 7 ?_;refine kT 8 ?_;have h_:=dk J U n1 X Y n2 ad ac am ae ao af x ok v E ap ba bi HQ;exact dW
     go_simp;refine ja ?_;intro v hb BB zv;obtain ⟨b,a6⟩:∃ b_,b_=W.heap.size:=⟨_,rfl⟩;rw [<- a6] at BB ⊢;obtain ⟨ap,ba⟩:=EE;have Z:wr.heap.size<=b/\b < v.heap.size:=⟨by omega,by omega⟩;exact eZ
    have dw:∀ (J:Ab Ae) (U:Nat) (n1:ko) (b:Nat) (W:Ac),Qb wr W->(Hid (kR.jr W [Qs J n1 U] n1 (Ql wr W b)))->(wr.heap.size<=b/\b < W.heap.size)->(Qr W b #[.slice none 0 0,.slice none 0 0,.slice none 0 0,Qn 0,Qn 0] 60)->T 7 [Tt,Tt,Tt,Tt,Ff,Ff,Ff,Ff,Ff,Tt,Ff,Ff] (Aa (Aa A (some 52) (.agg #[Qs J n1 U])) (some 10) (.pointer (some ⟨b,0,none⟩))) W:=by
     intro J U n1 b W E ap Z BB;have bk:=E.size;subst hT;subst hA;simp only [Aa,zA,zB,zC];refine kU (k:=4) rfl bE5 rfl (λK H=>?_);go_simp;refine (yz (s:={ data:=#[47,107,101,121,47,97] }) bF1).mono ?_;rintro e v ⟨X,Y,n2,rfl,hO,bg,bq,hb⟩;obtain ⟨zv,b9,ap⟩:=EO;obtain ⟨BB,Z⟩:=DI;have ba:Hid (kR.jr v [Qs X n2 Y] n2 (Ql wr v b)):=yD (hO.jr.wide mM);exact eZ
    have T3:∀ (J:Ab Ae) (U:Nat) (n1:ko) (W:Ac),Qb wr W->(Hid (kR.jr W [Qs J n1 U] n1 (Ql wr W aa)))->T 8 [Tt,Tt,Tt,Tt,Ff,Ff,Ff,Ff,Ff,Ff,Ff,Ff] (Aa A (some 52) (.agg #[Qs J n1 U])) W:=by
     intro J U n1 W E ap;have bk:=E.size;subst hT;subst hA;simp only [Aa,zA,zB,zC];refine yH (i:=4) (j:=9) rfl rfl bE5 rfl rfl (λK H=>?_) (λK H=>?_)
     · go_simp;refine (yz (s:={ data:=#[47,107,101,121,47,97] }) bF1).mono ?_;rintro e v ⟨X,Y,n2,rfl,hO,bg,bq,hb⟩;obtain ⟨zv,ap⟩:=EM;have ba:Hid (kR.jr v [Qs X n2 Y] n2 (Ql wr v aa)):=yD (hO.jr.wide mM);replace E:=(tQ E hb);refine H _ _ E ?_;clear H K;refine jH ?_;have h_:=c7 J U n1 X Y n2 v E ap ba;exact dW
     go_simp;refine ja ?_;intro v hb BB zv;obtain ⟨b,a6⟩:∃ b_,b_=W.heap.size:=⟨_,rfl⟩;rw [<- a6] at BB ⊢;replace ap:Hid (kR.jr v [Qs J n1 U] n1 (Ql wr v b)):=yD ((ap.out.below hb).wide dM);have Z:wr.heap.size<=b/\b < v.heap.size:=⟨by omega,by omega⟩;exact fA
    have T9:∀ (b:Nat) (W:Ac),Qb wr W->(wr.heap.size<=b/\b < W.heap.size)->(Qr W b #[.slice none 0 0,.slice none 0 0,.slice none 0 0,Qn 0,Qn 0] 60)->T 8 [Tt,Tt,Tt,Ff,Ff,Ff,Ff,Ff,Ff,Tt,Ff,Ff] (Aa A (some 10) (.pointer (some ⟨b,0,none⟩))) W:=by
     intro b W E Z BB;have bk:=E.size;subst hT;subst hA;simp only [Aa,zA,zB,zC];refine kU (k:=3) rfl bE5 rfl (λK H=>?_);go_simp;refine (yz di).mono ?_;rintro e v ⟨J,U,n1,rfl,hO,cv,ck,hb⟩;have zv:=hb.size;have b9:=Z.2;obtain ⟨BB,Z⟩:=DI;have ap:Hid (kR.jr v [Qs J n1 U] n1 (Ql wr v b)):=yD (hO.jr.wide mM);exact fA
    subst hT;subst hA;refine yH (i:=3) (j:=9) rfl rfl bE5 rfl rfl (λK H=>?_) (λK H=>?_)
    · go_simp;refine (yz di).mono ?_;rintro e v ⟨J,U,n1,rfl,hO,cv,ck,hb⟩;have zv:=hb.size;have ap:Hid (kR.jr v [Qs J n1 U] n1 (Ql wr v aa)):=yD (hO.jr.wide mM);replace E:=(tQ E hb);refine H _ _ E ?_;clear H K;refine jH ?_;have h_:=T3 J U n1 v E ap;exact dW
    go_simp;refine ja ?_;intro v hb BB zv;obtain ⟨b,a6⟩:∃ b_,b_=t.heap.size:=⟨_,rfl⟩;rw [<- a6] at BB ⊢;have Z:wr.heap.size<=b/\b < v.heap.size:=⟨by omega,by omega⟩;exact eU
   obtain ⟨b,ad,ac,am,ae,ao,af,x,ok,rfl,rfl,BQ,HQ,bi,cd,N,hb⟩:=hcut;have ej:=hb.size;replace ag:=ag.trans (Touch.of_below hb);replace BT:=kC BT hb;replace HC:=yD (HC.out.below hb);replace hc:=hc.below hb;clear hb d2;have eu:mb < wr.heap.size:=bF2;cases ok
   · exact fG
   go_wp2_with fail;refine (yw (n:=8) hc bF1).mono ?_;rintro e wo ⟨b1,rfl,F,D⟩;have ev:=D.size;replace ag:=ag.trans (D.wide (λk q=>.inr q));replace BT:=D.kC BT bF2;replace BQ:=D.kC BQ bF2;replace HC:=yD (HC.out.touch D tZ);replace HQ:=yD (HQ.out.touch D tZ);clear hc D;have hc:=F;clear F;cases b1
   · have b7:Qc wo aa 0 (.slice (some ⟨kb,0,none⟩) 4 4):=kE BT rfl;have bo:Qc wo aa 1 (Qs ra rl rc):=kE BT rfl;have b2:Qc wo aa 2 (.slice (some ⟨ab,0,none⟩) 1 1):=kE BT rfl;have bv:Qc wo aa 3 (Qs ca cl cc):=kE BT rfl;obtain ⟨aq,av,ax,aw,b3⟩:=yZ BQ;obtain ⟨b0,cf,bn,b6⟩:=zy BT;go_wp2_with (at_builtin;refine kD.zQ rfl _ _ 24 rfl (r:=jF) (e:=60) underlying24 kTk rfl bF1 bF1 (w:=wo) HC.out bR HQ.out bF4 bF4 qC bA8 ?_);intro v9 w9 ah V;have et:=V.size;have dm:=yD (show (cl++[x]).length<=j + 1 by have:=a5.out;simp;omega);have bp:=yD (show ∀ z∈cl++[x],z.2.1.length<=64 from λz hz=>by rcases List.mem_append.1 hz with hz | hz;exact dp.out z hz;rw [Am.1 hz];exact bi);generalize cl++[x]=q at *;obtain ⟨a9,c9,bx,_⟩:=kD.kAw ah.raw;obtain rfl:v9=_:=by simpa using bx
     have bm:=yD (ah.wide (T:=λk=>mb < k/\k < w9.heap.size) bL);have hT:Touch (λk=>mb < k/\k < wo.heap.size) wo w9:=V.wide (λk q=>⟨q.1.1,q.2⟩);clear ah V bx HC HQ b7 bo b2 bv aq av ax aw b3 b0 cf bn b6;replace BT:=hT.kC BT bF2;clear BQ;replace hc:=hc.touch hT bE2 bB8;replace ag:=ag.yB hT bB8;clear hT;obtain ⟨b7,bo,b2,bv⟩:=jW BT;obtain ⟨b0,cf,bn,b6⟩:=zy BT;go_upto_region 14 with fail;generalize o:World.setCell w9 _ _=ea;have hT:Touch (λk=>k=aa) w9 ea:=wY;replace BT:Qr ea aa #[.slice (some ⟨kb,0,none⟩) 4 4,Qs ra rl rc,.slice (some ⟨ab,0,none⟩) 1 1,Qs a9 q c9] 71:=by rw [<- o];exact kG BT 3
     have ee:=hT.size;clear o b7 bo b2 bv b0 cf bn b6;replace bm:=yD (bm.out.touch hT qG);obtain ⟨hc,ag⟩:=xG;clear hT;refine Qg ?_;exact ⟨j + 1,a9,c9,q,by go_num,by omega,dm,bp,BT,yD (bm.out.wide sU),hc,by omega,ag⟩
   exact fG
 have bt:¬ (j:Int) < 2:=bF2
 replace HK:=yD (HK.out.touch ag nG)
 replace HA:=yD (HA.out.touch ag nG)
 replace HR:=yD (HR.out.touch ag (λk q h=>by have h1:=q.1;omega))
 replace R:=ag.kC R bF2
 replace O:=O.yB ag bB8
 obtain ⟨ew,e3,e1,ey⟩:=jW BT
 obtain ⟨aj,an,az,a8⟩:=jW R
 obtain ⟨ak,al,ay,a7⟩:=zy R
 have L:=yD (trust_rdB (S:=(λk=>w.heap.size < k/\k < wr.heap.size/\k≠p)) (HK.out.wide mF) (HR.out.jr.wide gF) (HA.out.wide mF) (HC.out.jr.wide gF))
 go_wp2
 refine Ag (v:=.agg #[.slice (some ⟨kb,0,none⟩) 4 4,Qs ra rl rc,.slice (some ⟨ab,0,none⟩) 1 1,Qs ca cl cc]) (by simp [results,results170,go_sem,aj,ak,an,al,az,ay,a8,a7]) rfl ⟨[.slice (some ⟨kb,0,none⟩) 4 4,Qs ra rl rc,.slice (some ⟨ab,0,none⟩) 1 1,Qs ca cl cc],(kl,rl,[k4],cl),rfl,?_,?_,hc.touch sT4 bF2 bB6,O.jJ sT4 bF2⟩
 · exact (L.out.touch sT4 tZ).wide (T:=jg w _) fH
 exact λk h=>by have:=dp.out _ (Ah h);omega
end Go.Proofs.YthocbplmdjkifaaGreat

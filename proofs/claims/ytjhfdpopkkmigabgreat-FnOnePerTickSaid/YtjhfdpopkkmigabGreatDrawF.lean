/-
  What a node is asked: drawn.
-/
import Derived.Test.YtjhfdpopkkmigabGreatDrawA
set_option linter.unusedVariables false
set_option linter.unusedSimpArgs false
set_option linter.unnecessarySimpa false
set_option maxRecDepth 100000
set_option maxHeartbeats 8000000
open Bool renaming true->Tt,false->Ff
open Go.Act renaming put->Aa
open Go renaming World->Ab
open Int renaming eq_ofNat_of_zero_le->Ac
open _root_ renaming Option->Ad
open Go.Value.slice renaming injEq->Ae
open Option.some renaming injEq->Ag
open Go.Addr.mk renaming injEq->Ah
namespace Go.Proofs.YtjhfdpopkkmigabGreat
open Go.RowKit _root_.Go.Proofs.Tryz
theorem rdB_at {α:Type} {r:kD α} {e:TypeId} {w:Ab} {a:Ad Addr} {len cap:Nat} {xs:List α} {S:Nat->Prop} (h:(kD.slice e r).jo w [.slice a len cap] xs S) (h0:0 < xs.length):∃ b off,a=some ⟨b,off,none⟩/\S b:=by
 obtain ⟨⟨a',E,cap',h0,h1,h2,h3,h4⟩,cw,O⟩:=h;simp only [List.cons.injEq,Ae,and_true] at h0;obtain ⟨rfl,rfl,rfl⟩:=h0;rcases h4 with ⟨rfl,_⟩|⟨b,off,ha,cur,e',fr,p,c,q,hb,hc,hp,hl,hf,hS,hx⟩
 · simp at h0
 exact ⟨b,off,ha,hS⟩
def DrawnV (w0 w:Ab) (p:Nat) (e:Ending) (w':Ab):Prop:=∃ a c ps n h t,e=.returned (.agg #[Qs a ps c,Qn n,Qn h,Qn t])/\kN.own w' [Qs a ps c] ps (jb w.heap.size w'.heap.size)/\(0<=n/\n<=39)/\(0<=h/\h<=4)/\(1<=t/\t<=8)/\yS w0 w' p/\Touch (λk=>k=p) w w'
theorem kYe {w0 w:Ab} {p:Nat} (hc:yS w0 w p) {cx:List Value} {x:jd} (hx:yB.jo w cx x (λk=>¬ k=p)) (bg:x.2.2.1.length<=200) :
    Calls prog 15 #[.pointer (some ⟨p,0,none⟩),.agg cx.toArray] w λe w'=>DrawnV w0 w p e w':=by
 obtain ⟨bd,bw⟩:=hc.lt
 obtain ⟨a0,c0,a1,c1,a2,c2,a3,c3,a4,c4,a5,c5,rfl⟩:=kFo hx.rd.1
 obtain ⟨U,⟨kc,xe⟩,x2,x3,x4,x5,x6⟩:=x
 have hl:=(kEk (c0:=.slice a0 U.length c0) hx).2.2.1
 have HL:=yD (hl.live.wide (T:=λk=>k < w.heap.size/\¬ k=p) (λk q=>⟨q.2,q.1⟩))
 replace bg:x2.length<=200:=bg
 clear hl hx
 go_enter func15,ntmps15
 go_upto_region 1 with fail
 generalize G:World.alloc (World.alloc w _) _=w1
 have hb:Qb w w1:=by rw [<- G];exact (bR.alloc nL _).alloc bH4 _
 have BX:Qr w1 w.heap.size #[Qs a0 U c0,Qn kc,Qs a1 xe c1,Qs a2 x2 c2,Qs a3 x3 c3,Qs a4 x4 c4,Qs a5 x5 c5,Qn x6] 33:=vF
 have R:Qr w1 (w.heap.size + 1) #[.slice none 0 0,Qn 0,Qn 0,Qn 0] 38:=by rw [<- G];exact kG bH4
 have bo:w.heap.size + 2<=w1.heap.size:=bF4
 clear G
 replace HL:=yD (HL.out.below hb)
 obtain ⟨hc,J⟩:=G9
 clear hb
 go_wp2_with fail
 refine (kOj hc).mono ?_
 rintro e V ⟨a,c,ps,n,h,lt,rfl,hO,bp,hn,hh,ht,F,D⟩
 have bv:=D.size
 replace BX:=D.kC BX bH3
 replace R:=D.kC R bH3
 replace HL:=yD (HL.out.touch D qW)
 replace J:=J.trans D
 clear hc D
 have hc:=F
 clear F
 have I:=yD hO
 clear hO
 go_upto_region 2 with fail
 generalize G:World.alloc V _=w3
 have ad:Qb V w3:=tK
 have B:Qr w3 V.heap.size #[Qs a ps c,Qn n,Qn h,Qn lt] 38:=wW
 have bt:V.heap.size + 1<=w3.heap.size:=bF4
 clear G
 replace BX:=kC BX ad
 replace R:=kC R ad
 replace HL:=yD (HL.out.below ad)
 replace I:=yD (I.out.below ad)
 replace hc:=hc.below ad
 replace J:=J.trans (Touch.of_below ad)
 clear ad
 obtain ⟨aa,ab,ae,ac,ah,ai,aj,am⟩:=yz BX
 by_cases bi:0 < x2.length
 · have bn:(0:Int) < x2.length:=bH3;go_wp2_with fail;refine (zY (n:=3) hc bH2).mono ?_;rintro e w4 ⟨b_,rfl,F,D⟩;have b5:=D.size;replace BX:=D.kC BX bH3;obtain ⟨R,B⟩:=AV;replace HL:=yD (HL.out.touch D qW);obtain ⟨I,J⟩:=xK;clear aa ab ae ac ah ai aj am;clear hc D;have hc:=F;clear F;cases b_
   · go_wp2_with fail;refine (ko (n:=40) hc bH2).mono ?_;rintro e w5 ⟨nn,au,o,be,rfl,F,D⟩;have b3:=D.size;replace BX:=D.kC BX bH3;obtain ⟨R,B⟩:=AV;replace HL:=yD (HL.out.touch D qW);obtain ⟨I,J⟩:=xK;clear hc D;have hc:=F;clear F;replace o:=o bH2;clear be;obtain ⟨ag,af,Z,O⟩:=jZ B;obtain ⟨aq,ap,ar,a9⟩:=kAq B;go_upto_region 6 with fail;generalize G:World.setCell w5 _ _=w6;have L:Touch (λk=>k=V.heap.size) w5 w6:=bB2;replace B:Qr w6 V.heap.size #[Qs a ps c,Qn nn,Qn h,Qn lt] 38:=wY;have dh:=L.size;clear G;replace BX:=L.kC BX bH3;replace R:=L.kC R bH3;replace HL:=yD (HL.out.touch L qW);replace I:=yD (I.out.touch L qW);replace hc:=hc.touch L bH3 bD5;replace J:=J.jJ L bH3;clear ag af Z O aq ap ar a9;clear L;exact dQ
   go_upto_region 3 with fail;have dl:=hc.lt.2;obtain ⟨bb,off,rfl,br⟩:=rdB_at HL.out bi;have bk:=br.2;have a8:=br.1;clear br;have FX:=yD (λ(W:Ab) (hW:Touch (λk=>k=p) w4 W/\yS w0 W p)=>kE (hW.1.kC BX bH3) (j:=3) (v:=.slice (some ⟨bb,off,none⟩) x2.length c2) rfl);refine yP (λW=>Touch (λk=>k=p) w4 W/\yS w0 W p) bG6 (⟨Touch.of_below bR.drew,hc.below bR.drew⟩) ?_;intro t E;have dx:=E.1.size;refine kL 0 ?_;refine kL 1 ?_;refine kL 2 ?_;refine kL 3 ?_;refine kL 4 ?_;refine kL 5 ?_;refine kHe ?_;intro T A hT hA;have bc:∀ (k:Nat) (na:Ad Addr) (nc:Nat) (ra:Ad Addr) (rc:Nat) (y:kF) (b:Nat) (W:Ab),Touch (λk=>k=p) w4 W/\yS w0 W p->(k < x2.length)->(Qc w4 bb (off + k * 3) (.slice na y.1.length nc))->(Qc w4 bb (off + k * 3 + 1) (.slice ra y.2.1.length rc))->(Qc w4 bb (off + k * 3 + 2) (.int .i64 y.2.2))->(Hid (kN.jo w4 [Qs na y.1 nc] y.1 (λk=>k < w.heap.size/\¬ k=p)))->(w4.heap.size<=b/\b < W.heap.size)->(Qr W b #[Qs na y.1 nc,Qs ra y.2.1 rc,Qn y.2.2] 93)->T 0 [Tt,Tt,Tt,Tt,Tt,Tt,Tt,Tt,Tt,Tt,Tt] (Aa (Aa (Aa (Aa A (some 23) (.int .i64 k)) (some 24) (.pointer (some ⟨bb,off + k * 3,none⟩))) (some 25) (.agg #[Qs na y.1 nc,Qs ra y.2.1 rc,Qn y.2.2])) (some 6) (.pointer (some ⟨b,0,none⟩))) W:=by
    intro k na nc ra rc y b W E hk aw hA1 hA2 HN N BB;have bh:=E.1.size;subst hT;subst hA;simp only [Aa,zA,zB,zC];refine jg bG6 ?_;replace R:=E.1.kC R bH3;replace B:=E.1.kC B bH3;replace J:=J.trans E.1;replace HN:=yD (HN.out.touch E.1 (λk q h=>q.2 h));have zW:=E.1.size;clear hc;have hc:=E.2;have X:=BB;clear E BB BX HL I;obtain ⟨bz,b0,b2⟩:=rowC3 X;obtain ⟨ag,af,Z,O⟩:=jZ B;obtain ⟨aq,ap,ar,a9⟩:=kAq B;go_wp2_with fail;refine (kQb (ca:=[.slice na y.1.length nc]) HN.out.rd).mono ?_;rintro e bu ⟨qa,qn,qc,rfl,hQ,hb⟩;have dj:=hb.size;replace R:=kC R hb;replace B:=kC B hb;replace X:=kC X hb;replace HN:=yD (HN.out.below hb);obtain ⟨hc,J⟩:=xI;clear bz b0 b2 ag af Z O aq ap ar a9;clear hb;obtain ⟨_,_,_,bl,bj⟩:=hQ.parts;simp only [Ae] at bl;obtain rfl:=bl.2.1.trans bj.out;clear bl bj;have HQ:=yD ((hQ.own HN.out.2.1).wide (T:=λj=>W.heap.size<=j/\j < bu.heap.size) sS);clear hQ;clear HN;obtain ⟨ag,af,Z,O⟩:=jZ B;obtain ⟨aq,ap,ar,a9⟩:=kAq B;go_upto_region 5 with fail;generalize G:World.setCell bu _ _=da;have bf:Touch (λk=>k=V.heap.size) bu da:=bB2;replace B:Qr da V.heap.size #[Qs qa y.1 qc,Qn n,Qn h,Qn lt] 38:=wZ;have di:=bf.size;clear G;replace R:=bf.kC R bH3;replace X:=bf.kC X bH3;replace HQ:=yD (HQ.out.touch bf qW);replace hc:=hc.touch bf bH3 bD5;replace J:=J.jJ bf bH3;clear ag af Z O aq ap ar a9;clear bf;go_wp2_with fail;refine (ko (n:=40) hc bH2).mono ?_;rintro e b7 ⟨nn,au,o,be,rfl,F,D⟩;have b9:=D.size;obtain ⟨R,B⟩:=AV;replace X:=D.kC X bH3;replace HQ:=yD (HQ.out.touch D qW);replace J:=J.trans D;clear hc D;have hc:=F;clear F;replace o:=o bH2;clear be;obtain ⟨ag,af,Z,O⟩:=jZ B;obtain ⟨aq,ap,ar,a9⟩:=kAq B;go_upto_region 6 with fail;generalize G:World.setCell b7 _ _=b6;have ba:Touch (λk=>k=V.heap.size) b7 b6:=bB2;replace B:Qr b6 V.heap.size #[Qs qa y.1 qc,Qn nn,Qn h,Qn lt] 38:=wY;have b8:=ba.size;clear G;replace R:=ba.kC R bH3;replace X:=ba.kC X bH3;replace HQ:=yD (HQ.out.touch ba qW);replace hc:=hc.touch ba bH3 bD5;replace J:=J.jJ ba bH3;clear ag af Z O aq ap ar a9;clear ba;obtain ⟨ak,ao,az,a7⟩:=jZ R;obtain ⟨ag,af,Z,O⟩:=jZ B;obtain ⟨al,an,ay,a6⟩:=kAq R;go_wp2;refine bodyPost_ret (v:=.agg #[Qs qa y.1 qc,Qn nn,Qn h,Qn lt]) gL rfl ⟨qa,qc,y.1,nn,h,lt,rfl,?_,by omega,hh,ht,hc.touch sT4 bH3 bD5,J.jJ sT4 bH3⟩;exact (HQ.out.touch sT4 vQ).wide fE
   have bq:∀ (k:Nat) (na:Ad Addr) (nc:Nat) (ra:Ad Addr) (rc:Nat) (y:kF) (b:Nat) (W:Ab),Touch (λk=>k=p) w4 W/\yS w0 W p->(k < x2.length)->(Qc w4 bb (off + k * 3) (.slice na y.1.length nc))->(Qc w4 bb (off + k * 3 + 1) (.slice ra y.2.1.length rc))->(Qc w4 bb (off + k * 3 + 2) (.int .i64 y.2.2))->(Hid (kN.jo w4 [Qs na y.1 nc] y.1 (λk=>k < w.heap.size/\¬ k=p)))->(w4.heap.size<=b/\b < W.heap.size)->(Qr W b #[.slice none 0 0,.slice none 0 0,Qn 0] 93)->T 1 [Tt,Tt,Tt,Tt,Tt,Tt,Tt,Tt,Tt,Tt,Ff] (Aa (Aa (Aa (Aa A (some 23) (.int .i64 k)) (some 24) (.pointer (some ⟨bb,off + k * 3,none⟩))) (some 25) (.agg #[Qs na y.1 nc,Qs ra y.2.1 rc,Qn y.2.2])) (some 6) (.pointer (some ⟨b,0,none⟩))) W:=by
    intro k na nc ra rc y b W E hk aw hA1 hA2 HN N BB;have bh:=E.1.size;subst hT;subst hA;simp only [Aa,zA,zB,zC];refine kP (k:=10) rfl bG6 rfl (λK H=>?_);obtain ⟨de,dc,dd⟩:=rowC3 BB;obtain ⟨cv,c7,c8⟩:=rowF3 BB;go_simp;generalize G:World.setCell (World.setCell (World.setCell W _ _) _ _) _ _=v;have hT:Touch (λk=>k=b) W v:=(by rw [<- G];exact sT3);replace BB:Qr v b #[Qs na y.1 nc,Qs ra y.2.1 rc,Qn y.2.2] 93:=(by rw [<- G];exact kI (kI (kI (BB) 0) 1) 2);clear G de cv dc c7 dd c8;have zv:=hT.size;replace N:w4.heap.size<=b/\b < v.heap.size:=⟨N.1,Nat.lt_of_lt_of_le N.2 hT.size⟩;replace E:=And.intro (E.1.jJ hT bH3) (E.2.touch hT bH3 rE);refine H _ _ E ?_;clear H K;refine jG ?_;have h_:=bc k na nc ra rc y b v E hk aw hA1 hA2 HN N BB;exact dR
   have T6:∀ (k:Nat) (na:Ad Addr) (nc:Nat) (ra:Ad Addr) (rc:Nat) (y:kF) (W:Ab),Touch (λk=>k=p) w4 W/\yS w0 W p->(k < x2.length)->(Qc w4 bb (off + k * 3) (.slice na y.1.length nc))->(Qc w4 bb (off + k * 3 + 1) (.slice ra y.2.1.length rc))->(Qc w4 bb (off + k * 3 + 2) (.int .i64 y.2.2))->(Hid (kN.jo w4 [Qs na y.1 nc] y.1 (λk=>k < w.heap.size/\¬ k=p)))->T 2 [Tt,Tt,Tt,Tt,Tt,Tt,Tt,Tt,Tt,Ff,Ff] (Aa (Aa (Aa A (some 23) (.int .i64 k)) (some 24) (.pointer (some ⟨bb,off + k * 3,none⟩))) (some 25) (.agg #[Qs na y.1 nc,Qs ra y.2.1 rc,Qn y.2.2])) W:=by
    intro k na nc ra rc y W E hk aw hA1 hA2 HN;have bh:=E.1.size;subst hT;subst hA;simp only [Aa,zA,zB,zC];refine kP (k:=9) rfl bG6 rfl (λK H=>?_);go_simp;generalize G:World.alloc W _=v;have hb:Qb W v:=(by rw [<- G];exact bR.alloc nL _);have BB:Qr v W.heap.size #[.slice none 0 0,.slice none 0 0,Qn 0] 93:=(by rw [<- G];exact kG rfl);have zv:W.heap.size + 1<=v.heap.size:=(by rw [<- G];simp);clear G;obtain ⟨b,ax⟩:∃ b_,b_=W.heap.size:=⟨_,rfl⟩;rw [<- ax] at BB ⊢;obtain ⟨N,E⟩:=IX;refine H _ _ E ?_;clear H K;exact dS
   have T9:∀ (b:Nat) (W:Ab),Touch (λk=>k=p) w4 W/\yS w0 W p->(w4.heap.size<=b/\b < W.heap.size)->(Qr W b #[.slice none 0 0,.slice none 0 0,Qn 0] 93)->T 4 [Tt,Tt,Tt,Tt,Tt,Tt,Ff,Ff,Ff,Tt,Ff] (Aa A (some 6) (.pointer (some ⟨b,0,none⟩))) W:=by
    intro b W E N BB;have bh:=E.1.size;subst hT;subst hA;simp only [Aa,zA,zB,zC];refine kP (k:=6) rfl bG6 rfl (λK H=>?_);go_simp;refine (ko (n:=(x2.length:Int)) E.2 bH3).mono ?_;rintro e v ⟨x_,au,o,be,rfl,F,D⟩;have zv:=D.size;have b4:=N.2;replace BB:=D.kC BB bH3;replace N:w4.heap.size<=b/\b < v.heap.size:=⟨N.1,Nat.lt_of_lt_of_le N.2 D.size⟩;replace o:=o bn;clear be;obtain ⟨k,rfl⟩:=Ac au;have hk:k < x2.length:=bH3;obtain ⟨b1,bx,av,ce,bm,Y⟩:=kD.rdB_get HL.out hk;simp only [Ag,Ah,and_true] at av;obtain ⟨rfl,rfl⟩:=av;obtain ⟨v0,v1,rfl,hN,hR,hs⟩:=pend_rdB bm;obtain ⟨na,nc,rfl,_⟩:=kD.sl hN.rd.1;obtain ⟨ra,rc,rfl,_⟩:=kD.sl hR.rd.1;have aw:=Y 0 _ rfl;have hA1:=Y 1 _ rfl;have hA2:=Y 2 _ rfl;simp only [Nat.add_zero,kHu] at aw hA1 hA2;have HN:=yD hN;obtain ⟨y,hy⟩:∃ y_,x2[k]=y_:=⟨_,rfl⟩;rw [hy] at aw hA1 hA2 HN;clear Y bm hN hR hs hy;replace E:=And.intro (E.1.trans D) F;refine H _ _ E ?_;clear H K;refine jG ?_;refine kL 7 ?_;refine kJe (k:=8) (v:=?_) rfl bG6 qY rfl E (λW hW=>?_) ?_;rotate_left
    · have dg:=hW.1.kIh aw bH3;have dw:=hW.1.kIh hA1 bH3;have d0:=hW.1.kIh hA2 bH3;clear hW;go_simp;try with_reducible rfl
    exact dS
   subst hT;subst hA;refine jr (i:=6) (j:=9) rfl rfl bG6 rfl rfl (λK H=>?_) (λK H=>?_)
   · go_simp;refine (ko (n:=(x2.length:Int)) E.2 bH3).mono ?_;rintro e v ⟨x_,au,o,be,rfl,F,D⟩;have zv:=D.size;replace o:=o bn;clear be;obtain ⟨k,rfl⟩:=Ac au;have hk:k < x2.length:=bH3;obtain ⟨b1,bx,av,ce,bm,Y⟩:=kD.rdB_get HL.out hk;simp only [Ag,Ah,and_true] at av;obtain ⟨rfl,rfl⟩:=av;obtain ⟨v0,v1,rfl,hN,hR,hs⟩:=pend_rdB bm;obtain ⟨na,nc,rfl,_⟩:=kD.sl hN.rd.1;obtain ⟨ra,rc,rfl,_⟩:=kD.sl hR.rd.1;have aw:=Y 0 _ rfl;have hA1:=Y 1 _ rfl;have hA2:=Y 2 _ rfl;simp only [Nat.add_zero,kHu] at aw hA1 hA2;have HN:=yD hN;obtain ⟨y,hy⟩:∃ y_,x2[k]=y_:=⟨_,rfl⟩;rw [hy] at aw hA1 hA2 HN;clear Y bm hN hR hs hy;replace E:=And.intro (E.1.trans D) F;refine H _ _ E ?_;clear H K;refine jG ?_;refine kL 7 ?_;refine kJe (k:=8) (v:=?_) rfl bG6 qY rfl E (λW hW=>?_) ?_;rotate_left
     · have dg:=hW.1.kIh aw bH3;have dw:=hW.1.kIh hA1 bH3;have d0:=hW.1.kIh hA2 bH3;clear hW;go_simp;try with_reducible rfl
     refine jG ?_;have h_:=T6 k na nc ra rc y v E hk aw hA1 hA2 HN;exact dR
   go_simp;generalize G:World.alloc t _=v;have hb:Qb t v:=(by rw [<- G];exact bR.alloc nL _);have BB:Qr v t.heap.size #[.slice none 0 0,.slice none 0 0,Qn 0] 93:=(by rw [<- G];exact kG rfl);have zv:t.heap.size + 1<=v.heap.size:=(by rw [<- G];simp);clear G;obtain ⟨b,ax⟩:∃ b_,b_=t.heap.size:=⟨_,rfl⟩;rw [<- ax] at BB ⊢;obtain ⟨N,E⟩:=IX;refine H _ _ E ?_;clear H K;refine jG ?_;have h_:=T9 b v E N BB;simp only [Aa,zA,zB,zC] at h_;exact h_
 have bn:¬ (0:Int) < x2.length:=bH3
 go_wp2_with fail
 refine (ko (n:=40) hc bH2).mono ?_
 rintro e w4 ⟨nn,au,o,be,rfl,F,D⟩
 have b5:=D.size
 replace BX:=D.kC BX bH3
 obtain ⟨R,B⟩:=AV
 replace HL:=yD (HL.out.touch D qW)
 obtain ⟨I,J⟩:=xK
 clear aa ab ae ac ah ai aj am
 clear hc D
 have hc:=F
 clear F
 replace o:=o bH2
 clear be
 obtain ⟨ag,af,Z,O⟩:=jZ B
 obtain ⟨aq,ap,ar,a9⟩:=kAq B
 go_upto_region 6 with fail
 generalize G:World.setCell w4 _ _=w5
 have cm:Touch (λk=>k=V.heap.size) w4 w5:=bB2
 replace B:Qr w5 V.heap.size #[Qs a ps c,Qn nn,Qn h,Qn lt] 38:=wY
 have b3:=cm.size
 clear G
 replace BX:=cm.kC BX bH3
 replace R:=cm.kC R bH3
 replace HL:=yD (HL.out.touch cm qW)
 replace I:=yD (I.out.touch cm qW)
 replace hc:=hc.touch cm bH3 bD5
 replace J:=J.jJ cm bH3
 clear ag af Z O aq ap ar a9
 clear cm
 exact dQ
def DrawnPI (w:Ab) (e:Ending) (w':Ab):Prop:=∃ cs x f cq q,e=.returned (.tuple #[.agg cs.toArray,.int .i64 f,.agg cq.toArray,.int .i64 50])/\yB.jo w' cs x (jb w.heap.size w'.heap.size)/\kHf x/\(-1<=f/\f<=7)/\jO.jo w' cq q (jb w.heap.size w'.heap.size)/\(q.2.1 < 100\/1000000<=q.2.1)/\(-1<=q.2.2.1/\q.2.2.1<=17)/\Qb w w'
theorem int_rdB {w:Ab} {v:Value} {ps:kg} {n h t:Int} {S:Nat->Prop} (k:kN.jo w [v] ps S) (hn:-1<=n/\n<=1000001) (hh:-1<=h/\h<=17) (ht:0<=t/\t<=21):jO.jo w [v,Qn n,Qn h,Qn t] (ps,n,h,t) S :=
  kD.kAg (r:=kN) (q:=.pair .int (.pair .int .int)) (z:=(ps,n,h,t)) (cs:=[v]) k (kD.flat.jo (kD.jW (cs:=[.int .i64 n]) (kD.ku bH3) (kD.jW (cs:=[.int .i64 h]) (kD.ku bH3) (kD.ku bH3))))
theorem kHw {w:Ab} {v:Value} {N:List UInt8} (an:(kD.slice 5 kD.byte).raw w [v] N) :
    Calls prog 5 #[v] w (DrawnPI w):=by
 obtain ⟨ca,cc,rfl,_⟩:=kD.sl an
 go_enter func5,ntmps5
 go_upto_region 1 with fail
 generalize G:World.alloc (World.alloc w _) _=w1
 have hb:Qb w w1:=by rw [<- G];exact (bR.alloc nL _).alloc bH4 _
 have R:Qr w1 w.heap.size #[.slice none 0 0,Qn 0,.slice none 0 0,.slice none 0 0,.slice none 0 0,.slice none 0 0,.slice none 0 0,Qn 0] 33:=vF
 have O:Qr w1 (w.heap.size + 1) #[.slice none 0 0,Qn 0,Qn 0,Qn 0] 38:=by rw [<- G];exact kG bH4
 have bo:w.heap.size + 2<=w1.heap.size:=bF4
 clear G
 have o:=hb
 clear hb
 go_wp2_with fail
 refine (specl1New_o an o).mono ?_
 rintro e V ⟨p,rfl,hc,bd,L⟩
 have bv:=L.size
 have bw:=hc.lt.2
 replace R:=kC R L
 replace O:=kC O L
 have J:Touch (λk=>k=p) w V:=Touch.of_below (tQ o L)
 clear L o
 go_wp2_with fail
 refine (jBa hc).mono ?_
 rintro e w3 ⟨cs,x,ct,tr,tb,rfl,hO,hx,hT,hlt,⟨fa,fc⟩,F,D⟩
 have bt:=D.size
 replace R:=D.kC R bH3
 replace O:=D.kC O bH3
 replace J:=J.trans D
 clear hc D
 have hc:=F
 clear F
 obtain ⟨bi,ck,bz,cw,bb,cz,cl,co,rfl⟩:=kJy hT.rd.1
 obtain ⟨a0,c0,a1,c1,a2,c2,a3,c3,a4,c4,a5,c5,rfl⟩:=kFo hO.rd.1
 obtain ⟨U,⟨kc,xe⟩,x2,x3,x4,x5,x6⟩:=x
 replace hO:yB.jo _ [Qs a0 U c0,Qn kc,Qs a1 xe c1,Qs a2 x2 c2,Qs a3 x3 c3,Qs a4 x4 c4,Qs a5 x5 c5,Qn x6] (U,(kc,xe),x2,x3,x4,x5,x6) _:=hO
 have I:=yD hO
 have HX:=yD hx
 clear hO hx
 clear hT hlt
 go_upto_region 3 with fail
 generalize G:World.alloc (World.alloc w3 _) _=w4
 have hb:Qb w3 w4:=by rw [<- G];exact (bR.alloc nL _).alloc bH4 _
 have BX:Qr w4 w3.heap.size #[Qs a0 U c0,Qn kc,Qs a1 xe c1,Qs a2 x2 c2,Qs a3 x3 c3,Qs a4 x4 c4,Qs a5 x5 c5,Qn x6] 33:=vF
 have BT:Qr w4 (w3.heap.size + 1) #[Qs bi tr.1 ck,Qs bz tr.2.1 cw,Qs bb tr.2.2.1 cz,Qs cl tr.2.2.2 co] 57:=by rw [<- G];exact kG bH4
 have b5:w3.heap.size + 2<=w4.heap.size:=bF4
 clear G
 replace R:=kC R hb
 replace O:=kC O hb
 replace I:=yD (I.out.below hb)
 obtain ⟨hc,J⟩:=xI
 clear hb
 obtain ⟨aa,ab,ae,ac,ah,ai,aj,am⟩:=yz BX
 go_wp2_with fail
 refine (kYe hc (cx:=[.slice a0 U.length c0,.int .i64 kc,.slice a1 xe.length c1,.slice a2 x2.length c2,.slice a3 x3.length c3,.slice a4 x4.length c4,.slice a5 x5.length c5,.int .i64 x6]) (I.out.wide vR) (by have:=HX.out.2.2.1.1;exact Nat.le_trans this bH2)).mono ?_
 rintro e w5 ⟨a,c,ps,n,h,lt,rfl,hQ,hn,hh,ht,F,D⟩
 have b3:=D.size
 obtain ⟨R,O,BX⟩:=I9
 replace BT:=D.kC BT bH3
 obtain ⟨I,J⟩:=xK
 clear aa ab ae ac ah ai aj am
 clear hc D
 have hc:=F
 clear F
 have HQ:=yD hQ
 clear hQ
 go_upto_region 4 with fail
 generalize G:World.alloc w5 _=w6
 have av:Qb w5 w6:=tK
 have BW:Qr w6 w5.heap.size #[Qs a ps c,Qn n,Qn h,Qn lt] 38:=wW
 have dh:w5.heap.size + 1<=w6.heap.size:=bF4
 clear G
 replace R:=kC R av
 replace O:=kC O av
 replace BX:=kC BX av
 replace BT:=kC BT av
 replace I:=yD (I.out.below av)
 replace HQ:=yD (HQ.out.below av)
 obtain ⟨hc,J⟩:=FV
 clear av
 obtain ⟨wb,Z⟩:∃ b_,b_=w5.heap.size:=⟨_,rfl⟩
 rw [<- Z] at BW ⊢
 have bp:=Nat.le_of_eq Z
 have bm:=Nat.le_of_eq Z.symm
 clear Z
 replace HQ:=yD (HQ.out.wide (T:=(Ql w4 w6 wb)) (λk q=>⟨q.1,by have:=q.2;omega,by have:=q.2;omega⟩))
 go_wp2_with fail
 refine (zY (n:=10) hc bH2).mono ?_
 rintro e w7 ⟨b_,rfl,F,D⟩
 have et:=D.size
 obtain ⟨R,O,BX⟩:=I9
 replace BT:=D.kC BT bH3
 obtain ⟨BW,I,HQ,J⟩:=GG
 clear hc D
 have hc:=F
 clear F
 have af:Touch (λk=>k=p\/k=wb) w7 w7:=Touch.of_below bR
 replace HQ:=yD (HQ.out.wide (T:=(Ql w4 w7 wb)) qN)
 go_upto_if 22 with fail
 go_cut [] from 23 to 24 (λwc=>∃ (a:Ad Addr) (c:Nat) (ps:kg) (n h lt:Int),Qr wc wb #[Qs a ps c,Qn n,Qn h,Qn lt] 38/\Hid (kN.own wc [Qs a ps c] ps (Ql w4 wc wb))/\(((n < 100\/1000000<=n)/\-1<=n/\n<=1000001)/\(-1<=h/\h<=17)/\(0<=lt/\lt<=21))/\yS w wc p/\Touch (λk=>k=p\/k=wb) w7 wc)
 case first =>
  clear R O BX BT J I HX;cases b_
  · go_wp2;go_meet;exact ⟨a,c,ps,n,h,lt,BW,yD (HQ.out.wide (T:=(Ql w4 w7 wb)) qN),⟨⟨by omega,by omega⟩,by omega,by omega⟩,hc,af⟩
  go_wp2_with fail;refine (specl7Any_c hc).mono ?_;rintro e bu ⟨a2,c2,qs,n2,h2,t2,rfl,hZ,dv,a6,ad,ap,F,D⟩;have cm:=D.size;replace af:=af.ji D nJ;replace BW:=D.kC BW bH3;replace HQ:=yD (HQ.out.touch D pV);clear hc D;have hc:=F;clear F;have HZ:=yD hZ;clear hZ HQ;obtain ⟨ak,Y,X,al⟩:=jZ BW;obtain ⟨aq,ar,ag,ao⟩:=kAq BW;go_wp2;generalize G:World.setCell (World.setCell (World.setCell (World.setCell bu _ _) _ _) _ _) _ _=bj;have hT:Touch (λk=>k=wb) bu bj:=bC2;replace BW:Qr bj wb #[Qs a2 qs c2,Qn n2,Qn h2,Qn t2] 38:=by rw [<- G];exact kI (kI (kI (kI (BW) 0) 1) 2) 3
  have c6:=hT.size;clear G;clear ak Y X al aq ar ag ao;replace HZ:=yD (HZ.out.touch hT pV);obtain ⟨hc,af⟩:=y9;clear hT;go_meet;exact ⟨a2,c2,qs,n2,h2,t2,BW,yD (HZ.out.wide (T:=(Ql w4 bj wb)) gD),⟨⟨by omega,by omega⟩,by omega,by omega⟩,hc,af⟩
 clear HQ BW af BT
 rename Ab=>wd
 obtain ⟨a,c,ps,n,h,lt,BW,HQ,⟨hn,hh,ht⟩,cd,br⟩:=hcut
 replace R:=br.kC R bH3
 replace O:=br.kC O bH3
 replace BX:=br.kC BX bH3
 replace I:=yD (I.out.touch br pV)
 replace J:=J.ji br bD7
 have bn:=br.size
 clear hc br
 have hc:=cd
 clear cd
 go_wp2_with fail
 refine (ko (n:=5) hc bH2).mono ?_
 rintro e dz ⟨f,d4,df,dx,rfl,F,D⟩
 have es:=D.size
 obtain ⟨R,O,BX⟩:=I9
 obtain ⟨BW,I,HQ,J⟩:=GG
 clear hc D
 have hc:=F
 clear F
 replace df:=df bH2
 clear dx
 go_wp2_with fail
 refine (zY (n:=12) hc bH2).mono ?_
 rintro e dt ⟨b_,rfl,F,D⟩
 have ev:=D.size
 obtain ⟨R,O,BX⟩:=I9
 obtain ⟨BW,I,HQ,J⟩:=GG
 clear hc D
 have hc:=F
 clear F
 have af:Touch (λk=>k=p) dt dt:=Touch.of_below bR
 go_upto_if 28 with fail
 go_cut [10] from 29 to 31 (λd0 wc=>∃ f:Int,d0=.int .i64 f/\(-1<=f/\f<=7)/\yS w wc p/\Touch (λk=>k=p) dt wc)
 case first =>
  clear R O BX BW J I HX HQ;cases b_
  · go_wp2;go_meet;exact ⟨f,rfl,by omega,hc,af⟩
  go_wp2_with fail;refine (zn (hc.below (bR.alloc nL _)) (kD.kDz _ [-1,6,7] bH2 bH2) (by have:=hc.lt;omega) bH2 bH2).mono ?_;rintro e bq ⟨y,aw,b6,rfl,F,D⟩;replace D:=(Touch.of_below (S:=λk=>k=p) (bR.alloc nL _)).trans D;have bh:=D.size;replace af:=af.ji D nJ;clear hc D;have hc:=F;clear F;have cf:-1<=y/\y<=7:=bD4;clear aw b6;go_wp2;go_meet;exact ⟨y,rfl,cf,hc,af⟩
 clear af d4 df
 rename Ab=>wy
 obtain ⟨f,rfl,gg,cd,br⟩:=hcut
 replace R:=br.kC R bH3
 replace O:=br.kC O bH3
 replace BX:=br.kC BX bH3
 replace BW:=br.kC BW bH3
 replace I:=yD (I.out.touch br pV)
 replace HQ:=yD (HQ.out.touch br pV)
 replace J:=J.trans br
 have bl:=br.size
 clear hc br
 have hc:=cd
 clear cd
 go_upto_region 9 with fail
 have FX:=yD (λ(W:Ab) (hW:Touch (λk=>k=p\/k=w.heap.size\/k=w.heap.size + 1) wy W)=>And.intro (kE (hW.kC BX bH3) (j:=0) (v:=.slice a0 U.length c0) rfl) (And.intro (kE (hW.kC BX bH3) (j:=1) (v:=.int .i64 kc) rfl) (And.intro (kE (hW.kC BX bH3) (j:=2) (v:=.slice a1 xe.length c1) rfl) (And.intro (kE (hW.kC BX bH3) (j:=3) (v:=.slice a2 x2.length c2) rfl) (And.intro (kE (hW.kC BX bH3) (j:=4) (v:=.slice a3 x3.length c3) rfl) (And.intro (kE (hW.kC BX bH3) (j:=5) (v:=.slice a4 x4.length c4) rfl) (And.intro (kE (hW.kC BX bH3) (j:=6) (v:=.slice a5 x5.length c5) rfl) (And.intro (kE (hW.kC BX bH3) (j:=7) (v:=.int .i64 x6) rfl) (And.intro (kE (hW.kC BW bH3) (j:=0) (v:=.slice a ps.length c) rfl) (And.intro (kE (hW.kC BW bH3) (j:=1) (v:=.int .i64 n) rfl) (And.intro (kE (hW.kC BW bH3) (j:=2) (v:=.int .i64 h) rfl) (kE (hW.kC BW bH3) (j:=3) (v:=.int .i64 lt) rfl))))))))))))
 refine kDv (λW=>Touch (λk=>k=p\/k=w.heap.size\/k=w.heap.size + 1) wy W) bG6 (Touch.of_below bR.drew) ?_
 intro t1 dp E
 have bD:Qb wy t1:=(by rw [dp];exact bR.drew)
 replace R:=kC R bD
 replace O:=kC O bD
 replace hc:=hc.below bD
 have bk:=bD.size
 clear bD dp
 refine kL 0 ?_
 refine kL 1 ?_
 refine kL 2 ?_
 refine kP (k:=3) rfl bG6 rfl (λK H=>?_)
 obtain ⟨ce,dm,di,dq,ey,ei,eq,e0⟩:=yz R
 obtain ⟨dn,dj,dl,dr,en,el,ez,em⟩:=kIc R
 go_simp
 generalize G:World.setCell (World.setCell (World.setCell (World.setCell (World.setCell (World.setCell (World.setCell (World.setCell t1 _ _) _ _) _ _) _ _) _ _) _ _) _ _) _ _=t2
 have hT:Touch (λk=>k=w.heap.size) t1 t2:=(by rw [<- G];exact sT8)
 replace R:Qr t2 w.heap.size #[Qs a0 U c0,Qn kc,Qs a1 xe c1,Qs a2 x2 c2,Qs a3 x3 c3,Qs a4 x4 c4,Qs a5 x5 c5,Qn x6] 33:=(by rw [<- G];exact kI (kI (kI (kI (kI (kI (kI (kI (R) 0) 1) 2) 3) 4) 5) 6) 7)
 have e9:=hT.size
 clear G ce dn dm dj di dl dq dr ey en ei el eq ez e0 em
 replace O:=hT.kC O bH3
 replace hc:=hc.touch hT bH3 bD5
 replace E:=E.trans (hT.wide (λk q=>.inr (.inl q)))
 clear hT
 refine H _ _ E ?_
 clear H K
 refine jG ?_
 refine kL 4 ?_
 refine kP (k:=5) rfl bG6 rfl (λK H=>?_)
 obtain ⟨ce,dm,di,dq⟩:=jZ O
 obtain ⟨dn,dj,dl,dr⟩:=kAq O
 go_simp
 generalize G:World.setCell (World.setCell (World.setCell (World.setCell t2 _ _) _ _) _ _) _ _=t3
 have hT:Touch (λk=>k=w.heap.size + 1) t2 t3:=(by rw [<- G];exact sT4)
 replace O:Qr t3 (w.heap.size + 1) #[Qs a ps c,Qn n,Qn h,Qn lt] 38:=(by rw [<- G];exact kI (kI (kI (kI (O) 0) 1) 2) 3)
 have e7:=hT.size
 clear G ce dn dm dj di dl dq dr
 replace R:=hT.kC R bH3
 replace hc:=hc.touch hT bH3 bD5
 replace E:=E.trans (hT.wide (λk q=>.inr (.inr (q))))
 clear hT
 refine H _ _ E ?_
 clear H K
 refine jG ?_
 refine kL 6 ?_
 refine jg bG6 ?_
 obtain ⟨bc,ba,bg,be,bf,a9,a8,a7⟩:=yz R
 obtain ⟨az,ax,ay,au⟩:=jZ O
 have zS:=E.size
 go_wp2
 refine bodyPost_ret (v:=.tuple #[.agg #[Qs a0 U c0,Qn kc,Qs a1 xe c1,Qs a2 x2 c2,Qs a3 x3 c3,Qs a4 x4 c4,Qs a5 x5 c5,Qn x6],.int .i64 f,.agg #[Qs a ps c,Qn n,Qn h,Qn lt],.int .i64 50]) (by simp [results,results5,go_sem,bc,ba,bg,be,bf,a9,a8,a7,az,ax,ay,au]) rfl ⟨[Qs a0 U c0,Qn kc,Qs a1 xe c1,Qs a2 x2 c2,Qs a3 x3 c3,Qs a4 x4 c4,Qs a5 x5 c5,Qn x6],(U,(kc,xe),x2,x3,x4,x5,x6),f,[.slice a ps.length c,.int .i64 n,.int .i64 h,.int .i64 lt],(ps,n,h,lt),rfl,?_,HX.out,gg,?_,hn.1,hh,?_⟩
 · exact (I.out.touch E pV).wide (T:=jb w.heap.size _) mV
 · exact int_rdB ((HQ.out.jo.touch E pV).wide (T:=jb w.heap.size _) mV) hn.2 hh ht
 exact (J.ji (S:=λk=>k=p) E bD7).below nL bD5
end Go.Proofs.YtjhfdpopkkmigabGreat

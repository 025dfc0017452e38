/-
  The stable sort as Go has it (blocks of twenty, merges in place by rotation) and the insertion sort: the same list. No program in sight.
-/
import Derived.Test.YthocbplmdjkifaaGreatDrawA
set_option linter.unusedVariables false
set_option linter.defProp false
set_option linter.unusedSimpArgs false
set_option linter.unnecessarySimpa false
set_option maxRecDepth 100000
set_option maxHeartbeats 8000000
open Bool renaming true->Tt,false->Ff
open _root_ renaming List->Aa,Option->Au
open Go.RowKit renaming frozen?_alloc_cells->Ab
open List renaming append_assoc->Ac,pairwise_append->Ag,filter_append->Ah,pairwise_cons->Ai,eq_nil_of_length_eq_zero->Aj,filter_eq_nil_iff->Ap,set_append_right->Aq,take_append_drop->Ar
open Go.Act renaming put->Ad
open Go renaming World->Ae,Value->Ak,bodyPost_ret->Am
open Int renaming eq_ofNat_of_zero_le->Al
open Go.Value.slice renaming injEq->Av
open Option.some renaming injEq->Aw
open Go.Addr.mk renaming injEq->Ay
namespace Go.Proofs.YthocbplmdjkifaaGreat
open Go.RowKit _root_.Go.Proofs.Tryz
def rdB_at {α:Type} {r:kD α} {e:TypeId} {w:Ae} {a:Au Addr} {len cap:Nat} {xs:Aa α} {S:Nat->Prop} (h:(kD.slice e r).jr w [.slice a len cap] xs S) (h0:0 < xs.length):∃ b off,a=some ⟨b,off,none⟩/\S b:=by
 obtain ⟨⟨a',E,cap',h0,h1,h2,h3,h4⟩,cv,N⟩:=h;simp only [List.cons.injEq,Av,and_true] at h0;obtain ⟨rfl,rfl,rfl⟩:=h0;rcases h4 with ⟨rfl,_⟩|⟨b,off,ha,cur,e',fr,p,c,q,hb,hc,hp,hl,hf,hS,hx⟩
 · simp at h0
 exact ⟨b,off,ha,hS⟩
def DrawnV (w0 w:Ae) (p:Nat) (e:Ending) (w':Ae):Prop:=∃ a c ps n h t,e=.returned (.agg (Qk a ps c n h t))/\kR.own w' [Qs a ps c] ps (jg w w')/\(0<=n/\n<=39)/\(0<=h/\h<=4)/\(1<=t/\t<=8)/\ym w0 w' p/\Touch (λk=>k=p) w w'
def jCc {w0 w:Ae} {p:Nat} (hc:ym w0 w p) {cx:Aa Ak} {x:jX} (hx:jo.jr w cx x (λk=>¬ k=p)) (bi:x.2.2.1.length<=200) :
    Calls prog 27 #[.pointer (some ⟨p,0,none⟩),.agg cx.toArray] w λe w'=>DrawnV w0 w p e w':=by
 obtain ⟨bh,br⟩:=hc.lt
 obtain ⟨a0,c0,a1,c1,a2,c2,a3,c3,a4,c4,a5,c5,rfl⟩:=kCu hx.rd.1
 obtain ⟨x0,⟨kc,xe⟩,x2,x3,x4,x5,x6⟩:=x
 have hl:=(kEr (c0:=.slice a0 x0.length c0) hx).2.2.1
 have HL:=yD (hl.live.wide (T:=λk=>k < w.heap.size/\¬ k=p) (λk q=>⟨q.2,q.1⟩))
 replace bi:x2.length<=200:=bi
 clear hl hx
 go_enter func27,ntmps27
 go_upto_region 1 with fail
 refine kAe ?_
 intro w1 hb BX R bj
 replace HL:=yD (HL.out.below hb)
 obtain ⟨hc,O⟩:=DT
 clear hb
 go_wp2_with fail
 refine (kQv hc).mono ?_
 rintro e w2 ⟨a,c,ps,n,h,lt,rfl,hO,bu,hn,hh,ht,F,D⟩
 have bw:=D.size
 replace BX:=D.kC BX bF2
 replace R:=D.kC R bF2
 replace HL:=yD (HL.out.touch D qV)
 replace O:=O.trans D
 clear hc D
 have hc:=F
 clear F
 have J:=yD hO
 clear hO
 go_upto_region 2 with fail
 refine ja ?_
 intro w3 ah B bz
 replace BX:=kC BX ah
 replace R:=kC R ah
 replace HL:=yD (HL.out.below ah)
 obtain ⟨J,hc,O⟩:=xC
 clear ah
 obtain ⟨aa,ac,ae,ad,af,am,ao,ap⟩:=yu BX
 by_cases bl:0 < x2.length
 · have b0:(0:Int) < x2.length:=bF2;go_wp2_with fail;refine (yw (n:=3) hc bF1).mono ?_;rintro e w4 ⟨b_,rfl,F,D⟩;have b5:=D.size;replace BX:=D.kC BX bF2;obtain ⟨R,B⟩:=xK;replace HL:=yD (HL.out.touch D qV);obtain ⟨J,O⟩:=uS;clear aa ac ae ad af am ao ap hc D;have hc:=F;clear F;cases b_
   · go_wp2_with fail;refine (kZ (n:=40) hc bF1).mono ?_;rintro e w5 ⟨nn,ai,L,bf,rfl,F,D⟩;have b4:=D.size;replace BX:=D.kC BX bF2;obtain ⟨R,B⟩:=xK;replace HL:=yD (HL.out.touch D qV);obtain ⟨J,O⟩:=uS;clear hc D;have hc:=F;clear F;replace L:=L bF1;clear bf;obtain ⟨aq,av,ag,N⟩:=jW B;obtain ⟨aw,ax,a9,ba⟩:=zy B;go_upto_region 6 with fail;generalize o:World.setCell w5 _ _=w6;have V:Touch (λk=>k=w2.heap.size) w5 w6:=wY;replace B:Qr w6 w2 (Qk a ps c nn h lt) 38:=wF;have df:=V.size;clear o;replace BX:=V.kC BX bF2;replace R:=V.kC R bF2;replace HL:=yD (HL.out.touch V qV);replace J:=yD (J.out.touch V qV);replace hc:=hc.touch V bF2 bB6;replace O:=O.jJ V bF2;clear aq av ag N aw ax a9 ba V;exact dV
   go_upto_region 3 with fail;have dr:=hc.lt.2;obtain ⟨bb,off,rfl,ck⟩:=rdB_at HL.out bl;have bm:=ck.2;have au:=ck.1;clear ck;have FX:=yD (λ(W:Ae) (hW:Touch (λk=>k=p) w4 W/\ym w0 W p)=>kE (hW.1.kC BX bF2) (j:=3) (v:=.slice (some ⟨bb,off,none⟩) x2.length c2) rfl);refine yg (λW=>Touch (λk=>k=p) w4 W/\ym w0 W p) bE5 (⟨Touch.of_below bR.drew,hc.below bR.drew⟩) ?_;intro t E;have dt:=E.1.size;refine kT 0 ?_;refine kT 1 ?_;refine kT 2 ?_;refine kT 3 ?_;refine kT 4 ?_;refine kT 5 ?_;refine kIg ?_;intro T A hT hA;have bq:∀ (k:Nat) (na:Au Addr) (nc:Nat) (ra:Au Addr) (rc:Nat) (y:kF) (b:Nat) (W:Ae),Touch (λk=>k=p) w4 W/\ym w0 W p->(k < x2.length)->(Qc w4 bb (off + k * 3) (Qs na y.1 nc))->(Qc w4 bb (off + k * 3 + 1) (Qs ra y.2.1 rc))->(Qc w4 bb (off + k * 3 + 2) (Qn y.2.2))->(Hid (kR.jr w4 [Qs na y.1 nc] y.1 (λk=>k < w.heap.size/\¬ k=p)))->(w4.heap.size<=b/\b < W.heap.size)->(Qr W b #[Qs na y.1 nc,Qs ra y.2.1 rc,Qn y.2.2] 107)->T 0 [Tt,Tt,Tt,Tt,Tt,Tt,Tt,Tt,Tt,Tt,Tt] (Ad (Ad (Ad (Ad A (some 23) (Qn k)) (some 24) (.pointer (some ⟨bb,off + k * 3,none⟩))) (some 25) (.agg #[Qs na y.1 nc,Qs ra y.2.1 rc,Qn y.2.2])) (some 6) (.pointer (some ⟨b,0,none⟩))) W:=by
    intro k na nc ra rc y b W E hk ar hA1 hA2 Y Z BB;have bk:=E.1.size;subst hT;subst hA;simp only [Ad,zA,zB,zC];refine jv bE5 ?_;replace R:=E.1.kC R bF2;replace B:=E.1.kC B bF2;replace O:=O.trans E.1;replace Y:=yD (Y.out.touch E.1 (λk q h=>q.2 h));have zW:=E.1.size;clear hc;have hc:=E.2;have X:=BB;clear E BB BX HL J;obtain ⟨bt,bd,be⟩:=kBd X;obtain ⟨aq,av,ag,N⟩:=jW B;obtain ⟨aw,ax,a9,ba⟩:=zy B;go_wp2_with fail;refine (kMe (ca:=[.slice na y.1.length nc]) Y.out.rd).mono ?_;rintro e cc ⟨qa,qn,qc,rfl,hQ,hb⟩;have dq:=hb.size;replace R:=kC R hb;replace B:=kC B hb;replace X:=kC X hb;replace Y:=yD (Y.out.below hb);obtain ⟨hc,O⟩:=uT;clear bt bd be aq av ag N aw ax a9 ba hb;obtain ⟨_,_,_,bp,bo⟩:=hQ.parts;simp only [Av] at bp;obtain rfl:=bp.2.1.trans bo.out;clear bp bo;have HQ:=yD ((hQ.own Y.out.2.1).wide (T:=λj=>W.heap.size<=j/\j < cc.heap.size) sO);clear hQ Y;obtain ⟨aq,av,ag,N⟩:=jW B;obtain ⟨aw,ax,a9,ba⟩:=zy B;go_upto_region 5 with fail;generalize o:World.setCell cc _ _=cm;have bn:Touch (λk=>k=w2.heap.size) cc cm:=wY;replace B:Qr cm w2 (Qk qa y.1 qc n h lt) 38:=wG;have dl:=bn.size;clear o;replace R:=bn.kC R bF2;replace X:=bn.kC X bF2;replace HQ:=yD (HQ.out.touch bn qV);replace hc:=hc.touch bn bF2 bB6;replace O:=O.jJ bn bF2;clear aq av ag N aw ax a9 ba bn;go_wp2_with fail;refine (kZ (n:=40) hc bF1).mono ?_;rintro e b3 ⟨nn,ai,L,bf,rfl,F,D⟩;have b7:=D.size;obtain ⟨R,B⟩:=xK;replace X:=D.kC X bF2;obtain ⟨HQ,O⟩:=BM;clear hc D;have hc:=F;clear F;replace L:=L bF1;clear bf;obtain ⟨aq,av,ag,N⟩:=jW B;obtain ⟨aw,ax,a9,ba⟩:=zy B;go_upto_region 6 with fail;generalize o:World.setCell b3 _ _=b2;have bc:Touch (λk=>k=w2.heap.size) b3 b2:=wY;replace B:Qr b2 w2 (Qk qa y.1 qc nn h lt) 38:=wF;have b6:=bc.size;clear o;replace R:=bc.kC R bF2;replace X:=bc.kC X bF2;replace HQ:=yD (HQ.out.touch bc qV);replace hc:=hc.touch bc bF2 bB6;replace O:=O.jJ bc bF2;clear aq av ag N aw ax a9 ba bc;obtain ⟨aj,an,az,a8⟩:=jW R;obtain ⟨aq,av,ag,N⟩:=jW B;obtain ⟨ak,al,ay,a7⟩:=zy R;go_wp2;refine Am (v:=.agg (Qk qa y.1 qc nn h lt)) gP rfl ⟨qa,qc,y.1,nn,h,lt,rfl,?_,by omega,hh,ht,hc.touch sT4 bF2 bB6,O.jJ sT4 bF2⟩;exact (HQ.out.touch sT4 vK).wide fT
   have bv:∀ (k:Nat) (na:Au Addr) (nc:Nat) (ra:Au Addr) (rc:Nat) (y:kF) (b:Nat) (W:Ae),Touch (λk=>k=p) w4 W/\ym w0 W p->(k < x2.length)->(Qc w4 bb (off + k * 3) (Qs na y.1 nc))->(Qc w4 bb (off + k * 3 + 1) (Qs ra y.2.1 rc))->(Qc w4 bb (off + k * 3 + 2) (Qn y.2.2))->(Hid (kR.jr w4 [Qs na y.1 nc] y.1 (λk=>k < w.heap.size/\¬ k=p)))->(w4.heap.size<=b/\b < W.heap.size)->(Qr W b #[.slice none 0 0,.slice none 0 0,Qn 0] 107)->T 1 [Tt,Tt,Tt,Tt,Tt,Tt,Tt,Tt,Tt,Tt,Ff] (Ad (Ad (Ad (Ad A (some 23) (Qn k)) (some 24) (.pointer (some ⟨bb,off + k * 3,none⟩))) (some 25) (.agg #[Qs na y.1 nc,Qs ra y.2.1 rc,Qn y.2.2])) (some 6) (.pointer (some ⟨b,0,none⟩))) W:=by
    intro k na nc ra rc y b W E hk ar hA1 hA2 Y Z BB;have bk:=E.1.size;subst hT;subst hA;simp only [Ad,zA,zB,zC];refine kU (k:=10) rfl bE5 rfl (λK H=>?_);obtain ⟨dx,dj,dv⟩:=kBd BB;obtain ⟨cz,da,db⟩:=rowF3 BB;go_simp;generalize o:World.setCell (World.setCell (World.setCell W _ _) _ _) _ _=v;have hT:Touch (λk=>k=b) W v:=(by rw [<- o];exact sT3);replace BB:Qr v b #[Qs na y.1 nc,Qs ra y.2.1 rc,Qn y.2.2] 107:=(by rw [<- o];exact kG (kG (kG (BB) 0) 1) 2);clear o dx cz dj da dv db;have zv:=hT.size;replace Z:w4.heap.size<=b/\b < v.heap.size:=⟨Z.1,Nat.lt_of_lt_of_le Z.2 hT.size⟩;replace E:=And.intro (E.1.jJ hT bF2) (E.2.touch hT bF2 rC);refine H _ _ E ?_;clear H K;refine jH ?_;have h_:=bq k na nc ra rc y b v E hk ar hA1 hA2 Y Z BB;exact dW
   have T6:∀ (k:Nat) (na:Au Addr) (nc:Nat) (ra:Au Addr) (rc:Nat) (y:kF) (W:Ae),Touch (λk=>k=p) w4 W/\ym w0 W p->(k < x2.length)->(Qc w4 bb (off + k * 3) (Qs na y.1 nc))->(Qc w4 bb (off + k * 3 + 1) (Qs ra y.2.1 rc))->(Qc w4 bb (off + k * 3 + 2) (Qn y.2.2))->(Hid (kR.jr w4 [Qs na y.1 nc] y.1 (λk=>k < w.heap.size/\¬ k=p)))->T 2 [Tt,Tt,Tt,Tt,Tt,Tt,Tt,Tt,Tt,Ff,Ff] (Ad (Ad (Ad A (some 23) (Qn k)) (some 24) (.pointer (some ⟨bb,off + k * 3,none⟩))) (some 25) (.agg #[Qs na y.1 nc,Qs ra y.2.1 rc,Qn y.2.2])) W:=by
    intro k na nc ra rc y W E hk ar hA1 hA2 Y;have bk:=E.1.size;subst hT;subst hA;simp only [Ad,zA,zB,zC];refine kU (k:=9) rfl bE5 rfl (λK H=>?_);go_simp;refine ja ?_;intro v hb BB zv;obtain ⟨b,a6⟩:∃ b_,b_=W.heap.size:=⟨_,rfl⟩;rw [<- a6] at BB ⊢;obtain ⟨Z,E⟩:=FK;refine H _ _ E ?_;clear H K;exact dZ
   have T9:∀ (b:Nat) (W:Ae),Touch (λk=>k=p) w4 W/\ym w0 W p->(w4.heap.size<=b/\b < W.heap.size)->(Qr W b #[.slice none 0 0,.slice none 0 0,Qn 0] 107)->T 4 [Tt,Tt,Tt,Tt,Tt,Tt,Ff,Ff,Ff,Tt,Ff] (Ad A (some 6) (.pointer (some ⟨b,0,none⟩))) W:=by
    intro b W E Z BB;have bk:=E.1.size;subst hT;subst hA;simp only [Ad,zA,zB,zC];refine kU (k:=6) rfl bE5 rfl (λK H=>?_);go_simp;refine (kZ (n:=(x2.length:Int)) E.2 bF2).mono ?_;rintro e v ⟨x_,ai,L,bf,rfl,F,D⟩;have zv:=D.size;have b9:=Z.2;replace BB:=D.kC BB bF2;replace Z:w4.heap.size<=b/\b < v.heap.size:=⟨Z.1,Nat.lt_of_lt_of_le Z.2 D.size⟩;replace L:=L b0;clear bf;obtain ⟨k,rfl⟩:=Al ai;have hk:k < x2.length:=bF2;obtain ⟨b1,bx,ab,ce,bg,U⟩:=kD.kYg HL.out hk;simp only [Aw,Ay,and_true] at ab;obtain ⟨rfl,rfl⟩:=ab;obtain ⟨v0,v1,rfl,hN,hR,hs⟩:=kZz bg;obtain ⟨na,nc,rfl,_,ra,rc,rfl,_⟩:=kD.sx hN.rd.1 (kD.sl hR.rd.1);have ar:=U 0 _ rfl;have hA1:=U 1 _ rfl;have hA2:=U 2 _ rfl;simp only [Nat.add_zero,kEp] at ar hA1 hA2;have Y:=yD hN;obtain ⟨y,hy⟩:∃ y_,x2[k]=y_:=⟨_,rfl⟩;rw [hy] at ar hA1 hA2 Y;clear U bg hN hR hs hy;replace E:=And.intro (E.1.trans D) F;refine H _ _ E ?_;clear H K;refine jH ?_;refine kT 7 ?_;refine kCr (k:=8) (v:=?_) rfl bE5 qW rfl E (λW hW=>?_) ?_;rotate_left
    · have cv:=hW.1.kJr ar bF2;have dk:=hW.1.kJr hA1 bF2;have dz:=hW.1.kJr hA2 bF2;clear hW;go_simp;try with_reducible rfl
    exact dZ
   subst hT;subst hA;refine yH (i:=6) (j:=9) rfl rfl bE5 rfl rfl (λK H=>?_) (λK H=>?_)
   · go_simp;refine (kZ (n:=(x2.length:Int)) E.2 bF2).mono ?_;rintro e v ⟨x_,ai,L,bf,rfl,F,D⟩;have zv:=D.size;replace L:=L b0;clear bf;obtain ⟨k,rfl⟩:=Al ai;have hk:k < x2.length:=bF2;obtain ⟨b1,bx,ab,ce,bg,U⟩:=kD.kYg HL.out hk;simp only [Aw,Ay,and_true] at ab;obtain ⟨rfl,rfl⟩:=ab;obtain ⟨v0,v1,rfl,hN,hR,hs⟩:=kZz bg;obtain ⟨na,nc,rfl,_,ra,rc,rfl,_⟩:=kD.sx hN.rd.1 (kD.sl hR.rd.1);have ar:=U 0 _ rfl;have hA1:=U 1 _ rfl;have hA2:=U 2 _ rfl;simp only [Nat.add_zero,kEp] at ar hA1 hA2;have Y:=yD hN;obtain ⟨y,hy⟩:∃ y_,x2[k]=y_:=⟨_,rfl⟩;rw [hy] at ar hA1 hA2 Y;clear U bg hN hR hs hy;replace E:=And.intro (E.1.trans D) F;refine H _ _ E ?_;clear H K;refine jH ?_;refine kT 7 ?_;refine kCr (k:=8) (v:=?_) rfl bE5 qW rfl E (λW hW=>?_) ?_;rotate_left
     · have cv:=hW.1.kJr ar bF2;have dk:=hW.1.kJr hA1 bF2;have dz:=hW.1.kJr hA2 bF2;clear hW;go_simp;try with_reducible rfl
     refine jH ?_;have h_:=T6 k na nc ra rc y v E hk ar hA1 hA2 Y;exact dW
   go_simp;refine ja ?_;intro v hb BB zv;obtain ⟨b,a6⟩:∃ b_,b_=t.heap.size:=⟨_,rfl⟩;rw [<- a6] at BB ⊢;obtain ⟨Z,E⟩:=FK;refine H _ _ E ?_;clear H K;refine jH ?_;have h_:=T9 b v E Z BB;simp only [Ad,zA,zB,zC] at h_;exact h_
 have b0:¬ (0:Int) < x2.length:=bF2
 go_wp2_with fail
 refine (kZ (n:=40) hc bF1).mono ?_
 rintro e w4 ⟨nn,ai,L,bf,rfl,F,D⟩
 have b5:=D.size
 replace BX:=D.kC BX bF2
 obtain ⟨R,B⟩:=xK
 replace HL:=yD (HL.out.touch D qV)
 obtain ⟨J,O⟩:=uS
 clear aa ac ae ad af am ao ap hc D
 have hc:=F
 clear F
 replace L:=L bF1
 clear bf
 obtain ⟨aq,av,ag,N⟩:=jW B
 obtain ⟨aw,ax,a9,ba⟩:=zy B
 go_upto_region 6 with fail
 generalize o:World.setCell w4 _ _=w5
 have cg:Touch (λk=>k=w2.heap.size) w4 w5:=wY
 replace B:Qr w5 w2 (Qk a ps c nn h lt) 38:=wF
 have b4:=cg.size
 clear o
 replace BX:=cg.kC BX bF2
 replace R:=cg.kC R bF2
 replace HL:=yD (HL.out.touch cg qV)
 replace J:=yD (J.out.touch cg qV)
 replace hc:=hc.touch cg bF2 bB6
 replace O:=O.jJ cg bF2
 clear aq av ag N aw ax a9 ba cg
 exact dV
def DrawnPI (w:Ae) (e:Ending) (w':Ae):Prop:=∃ cs x f cq q,e=.returned (.tuple #[.agg cs.toArray,.int .i64 f,.agg cq.toArray,.int .i64 50])/\jo.jr w' cs x (jg w w')/\kHl x/\(-1<=f/\f<=7)/\jM.jr w' cq q (jg w w')/\(q.2.1 < 100\/1000000<=q.2.1)/\(-1<=q.2.2.1/\q.2.2.1<=17)/\Qb w w'
def int_rdB {w:Ae} {v:Ak} {ps:ko} {n h t:Int} {S:Nat->Prop} (k:kR.jr w [v] ps S) (hn:-1<=n/\n<=1000001) (hh:-1<=h/\h<=17) (ht:0<=t/\t<=21):jM.jr w [v,Qn n,Qn h,Qn t] (ps,n,h,t) S :=
  kD.kBa (r:=kR) (q:=.pair .int (.pair .int .int)) (z:=(ps,n,h,t)) (cs:=[v]) k (kD.flat.jr (kD.jl (cs:=[.int .i64 n]) (kD.ky bF2) (kD.jl (cs:=[.int .i64 h]) (kD.ky bF2) (kD.ky bF2))))
def kDq {w:Ae} {v:Ak} {ah:Aa UInt8} (Y:(kD.slice 5 kD.byte).raw w [v] ah) :
    Calls prog 5 #[v] w (DrawnPI w):=by
 obtain ⟨ca,cc,rfl,_⟩:=kD.sl Y
 go_enter func5,ntmps5
 go_upto_region 1 with fail
 refine kAe ?_
 intro w1 hb R N bj
 have U:=hb
 clear hb
 go_wp2_with fail
 refine (kJh Y U).mono ?_
 rintro e w2 ⟨p,rfl,hc,bh,L⟩
 have bw:=L.size
 have br:=hc.lt.2
 replace R:=kC R L
 replace N:=kC N L
 have O:Touch (λk=>k=p) w w2:=Touch.of_below (tQ U L)
 clear L U
 go_wp2_with fail
 refine (jFg hc).mono ?_
 rintro e w3 ⟨cs,x,ct,tr,tb,rfl,hO,hx,hT,hlt,⟨fd,ff⟩,F,D⟩
 have bz:=D.size
 replace R:=D.kC R bF2
 replace N:=D.kC N bF2
 replace O:=O.trans D
 clear hc D
 have hc:=F
 clear F
 obtain ⟨b0,ck,b6,dd,bb,dh,c7,c8,rfl⟩:=kLy hT.rd.1
 obtain ⟨a0,c0,a1,c1,a2,c2,a3,c3,a4,c4,a5,c5,rfl⟩:=kCu hO.rd.1
 obtain ⟨x0,⟨kc,xe⟩,x2,x3,x4,x5,x6⟩:=x
 replace hO:jo.jr _ [Qs a0 x0 c0,Qn kc,Qs a1 xe c1,Qs a2 x2 c2,Qs a3 x3 c3,Qs a4 x4 c4,Qs a5 x5 c5,Qn x6] (x0,(kc,xe),x2,x3,x4,x5,x6) _:=hO
 have J:=yD hO
 have HX:=yD hx
 clear hO hx hT hlt
 go_upto_region 3 with fail
 refine kAe ?_
 intro w4 hb BX BT b5
 replace R:=kC R hb
 replace N:=kC N hb
 replace J:=yD (J.out.below hb)
 obtain ⟨hc,O⟩:=uT
 clear hb
 obtain ⟨aa,ac,ae,ad,af,am,ao,ap⟩:=yu BX
 go_wp2_with fail
 refine (jCc hc (cx:=[.slice a0 x0.length c0,.int .i64 kc,.slice a1 xe.length c1,.slice a2 x2.length c2,.slice a3 x3.length c3,.slice a4 x4.length c4,.slice a5 x5.length c5,.int .i64 x6]) (J.out.wide vL) (by have:=HX.out.2.2.1.1;exact Nat.le_trans this bF1)).mono ?_
 rintro e w5 ⟨a,c,ps,n,h,lt,rfl,hQ,hn,hh,ht,F,D⟩
 have b4:=D.size
 obtain ⟨R,N,BX⟩:=EW
 replace BT:=D.kC BT bF2
 obtain ⟨J,O⟩:=uS
 clear aa ac ae ad af am ao ap hc D
 have hc:=F
 clear F
 have HQ:=yD hQ
 clear hQ
 go_upto_region 4 with fail
 refine ja ?_
 intro w6 au BW df
 replace R:=kC R au
 replace N:=kC N au
 replace BX:=kC BX au
 replace BT:=kC BT au
 replace J:=yD (J.out.below au)
 replace HQ:=yD (HQ.out.below au)
 obtain ⟨hc,O⟩:=BP
 clear au
 obtain ⟨X,V⟩:∃ b_,b_=w5.heap.size:=⟨_,rfl⟩
 rw [<- V] at BW ⊢
 have bt:=Nat.le_of_eq V
 have bp:=Nat.le_of_eq V.symm
 clear V
 replace HQ:=yD (HQ.out.wide (T:=(Ql w4 w6 X)) (λk q=>⟨q.1,by have:=q.2;omega,by have:=q.2;omega⟩))
 go_wp2_with fail
 refine (yw (n:=10) hc bF1).mono ?_
 rintro e w7 ⟨b_,rfl,F,D⟩
 have eo:=D.size
 obtain ⟨R,N,BX⟩:=EW
 replace BT:=D.kC BT bF2
 replace BW:=D.kC BW bF2
 replace J:=yD (J.out.touch D qV)
 obtain ⟨HQ,O⟩:=BM
 clear hc D
 have hc:=F
 clear F
 have ag:Touch (λk=>k=p\/k=X) w7 w7:=Touch.of_below bR
 replace HQ:=yD (HQ.out.wide (T:=(Ql w4 w7 X)) qN)
 go_upto_if 22 with fail
 go_cut [] from 23 to 24 (λwc=>∃ (a:Au Addr) (c:Nat) (ps:ko) (n h lt:Int),Qr wc X (Qk a ps c n h lt) 38/\Hid (kR.own wc [Qs a ps c] ps (Ql w4 wc X))/\(((n < 100\/1000000<=n)/\-1<=n/\n<=1000001)/\(-1<=h/\h<=17)/\(0<=lt/\lt<=21))/\ym w wc p/\Touch (λk=>k=p\/k=X) w7 wc)
 case first =>
  clear R N BX BT O J HX;cases b_
  · go_wp2;go_meet;exact ⟨a,c,ps,n,h,lt,BW,yD (HQ.out.wide (T:=(Ql w4 w7 X)) qN),⟨⟨by omega,by omega⟩,by omega,by omega⟩,hc,ag⟩
  go_wp2_with fail;refine (kWm hc).mono ?_;rintro e b8 ⟨a2,c2,qs,n2,h2,t2,rfl,hZ,dp,bm,ak,ar,F,D⟩;have cg:=D.size;replace ag:=ag.yB D nD;replace BW:=D.kC BW bF2;replace HQ:=yD (HQ.out.touch D pR);clear hc D;have hc:=F;clear F;have HZ:=yD hZ;clear hZ HQ;obtain ⟨al,aj,ai,aq⟩:=jW BW;obtain ⟨a8,ba,Z,av⟩:=zy BW;go_wp2;generalize o:World.setCell (World.setCell (World.setCell (World.setCell b8 _ _) _ _) _ _) _ _=be;have hT:Touch (λk=>k=X) b8 be:=bA6;replace BW:Qr be X (Qk a2 qs c2 n2 h2 t2) 38:=by rw [<- o];exact kG (kG (kG (kG (BW) 0) 1) 2) 3
  have cm:=hT.size;clear o al aj ai aq a8 ba Z av;replace HZ:=yD (HZ.out.touch hT pR);obtain ⟨hc,ag⟩:=xG;clear hT;go_meet;exact ⟨a2,c2,qs,n2,h2,t2,BW,yD (HZ.out.wide (T:=(Ql w4 be X)) gF),⟨⟨by omega,by omega⟩,by omega,by omega⟩,hc,ag⟩
 clear HQ BW ag BT
 rename Ae=>wd
 obtain ⟨a,c,ps,n,h,lt,BW,HQ,⟨hn,hh,ht⟩,ch,bg⟩:=hcut
 replace R:=bg.kC R bF2
 replace N:=bg.kC N bF2
 replace BX:=bg.kC BX bF2
 replace J:=yD (J.out.touch bg pR)
 replace O:=O.yB bg bB8
 have bq:=bg.size
 clear hc bg
 have hc:=ch
 clear ch
 go_wp2_with fail
 refine (kZ (n:=5) hc bF1).mono ?_
 rintro e e9 ⟨f,ei,dr,eg,rfl,F,D⟩
 have e1:=D.size
 obtain ⟨R,N,BX⟩:=EW
 replace BW:=D.kC BW bF2
 replace J:=yD (J.out.touch D qV)
 obtain ⟨HQ,O⟩:=BM
 clear hc D
 have hc:=F
 clear F
 replace dr:=dr bF1
 clear eg
 go_wp2_with fail
 refine (yw (n:=12) hc bF1).mono ?_
 rintro e ek ⟨b_,rfl,F,D⟩
 have e4:=D.size
 obtain ⟨R,N,BX⟩:=EW
 replace BW:=D.kC BW bF2
 replace J:=yD (J.out.touch D qV)
 obtain ⟨HQ,O⟩:=BM
 clear hc D
 have hc:=F
 clear F
 have ag:Touch (λk=>k=p) ek ek:=Touch.of_below bR
 go_upto_if 28 with fail
 go_cut [10] from 29 to 31 (λdz wc=>∃ f:Int,dz=.int .i64 f/\(-1<=f/\f<=7)/\ym w wc p/\Touch (λk=>k=p) ek wc)
 case first =>
  clear R N BX BW O J HX HQ;cases b_
  · go_wp2;go_meet;exact ⟨f,rfl,by omega,hc,ag⟩
  go_wp2_with fail;refine (kAd (hc.below (bR.alloc nL _)) (kD.kEh _ [-1,6,7] bF1 bF1) (by have:=hc.lt;omega) bF1 bF1).mono ?_;rintro e bu ⟨y,bd,bv,rfl,F,D⟩;replace D:=(Touch.of_below (S:=λk=>k=p) (bR.alloc nL _)).trans D;have bn:=D.size;replace ag:=ag.yB D nD;clear hc D;have hc:=F;clear F;have ab:-1<=y/\y<=7:=bB5;clear bd bv;go_wp2;go_meet;exact ⟨y,rfl,ab,hc,ag⟩
 clear ag ei dr
 rename Ae=>wy
 obtain ⟨f,rfl,gh,ch,bg⟩:=hcut
 replace R:=bg.kC R bF2
 replace N:=bg.kC N bF2
 replace BX:=bg.kC BX bF2
 replace BW:=bg.kC BW bF2
 replace J:=yD (J.out.touch bg pR)
 replace HQ:=yD (HQ.out.touch bg pR)
 replace O:=O.trans bg
 have bo:=bg.size
 clear hc bg
 have hc:=ch
 clear ch
 go_upto_region 9 with fail
 have FX:=yD (λ(W:Ae) (hW:Touch (λk=>k=p\/k=w.heap.size\/k=w.heap.size + 1) wy W)=>And.intro (kE (hW.kC BX bF2) (j:=0) (v:=Qs a0 x0 c0) rfl) (And.intro (kE (hW.kC BX bF2) (j:=1) (v:=.int .i64 kc) rfl) (And.intro (kE (hW.kC BX bF2) (j:=2) (v:=Qs a1 xe c1) rfl) (And.intro (kE (hW.kC BX bF2) (j:=3) (v:=Qs a2 x2 c2) rfl) (And.intro (kE (hW.kC BX bF2) (j:=4) (v:=Qs a3 x3 c3) rfl) (And.intro (kE (hW.kC BX bF2) (j:=5) (v:=Qs a4 x4 c4) rfl) (And.intro (kE (hW.kC BX bF2) (j:=6) (v:=Qs a5 x5 c5) rfl) (And.intro (kE (hW.kC BX bF2) (j:=7) (v:=.int .i64 x6) rfl) (And.intro (kE (hW.kC BW bF2) (j:=0) (v:=Qs a ps c) rfl) (And.intro (kE (hW.kC BW bF2) (j:=1) (v:=.int .i64 n) rfl) (And.intro (kE (hW.kC BW bF2) (j:=2) (v:=.int .i64 h) rfl) (kE (hW.kC BW bF2) (j:=3) (v:=.int .i64 lt) rfl))))))))))))
 refine kCn (λW=>Touch (λk=>k=p\/k=w.heap.size\/k=w.heap.size + 1) wy W) bE5 (Touch.of_below bR.drew) ?_
 intro t1 di E
 have bD:Qb wy t1:=(by rw [di];exact bR.drew)
 replace R:=kC R bD
 replace N:=kC N bD
 replace hc:=hc.below bD
 have bf:=bD.size
 clear bD di
 refine kT 0 ?_
 refine kT 1 ?_
 refine kT 2 ?_
 refine kU (k:=3) rfl bE5 rfl (λK H=>?_)
 obtain ⟨cw,db,cz,de,eb,d3,ea,ed⟩:=yu R
 obtain ⟨dc,c6,da,dg,d9,d7,ec,d8⟩:=kIo R
 go_simp
 generalize o:World.setCell (World.setCell (World.setCell (World.setCell (World.setCell (World.setCell (World.setCell (World.setCell t1 _ _) _ _) _ _) _ _) _ _) _ _) _ _) _ _=t2
 have hT:Touch (λk=>k=w.heap.size) t1 t2:=(by rw [<- o];exact sT8)
 replace R:Qr t2 w (Qh a0 x0 c0 kc a1 xe c1 a2 x2 c2 a3 x3 c3 a4 x4 c4 a5 x5 c5 x6) 33:=(by rw [<- o];exact kG (kG (kG (kG (kG (kG (kG (kG (R) 0) 1) 2) 3) 4) 5) 6) 7)
 have ez:=hT.size
 clear o cw dc db c6 cz da de dg eb d9 d3 d7 ea ec ed d8
 replace N:=hT.kC N bF2
 replace hc:=hc.touch hT bF2 bB6
 replace E:=E.trans (hT.wide (λk q=>.inr (.inl q)))
 clear hT
 refine H _ _ E ?_
 clear H K
 refine jH ?_
 refine kT 4 ?_
 refine kU (k:=5) rfl bE5 rfl (λK H=>?_)
 obtain ⟨cw,db,cz,de⟩:=jW N
 obtain ⟨dc,c6,da,dg⟩:=zy N
 go_simp
 generalize o:World.setCell (World.setCell (World.setCell (World.setCell t2 _ _) _ _) _ _) _ _=t3
 have hT:Touch (λk=>k=w.heap.size + 1) t2 t3:=(by rw [<- o];exact sT4)
 replace N:Qr t3 (w.heap.size + 1) (Qk a ps c n h lt) 38:=(by rw [<- o];exact kG (kG (kG (kG (N) 0) 1) 2) 3)
 have eu:=hT.size
 clear o cw dc db c6 cz da de dg
 replace R:=hT.kC R bF2
 replace hc:=hc.touch hT bF2 bB6
 replace E:=E.trans (hT.wide (λk q=>.inr (.inr (q))))
 clear hT
 refine H _ _ E ?_
 clear H K
 refine jH ?_
 refine kT 6 ?_
 refine jv bE5 ?_
 obtain ⟨az,ay,a9,a6,a7,ax,aw,an⟩:=yu R
 obtain ⟨bl,bi,bk,bc⟩:=jW N
 have zS:=E.size
 go_wp2
 refine Am (v:=.tuple #[.agg (Qh a0 x0 c0 kc a1 xe c1 a2 x2 c2 a3 x3 c3 a4 x4 c4 a5 x5 c5 x6),.int .i64 f,.agg (Qk a ps c n h lt),.int .i64 50]) (by simp [results,results5,go_sem,az,ay,a9,a6,a7,ax,aw,an,bl,bi,bk,bc]) rfl ⟨[Qs a0 x0 c0,Qn kc,Qs a1 xe c1,Qs a2 x2 c2,Qs a3 x3 c3,Qs a4 x4 c4,Qs a5 x5 c5,Qn x6],(x0,(kc,xe),x2,x3,x4,x5,x6),f,[.slice a ps.length c,.int .i64 n,.int .i64 h,.int .i64 lt],(ps,n,h,lt),rfl,?_,HX.out,gh,?_,hn.1,hh,?_⟩
 · exact (J.out.touch E pR).wide (T:=jg w _) nK
 · exact int_rdB ((HQ.out.jr.touch E pR).wide (T:=jg w _) nK) hn.2 hh ht
 exact (O.yB (S:=λk=>k=p) E bB8).below nL bB6
def DrawnIR (w:Ae) (e:Ending) (w':Ae):Prop:=∃ la lc l a c ps k,e=.returned (.tuple #[.slice la l.length lc,.agg #[Qs a ps c],.int .i64 k])/\(kD.slice 107 kH).jr w' [Qs la l lc] l (jg w w')/\kR.jr w' [Qs a ps c] ps (jg w w')/\(0<=k/\k<=4)/\Qb w w'
def kIj {w:Ae} {v:Ak} {ah:Aa UInt8} (Y:(kD.slice 5 kD.byte).raw w [v] ah) :
    Calls prog 7 #[v] w (DrawnIR w):=by
 obtain ⟨ca,cc,rfl,_⟩:=kD.sl Y
 go_enter func7,ntmps7
 go_upto_region 1 with fail
 refine ja ?_
 intro w1 ar R bj
 have U:=ar
 clear ar
 go_wp2_with fail
 refine (kJh Y U).mono ?_
 rintro e w2 ⟨p,rfl,hc,bh,L⟩
 have bw:=L.size
 have br:=hc.lt.2
 replace R:=kC R L
 have O:Touch (λk=>k=p) w w2:=Touch.of_below (tQ U L)
 clear L U
 go_wp2_with fail
 refine (kSx hc).mono ?_
 rintro e w3 ⟨la,lc,l,rfl,a1,hO,F,D⟩
 have bz:=D.size
 replace R:=D.kC R bF2
 replace O:=O.trans D
 clear hc D
 have hc:=F
 clear F
 have J:=yD (hO)
 clear hO
 go_wp2_with fail
 refine (jCg hc (J.out.wide vL) (by have:=a1.1;omega)).mono ?_
 rintro e w4 ⟨a,c,ps,n,h,lt,rfl,hr,hn,hh,ht,F,D⟩
 have b5:=D.size
 replace R:=D.kC R bF2
 obtain ⟨J,O⟩:=uS
 clear hc D
 have hc:=F
 clear F
 have HQ:=yD (hr.jr)
 clear hr
 have ad:Sem.run prog (Instr.field 38 (.agg (Qk a ps c n h lt)) 0) w4=.ok (.agg #[Qs a ps c]) w4:=bE5
 go_wp2_with fail
 refine (kZ (n:=5) hc bF1).mono ?_
 rintro e w5 ⟨k,b9,ce,dt,rfl,F,D⟩
 have b4:=D.size
 replace R:=D.kC R bF2
 replace J:=yD (J.out.touch D qV)
 obtain ⟨HQ,O⟩:=BM
 clear hc D
 have hc:=F
 clear F
 replace ce:=ce bF1
 clear dt
 have aj:Qd w5 w 0 (.slice none 0 0):=kE R rfl
 have ak:w5.frozen? ⟨w,0,none⟩=false:=frozen_of_row w5 (w.heap.size) 0 _ _ R
 go_wp2
 refine Am (v:=.tuple #[.slice la l.length lc,.agg #[Qs a ps c],.int .i64 k]) (by simp [results,results7,go_sem,aj,ak]) rfl ⟨la,lc,l,a,c,ps,k,rfl,?_,?_,by omega,?_⟩
 · exact (J.out.touch (jm w5 w 0 _) vB).wide fT
 · exact (HQ.out.touch (jm w5 w 0 _) vB).wide fT
 exact (O.below nL bB6).setCell bF3 _
def wrap_rng (z:Int):-9223372036854775808<=wrap64 z/\wrap64 z<=9223372036854775807:=by unfold wrap64;omega
def zI:jE:=([],0,0,0)
def kFy (x:jX):jX:=jDl x (wrap64 (x.2.2.2.2.2.2 + 1))
def kLn {x0:Aa jQ} {x1:kg} {x2:Aa kF} {x3:Aa jK} {x4:Aa jI} {x5:Aa kW} {x6:Int}:kFy (x0,x1,x2,x3,x4,x5,x6)=(x0,x1,x2,x3,x4,x5,wrap64 (x6 + 1)):=rfl
def zI_own {w:Ae} {S:Nat->Prop}:jM.own w [.slice none 0 0,Qn 0,Qn 0,Qn 0] zI S :=
  kPk (kD.kBg (cs:=[.int .i64 0]) (kD.ky bF2) (kD.kBg (cs:=[.int .i64 0]) (kD.ky bF2) (kD.flat.own (kD.ky bF2))))
def jAh {w:Ae} {f:Int} {dc:Aa Ak} {D:jQ} {S:Nat->Prop} (hf:Qi f) (h:jF.own w dc D S) :
    jO.own w ([.int .i64 f,.bool false,.slice none 0 0,.int .i64 0,.int .i64 0,.int .i64 0]++dc) (f,false,zI,D) S :=
  kD.kBg (r:=kD.int) (q:=kD.pair kD.bool (kD.pair jM jF)) (cs:=[.int .i64 f]) (kD.ky hf) (kD.kBg (r:=kD.bool) (q:=kD.pair jM jF) (cs:=[.bool false]) (kD.kPp false)
    (kD.jq (r:=jM) (q:=jF) (cs:=[.slice none 0 0,.int .i64 0,.int .i64 0,.int .i64 0]) (A:=λ_=>False) (B:=S) zI_own h (λ_ h=>h.elim) (λ_ h=>h) (λ_ h _=>h)))
def kMv {w:Ae} {c0 c1 c2 c3 c4 c5 N o v:Ak} {x:jX} {l:Aa ji} {A B S:Nat->Prop} (h:jo.own w [c0,c1,c2,c3,c4,c5,N,o] x A) (k:(kD.slice 62 jO).own w [v] l B) (hA:∀ j,A j->S j) (hB:∀ j,B j->S j) (hd:∀ j,A j->B j->False) :
    kDe.own w [c0,c1,c2,c3,c4,c5,N,o,v] (x,l) S:=kD.jq (r:=jo) (q:=(kD.slice 62 jO)) (cs:=[c0,c1,c2,c3,c4,c5,N,o]) (ds:=[v]) h k hA hB hd
def own0_box {α:Type} {r:kD α} {w:Ae} {e:TypeId} {b:Nat} {cs:Aa Ak} {y:α} {T:Nat->Prop} (hw:w.heap[b]?=some (.cells cs.toArray e (0,0))) (h:r.own w cs y T) (hT:¬ T b):kD.kY e r w (.slice (some ⟨b,0,none⟩) 1 1) [y] (λk=>T k\/k=b):=by
 have hl:=r.len h.1;refine ⟨λx hx=>by rw [List.mem_singleton.1 hx];exact h.2,.inr ⟨b,1,cs.toArray,cs,[],rfl,by simp,by decide,hw,by simp,by simpa using hl,.inr rfl,?_⟩⟩;exact kD.kDh (r.wide h.1 (λk hk=>⟨.inl hk,λe=>hT (e ▸ hk)⟩))
def kMk {w:Ae} {c0 c1 c2 c3 c4 c5 N o:Ak} {x0:Aa jQ} {x1:kg} {x2:Aa kF} {x3:Aa jK} {x4:Aa jI} {x5:Aa kW} {x6 y:Int} {S:Nat->Prop} (h:jo.own w [c0,c1,c2,c3,c4,c5,N,o] (x0,x1,x2,x3,x4,x5,x6) S) (hy:Qi y) :
    jo.own w [c0,c1,c2,c3,c4,c5,N,Qn y] (x0,x1,x2,x3,x4,x5,y) S:=⟨RNode_set7 y hy h.1,h.2⟩
def jAl {w:Ae} {c0 c1 c2 c3 c4 c5 N o:Ak} {x0:Aa jQ} {x1:kg} {x2:Aa kF} {x3:Aa jK} {x4:Aa jI} {x5:Aa kW} {x6:Int} (h:jo.rd w [c0,c1,c2,c3,c4,c5,N,o] (x0,x1,x2,x3,x4,x5,x6)):(kD.slice 107 kH).rd w [c3] x2:=⟨jEd h.1,h.2.2.2.1⟩
def kQu {w:Ae} {cx:Aa Ak} {x:jX} (hx:jo.rd w cx x) :
    Calls prog 53 #[.agg cx.toArray] w (kAb kDe (kFy x,[]) w):=by
 obtain ⟨x0,⟨xc,xe⟩,x2,x3,x4,x5,x6⟩:=x
 have HX:=yD hx
 obtain ⟨f6,f4,gp,gm,gj,gb,rfl,V,a9,bl,bi,bg,bo,b1,cf,du⟩:=yO hx.1
 obtain ⟨em,d7,rfl,gi,dx,dw,rfl,gf,e9,e6,rfl,gx,e7,e4,rfl,gz,e0,ey,rfl,g3,en,ej,rfl,gv⟩:=kD.sx V (kD.sx bi (kD.sx bg (kD.sx bo (kD.sx b1 (kD.sl cf)))))
 clear hx V a9 bl bi bg bo b1 cf du
 go_enter func53,ntmps53
 go_upto_region 1 with fail
 refine kAe ?_
 intro w1 U BX BR bj
 obtain ⟨aa,ac,ae,ad,af,am,ao,ap⟩:=yu BX
 go_wp2_with fail
 refine (kIk (HX.out.below U)).mono ?_
 rintro e w2 ⟨cs,rfl,O,hb⟩
 have bw:=hb.size
 replace BX:=kC BX hb
 obtain ⟨BR,U⟩:=CQ
 clear aa ac ae ad af am ao ap hb
 obtain ⟨hv,ib,it,iq,io,ik,rfl,fl,e8,fy,fk,e1,fz,f0,f5,gt⟩:=yO O.raw
 obtain ⟨bt,bu,rfl,hu,c5,de,rfl,ih,dz,d6,rfl,ip,dh,dg,rfl,iu,ch,ck,rfl,im,cl,cm,rfl,ij⟩:=kD.sx fl (kD.sx fk (kD.sx e1 (kD.sx fz (kD.sx f0 (kD.sl f5)))))
 clear fl e8 fy fk e1 fz f0 f5 gt
 go_upto_region 2 with fail
 have J:=yD O
 clear O
 replace J:=yD (J.out.wide (T:=(λj=>w.heap.size + 2<=j/\j < w2.heap.size/\j≠w2.heap.size)) gH)
 refine ja ?_
 intro w3 ah BO bz
 replace BX:=kC BX ah
 obtain ⟨BR,J,U⟩:=xZ
 clear ah
 obtain ⟨X,N,Z,R,ak,a6,an,a7⟩:=yu BO
 obtain ⟨I,a2,ba,bc,bk,bq,bp,bn⟩:=kIo BO
 go_upto_region 3 with fail
 generalize ft:wrap64 (x6 + 1)=y6
 have g7:Hid (Qi y6):=yD (by rw [<- ft];exact wrap_rng _)
 have HD:=yD (show kFy (x0,(xc,xe),x2,x3,x4,x5,x6)=(x0,(xc,xe),x2,x3,x4,x5,y6) by rw [kLn,ft])
 clear ft
 generalize o:World.setCell w3 _ _=w4
 have D:Touch (λk=>k=w2.heap.size) w3 w4:=wY
 replace BO:Qr w4 w2 (Qh bt x0 bu xc c5 xe de dz x2 d6 dh x3 dg ch x4 ck cl x5 cm y6) 33:=vY
 have b5:=D.size
 clear o
 replace BX:=D.kC BX bF2
 obtain ⟨BR,J,U⟩:=EJ
 clear X N Z R ak a6 an a7 I a2 ba bc bk bq bp bn D
 replace J:=yD (kMk J.out g7.out)
 obtain ⟨X,N,Z,R,ak,a6,an,a7⟩:=yu BO
 obtain ⟨ay,az,bf,be,b2,c8,c7,dc,c9⟩:=zM BR
 obtain ⟨al,aj,bb,bd,bx,cz,c3,c1,c4⟩:=kCb BR
 have F:(World.alloc w4 (.cells #[] 62)).frozen? ⟨w.heap.size + 1,0,none⟩=false:=(Ab _ _ _ _).trans al
 have a3:(World.alloc w4 (.cells #[] 62)).cell? ⟨w.heap.size + 1,0,none⟩=some (.slice none 0 0):=kE (kC BR (bR.alloc nL _)) rfl
 have H:(World.alloc w4 (.cells #[] 62)).frozen? ⟨w.heap.size + 1,1,none⟩=false:=(Ab _ _ _ _).trans aj
 have a1:(World.alloc w4 (.cells #[] 62)).cell? ⟨w.heap.size + 1,1,none⟩=some (.int .i64 0):=kE (kC BR (bR.alloc nL _)) rfl
 have ab:(World.alloc w4 (.cells #[] 62)).frozen? ⟨w.heap.size + 1,2,none⟩=false:=(Ab _ _ _ _).trans bb
 have aw:(World.alloc w4 (.cells #[] 62)).cell? ⟨w.heap.size + 1,2,none⟩=some (.slice none 0 0):=kE (kC BR (bR.alloc nL _)) rfl
 have au:(World.alloc w4 (.cells #[] 62)).frozen? ⟨w.heap.size + 1,3,none⟩=false:=(Ab _ _ _ _).trans bd
 have aq:(World.alloc w4 (.cells #[] 62)).cell? ⟨w.heap.size + 1,3,none⟩=some (.slice none 0 0):=kE (kC BR (bR.alloc nL _)) rfl
 have ai:(World.alloc w4 (.cells #[] 62)).frozen? ⟨w.heap.size + 1,4,none⟩=false:=(Ab _ _ _ _).trans bx
 have W:(World.alloc w4 (.cells #[] 62)).cell? ⟨w.heap.size + 1,4,none⟩=some (.slice none 0 0):=kE (kC BR (bR.alloc nL _)) rfl
 have ar:(World.alloc w4 (.cells #[] 62)).frozen? ⟨w.heap.size + 1,5,none⟩=false:=(Ab _ _ _ _).trans cz
 have ag:(World.alloc w4 (.cells #[] 62)).cell? ⟨w.heap.size + 1,5,none⟩=some (.slice none 0 0):=kE (kC BR (bR.alloc nL _)) rfl
 have E:(World.alloc w4 (.cells #[] 62)).frozen? ⟨w.heap.size + 1,6,none⟩=false:=(Ab _ _ _ _).trans c3
 have a4:(World.alloc w4 (.cells #[] 62)).cell? ⟨w.heap.size + 1,6,none⟩=some (.slice none 0 0):=kE (kC BR (bR.alloc nL _)) rfl
 have L:(World.alloc w4 (.cells #[] 62)).frozen? ⟨w.heap.size + 1,7,none⟩=false:=(Ab _ _ _ _).trans c1
 have av:(World.alloc w4 (.cells #[] 62)).cell? ⟨w.heap.size + 1,7,none⟩=some (.int .i64 0):=kE (kC BR (bR.alloc nL _)) rfl
 have Y:(World.alloc w4 (.cells #[] 62)).frozen? ⟨w.heap.size + 1,8,none⟩=false:=(Ab _ _ _ _).trans c4
 have ax:(World.alloc w4 (.cells #[] 62)).cell? ⟨w.heap.size + 1,8,none⟩=some (.slice none 0 0):=kE (kC BR (bR.alloc nL _)) rfl
 go_wp2
 refine Am (v:=.agg #[Qs bt x0 bu,Qn xc,Qs c5 xe de,Qs dz x2 d6,Qs dh x3 dg,Qs ch x4 ck,Qs cl x5 cm,Qn y6,.slice (some ⟨w4,0,none⟩) 0 0]) (by simp [results,results53,go_sem,a3,F,a1,H,aw,ab,aq,au,W,ai,ag,ar,a4,E,av,L,ax,Y]) rfl ⟨[Qs bt x0 bu,Qn xc,Qs c5 xe de,Qs dz x2 d6,Qs dh x3 dg,Qs ch x4 ck,Qs cl x5 cm,Qn y6,.slice (some ⟨w4,0,none⟩) 0 0],rfl,?_,?_⟩
 · rw [HD.out];exact kMv (A:=λj=>w.heap.size + 2<=j/\j < w4.heap.size/\j≠w2.heap.size) (B:=λ_=>False) (((J.out.wide (T:=λj=>w.heap.size + 2<=j/\j < w4.heap.size/\j≠w2.heap.size) qP).below (bR.alloc nL _)).touch sT9 sW) kD.yF fI (λ_ h=>h.elim) (λ_ _ h=>h)
 exact U.trans (Below.trans (bR.alloc U.size _) (Touch.below sT9 (by simp;have:=U.size;omega) bB6))
def kUo {w:Ae} {vl:Ak} {l:Aa kF} (hl:(kD.slice 107 kH).raw w [vl] l) {cn:Aa Ak} {n:ko} (hn:kR.raw w cn n) :
    Calls prog 61 #[vl,.agg cn.toArray] w (bQ w (.bool (decide (0<=idxOf (jV n) l)))):=by
 have HL:=yD hl
 have Y:=yD hn
 obtain ⟨la,lp,rfl,ll⟩:=kD.sl hl
 obtain ⟨av,rfl,V⟩:=kw hn
 obtain ⟨na,np,rfl,_⟩:=kD.sl V
 clear hl hn V
 go_enter func61,ntmps61
 go_wp2_with fail
 refine (kCt (HL.out.below bI) (Y.out.below bI)).mono ?_
 exact lF
def kVl {w:Ae} {vl:Ak} {l:Aa kF} (hl:(kD.slice 107 kH).raw w [vl] l) {cn:Aa Ak} {n:ko} (hn:kR.raw w cn n) :
    Calls prog 42 #[vl,.agg cn.toArray] w (bQ w (.bool (decide (0<=idxOf (jV n) l)))):=by
 have HL:=yD hl
 have Y:=yD hn
 obtain ⟨la,lp,rfl,ll⟩:=kD.sl hl
 obtain ⟨av,rfl,V⟩:=kw hn
 obtain ⟨na,np,rfl,_⟩:=kD.sl V
 clear hl hn V
 go_enter func42,ntmps42
 go_wp2_with fail
 refine (kBn (HL.out.below bI) (Y.out.below bI)).mono ?_
 exact lF
end Go.Proofs.YthocbplmdjkifaaGreat
namespace Go.Proofs.YthocbplmdjkifaaGreat.Srt
section
variable {α:Type} (key:α->Int)
def Asc (l:Aa α):Prop:=l.Pairwise (λa b=>key a<=key b)
def Same (l o:Aa α):Prop:=∀ v,l.filter (λx=>decide (key x=v))=o.filter (λx=>decide (key x=v))
variable {key}
def Same.refl (l:Aa α):Same key l l:=λ_=>rfl
def Same.symm {l o:Aa α} (h:Same key l o):Same key o l:=λv=>(h v).symm
def Same.trans {a b c:Aa α} (h:Same key a b) (k:Same key b c):Same key a c:=λv=>(h v).trans (k v)
def Same.append {a a' b b':Aa α} (h:Same key a a') (k:Same key b b'):Same key (a++b) (a'++b'):=λv=>by
  rw [Ah,Ah,h v,k v]
def Same.mem {l o:Aa α} (h:Same key l o) {x:α} (hx:x∈l):x∈o:=by
 have h1:x∈l.filter (λy=>decide (key y=key x)):=by simp [hx]
 rw [h] at h1;exact (List.mem_filter.1 h1).1
def Same.nil {l:Aa α} (h:Same key [] l):l=[]:=by
 cases l with
 | nil=>rfl
 | cons y ys=>exact absurd (h.symm.mem (List.mem_cons_self)) bF3
def Same.swap {a b:Aa α} (h:∀ x∈a,∀ y∈b,key x≠key y):Same key (a++b) (b++a):=λv=>by
  rw [Ah,Ah];by_cases hv:∃ x∈a,key x=v
  · obtain ⟨x,hx,rfl⟩:=hv;have:b.filter (λz=>decide (key z=key x))=[]:=by
      rw [Ap];intro y hy q;exact h x hx y hy (by simpa using (of_decide_eq_true q).symm)
    rw [this];simp
  · have:a.filter (λz=>decide (key z=v))=[]:=by
      rw [Ap];intro y hy q;exact hv ⟨y,hy,of_decide_eq_true q⟩
    rw [this];simp
def uniq:∀ {l o:Aa α},Asc key l->Asc key o->Same key l o->l=o
  | [],o,_,_,h=>h.nil.symm
  | l,[],_,_,h=>h.symm.nil
  | x :: xs,y :: ys,h1,h2,h=>by
    have hk:∀ {x y:α} {xs ys:Aa α},Asc key (y :: ys)->Same key (x :: xs) (y :: ys)->key y<=key x:=by
      intro x y xs ys h2 h;have hm:=h.mem (List.mem_cons_self (a:=x) (l:=xs));rcases List.mem_cons.1 hm with e | e
      · rw [e];exact Int.le_refl _
      · exact (Ai.1 h2).1 x e
    have e:key x=key y:=Int.le_antisymm (hk h1 h.symm) (hk h2 h);have hx:=h (key x);rw [List.filter_cons_of_pos bF3,List.filter_cons_of_pos (by simp [e])] at hx;have D:x=y:=(List.cons.inj hx).1;subst D;congr 1;refine uniq (Ai.1 h1).2 (Ai.1 h2).2 (λv=>?_);have hv:=h v;by_cases q:key x=v
    · rw [List.filter_cons_of_pos (by simp [q]),List.filter_cons_of_pos (by simp [q])] at hv;exact (List.cons.inj hv).2
    · rw [List.filter_cons_of_neg (by simp [q]),List.filter_cons_of_neg (by simp [q])] at hv;exact hv
def Asc.append {a b:Aa α} (h:Asc key a) (k:Asc key b) (q:∀ x∈a,∀ y∈b,key x<=key y):Asc key (a++b):=Ag.2 ⟨h,k,q⟩
def Asc.left {a b:Aa α} (h:Asc key (a++b)):Asc key a:=(Ag.1 h).1
def Asc.right {a b:Aa α} (h:Asc key (a++b)):Asc key b:=(Ag.1 h).2.1
def Asc.cross {a b:Aa α} (h:Asc key (a++b)):∀ x∈a,∀ y∈b,key x<=key y:=(Ag.1 h).2.2
variable (key)
def kAt (xs:Aa α) (i:Nat):Int:=((xs[i]?).map key).getD 0
variable {key}
def kDo {xs:List α} {i:Nat} (h:i < xs.length):kAt key xs i=key xs[i]:=by simp [kAt,h]
def Asc.kAt_le {l:Aa α} (h:Asc key l) {i j:Nat} (E:i<=j) (I:j < l.length):kAt key l i<=kAt key l j:=by
 rw [kDo bF2,kDo I];rcases Nat.lt_or_ge i j with q | q
 · exact List.pairwise_iff_getElem.1 h i j bF2 I q
 obtain rfl:i=j:=bF2;exact Int.le_refl _
def jAw {l:Aa α} {x:α} (h:x∈l):∃ i,i < l.length/\kAt key l i=key x:=by
 obtain ⟨i,hi,rfl⟩:=List.getElem_of_mem h;exact ⟨i,hi,kDo hi⟩
def sw (xs:Aa α) (i j:Nat):Aa α:=match xs[i]?,xs[j]? with
  | some x,some y=>(xs.set i y).set j x
  | _,_=>xs
def jFc {xs:List α} {i j:Nat} (hi:i < xs.length) (I:j < xs.length):sw xs i j=(xs.set i xs[j]).set j xs[i]:=by simp [sw,hi,I]
def kPf (xs:Aa α) (i j:Nat):(sw xs i j).length=xs.length:=by
 unfold sw;split <;> simp
def sw_comm (xs:Aa α) (i j:Nat):sw xs i j=sw xs j i:=by
 by_cases hi:i < xs.length
 · by_cases I:j < xs.length
   · rw [jFc hi I,jFc I hi];by_cases e:i=j
     · subst e;rfl
     exact List.set_comm _ _ e
   simp [sw,I,Nat.not_lt.1 I]
 simp [sw,hi,Nat.not_lt.1 hi]
def kZf (p m q:Aa α) (x y:α) {i j:Nat} (hi:i=p.length) (I:j=p.length + 1 + m.length):sw (p++x :: m++y :: q) i j=p++y :: m++x :: q:=by
 subst hi I;have h1:p.length < (p++x :: m++y :: q).length:=bF3;have h2:p.length + 1 + m.length < (p++x :: m++y :: q).length:=bE6;rw [jFc h1 h2];have e1:(p++x :: m++y :: q)[p.length]=x:=bF3;have e2:(p++x :: m++y :: q)[p.length + 1 + m.length]=y:=by
  rw [List.getElem_append_right bE6];simp [show p.length + 1 + m.length - (p.length + (m.length + 1))=0 by omega]
 rw [e1,e2];have e3:(p++x :: m++y :: q).set p.length y=p++y :: m++y :: q:=by
  rw [Ac,Aq _ _ nL];simp
 rw [e3];rw [Aq _ _ bE6];simp [show p.length + 1 + m.length - (p.length + (m.length + 1))=0 by omega]
variable (key)
def inner (a:Nat):Nat->Aa α->Aa α
  | 0,xs=>xs
  | j + 1,xs=>if a < j + 1/\kAt key xs (j + 1) < kAt key xs j then inner a j (sw xs (j + 1) j) else xs
def outer (a:Nat):Nat->Nat->Aa α->Aa α
  | 0,_,xs=>xs
  | n + 1,i,xs=>outer a n (i + 1) (inner key a i xs)
def kFm (a b:Nat) (xs:Aa α):Aa α:=outer key a (b - (a + 1)) (a + 1) xs
variable {key}
def kMm:∀ (a j:Nat) (xs:Aa α),(inner key a j xs).length=xs.length
  | _,0,_=>rfl
  | a,j + 1,xs=>by
    unfold inner;split
    · rw [kMm,kPf]
    · rfl
def kTh:∀ (a n i:Nat) (xs:Aa α),(outer key a n i xs).length=xs.length
  | _,0,_,_=>rfl
  | a,n + 1,i,xs=>by
    unfold outer;rw [kTh,kMm]
def jCp (a b:Nat) (xs:Aa α):(kFm key a b xs).length=xs.length:=kTh _ _ _ _
def inner_spec:∀ (A:Aa α) (P Q:Aa α) (x:α) (a j:Nat),P.length=a->j=a + A.length->Asc key A ->
    ∃ M,inner key a j (P++A++x :: Q)=P++M++Q/\Asc key M/\Same key (A++[x]) M:=by
 intro A
 induction hn:A.length generalizing A with
 | zero =>
   intro P Q x a j hP I hA;obtain rfl:A=[]:=Aj hn;refine ⟨[x],?_,by simp [Asc],Same.refl _⟩;have bq:j=a:=bD7;subst bq;cases j with
   | zero=>simp [inner]
   | succ j=>unfold inner;rw [if_neg bF2];simp
 | succ n ih =>
   intro P Q x a j hP I hA;obtain ⟨B,y,rfl⟩:∃ B y,A=B++[y]:=⟨A.dropLast,A.getLast (by intro h;simp [h] at hn),(List.dropLast_concat_getLast _).symm⟩;have hB:B.length=n:=by simpa using hn
   obtain ⟨i,rfl⟩:∃ i,j=i + 1:=⟨j - 1,by omega⟩;have E:kAt key (P++(B++[y])++x :: Q) i=key y:=by
     rw [kDo bE6];congr 1;rw [List.getElem_append_left bE6,List.getElem_append_right bF2];simp [show i - P.length=B.length by omega]
   have D:kAt key (P++(B++[y])++x :: Q) (i + 1)=key x:=by
     rw [kDo bE6];congr 1;rw [List.getElem_append_right bE6];simp [show i + 1 - (P.length + (B.length + 1))=0 by omega]
   unfold inner;rw [E,D];by_cases hlt:key x < key y
   · rw [if_pos ⟨by omega,hlt⟩];have H:sw (P++(B++[y])++x :: Q) (i + 1) i=P++B++x :: (y :: Q):=by
       rw [sw_comm];have:=kZf (P++B) [] Q y x (i:=i) (j:=i + 1) bE6 bE6;simpa using this
     rw [H];obtain ⟨M,h1,h2,h3⟩:=ih B hB P (y :: Q) x a i hP bF2 hA.left;refine ⟨M++[y],by rw [h1];simp,?_,?_⟩
     · refine h2.append (by simp [Asc]) ?_;intro u hu v hv;obtain rfl:v=y:=bD3;have o:=h3.symm.mem hu;rcases List.mem_append.1 o with q | q
       · exact hA.cross u q v bF3
       · obtain rfl:u=x:=bD8;omega
     · have s1:Same key (B++[y]++[x]) (B++[x]++[y]):=by
         rw [Ac,Ac];refine (Same.refl B).append (Same.swap ?_);intro u hu v hv;obtain rfl:u=y:=by simpa using hu
         obtain rfl:v=x:=bD3;omega
       exact s1.trans (h3.append (Same.refl [y]))
   · rw [if_neg (by rintro ⟨_,q⟩;exact hlt q)];refine ⟨B++[y]++[x],by simp,?_,Same.refl _⟩;refine hA.append (by simp [Asc]) ?_;intro u hu v hv;obtain rfl:v=x:=bD3;rcases List.mem_append.1 hu with q | q
     · have:=hA.cross u q y bF3;omega
     · obtain rfl:u=y:=bD8;omega
def jAd:∀ (n:Nat) (A C P Q:Aa α) (a i:Nat),C.length=n->P.length=a->i=a + A.length->Asc key A ->
    ∃ M,outer key a n i (P++A++C++Q)=P++M++Q/\Asc key M/\Same key (A++C) M
  | 0,A,C,P,Q,a,i,hC,hP,hi,hA=>by
    obtain rfl:C=[]:=Aj hC;exact ⟨A,by simp [outer],hA,by simpa using Same.refl A⟩
  | n + 1,A,C,P,Q,a,i,hC,hP,hi,hA=>by
    obtain ⟨x,C,rfl⟩:∃ x D,C=x :: D:=by cases C with | nil=>simp at hC | cons x D=>exact ⟨x,D,rfl⟩
    obtain ⟨M,h1,h2,h3⟩:=inner_spec A P (C++Q) x a i hP hi hA;have hl:=congrArg List.length h1;rw [kMm] at hl;obtain ⟨M2,h4,h5,h6⟩:=jAd n M C P Q a (i + 1) (by simpa using hC) hP (by simp at hl;omega) h2;refine ⟨M2,?_,h5,?_⟩
    · unfold outer;rw [show P++A++x :: C++Q=P++A++x :: (C++Q) by simp,h1,show P++M++(C++Q)=P++M++C++Q by simp,h4]
    · refine Same.trans ?_ h6;rw [show A++x :: C=A++[x]++C by simp];exact h3.append (Same.refl C)
def insort_spec {M P Q:Aa α} {a b:Nat} (hP:P.length=a) (hb:b=a + M.length):∃ o,kFm key a b (P++M++Q)=P++o++Q/\Asc key o/\Same key M o:=by
 unfold kFm;cases M with
 | nil => 
   have:b - (a + 1)=0:=by simp at hb;omega
   rw [this];exact ⟨[],rfl,by simp [Asc],Same.refl _⟩
 | cons x C =>
   have:=jAd (key:=key) (b - (a + 1)) [x] C P Q a (a + 1) (by simp at hb;omega) hP bF3 (by simp [Asc]);simpa using this
def swr:Nat->Nat->Nat->Aa α->Aa α
  | 0,_,_,xs=>xs
  | n + 1,a,b,xs=>swr n (a + 1) (b + 1) (sw xs a b)
def rot (m i j:Nat) (xs:Aa α):Aa α :=
  if i=j then swr i (m - i) m xs
  else if h:0 < i/\0 < j then
    if j < i then rot m (i - j) j (swr j (m - i) m xs) else rot m i (j - i) (swr i (m - i) (m + j - i) xs)
  else xs
  termination_by i + j
  decreasing_by all_goals omega
def bs (p:Nat->Bool) (i j:Nat):Nat :=
  if h:i < j then (if p ((i + j) / 2) then bs p ((i + j) / 2 + 1) j else bs p i ((i + j) / 2)) else i
  termination_by j - i
  decreasing_by all_goals omega
def up:Nat->Nat->Aa α->Aa α
  | 0,_,xs=>xs
  | n + 1,k,xs=>up n (k + 1) (sw xs k (k + 1))
def down (i:Nat):Nat->Aa α->Aa α
  | 0,xs=>xs
  | k + 1,xs=>if i < k + 1 then down i k (sw xs (k + 1) k) else xs
def take_lt {B:Aa α} (h:Asc key B) {t:Nat} (ht:t<=B.length) {k:Int} (q:0 < t->kAt key B (t - 1) < k):∀ y∈B.take t,key y < k:=by
 intro y hy;obtain ⟨i,hi,e⟩:=jAw (key:=key) hy;simp at hi;rw [<- e];have h1:=h.kAt_le (i:=i) (j:=t - 1) bF2 bF2;have h2:=q bF2;have h3:kAt key (B.take t) i=kAt key B i:=by rw [kDo bE6,kDo bF2];simp
 omega
def take_le {B:Aa α} (h:Asc key B) {t:Nat} (ht:t<=B.length) {k:Int} (q:0 < t->kAt key B (t - 1)<=k):∀ y∈B.take t,key y<=k:=λy hy=>by
  have:=take_lt h ht (k:=k + 1) (λht=>by have:=q ht;omega) y hy;omega
def drop_ge {B:Aa α} (h:Asc key B) {t:Nat} {k:Int} (q:t < B.length->k<=kAt key B t):∀ y∈B.drop t,k<=key y:=by
 intro y hy;obtain ⟨i,hi,e⟩:=jAw (key:=key) hy;simp at hi;rw [<- e];have h1:=h.kAt_le (i:=t) (j:=t + i) bF2 bF2;have h2:=q bF2;have h3:kAt key (B.drop t) i=kAt key B (t + i):=by simp [kAt]
 omega
def drop_gt {B:Aa α} (h:Asc key B) {t:Nat} {k:Int} (q:t < B.length->k < kAt key B t):∀ y∈B.drop t,k < key y:=λy hy=>by
  have:=drop_ge h (k:=k + 1) (λht=>by have:=q ht;omega) y hy;omega
variable (key)
def symm:Nat->Nat->Nat->Nat->Aa α->Aa α
  | 0,_,_,_,xs=>xs
  | f + 1,a,m,b,xs =>
    if m - a=1 then up (bs (λh=>decide (kAt key xs h < kAt key xs a)) m b - 1 - a) a xs
    else if b - m=1 then down (bs (λh=>!decide (kAt key xs m < kAt key xs h)) a m) m xs
    else
      let mid:=(a + b) / 2
      let n:=mid + m
      let s:=bs (λc=>!decide (kAt key xs (n - 1 - c) < kAt key xs c)) (if mid < m then n - b else a) (if mid < m then mid else m)
      let e:=n - s
      let y:=if s < m/\m < e then rot m (m - s) (e - m) xs else xs
      let z:=if a < s/\s < mid then symm f a s mid y else y
      if mid < e/\e < b then symm f mid e b z else z
variable {key}
def Runs (key:α->Int) (s:Nat) (l:Aa α):Prop:=∀ k,Asc key ((l.drop (k * s)).take s)
def Runs.cons {s:Nat} {A R:Aa α} (hA:A.length=s) (h:Asc key A) (hR:Runs key s R):Runs key s (A++R):=by
 intro k;cases k with
 | zero=>simp;rw [<- hA,List.take_append_of_le_length bF2,List.take_length];exact h
 | succ k =>
   have:(A++R).drop ((k + 1) * s)=R.drop (k * s):=by
     rw [Nat.add_mul,Nat.one_mul,Nat.add_comm,<- List.drop_drop,<- hA,List.drop_left]
   rw [this];exact hR k
def Runs.one {s:Nat} {A:Aa α} (hA:A.length<=s) (h:Asc key A):Runs key s A:=by
 intro k;cases k with
 | zero=>simp;rw [List.take_of_length_le hA];exact h
 | succ k=>rw [List.drop_eq_nil_of_le (by rw [Nat.add_mul];omega)];simp [Asc]
variable (key)
variable {key}
variable (key)
def place:Nat->Aa α->α->Nat
  | 0,_,_=>0
  | k + 1,l,x=>if key x < kAt key l k then place k l x else k + 1
def put (l:Aa α) (x:α):Aa α:=l.take (place key l.length l x)++[x]++l.drop (place key l.length l x)
def sorted (l:Aa α):Aa α:=l.foldl (put key) []
variable {key}
def kZx (l:Aa α) (x:α):∀ k,k<=l.length->place key k l x<=k/\(0 < place key k l x->kAt key l (place key k l x - 1)<=key x)/\(place key k l x < k->key x < kAt key l (place key k l x))
  | 0,_=>by simp [place]
  | k + 1,h=>by
    unfold place;split
    · rename_i q
      obtain ⟨h1,h2,h3⟩:=kZx l x k bF2;refine ⟨by omega,h2,λ_=>?_⟩;by_cases e:place key k l x < k
      · exact h3 e
      · rw [show place key k l x=k by omega];exact q
    · rename_i q
      exact ⟨Nat.le_refl _,λ_=>by simpa using q,λq=>absurd q bF2⟩
def put_spec {l:Aa α} (h:Asc key l) (x:α):Asc key (put key l x)/\Same key (l++[x]) (put key l x):=by
 obtain ⟨h1,h2,h3⟩:=kZx (key:=key) l x l.length nL;unfold put;generalize place key l.length l x=p at *;have t1:=take_le h h1 h2;have t2:=drop_gt h h3;have F:=h;rw [<- Ar p l] at F;refine ⟨?_,?_⟩
 · rw [Ac];refine F.left.append (Ai.2 ⟨λy hy=>by have:=t2 y hy;omega,F.right⟩) ?_;intro u hu v hv;rcases List.mem_cons.1 hv with rfl | hv
   · exact t1 u hu
   exact F.cross u hu v hv
 have s1:Same key (l.take p++(l.drop p++[x])) (l.take p++([x]++l.drop p)):=(Same.refl _).append (Same.swap (λu hu v hv=>by
   obtain rfl:v=x:=bD3;have:=t2 u hu;omega))
 rw [<- Ac,Ar] at s1;rwa [Ac]
def jBg:∀ (xs l:Aa α),Asc key l->Asc key (xs.foldl (put key) l)/\Same key (l++xs) (xs.foldl (put key) l)
  | [],l,h=>⟨h,by simpa using Same.refl l⟩
  | x :: xs,l,h=>by
    obtain ⟨h1,h2⟩:=put_spec h x;obtain ⟨h3,h4⟩:=jBg xs (put key l x) h1;refine ⟨h3,?_⟩;have:=(h2.append (Same.refl xs)).trans h4;simpa using this
def kEq (l:Aa α):Asc key (sorted key l)/\Same key l (sorted key l):=by
 have:=jBg (key:=key) l [] (by simp [Asc]);simpa [sorted] using this
def kVf (l:Aa α):kFm key 0 l.length l=sorted key l:=by
 obtain ⟨o,h,ha,hs⟩:=insort_spec (key:=key) (M:=l) (P:=[]) (Q:=[]) (a:=0) (b:=l.length) rfl bF3;simp only [List.nil_append,List.append_nil] at h;rw [h];exact uniq ha (kEq l).1 (hs.symm.trans (kEq l).2)
def kRe (l:List α):(sorted key l).length=l.length:=by rw [<- kVf,jCp]
def Same.filter {l o:Aa α} (h:Same key l o) {p:α->Bool}:Same key (l.filter p) (o.filter p):=λv=>by
  have:=congrArg (λz=>z.filter p) (h v);simp only [List.filter_filter] at this ⊢;simpa [Bool.and_comm] using this
def Asc.filter {l:Aa α} (h:Asc key l) {p:α->Bool}:Asc key (l.filter p):=List.Pairwise.filter p h
def jCm (l:Aa α) (p:α->Bool):(sorted key l).filter p=sorted key (l.filter p) :=
  uniq (kEq l).1.filter (kEq _).1 ((kEq l).2.symm.filter.trans (kEq _).2)
end
end Go.Proofs.YthocbplmdjkifaaGreat.Srt

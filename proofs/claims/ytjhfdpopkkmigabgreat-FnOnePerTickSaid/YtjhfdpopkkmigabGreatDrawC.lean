/-
  Content stores as the reference draws them.
-/
import Derived.Test.YtjhfdpopkkmigabGreatDrawY
import Derived.Test.YtjhfdpopkkmigabGreatDrawK
import Derived.Test.YtjhfdpopkkmigabGreatDrawD
set_option linter.unusedVariables false
set_option linter.defProp false
set_option linter.unusedSimpArgs false
set_option linter.unnecessarySimpa false
set_option maxRecDepth 100000
set_option maxHeartbeats 8000000
open List renaming getElem?_cons_succ->Aa,getElem?_cons_zero->Ab,map_cons->Ac,map_nil->Ag
open Go renaming frozen_of_row->Ad,World->Ah
open Int renaming eq_ofNat_of_zero_le->Ae
open List.cons renaming injEq->Ai
namespace Go.Proofs.YtjhfdpopkkmigabGreat
open Go.RowKit _root_.Go.Proofs.Tryz
def kKa {w:Ah} {cs:List Value} {x:kz} (h:kT.raw w cs x):∃ a c,cs=[.int .i64 x.1,.slice a x.2.length c]:=by
 obtain ⟨v0,rfl,Y,R⟩:=jN h;obtain ⟨a0,c0,rfl,_⟩:=kD.sl R;exact ⟨_,_,rfl⟩
def kRd (y:jT) (t:Int) (c:Int) (l:List jC):∃ k,kFf y t (c,l)=(c,k)/\k.length<=l.length + 1:=by
 unfold kFf;split
 · exact ⟨_,rfl,by omega⟩
 refine ⟨_,rfl,?_⟩;have h1:=kZo c (kEx y.1 l);have h2:=otherC_len y.1 l;simp only [List.length_append,List.length_cons,List.length_nil];show (kLe c (kEx y.1 l)).length + 1<=l.length + 1;omega
def touchS_len (n:kg) (t:Int) (c:Int) (l:List jC):∃ k,kGl n t (c,l)=(c,k)/\k.length=l.length:=by
 unfold kGl;refine ⟨_,rfl,?_⟩;simp only;split <;> simp
def DrawnS (m:Nat) (w0 w:Ah) (p:Nat) (e:Ending) (w':Ah):Prop:=∃ a c kc l,e=.returned (.agg #[Qn kc,Qs a l c])/\kT.own w' [Qn kc,Qs a l c] (kc,l) (jb w.heap.size w'.heap.size)/\l.length<=m/\yS w0 w' p/\Touch (λk=>k=p) w w'
def data_parts9 {w:Ah} {c0 c1 c2 c3 c4:Value} {x:jT} {S:Nat->Prop} (h:jI.own w [c0,c1,c2,c3,c4] x S):kN.rd w [c0] x.1:=by
 obtain ⟨a,d,A,T,he,h1,h2,hA,hT,hd⟩:=kD.kDq (r:=kN) h;have G:=kN.len h1.1
 match a,G with
 | [u],_=>simp only [List.singleton_append,Ai] at he;obtain ⟨rfl,_⟩:=he;exact h1.rd
def kYj {w0 w:Ah} {p:Nat} (hc:yS w0 w p) :
    Calls prog 141 #[.pointer (some ⟨p,0,none⟩)] w λe w'=>DrawnS 7 w0 w p e w':=by
 go_enter func141,ntmps141
 obtain ⟨bd,bw⟩:=hc.lt
 go_upto_region 1 with fail
 generalize G:World.alloc w _=w1
 have U:Qb w w1:=tK
 have R:Qr w1 w.heap.size #[Qn 0,.slice none 0 0] 27:=wW
 have bo:w.heap.size + 1<=w1.heap.size:=bF4
 clear G
 obtain ⟨hc,J⟩:=xQ
 clear U
 go_wp2_with fail
 refine (ko (n:=5) hc bH2).mono ?_
 rintro e V ⟨x,au,o,be,rfl,F,D⟩
 obtain ⟨bv,R,J⟩:=BP
 clear hc D
 have hc:=F
 clear F
 replace o:=o bH2
 clear be
 go_wp2_with fail
 refine (kFi (c:=x) bH3).mono ?_
 rintro e w3 ⟨cs,rfl,hO,hb⟩
 have bt:=hb.size
 replace R:=kC R hb
 obtain ⟨hc,J⟩:=xI
 clear hb
 obtain ⟨ka,kp,rfl⟩:=kKa hO.raw
 simp only [newC,List.length_nil] at hO ⊢
 have f3:=kRc (c:=x) bH3
 generalize capC x=kc at *
 have I:=yD (hO)
 clear hO
 go_upto_region 2 with fail
 generalize G:World.alloc w3 _=w4
 have cc:Qb w3 w4:=tK
 have BK:Qr w4 w3.heap.size #[Qn kc,.slice ka 0 kp] 27:=wW
 have b5:w3.heap.size + 1<=w4.heap.size:=bF4
 clear G
 replace R:=kC R cc
 replace I:=yD (I.out.below cc)
 replace hc:=hc.below cc
 replace J:=J.trans (Touch.of_below cc)
 clear cc
 obtain ⟨kb,ck⟩:∃ b_,b_=w3.heap.size:=⟨_,rfl⟩
 rw [<- ck] at BK ⊢
 have az:=Nat.le_of_eq ck
 have a1:=Nat.le_of_eq ck.symm
 clear ck
 go_wp2_with fail
 refine (ko (n:=8) hc bH2).mono ?_
 rintro e w5 ⟨m,bc,ax,b7,rfl,F,D⟩
 have b3:=D.size
 replace R:=D.kC R bH3
 replace BK:=D.kC BK bH3
 obtain ⟨I,J⟩:=xK
 clear hc D
 have hc:=F
 clear F
 replace ax:=ax bH2
 clear b7
 obtain ⟨m,rfl⟩:=Ae bc
 go_wp2
 go_loopw [4] (λi wr=>∃ (j:Nat) (ka:Option Addr) (kp:Nat) (l:List jC),i=.int .i64 j/\j<=7/\Hid (l.length + j<=7)/\Qr wr kb #[Qn kc,Qs ka l kp] 27/\Hid (kT.own wr [Qn kc,Qs ka l kp] (kc,l) (λk=>w.heap.size < k/\k < wr.heap.size/\k≠kb))/\w5.heap.size<=wr.heap.size/\yS w0 wr p/\Touch (λk=>k=p\/k=kb) w5 wr) (λi _=>(intOf i).toNat)
 case atStart=>exact ⟨m,ka,kp,[],rfl,by omega,yD bG7,BK,yD (I.out.wide gF),Nat.le_refl _,hc,Touch.of_below bR⟩
 clear BK hc
 obtain ⟨j,ka,kp,l,rfl,hj,HL,BK,I,da,hc,af⟩:=hrel
 have fn:=af.size
 cases j with
 | zero =>
   have c9:¬ (0:Int) < (0:Nat):=bH3;replace R:=af.kC R bH3;replace J:=J.ji af bD7;obtain ⟨ak,ao⟩:=yM R;obtain ⟨L,ac⟩:=yM BK;obtain ⟨al,an⟩:=kBw R;go_wp2;refine bodyPost_ret (v:=.agg #[Qn kc,Qs ka l kp]) (by simp [results,results141,go_sem,ak,ao,al,an]) rfl ⟨ka,kp,kc,l,rfl,?_,by have:=HL.out;omega,hc.touch sT2 bH3 bD5,J.jJ sT2 bH3⟩;exact (I.out.touch (T:=λk=>k=w.heap.size) sT2 vD).wide fA
 | succ j =>
   have c8:(0:Int) < (j:Int) + 1:=bH3;go_wp2_with fail;refine (kKb hc).mono ?_;rintro e bu ⟨ds,x,rfl,hX,bg,F,D⟩;have cm:=D.size;replace af:=af.ji D nJ;replace BK:=D.kC BK bH3;replace I:=yD (I.out.touch D pV);clear hc D;have hc:=F;clear F;obtain ⟨b8,b9,b2,b1,cv,b4,rfl⟩:=zk hX.raw;have HX:=yD hX;clear hX;go_upto_region 6 with fail;generalize G:World.alloc bu _=bj;have hb:Qb bu bj:=tK;have BX:Qr bj bu.heap.size #[Qs b8 x.1 b9,Qs b2 x.2.1 b1,Qs cv x.2.2.1 b4,Qn x.2.2.2.1,Qn x.2.2.2.2] 70:=wW;have dy:bu.heap.size + 1<=bj.heap.size:=bF4;clear G;have c6:=hb.size;replace af:=af.trans (Touch.of_below hb);replace BK:=kC BK hb;replace I:=yD (I.out.below hb);replace HX:=yD (HX.out.below hb);replace hc:=hc.below hb;clear hb;refine zl (λW=>Touch (λk=>k=p) bj W/\yS w0 W p) (λ_=>True) [] [(0,true),(1,true),(2,true),(3,false),(4,true),(5,false)] [(6,false)] bG6 bG6 qY (⟨Touch.of_below bR.drew,hc.below bR.drew⟩) ?_;intro wS E;simp only [jB,zO,Aa,Ab,Ac,Ag];refine pre_nil ?_;iterate 2
    refine jf (v:=?_) rfl (λW hW=>?_) ?_;rotate_left;(· have dg:=kE (hW.1.kC BK bH3) (j:=0) (v:=.int .i64 kc) rfl;have dw:=kE (hW.1.kC BK bH3) (j:=1) (v:=.slice ka l.length kp) rfl;have d0:=kE (hW.1.kC BX bH3) (j:=0) (v:=.slice b8 x.1.length b9) rfl;have eh:=kE (hW.1.kC BX bH3) (j:=1) (v:=.slice b2 x.2.1.length b1) rfl;have eg:=kE (hW.1.kC BX bH3) (j:=2) (v:=.slice cv x.2.2.1.length b4) rfl;have e3:=kE (hW.1.kC BX bH3) (j:=3) (v:=.int .i64 x.2.2.2.1) rfl;have ew:=kE (hW.1.kC BX bH3) (j:=4) (v:=.int .i64 x.2.2.2.2) rfl;clear hW;go_simp;try with_reducible rfl)
    refine jG ?_
   refine jf (v:=?_) rfl (λW hW=>?_) ?_;rotate_left;(· go_simp;try with_reducible rfl);refine jG ?_;refine zK rfl (λK H=>?_);go_simp;refine (ko (n:=20) E.2 bH2).mono ?_;rintro e wS1 ⟨y,ch,aa,a4,rfl,ap,am⟩;replace aa:=aa bH2;clear a4;replace E:=And.intro (E.1.trans am) ap;clear ap am;have hw:IntKind.i64.wrap (40 + y)=40 + y:=IntWalk.i64_in _ bH3;refine H _ _ E ?_;clear H K;refine jG ?_;refine jf (v:=?_) rfl (λW hW=>?_) ?_;rotate_left;(· go_simp;try with_reducible rfl);refine jG ?_;refine zK rfl (λK H=>?_);go_simp;refine (kLc (cx:=[.int .i64 kc,.slice ka l.length kp]) (x:=(kc,l)) (I.out.touch E.1 pV).rd (cy:=[.slice b8 x.1.length b9,.slice b2 x.2.1.length b1,.slice cv x.2.2.1.length b4,.int .i64 x.2.2.2.1,.int .i64 x.2.2.2.2]) (HX.out.touch E.1 pV).rd (t:=40 + y) bH3 (by have:=HL.out;show l.length<=_;omega)).mono ?_;rintro e Y ⟨cs,rfl,hO,Z⟩;have dv:=E.1.size;have bk:=Z.size;replace E:=And.intro (E.1.trans (Touch.of_below Z)) (E.2.below Z);obtain ⟨O,ba,ee⟩:=kRd x (40 + y) kc l;rw [ba] at hO;obtain ⟨na,np,rfl⟩:=kKa hO.raw;clear ba;have HN:=yD hO;refine H _ _ E ?_;clear H K Z hO;refine jG ?_;have fi:=E.1.size;have RS:=E.1.kC BK bH3;have ak:Qc Y kb 0 (.int .i64 kc):=kE RS rfl;have al:Y.frozen? ⟨kb,0,none⟩=false:=Ad Y (kb) 0 _ _ RS;have ao:Qc Y kb 1 (.slice ka l.length kp):=kE RS rfl;have an:Y.frozen? ⟨kb,1,none⟩=false:=Ad Y (kb) 1 _ _ RS;refine kAa trivial ?_;refine kw rfl (λK H=>?_);go_simp;refine H _ _ trivial ?_;clear H K;refine jG ?_;refine kS ?_;replace af:=af.ji E.1 nJ;replace BX:=E.1.kC BX bH3;replace I:=yD (I.out.touch E.1 pV);replace HX:=yD (HX.out.touch E.1 pV);replace hc:=E.2;clear E BK;have BK:=RS;clear RS ak al ao an;clear I HX BX;generalize G:World.setCell (World.setCell Y _ _) _ _=dn;have hT:Touch (λk=>k=kb) Y dn:=bB8;replace BK:Qr dn kb #[Qn kc,Qs na O np] 27:=by rw [<- G];exact kI (kI (BK) 0) 1
   have d6:=hT.size;clear G;replace HN:=yD (HN.out.touch hT pV);obtain ⟨hc,af⟩:=y9;clear hT;have N:=yD (show O.length + j<=7 by have:=HL.out;omega);clear HL ee;go_wp2_with fail;refine (zY (n:=3) hc bH2).mono ?_;rintro e ai ⟨b,rfl,F,D⟩;have aj:=D.size;replace af:=af.ji D nJ;replace BK:=D.kC BK bH3;replace HN:=yD (HN.out.touch D pV);clear hc D;have hc:=F;clear F;cases b
   · go_wp2;go_roundw;case rel=>exact ⟨j,na,np,O,by go_num,by omega,N,BK,yD (HN.out.wide gD),by omega,hc,af⟩
     case measure=>simp [intOf]
   · go_upto_region 8 with fail;refine zl (λW=>Touch (λk=>k=p) ai W/\yS w0 W p) (λ_=>True) [] [(0,true),(1,true),(2,false),(3,true),(4,false)] [(5,false)] bG6 bG6 qY (⟨Touch.of_below bR.drew,hc.below bR.drew⟩) ?_;intro wS E;simp only [jB,zO,Aa,Ab,Ac,Ag];refine pre_nil ?_;refine jf (v:=?_) rfl (λW hW=>?_) ?_;rotate_left;(· have dg:=kE (hW.1.kC BK bH3) (j:=0) (v:=.int .i64 kc) rfl;have dw:=kE (hW.1.kC BK bH3) (j:=1) (v:=.slice na O.length np) rfl;clear hW;go_simp;try with_reducible rfl);refine jG ?_;refine jf (v:=?_) rfl (λW hW=>?_) ?_;rotate_left;(· go_simp;try with_reducible rfl);refine jG ?_;refine zK rfl (λK H=>?_);go_simp;refine (kKb E.2).mono ?_;rintro e wS1 ⟨ds,v,rfl,hV,dz,ap,am⟩;obtain ⟨ad,ae,aq,ar,bm,cd,rfl⟩:=zk hV.raw;have X:=yD hV;have aw:=E.1.size;have a2:=am.size;replace E:=And.intro (E.1.trans am) ap;have av:∀ W:Ah,Sem.run prog (Instr.field 70 (.agg #[Qs ad v.1 ae,Qs aq v.2.1 ar,Qs bm v.2.2.1 cd,Qn v.2.2.2.1,Qn v.2.2.2.2]) 0) W=.ok (.agg #[Qs ad v.1 ae]) W:=λW=>bG6;refine H _ _ E ?_;clear H K ap am hV;refine jG ?_;refine jf (v:=.agg #[Qs ad v.1 ae]) rfl (λW hW=>?_) ?_;(· go_simp;(try simp only [av]);try rfl);refine jG ?_;refine zK rfl (λK H=>?_);go_simp;refine (kTh (cx:=[.int .i64 kc,.slice na O.length np]) (x:=(kc,O)) (HN.out.touch E.1 pV).rd (cn:=[.slice ad v.1.length ae]) (n:=v.1) (data_parts9 X.out) (t:=60) bH3).mono ?_;rintro e Y ⟨cs,rfl,hO,Z⟩;have dv:=E.1.size;have bk:=Z.size;replace E:=And.intro (E.1.trans (Touch.of_below Z)) (E.2.below Z);obtain ⟨l3,f7,ag⟩:=touchS_len v.1 60 kc O;rw [f7] at hO;obtain ⟨ma,mp,rfl⟩:=kKa hO.raw;have ab:=yD ag;clear f7 ag;have HM:=yD hO;refine H _ _ E ?_;clear H K Z hO;refine jG ?_;have fi:=E.1.size;have RS:=E.1.kC BK bH3;have ak:Qc Y kb 0 (.int .i64 kc):=kE RS rfl;have al:Y.frozen? ⟨kb,0,none⟩=false:=Ad Y (kb) 0 _ _ RS;have ao:Qc Y kb 1 (.slice na O.length np):=kE RS rfl;have an:Y.frozen? ⟨kb,1,none⟩=false:=Ad Y (kb) 1 _ _ RS;refine kAa trivial ?_;refine kw rfl (λK H=>?_);go_simp;refine H _ _ trivial ?_;clear H K;refine jG ?_;refine kS ?_;replace af:=af.ji E.1 nJ;replace HN:=yD (HN.out.touch E.1 pV);replace hc:=E.2;clear E BK;have BK:=RS;clear RS ak al ao an;clear HN;generalize G:World.setCell (World.setCell Y _ _) _ _=ah;have hT:Touch (λk=>k=kb) Y ah:=bB8;replace BK:Qr ah kb #[Qn kc,Qs ma l3 mp] 27:=by rw [<- G];exact kI (kI (BK) 0) 1
     have ay:=hT.size;clear G;replace HM:=yD (HM.out.touch hT pV);obtain ⟨hc,af⟩:=y9;clear hT;go_wp2;go_roundw;case rel=>exact ⟨j,ma,mp,l3,by go_num,by omega,yD (by have:=N.out;have:=ab.out;omega),BK,yD (HM.out.wide gD),by omega,hc,af⟩
     case measure=>simp [intOf]
def entry_own {w:Ah} {c0 c1 c2 c3 c4:Value} {x:jT} {u:Int} {S:Nat->Prop} (h:jI.own w [c0,c1,c2,c3,c4] x S) (hu:Qi u):jH.own w [c0,c1,c2,c3,c4,Qn u] (x,u) S :=
  kD.yF (r:=jI) (q:=.int) (cs:=[c0,c1,c2,c3,c4]) (ds:=[.int .i64 u]) h (kD.ku hu)
def kJg {w:Ah} {v:Value} {c:Int} {l:List jC} {S:Nat->Prop} (h:(kD.slice 127 jH).jo w [v] l S) (hc:Qi c):kT.jo w [Qn c,v] (c,l) S :=
  kD.kAg (r:=.int) (q:=(kD.slice 127 jH)) (z:=(c,l)) (kD.flat.jo (kD.ku hc)) h
def store_int {w:Ah} {c:Int} {v:Value} {l:List jC} {x:Int} {S:Nat->Prop} (h:kT.own w [Qn x,v] (c,l) S):Qi c:=by
 obtain ⟨a,d,A,B,he,h1,h2,hA,hB,hd⟩:=kD.kDq h;exact (kD.je h1.raw).2
def DrawnSR (m:Nat) (w0 w:Ah) (p:Nat) (e:Ending) (w':Ah):Prop:=∃ a c kc l,e=.returned (.agg #[Qn kc,Qs a l c])/\kT.jo w' [Qn kc,Qs a l c] (kc,l) (jb w.heap.size w'.heap.size)/\l.length<=m/\yS w0 w' p/\Touch (λk=>k=p) w w'
def entry_form {w:Ah} {cs:List Value} {y:jC} (h:jH.raw w cs y):∃ a0 c0 a1 c1 a2 c2,cs=[.slice a0 y.1.1.length c0,.slice a1 y.1.2.1.length c1,.slice a2 y.1.2.2.1.length c2,.int .i64 y.1.2.2.2.1,.int .i64 y.1.2.2.2.2,.int .i64 y.2]:=by
 obtain ⟨v0,v1,v2,rfl,Y,_⟩:=yO h;obtain ⟨a0,c0,a1,c1,a2,c2,e⟩:=zk Y;simp only [Ai,and_true] at e;obtain ⟨rfl,rfl,rfl⟩:=e;exact ⟨_,_,_,_,_,_,rfl⟩
def jBh {w0 w:Ah} {p:Nat} (hc:yS w0 w p) :
    Calls prog 63 #[.pointer (some ⟨p,0,none⟩)] w λe w'=>DrawnSR 8 w0 w p e w':=by
 go_enter func63,ntmps63
 obtain ⟨bd,bw⟩:=hc.lt
 go_upto_region 1 with fail
 generalize G:World.alloc w _=w1
 have U:Qb w w1:=tK
 have R:Qr w1 w.heap.size #[Qn 0,.slice none 0 0] 27:=wW
 have bo:w.heap.size + 1<=w1.heap.size:=bF4
 clear G
 obtain ⟨hc,J⟩:=xQ
 clear U
 go_wp2_with fail
 refine (kYj hc).mono ?_
 rintro e V ⟨ka,kp,kc,l,rfl,hO,ai,F,D⟩
 obtain ⟨bv,R,J⟩:=BP
 clear hc D
 have hc:=F
 clear F
 have f3:=store_int hO
 have I:=yD (kRs hO)
 clear hO
 go_upto_region 2 with fail
 generalize G:World.alloc V _=w3
 have ad:Qb V w3:=tK
 have BK:Qr w3 V.heap.size #[Qn kc,Qs ka l kp] 27:=wW
 have bt:V.heap.size + 1<=w3.heap.size:=bF4
 clear G
 obtain ⟨R,I,hc,J⟩:=A9
 clear ad
 go_wp2_with fail
 refine (ko (n:=10) hc bH2).mono ?_
 rintro e w4 ⟨m,bc,ax,b7,rfl,F,D⟩
 have b5:=D.size
 replace R:=D.kC R bH3
 replace BK:=D.kC BK bH3
 obtain ⟨I,J⟩:=xK
 clear hc D
 have hc:=F
 clear F
 replace ax:=ax bH2
 clear b7
 obtain ⟨m,rfl⟩:=Ae bc
 by_cases bx:m=0
 · subst bx;go_wp2_with fail;refine (zn (hc.below (bR.alloc nL _)) (kD.kDz _ [-1,0,8,9] bH2 bH2) bH3 bH2 bH2).mono ?_;rintro e w5 ⟨y,aw,b6,rfl,F,D⟩;obtain ⟨D,b3⟩:=AA;replace R:=D.kC R bH3;replace BK:=D.kC BK bH3;obtain ⟨I,J⟩:=xK;clear hc D;have hc:=F;clear F;have cf:=kD.kId (lo:=-1) (hi:=9) bH2 aw;clear aw b6;obtain ⟨L,ac⟩:=yM BK;obtain ⟨af,X⟩:=kBw BK;go_upto_region 10 with fail;generalize G:World.setCell w5 _ _=w6;have o:Touch (λk=>k=V.heap.size) w5 w6:=bB2;replace BK:Qr w6 V.heap.size #[Qn y,Qs ka l kp] 27:=by rw [<- G];exact kI BK 0
   have dh:=o.size;clear G L ac af X;replace R:=o.kC R bH3;replace I:=yD (I.out.touch o qW);replace hc:=hc.touch o bH3 bD5;replace J:=J.jJ o bH3;clear o;obtain ⟨ak,ao⟩:=yM R;obtain ⟨L,ac⟩:=yM BK;obtain ⟨al,an⟩:=kBw R;go_wp2;refine bodyPost_ret (v:=.agg #[Qn y,Qs ka l kp]) mX rfl ⟨ka,kp,y,l,rfl,?_,by omega,hc.touch sT2 bH3 bD5,J.jJ sT2 bH3⟩;exact ((kJg (I.out.jo.wide (T:=λk=>w.heap.size < k/\k < w6.heap.size/\k≠V.heap.size) gF) bH3).touch (T:=λk=>k=w.heap.size) sT2 vD).wide fA
 have cg:¬ (m:Int)=0:=bH3
 by_cases bm:m=1
 · subst bm;go_upto_region 6 with fail;refine zl (λW=>Touch (λk=>k=p) w4 W/\yS w0 W p) (λ_=>True) [] [(0,true),(1,true),(2,true),(3,false),(4,true),(5,false)] [(6,false),(7,true),(8,false)] bG6 bG6 qY (⟨Touch.of_below bR.drew,hc.below bR.drew⟩) ?_;intro wS E;simp only [jB,zO,Aa,Ab,Ac,Ag];refine pre_nil ?_;refine jf (v:=?_) rfl (λW hW=>?_) ?_;rotate_left;(· go_simp;try with_reducible rfl);refine jG ?_;refine jf (v:=?_) rfl (λW hW=>?_) ?_;rotate_left;(· have dg:=kE (hW.1.kC BK bH3) (j:=0) (v:=.int .i64 kc) rfl;have dw:=kE (hW.1.kC BK bH3) (j:=1) (v:=.slice ka l.length kp) rfl;clear hW;go_simp;try with_reducible rfl);refine jG ?_;refine jf (v:=?_) rfl (λW hW=>?_) ?_;rotate_left;(· go_simp;try with_reducible rfl);refine jG ?_;refine zK rfl (λK H=>?_);go_simp;refine (kTf E.2).mono ?_;rintro e wS1 ⟨ds,x,rfl,hX,bg,ap,am⟩;obtain ⟨b8,b9,b2,b1,cv,b4,rfl⟩:=zk hX.raw;have HX:=yD hX;have fe:=E.1.size;replace E:=And.intro (E.1.trans am) ap;refine H _ _ E ?_;clear H K ap am hX;refine jG ?_;refine jf (v:=?_) rfl (λW hW=>?_) ?_;rotate_left;(· go_simp;try with_reducible rfl);refine jG ?_;refine zK rfl (λK H=>?_);go_simp;have ab:Touch (λk=>k=p) w4 (World.alloc wS1 (.cells #[.slice b8 x.1.length b9,.slice b2 x.2.1.length b1,.slice cv x.2.2.1.length b4,.int .i64 x.2.2.2.1,.int .i64 x.2.2.2.2,.int .i64 0] 127))/\yS w0 (World.alloc wS1 (.cells #[.slice b8 x.1.length b9,.slice b2 x.2.1.length b1,.slice cv x.2.2.1.length b4,.int .i64 x.2.2.2.1,.int .i64 x.2.2.2.2,.int .i64 0] 127)) p:=⟨E.1.trans (Touch.of_below (bR.alloc nL _)),E.2.below (bR.alloc nL _)⟩;refine H _ _ ab ?_;clear H K ab;refine jG ?_;have zS:=E.1.size;have R5:=E.1.kC R bH3;have B5:=E.1.kC BK bH3;have N:=J.trans E.1;have ah:=E.2;have aj:=I.out.touch E.1 qW;clear R BK J hc I;obtain ⟨v3,u3,a7,ae,ay⟩:=kD.kHl (P:=prog) (t:=25) (ty:=25) (r:=jH) (e:=127) (c:=1) underlying25 kAv rfl bH2 bH2 aj bR (entry_own HX.out (u:=0) bH3) qF bH3;have z3:=ay.size;have aa:Touch (λk=>w.heap.size < k/\k < V.heap.size/\k≠p) wS1 u3:=ay.wide fD;have cc:(l++[(x,(0:Int))]).length<=8:=bG7;generalize l++[(x,(0:Int))]=q at *;obtain ⟨a3,c3,rfl,_⟩:=kD.sl ae.raw;have R:=aa.kC R5 bH3;have BK:=aa.kC B5 bH3;have J:=N.kBz aa vE;have hc:=ah.touch aa bG3 vE;obtain ⟨av,az⟩:=yM BK;obtain ⟨a6,bk⟩:=kBw BK;clear R5 B5 N ah aj ay aa E;refine kAa trivial ?_;refine kw rfl (λK H=>?_);refine kD.kV _ _ _ rfl bH5 bH5 a7 ?_;refine H _ _ trivial ?_;clear H K;refine jG ?_;refine ky ?_;refine kw rfl (λK H=>?_);go_simp;refine H _ _ trivial ?_;clear H K;refine jG ?_;refine kS ?_;generalize G:World.setCell u3 _ _=wQ;have o:Touch (λk=>k=V.heap.size) u3 wQ:=bB2;have BQ:Qr wQ V.heap.size #[Qn kc,Qs a3 q c3] 27:=by rw [<- G];exact kI BK 1
   have bp:=o.size;clear G av az a6 bk BK;have BK:=BQ;clear BQ;replace R:=o.kC R bH3;replace hc:=hc.touch o bH3 bD5;replace J:=J.jJ o bH3;have HQ:=yD ((ae.jo.touch o (λk q h=>by rcases q with q | q | q;(have:=q.2;omega);(have:=q.1;omega);(have:=q.1;omega))).wide (T:=λk=>w.heap.size < k/\k < wQ.heap.size/\k≠V.heap.size) (λk q=>by rcases q with q | q | q;exact ⟨by have:=q.1;omega,by have:=q.2;omega,by have:=q.2;omega⟩;exact ⟨by have:=q.1;omega,by have:=q.2;omega,by have:=q.1;omega⟩;exact ⟨by have:=q.1;omega,by have:=q.2;omega,by have:=q.1;omega⟩));exact bF
 have ch:¬ (m:Int)=1:=bH3
 by_cases ba:m=2
 · subst ba;by_cases bi:0 < l.length
   · have bn:(0:Int) < l.length:=bH3;obtain ⟨_,bb,off,rfl,_,a8⟩:=kD.kGf I.out bi;obtain ⟨ce,B_,Z,hB,br,Y,_,_⟩:=kD.own_get I.out (i:=0) bi;obtain ⟨b8,b9,b2,b1,cv,b4,rfl⟩:=entry_form Z.raw;have A0:=Y 0 _ rfl;have A1:=Y 1 _ rfl;have A2:=Y 2 _ rfl;have A3:=Y 3 _ rfl;have A4:=Y 4 _ rfl;have A5:=Y 5 _ rfl;simp only [Nat.zero_mul,Nat.add_zero] at A0 A1 A2 A3 A4 A5;have HE:=yD Z;have ag:w1.heap.size<=bb:=br.1;clear Y Z;generalize a4:l[0]=y at *;clear a4;obtain ⟨L,ac⟩:=yM BK;go_upto_region 9 with fail;clear L ac;refine zl (λW=>Touch (λk=>k=p) w4 W/\yS w0 W p) (λ_=>True) [] [(0,true),(1,true),(2,true),(3,true),(4,true),(5,true),(6,false)] [(7,false),(8,true),(9,false)] bG6 bG6 qY (⟨Touch.of_below bR.drew,hc.below bR.drew⟩) ?_;intro wS E;simp only [jB,zO,Aa,Ab,Ac,Ag];refine pre_nil ?_;iterate 3
      refine jf (v:=?_) rfl (λW hW=>?_) ?_;rotate_left;(· go_simp;try with_reducible rfl)
      refine jG ?_
      refine jf (v:=?_) rfl (λW hW=>?_) ?_;rotate_left;(· have dg:=kE (hW.1.kC BK bH3) (j:=0) (v:=.int .i64 kc) rfl;have dw:=kE (hW.1.kC BK bH3) (j:=1) (v:=.slice (some ⟨bb,off,none⟩) l.length kp) rfl;have d0:=hW.1.kIh A0 bH3;have eh:=hW.1.kIh A1 bH3;have eg:=hW.1.kIh A2 bH3;have e3:=hW.1.kIh A3 bH3;have ew:=hW.1.kIh A4 bH3;have e5:=hW.1.kIh A5 bH3;clear hW;go_simp;try with_reducible rfl)
      refine jG ?_
     refine zK rfl (λK H=>?_);go_simp;have ab:Touch (λk=>k=p) w4 (World.alloc wS (.cells #[.slice b8 y.1.1.length b9,.slice b2 y.1.2.1.length b1,.slice cv y.1.2.2.1.length b4,.int .i64 y.1.2.2.2.1,.int .i64 y.1.2.2.2.2,.int .i64 y.2] 127))/\yS w0 (World.alloc wS (.cells #[.slice b8 y.1.1.length b9,.slice b2 y.1.2.1.length b1,.slice cv y.1.2.2.1.length b4,.int .i64 y.1.2.2.2.1,.int .i64 y.1.2.2.2.2,.int .i64 y.2] 127)) p:=⟨E.1.trans (Touch.of_below (bR.alloc nL _)),E.2.below (bR.alloc nL _)⟩;refine H _ _ ab ?_;clear H K ab;refine jG ?_;have O:=yD E.1;have zS:=E.1.size;have R5:=E.1.kC R bH3;have B5:=E.1.kC BK bH3;have N:=J.trans E.1;have ah:=E.2;have aj:=I.out.touch E.1 qW;clear R BK J hc I;obtain ⟨v3,u3,a7,ae,ay⟩:=kD.kWd (P:=prog) (t:=25) (ty:=25) (r:=jH) (e:=127) (c:=1) underlying25 kAv rfl bH2 bH2 aj bR (HE.out.touch O.out (λk q=>by have h1:=(hB k q).1;have h2:=h1.1;have h3:=h1.2;omega)).jo (λb_ o_ q_ h_=>by simp only [Option.some.injEq,Addr.mk.injEq,and_true] at q_;have:=(hB _ h_).2;omega) bi bH3;have z3:=ay.size;have aa:Touch (λk=>w.heap.size < k/\k < V.heap.size/\k≠p) wS u3:=ay.wide fD;have cc:(l++[y]).length<=8:=bG7;generalize l++[y]=q at *;obtain ⟨a3,c3,rfl,_⟩:=kD.sl ae.rd.1;have R:=aa.kC R5 bH3;have BK:=aa.kC B5 bH3;have J:=N.kBz aa vE;have hc:=ah.touch aa bG3 vE;obtain ⟨av,az⟩:=yM BK;obtain ⟨a6,bk⟩:=kBw BK;clear R5 B5 N ah aj ay aa E;refine kAa trivial ?_;refine kw rfl (λK H=>?_);refine kD.kV _ _ _ rfl bH5 bH5 a7 ?_;refine H _ _ trivial ?_;clear H K;refine jG ?_;refine ky ?_;refine kw rfl (λK H=>?_);go_simp;refine H _ _ trivial ?_;clear H K;refine jG ?_;refine kS ?_;generalize G:World.setCell u3 _ _=wQ;have o:Touch (λk=>k=V.heap.size) u3 wQ:=bB2;have BQ:Qr wQ V.heap.size #[Qn kc,Qs a3 q c3] 27:=by rw [<- G];exact kI BK 1
     have bp:=o.size;clear G av az a6 bk BK;have BK:=BQ;clear BQ;replace R:=o.kC R bH3;replace hc:=hc.touch o bH3 bD5;replace J:=J.jJ o bH3;have HQ:=yD ((ae.touch o (λk q h=>by rcases q with q | q | q;(have:=q.2;omega);(have h1:=(hB k q).1;have h2:=h1.2;omega);(have:=q.1;omega))).wide (T:=λk=>w.heap.size < k/\k < wQ.heap.size/\k≠V.heap.size) (λk q=>by rcases q with q | q | q;exact ⟨by have:=q.1;omega,by have:=q.2;omega,by have:=q.2;omega⟩;exact ⟨by have:=(hB k q).1.1;omega,by have:=(hB k q).1.2;omega,by have:=(hB k q).1.2;omega⟩;exact ⟨by have:=q.1;omega,by have:=q.2;omega,by have:=q.1;omega⟩));exact bF
   have bn:¬ (0:Int) < l.length:=bH3;obtain ⟨L,ac⟩:=yM BK;go_upto_region 10 with fail;clear L ac;exact bV
 have c7:¬ (m:Int)=2:=bH3
 go_upto_region 10 with fail
 exact bV
end Go.Proofs.YtjhfdpopkkmigabGreat

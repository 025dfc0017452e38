/-
  A success recorded.
-/
import Derived.Test.YthocbplmdjkifabGreatVNodeI
set_option linter.unusedVariables false
set_option linter.defProp false
set_option linter.unusedSimpArgs false
set_option linter.unnecessarySimpa false
set_option maxRecDepth 100000
set_option maxHeartbeats 4000000
open _root_ renaming List->Aa
open Go renaming frozen_of_row->Ab,Value->Ac,World->Ad,Calls->Ai,bodyPost_ret->Am
open Go.Value.slice renaming injEq->Ae
open Int renaming toNat_natCast->Ag,eq_ofNat_of_zero_le->Aj
open Bool renaming eq_iff_iff->Ah
open List renaming mem_append->Ak,mem_singleton->Al
open Go.Proofs.Tryz renaming underlying30->Ap
open List.cons renaming injEq->Aq
namespace Go.Proofs.YthocbplmdjkifabGreat
open Go.RowKit _root_.Go.Proofs.Tryz
variable {w:Ad} {f x6:Int} {n:kU} {l x5:Aa kM} {x0:Aa jK} {x4:Aa jH} {x2:Aa kF} {x3:Aa jI} {cn cx cy:Aa Ac} {x1:kr} {vl c0 c2 c3 c4 c5 c1 v O D:Ac} {k m p:Nat} {r:jH} {S:Nat->Prop} {x:ja} {t:jK} {α:Type}
def Touch.cellAt {w':Ad} {b i:Nat} (h:Touch S w w') (hb:¬ S b) (k:Qc w b i v):Qc w' b i v:=by
 exact H8
def kVk (t:jK) (x:ja):ja:=(x.1++[t],x.2)
def kTi (t:jK) (x:ja):Bool:=kBs (kVk t x)
def addL (t:jK) (x:ja):ja:=if kTi t x then kVk t x else x
def addL_no (h:kBs (kVk t x)=false):addL t x=x/\kTi t x=false:=by unfold addL kTi;rw [h];exact ⟨rfl,rfl⟩
def addL_yes (h:kBs (kVk t x)=true):addL t x=kVk t x/\kTi t x=true:=by unfold addL kTi;rw [h];exact ⟨rfl,rfl⟩
def nodeOk_len (h:kBs x=true):x.1.length<=8:=by
 unfold kBs kYe at h;simp only [Bool.and_eq_true,decide_eq_true_eq] at h;have:=h.2.1.1.1.1.1.1;omega
def jGd {β:Type} {r:kD α} {q:kD β} {cs ds:Aa Ac} {x:α} {y:β} (h:r.raw w cs x) (k:q.raw w ds y):(kD.pair r q).raw w (cs++ds) (x,y) :=
  ⟨cs,ds,λ_=>True,λ_=>True,rfl,h,k,λ_ _=>trivial,λ_ _=>trivial,λh=>Bool.noConfusion h⟩
def jBr (hx:jc.rd w cx x) {ct:Aa Ac} (ht:jC.rd w ct t) :
    Ai prog 216 #[.agg cx.toArray,.agg ct.toArray] w λe w'=>∃ cs,e=.returned (.tuple #[.agg cs.toArray,.bool (kTi t x)])/\jc.own w' cs (addL t x) (jW w w')/\Qb w w':=by
 refine aN hx ht λHX b8=>?_;have bm:x.1.length<=16777216:=hx.2.1.1;obtain ⟨el,e1,f3,f1,fw,fu,rfl,ac,bc,bl,bj,bf,bp,bt,c6,dp⟩:=yF hx.1;obtain ⟨dg,dd,rfl,en,dj,di,rfl,e4,d4,dz,rfl,fx,eb,d9,rfl,fz,d3,dy,rfl,f5,dx,dr,rfl,fy⟩:=kD.sx ac (kD.sx bj (kD.sx bf (kD.sx bp (kD.sx bt (kD.sl c6)))));obtain ⟨bd,c8,c9,rfl,ab,a2,a1,cv,bb,cf,bi⟩:=jT ht.1;obtain ⟨b0,af,rfl,ay,cg,ce,rfl,df,b9,cw,rfl,de⟩:=kD.sx a2 (kD.sx a1 (kD.sl bb));clear hx ht ac bc bl bj bf bp bt c6 dp ab a2 a1 cv bb cf bi;go_enter func216,ntmps216;go_wp2_with fail;refine nA λX U=>?_;refine iD λEB=>?_;refine PY λY K1 K2 K3 K4=>?_;refine CJ λK5 K6=>?_;have K7:Qd X w 7 (Qn x.2.2.2.2.2.2):=bA9;have D0:Qc X (w.heap.size + 1) 0 (Qs b0 t.1 af):=bA9;have D1:Qc X (w.heap.size + 1) 1 (Qs cg t.2.1 ce):=bA9;have D2:Qc X (w.heap.size + 1) 2 (Qs b9 t.2.2.1 cw):=bA9;have D3:Qc X (w.heap.size + 1) 3 (Qn t.2.2.2.1):=bA9;have D4:Qc X (w.heap.size + 1) 4 (Qn t.2.2.2.2):=bA9;have H:Hid (Qr X (w.heap.size + 1 + 1) #[.slice none 0 0,Qn 0,.slice none 0 0,.slice none 0 0,.slice none 0 0,.slice none 0 0,.slice none 0 0,Qn 0] 33):=yD vZ;have cc:w.heap.size + 3<=X.heap.size:=bH6;clear U;refine (kPh (HX.below EB)).mono ?_;rintro e w1 ⟨bv,ds,mid,rfl,O1,R1,b3,ck,O⟩;have RW:=jGd O1.kMm R1.raw;obtain ⟨iv,jn,i9,c5,dm,da,a6,a3,ek,fl,gj,an,al,be,ax,br⟩:=yF (show jc.raw w1 _ x from RW);simp only [List.cons_append,List.nil_append,Aq] at a6;obtain ⟨rfl,rfl⟩:=a6;obtain ⟨ff,fm,rfl,_,e9,fc,rfl,_,b4,V,rfl,_,bk,L,rfl,_,aj,ai,rfl,_⟩:=kD.sx gj (kD.sx an (kD.sx al (kD.sx be (kD.sl ax))));refine aH O1 λoa on oc ho ak=>?_;obtain rfl:=ho;refine aN O1 R1 λF HR=>?_;have a4:=O.size;have E1:=(tQ EB O);replace H:=yD (kC H.out O);refine aJ O Y K1 K2 λY K1 K2=>?_;refine aJ O K3 K4 K5 λK3 K4 K5=>?_;refine aJ O K6 K7 D0 λK6 K7 D0=>?_;refine aJ O D1 D2 D3 λD1 D2 D3=>?_;replace D4:=cL O D4;clear O1 R1 RW O EB a3 ek fl gj an al be ax br;go_upto_region 2 with fail;generalize R:World.alloc w1 _=wC;have ag:Qb w1 wC:=vT;have XM:Hid (Qr wC w1 #[.slice oa on oc,Qn x.2.1.1,Qs ff x.2.1.2 fm,Qs e9 x.2.2.1 fc,Qs b4 x.2.2.2.1 V,Qs bk x.2.2.2.2.1 L,Qs aj x.2.2.2.2.2.1 ai,Qn x.2.2.2.2.2.2] 33):=yD (by rw [<- R];exact kg rfl);have a9:w1.heap.size + 1<=wC.heap.size:=bI2;clear R;have EC:=(tQ E1 ag);replace H:=yD (kC H.out ag);refine aD F ag HR λF HR=>?_;have M0:=kE XM.out (j:=0) rfl;refine aJ ag Y K1 K2 λY K1 K2=>?_;refine aJ ag K3 K4 K5 λK3 K4 K5=>?_;refine aJ ag K6 K7 D0 λK6 K7 D0=>?_;refine aJ ag D1 D2 D3 λD1 D2 D3=>?_;replace D4:=cL ag D4;have FX:=yD (λ(W:Ad) (hW:Qb wC W)=>kPa hW M0 D0 D1 D2 D3 D4);refine jU (λW=>Qb wC W) [true,true,true,false,false] bI9 bI9 sD (bR.drew) ?_;refine uB λwS I=>?_;all_goals ((first|(refine kI rfl I ?_)|(refine ku rfl (λK E=>?_);go_simp;refine (kBv (b8.below (tQ EC I))).mono ?_;rintro e wT ⟨tc,rfl,OT,ba⟩;obtain ⟨ed,et,e0,rfl,bh,bu,bw,co,dw,ej,ei⟩:=jT OT.raw;obtain ⟨a7,b7,rfl,ez⟩:=kD.sl bu;obtain ⟨bg,c2,rfl,ew⟩:=kD.sl bw;obtain ⟨a8,cl,rfl,eu⟩:=kD.sl dw;clear bh bu bw co dw ej ei;have ee:=ba.size;have cq:=I.size;have ey:=yD OT;replace I:=(tQ I ba);refine E _ _ I ?_;clear E K ba OT));refine jD ?_;(first|(refine kI rfl I ?_)|(refine ku rfl (λK E=>?_);go_simp;refine E _ _ (I.alloc I.size _) ?_;clear E K));refine jD ?_;refine jq ?_)
 replace H:=yD (kC H.out I);replace XM:=yD (kC XM.out I);refine aD F I HR λF HR=>?_;have ET:=(tQ EC I);have bn:=I.size;refine aJ I Y K1 K2 λY K1 K2=>?_;refine aJ I K3 K4 K5 λK3 K4 K5=>?_;refine aL I K6 K7 λK6 K7=>?_;go_wp2_with (at_builtin;refine kD.kBd rfl _ _ 24 rfl (r:=jC) (e:=43) underlying24 kNq rfl bJ4 bJ4 F.out bJ7 bJ7 rfl ey.out rfl pQ bJ5 ?_);intro v2 w2 hown ah;refine aN hown ah λae b1=>?_;refine aH hown λva vn vc hv aw=>?_;obtain rfl:=hv;have am:=ah.size;simp at am;clear hown ah;have TU:Touch (jW X mid) wT w2:=(Touch.of_below (bR.alloc nL _)).trans (b1.wide (λk h=>h.2));have aq:=TU.kC XM.out (λq=>by have q1:=q.1;have q2:=q.2;omega);have N0:=kE aq (j:=0) rfl;have NF:=Ab w2 w1 0 _ _ aq;have ar:vn<=16777217:=by have:=aw.out;simp at this;omega
 go_upto_region 3 with fail;generalize av:World.setCell w2 ⟨w1,0,none⟩ _=w3;have TW:Touch (λk=>k=w1.heap.size) w2 w3:=by rw [<- av];exact kD.kAc [_] w2 _ 0
 have Z:Hid (Qr w3 w1 #[.slice va vn vc,Qn x.2.1.1,Qs ff x.2.1.2 fm,Qs e9 x.2.2.1 fc,Qs b4 x.2.2.2.1 V,Qs bk x.2.2.2.2.1 L,Qs aj x.2.2.2.2.2.1 ai,Qn x.2.2.2.2.2.2] 33):=yD (by
   rw [<- av];have y0:=heap_setCell_same _ (w1.heap.size) 0 _ 33 (.slice va vn vc) aq;exact y0)
 clear av;have TA:Touch (λk=>jW X mid k\/k=w1.heap.size) wT w3:=(TU.wide (λk h=>.inl h)).trans (TW.wide (λk h=>.inr h));have bq:=TW.size;have D:=yD (TA.kC H.out (λq=>by rcases q with q | q;(have q1:=q.1;omega);omega));have au:=yD (HR.touch TA (λi p q=>by have p1:=p.1;have p2:=p.2;rcases q with q | q;(have q2:=q.2;omega);omega));have ap:=yD (ae.touch TW (λi p q=>by rcases p with p | p | p;(have p2:=p.2;omega);(have p1:=p.1;omega);(have p1:=p.1;omega)));have E3:=ET.trans (TA.below (B:=w.heap.size) (by have:=ET.size;omega) (λi q=>by rcases q with q | q;(have q1:=q.1;omega);omega));replace Y:=TA.cellAt mQ Y;replace K1:=TA.cellAt mQ K1;replace K2:=TA.cellAt mQ K2;replace K3:=TA.cellAt mQ K3;replace K4:=TA.cellAt mQ K4;replace K5:=TA.cellAt mQ K5;replace K6:=TA.cellAt mQ K6;replace K7:=TA.cellAt mQ K7;clear TU aq N0 NF TW TA H XM F HR ae b1 I ET;have aa:Hid (x.1.length < 16777216->jc.own w3 [.slice va vn vc,Qn x.2.1.1,Qs ff x.2.1.2 fm,Qs e9 x.2.2.1 fc,Qs b4 x.2.2.2.1 V,Qs bk x.2.2.2.2.1 L,Qs aj x.2.2.2.2.2.1 ai,Qn x.2.2.2.2.2.2] (kVk t x) (jW X w3)):=yD (λhl=>kD.ji (r:=kD.slice 43 jC) (q:=(kD.pair kS (kD.pair Ce (kD.pair Cj (kD.pair Ch (kD.pair Cf kD.int)))))) (cs:=[.slice va vn vc]) (ds:=[.int .i64 x.2.1.1,.slice ff x.2.1.2.length fm,.slice e9 x.2.2.1.length fc,.slice b4 x.2.2.2.1.length V,.slice bk x.2.2.2.2.1.length L,.slice aj x.2.2.2.2.2.1.length ai,.int .i64 x.2.2.2.2.2.2]) (x:=x.1++[t]) (y:=x.2) (S:=jW X w3) (ap.own bC1) au.out (λi p=>by rcases p with p | p | p;exact ⟨p.1,by have:=p.2;omega⟩;exact ⟨by have:=p.1;omega,by have:=p.2;omega⟩;exact ⟨by have:=p.1;omega,by have:=p.2;omega⟩) (λi p=>⟨by have:=p.1;omega,by have:=p.2;omega⟩) (λi p q=>by have q1:=q.1;have q2:=q.2;rcases p with p | p | p;(have p2:=p.2;omega);(have p1:=p.1;omega);(have p1:=p.1;omega)));have HV:Hid (jc.raw w3 [.slice va vn vc,Qn x.2.1.1,Qs ff x.2.1.2 fm,Qs e9 x.2.2.1 fc,Qs b4 x.2.2.2.1 V,Qs bk x.2.2.2.2.1 L,Qs aj x.2.2.2.2.2.1 ai,Qn x.2.2.2.2.2.2] (kVk t x)):=yD (jGd ap.kMm au.raw);clear ap au;have M0:=kE Z.out (j:=0) rfl;have M1:=kE Z.out (j:=1) rfl;have M2:=kE Z.out (j:=2) rfl;have M3:=kE Z.out (j:=3) rfl;have M4:=kE Z.out (j:=4) rfl;have M5:=kE Z.out (j:=5) rfl;have M6:=kE Z.out (j:=6) rfl;have M7:=kE Z.out (j:=7) rfl;go_wp2_with fail;refine (kYv HV.out).mono ?_;refine fO λw4 N=>?_;have E4:=(tQ E3 N);have cd:=N.size;replace D:=yD (kC D.out N);replace aa:=yD (λhl=>(aa.out hl).below N);replace Y:=cL N Y;replace M0:=cL N M0;replace K1:=cL N K1;refine aJ N M1 K2 M2 λM1 K2 M2=>?_;refine aJ N K3 M3 K4 λK3 M3 K4=>?_;refine aJ N M4 K5 M5 λM4 K5 M5=>?_;refine aJ N K6 M6 K7 λK6 M6 K7=>?_;replace M7:=cL N M7;clear N HV Z E3;cases hv:kBs (kVk t x)
 · have HQ:=yD (addL_no hv);clear hv aa;go_wp2_with fail;refine (kGw (HX.below E4)).mono ?_;refine eD λw8 tc O8 ao=>?_;obtain ⟨jp,i8,dq,dc,dl,dn,rfl,fe,fq,hr,hn,gi,gs,hz,az,a5⟩:=yF O8.raw;obtain ⟨fb,e7,rfl,jj,hw,hu,rfl,jk,c1,b6,rfl,db,cz,c4,rfl,dh,c3,ch,rfl,c7,bx,b2,rfl,dk⟩:=kD.sx fe (kD.sx hn (kD.sx gi (kD.sx gs (kD.sx hz (kD.sl az)))));clear fe fq hr hn gi gs hz az a5;have G:=yD O8;have E8:=(tQ E4 ao);have bz:=ao.size;have X8:=kC D.out ao;clear O8 ao D;have R0:=kE (b:=w.heap.size + 1 + 1) X8 (j:=0) rfl;have F0:=Ab w8 (w.heap.size + 1 + 1) 0 _ _ X8;have R1:=kE (b:=w.heap.size + 1 + 1) X8 (j:=1) rfl;have F1:=Ab w8 (w.heap.size + 1 + 1) 1 _ _ X8;have R2:=kE (b:=w.heap.size + 1 + 1) X8 (j:=2) rfl;have F2:=Ab w8 (w.heap.size + 1 + 1) 2 _ _ X8;have R3:=kE (b:=w.heap.size + 1 + 1) X8 (j:=3) rfl;have F3:=Ab w8 (w.heap.size + 1 + 1) 3 _ _ X8;have R4:=kE (b:=w.heap.size + 1 + 1) X8 (j:=4) rfl;have F4:=Ab w8 (w.heap.size + 1 + 1) 4 _ _ X8;have R5:=kE (b:=w.heap.size + 1 + 1) X8 (j:=5) rfl;have F5:=Ab w8 (w.heap.size + 1 + 1) 5 _ _ X8;have R6:=kE (b:=w.heap.size + 1 + 1) X8 (j:=6) rfl;have F6:=Ab w8 (w.heap.size + 1 + 1) 6 _ _ X8;have R7:=kE (b:=w.heap.size + 1 + 1) X8 (j:=7) rfl;have F7:=Ab w8 (w.heap.size + 1 + 1) 7 _ _ X8;go_wp2;refine Am (v:=.tuple #[.agg (Qh fb x.1 e7 x.2.1.1 hw x.2.1.2 hu c1 x.2.2.1 b6 cz x.2.2.2.1 c4 c3 x.2.2.2.2.1 ch bx x.2.2.2.2.2.1 b2 x.2.2.2.2.2.2),.bool false]) dX rfl ⟨[_,_,_,_,_,_,_,_],by rw [HQ.2],?_,?_⟩
   · rw [HQ.1];exact (kD.own.out G.out gG).wide mG
   repeat (first|(with_reducible exact E8) | refine Below.setCell ?_ vG _)
 have HQ:=yD (addL_yes hv);have b5:=yD (nodeOk_len hv);have bo:=yD (aa.out (by have:=b5.out;simp [kVk] at this;omega));clear hv aa;have R0:=kE (b:=w.heap.size + 1 + 1) D.out (j:=0) rfl;have F0:=Ab w4 (w.heap.size + 1 + 1) 0 _ _ D.out;have R1:=kE (b:=w.heap.size + 1 + 1) D.out (j:=1) rfl;have F1:=Ab w4 (w.heap.size + 1 + 1) 1 _ _ D.out;have R2:=kE (b:=w.heap.size + 1 + 1) D.out (j:=2) rfl;have F2:=Ab w4 (w.heap.size + 1 + 1) 2 _ _ D.out;have R3:=kE (b:=w.heap.size + 1 + 1) D.out (j:=3) rfl;have F3:=Ab w4 (w.heap.size + 1 + 1) 3 _ _ D.out;have R4:=kE (b:=w.heap.size + 1 + 1) D.out (j:=4) rfl;have F4:=Ab w4 (w.heap.size + 1 + 1) 4 _ _ D.out;have R5:=kE (b:=w.heap.size + 1 + 1) D.out (j:=5) rfl;have F5:=Ab w4 (w.heap.size + 1 + 1) 5 _ _ D.out;have R6:=kE (b:=w.heap.size + 1 + 1) D.out (j:=6) rfl;have F6:=Ab w4 (w.heap.size + 1 + 1) 6 _ _ D.out;have R7:=kE (b:=w.heap.size + 1 + 1) D.out (j:=7) rfl;have F7:=Ab w4 (w.heap.size + 1 + 1) 7 _ _ D.out;go_wp2;refine Am (v:=.tuple #[.agg #[.slice va vn vc,Qn x.2.1.1,Qs ff x.2.1.2 fm,Qs e9 x.2.2.1 fc,Qs b4 x.2.2.2.1 V,Qs bk x.2.2.2.2.1 L,Qs aj x.2.2.2.2.2.1 ai,Qn x.2.2.2.2.2.2],.bool true]) dX rfl ⟨[_,_,_,_,_,_,_,_],by rw [HQ.2],?_,?_⟩
 · rw [HQ.1];exact (kD.own.out bo.out gG).wide gV
 exact IZ E4
def kNt {l:Aa jI} {x:Int}:(yT l n x).length<=max l.length 24:=by
 unfold yT;split;simp;omega;simp at *;omega
def kNn {n:kU}:∀ (D:Aa kY) (s:Aa jI),(D.foldl (λs r=>yT s n r.2.1) s).length<=max s.length 24
  | [],s=>by simp;omega
  | r :: D,s=>by
    have h1:=kNn (n:=n) D (yT s n r.2.1);have h2:=kNt (l:=s) (n:=n) (x:=r.2.1);simp only [List.foldl_cons];omega
def kLm {D:Aa kY} {s:Aa jI} {j:Nat} (h:j < D.length):(D.take (j + 1)).foldl (λs r=>yT s n r.2.1) s=yT ((D.take j).foldl (λs r=>yT s n r.2.1) s) n D[j].2.1:=by
 rw [List.take_succ_eq_append_getElem h,List.foldl_append];rfl
def kQp (h:jc.raw w [c0,c1,c2,c3,c4,c5,O,D] (x0,x1,x2,x3,x4,x5,x6)):Ce.raw w [c3] x2:=by
 obtain ⟨rfl,rfl,a0,a1,a2,a3,a4,a5,U,a7,a8⟩:=kNv h;exact a4
def kJj (h:jc.rd w [c0,c1,c2,c3,c4,c5,O,D] (x0,x1,x2,x3,x4,x5,x6)):Cj.rd w [c4] x3:=by
 obtain ⟨rfl,rfl,a0,a1,a2,a3,a4,a5,U,a7,a8⟩:=kNv h.1;exact ⟨a5,h.2.2.2.2.1⟩
def kYh (h:jc.rd w [c0,c1,c2,c3,c4,c5,O,D] (x0,x1,x2,x3,x4,x5,x6)):Ch.rd w [c5] x4:=by
 obtain ⟨rfl,rfl,a0,a1,a2,a3,a4,a5,U,a7,a8⟩:=kNv h.1;exact ⟨U,h.2.2.2.2.2.1⟩
def jGk (h:jc.rd w [c0,c1,c2,c3,c4,c5,O,D] (x0,x1,x2,x3,x4,x5,x6)):Cf.rd w [O] x5:=by
 obtain ⟨rfl,rfl,a0,a1,a2,a3,a4,a5,U,a7,a8⟩:=kNv h.1;exact ⟨a7,h.2.2.2.2.2.2.1⟩
def jCo {xc:Int} {xe:Aa kW} (h:jc.rd w [c0,Qn xc,c2,c3,c4,c5,O,D] (x0,(xc,xe),x2,x3,x4,x5,x6)):kS.rd w [Qn xc,c2] (xc,xe):=by
 obtain ⟨v0,v2,v3,v4,v5,v6,he,a0,a1,a2,a3,a4,a5,U,a7,a8⟩:=yF h.1;simp only [Aq,and_true] at he;obtain ⟨rfl,h2,rfl,rfl,rfl,rfl,rfl,rfl⟩:=he;exact ⟨a1,h.2.2.1⟩
def kHb {y:Aa kF} {T:Nat->Prop}
    (h:jc.own w [c0,c1,c2,c3,c4,c5,O,D] (x0,x1,x2,x3,x4,x5,x6) S) (hv:Ce.own w [v] y T) (hd:∀ k,S k->T k->False):jc.own w [c0,c1,c2,v,c4,c5,O,D] (x0,x1,y,x3,x4,x5,x6) (λk=>S k\/T k) :=
  kD.set_right (c:=[c0]) h rfl (λB hB hq=>kD.set_right (c:=[c1,c2]) hq rfl (λB2 F E=>kD.set_left (c:=[c3]) (c':=[v]) E rfl hv (λk a b=>hd k (hB k (F k a)) b)) (λk a b=>hd k (hB k a) b)) hd
def kDi {y:Aa jI} {T:Nat->Prop}
    (h:jc.own w [c0,c1,c2,c3,c4,c5,O,D] (x0,x1,x2,x3,x4,x5,x6) S) (hv:Cj.own w [v] y T) (hd:∀ k,S k->T k->False):jc.own w [c0,c1,c2,c3,v,c5,O,D] (x0,x1,x2,y,x4,x5,x6) (λk=>S k\/T k) :=
  kD.set_right (c:=[c0]) h rfl (λB hB hq=>kD.set_right (c:=[c1,c2]) hq rfl (λB2 F E=>kD.set_right (c:=[c3]) E rfl (λB3 G I=>kD.set_left (c:=[c4]) (c':=[v]) I rfl hv (λk a b=>hd k (hB k (F k (G k a))) b)) (λk a b=>hd k (hB k (F k a)) b)) (λk a b=>hd k (hB k a) b)) hd
def kDj {y:Aa kM} {T:Nat->Prop}
    (h:jc.own w [c0,c1,c2,c3,c4,c5,O,D] (x0,x1,x2,x3,x4,x5,x6) S) (hv:Cf.own w [v] y T) (hd:∀ k,S k->T k->False):jc.own w [c0,c1,c2,c3,c4,c5,v,D] (x0,x1,x2,x3,x4,y,x6) (λk=>S k\/T k) :=
  kD.set_right (c:=[c0]) h rfl (λB hB hq=>kD.set_right (c:=[c1,c2]) hq rfl (λB2 F E=>kD.set_right (c:=[c3]) E rfl (λB3 G I=>kD.set_right (c:=[c4]) I rfl (λB4 Z J=>kD.set_right (c:=[c5]) J rfl (λB5 ah H=>kD.set_left (c:=[O]) (c':=[v]) H rfl hv (λk a b=>hd k (hB k (F k (G k (Z k (ah k a))))) b)) (λk a b=>hd k (hB k (F k (G k (Z k a)))) b)) (λk a b=>hd k (hB k (F k (G k a))) b)) (λk a b=>hd k (hB k (F k a)) b)) (λk a b=>hd k (hB k a) b)) hd
def kFp {u:Ac} {y:kr} {T:Nat->Prop}
    (h:jc.own w [c0,c1,c2,c3,c4,c5,O,D] (x0,x1,x2,x3,x4,x5,x6) S) (hv:kS.own w [u,v] y T) (hd:∀ k,S k->T k->False):jc.own w [c0,u,v,c3,c4,c5,O,D] (x0,y,x2,x3,x4,x5,x6) (λk=>S k\/T k) :=
  kD.set_right (c:=[c0]) h rfl (λB hB hq=>kD.set_left (c:=[c1,c2]) (c':=[u,v]) hq rfl hv (λk a b=>hd k (hB k a) b)) hd
def jHo (x y:kM):Bool:=!((x.2.1 != y.2.1) || ((x.2.2 != y.2.2) || !eqN x.1 y.1))
def vMeasS_eq (x y:kM):jHo x y=decide (x=y):=by
 obtain ⟨x0,x1,x2⟩:=x;obtain ⟨y0,y1,y2⟩:=y;rw [Ah];simp [jHo,eqN];exact KY
def jAy (x y:kM):Bool:=(eqN x.1 y.1 && (x.2.1==y.2.1)) && (x.2.2==y.2.2)
def vMeas_eq (x y:kM):jAy x y=decide (x=y):=by
 obtain ⟨x0,x1,x2⟩:=x;obtain ⟨y0,y1,y2⟩:=y;rw [Ah];simp [jAy,eqN,and_assoc]
def kLs {x:kM} (hx:kL.raw w cx x) {y:kM} (hy:kL.raw w cy y) :
    Ai prog 210 #[.agg cx.toArray,.agg cy.toArray] w (bQ w (.bool (jAy x y))):=by
 have Hx:=yD hx;obtain ⟨ay,rfl,Y,O,ag,am⟩:=kFg hx;obtain ⟨az,ar,rfl,aq⟩:=kD.sl O;have Hy:=yD hy;obtain ⟨a3,rfl,ae,ai,al,ao⟩:=kFg hy;obtain ⟨aw,av,rfl,a6⟩:=kD.sl ai;go_enter func210,ntmps210;go_upto_region 1 with fail;refine xL λX EB ah J U F V aj FX=>?_;refine K9 ?_;refine q8 λwS I=>?_;all_goals ((first | refine wkB (yI (kD.raw.below Y (tQ EB I)) (kD.raw.below ae (tQ EB I))) (λwS1 I=>?_) | refine kZ ?_);refine jo λb D=>?_;cases b <;> try simp only [jm] at D)
 all_goals ((iterate 6 refine kZ ?_);refine jo λb ab=>?_;cases b <;> try simp only [jm] at ab)
 all_goals ((iterate 6 refine kZ ?_);refine jo λb ak=>?_;cases b <;> try simp only [jm] at ak)
 all_goals (refine kR ?_;have G:=(tQ EB I))
 all_goals (obtain ⟨vq,qv⟩:∃ qc,(jAy x y)=qc:=⟨_,rfl⟩;have L:=yD qv;simp only [jAy,Q0,D,ab,ak] at qv;subst qv;go_wp2;go_ret;exact ⟨kJ L.symm,G⟩)
def kFe {p:α->Bool} {x:Aa α} (h:¬ idxOf p x < 0):∃ k:Nat,k < x.length/\idxOf p x=k:=by
 exact KS
def zm (l:Aa kM) (n:kU) (f:Int):Int:=if idxOf (yg n f) l < 0 then 0 else (l.getD (idxOf (yg n f) l).toNat ([],0,0)).2.2
def jGy {l:List kM} (h:idxOf (yg n f) l < 0):zm l n f=0:=by unfold zm;rw [if_pos h]
def jDq (hk:k < l.length) (h:idxOf (yg n f) l=k):zm l n f=l[k].2.2:=by
 unfold zm;rw [h,if_neg bJ5,Ag,jY hk]
def kVx (hl:Cf.raw w [vl] l) (hn:kQ.raw w cn n) :
    Ai prog 198 #[vl,.agg cn.toArray,.int .i64 f] w (bQ w (.int .i64 (zm l n f))):=by
 refine aN hn hl λHN HL=>?_;obtain ⟨av,rfl,_⟩:=kT hn;obtain ⟨aa,H,rfl,la⟩:=kD.sl hl;clear hn hl;go_enter func198,ntmps198;go_wp2_with fail;refine (kHw (HL.below bK) (HN.below bK)).mono ?_;exact NV
def kWx (hl:Cf.raw w [vl] l) (hn:kQ.raw w cn n) :
    Ai prog 194 #[vl,.agg cn.toArray,.int .i64 f] w (bQ w (.int .i64 (zm l n f))):=by
 refine aN hn hl λHN HL=>?_;obtain ⟨av,rfl,_⟩:=kT hn;obtain ⟨aa,H,rfl,la⟩:=kD.sl hl;clear hn hl;go_enter func194,ntmps194;go_wp2_with fail;refine (kFd (HL.below bK) (HN.below bK)).mono ?_;exact NV
def kGp:jL prog 210:=yK func210 bI9 bI9
def kMt {va N:Ac} {a b:Aa kM} (ac:Cf.raw w [va] a) (a3:Cf.raw w [N] b) :
    Ai prog 147 #[va,N] w (bQ w (.bool (decide (a=b)))):=by
 go_enter func147,ntmps147;go_wp2_with fail;refine (kNf kGp ac a3 ?_).mono ?_
 · intro wr hb cs ds x y hx hy;have:=kLs hx hy;rw [vMeas_eq] at this;exact this
 exact QS
def kZw (x y:jH):Bool:=!((x.2.1 != y.2.1) || ((x.2.2 != y.2.2) || !eqN x.1 y.1))
def vRouteS_eq (x y:jH):kZw x y=decide (x=y):=by
 obtain ⟨x0,x1,x2⟩:=x;obtain ⟨y0,y1,y2⟩:=y;rw [Ah];simp [kZw,eqN];exact KY
def kSe (x y:jH):Bool:=(eqN x.1 y.1 && (x.2.1==y.2.1)) && (x.2.2==y.2.2)
def vRoute_eq (x y:jH):kSe x y=decide (x=y):=by
 obtain ⟨x0,x1,x2⟩:=x;obtain ⟨y0,y1,y2⟩:=y;rw [Ah];simp [kSe,eqN,and_assoc]
def kSy {x:jH} (hx:jA.raw w cx x) {y:jH} (hy:jA.raw w cy y) :
    Ai prog 208 #[.agg cx.toArray,.agg cy.toArray] w (bQ w (.bool (kSe x y))):=by
 have Hx:=yD hx;obtain ⟨ay,rfl,Y,O,ag,am⟩:=kDr hx;obtain ⟨az,ar,rfl,aq⟩:=kD.sl O;have Hy:=yD hy;obtain ⟨a3,rfl,ae,ai,al,ao⟩:=kDr hy;obtain ⟨aw,av,rfl,a6⟩:=kD.sl ai;go_enter func208,ntmps208;go_upto_region 1 with fail;refine xL λX EB ah J U F V aj FX=>?_;refine K9 ?_;refine q8 λwS I=>?_;all_goals ((first | refine wkB (yI (kD.raw.below Y (tQ EB I)) (kD.raw.below ae (tQ EB I))) (λwS1 I=>?_) | refine kZ ?_);refine jo λb D=>?_;cases b <;> try simp only [jm] at D)
 all_goals ((iterate 6 refine kZ ?_);refine jo λb ab=>?_;cases b <;> try simp only [jm] at ab)
 all_goals ((iterate 6 refine kZ ?_);refine jo λb ak=>?_;cases b <;> try simp only [jm] at ak)
 all_goals (refine kR ?_;have G:=(tQ EB I))
 all_goals (obtain ⟨vq,qv⟩:∃ qc,(kSe x y)=qc:=⟨_,rfl⟩;have L:=yD qv;simp only [kSe,Q0,D,ab,ak] at qv;subst qv;go_wp2;go_ret;exact ⟨kJ L.symm,G⟩)
def kJd:jL prog 208:=yK func208 bI9 bI9
def kUx {va N:Ac} {a b:Aa jH} (ac:Ch.raw w [va] a) (a3:Ch.raw w [N] b) :
    Ai prog 146 #[va,N] w (bQ w (.bool (decide (a=b)))):=by
 go_enter func146,ntmps146;go_wp2_with fail;refine (kVo kJd ac a3 ?_).mono ?_
 · intro wr hb cs ds x y hx hy;have:=kSy hx hy;rw [vRoute_eq] at this;exact this
 exact QS
def kLd (r:jH) (l:Aa jH):Aa jH :=
  if idxOf (kBg r.1 r.2.1) l < 0 then l++[r] else l.set (idxOf (kBg r.1 r.2.1) l).toNat (kNm (l.getD (idxOf (kBg r.1 r.2.1) l).toNat ([],0,0)) r.2.2)
def jEf (r:jH) (l:Aa jH):Bool:=kCt (kLd r l)
def addR (r:jH) (l:Aa jH):Aa jH:=if jEf r l then kLd r l else l
def jHj {l:List jH} (h:idxOf (kBg r.1 r.2.1) l < 0):kLd r l=l++[r]:=by unfold kLd;rw [if_pos h]
def jHi {l:Aa jH} (h:idxOf (kBg r.1 r.2.1) l=k) (hk:k < l.length):kLd r l=l.set k (kNm l[k] r.2.2):=by
 unfold kLd;exact UG
def jIw {l:List jH} (h:kCt (kLd r l)=false):addR r l=l/\jEf r l=false:=by unfold addR jEf;rw [h];exact ⟨rfl,rfl⟩
def jEd {l:List jH} (h:kCt (kLd r l)=true):addR r l=kLd r l/\jEf r l=true:=by unfold addR jEf;rw [h];exact ⟨rfl,rfl⟩
def kXq {l:List jH} (h:kCt l=true):l.length<=24:=by unfold kCt at h;simp at h;exact h.2
def jBq {l:Aa jH} (hl:Ch.rd w [vl] l) {cr:Aa Ac} (hr:jA.rd w cr r) :
    Ai prog 252 #[vl,.agg cr.toArray] w λe w'=>∃ v,e=.returned (.tuple #[v,.bool (jEf r l)])/\Ch.own w' [v] (addR r l) (jW w w')/\Qb w w':=by
 have HL:=yD hl;refine oL λbm=>?_;obtain ⟨nv,rfl,ay,ap,bb,bt⟩:=kDr hr.1;obtain ⟨n,f,c⟩:=r;have HN:Hid (kQ.rd w [nv] n):=yD ⟨ay,hr.2.1⟩;obtain ⟨na,np,rfl,_,va,vp,rfl,bj⟩:=kD.sx ap (kD.sl hl.1);refine aN bb bt λHF HC=>?_;clear ay ap bb bt hl hr;go_enter func252,ntmps252;go_wp2_with fail;refine uJ λX U=>?_;have EB:Qb w X:=vV;have Y:Qd X w 0 (Qs na n np):=bA9;have K1:Qd X w 1 (Qn f):=bA9;have K2:Qd X w 2 (Qn c):=bA9;have cc:X.heap.size=w.heap.size + 1:=bH6;clear U;refine (kFn (HL.below EB)).mono ?_;refine eD λw1 v1 O1 O=>?_;refine aJ O Y K1 K2 λY K1 K2=>?_;have E1:=(tQ EB O);refine II λa4 F=>?_;refine aH O1 λoa on oc ho ak=>?_;obtain rfl:=ho;clear O1 O EB;go_wp2_with fail;refine (kRs (HL.1.below E1) (HN.1.below E1)).mono ?_;refine fO λw4 N=>?_;refine aJ N Y K1 K2 λY K1 K2=>?_;have E4:=(tQ E1 N);refine CK E1 λcd F=>?_;clear E1 N;by_cases hk:idxOf (kBg n f) l < 0
 · have L:=yD (jHj (r:=(n,f,c)) hk);have em:¬ (0<=idxOf (kBg n f) l):=bJ5;generalize hq:idxOf (kBg n f) l=q at *;clear hq hk;go_wp2_with fail;refine (zo (HN.below E4)).mono ?_;refine ML λwT ba a7 b7 bh OT=>?_;clear bh;go_upto_region 6 with fail;generalize R:World.alloc wT _=wC;have EC:Qb wT wC:=vT;have KC:Qd wC wT 0 (Qs a7 n b7):=bB0;clear R;have ER:=(tQ ba EC);have ee:=ba.size;have bl:=EC.size;have H:=OT.below EC;refine aL ER K1 K2 λK1 K2=>?_;refine aI ER λF=>?_;go_wp2_with (at_builtin;refine kD.jN rfl _ _ 30 rfl (r:=jA) (e:=139) Ap kIk rfl bJ4 bJ4 (B:=w.heap.size) F.out bJ7 bJ7 rfl (kD.own.wide (T:=jW w4 wT) (kD.yR (r:=kQ) (q:=kD.pair kD.int kD.int) (cs:=[.slice a7 n.length b7]) (ds:=[.int .i64 f,.int .i64 c]) (x:=n) (y:=(f,c)) (H) (kD.yh (kD.jB HF.out) (kD.jB HC.out))) (λj J=>J)) rfl pQ vD pJ bJ5 bD3 ?_);intro v5 w5 aa ae bw;have ar:=yD (aa.cast L.symm);have E5:=(tQ E4 ER).trans ae;clear aa ae F;go_wp2_with fail;refine (kGu ar.kMm).mono ?_;rintro e w7 ⟨rfl,D⟩;have E:=(tQ E5 D);have am:=D.size;have ab:=yD (ar.below D);clear D;cases hv:kCt (kLd (n,f,c) l);exact QT;have HQ:=yD (jEd hv);have b5:=yD (kXq hv);clear hv;go_wp2;go_ret2;exact ⟨v5,by rw [HQ.2];rfl,((ab.cast HQ.1.symm).own qF).wide pJ,E⟩
 obtain ⟨k,Z,al⟩:=kFe hk;have bd:=yD al;rw [al];clear hk al;obtain ⟨b,cap,hv,af,bk,a2,a5⟩:=kD.kAp F.out Z;simp only [Ae] at hv;obtain ⟨rfl,ai,rfl⟩:=hv;refine P9 λbg bu=>?_;have a8:=yD (F.own bm);obtain ⟨c0,c1,c2,hr,A0,A1,A2⟩:=kD.at3 a8.raw Z rfl;clear hr;have ah:=kD.kIi F.out bJ5 (k * 3 + 2);have L:=yD (jHi (r:=(n,f,c)) bd.out Z);obtain ⟨s1,s2⟩:=kD.kFb (i:=k) (j:=2) (p:=k * 3 + 2) (u:=.int .i64 c) F.out bm Z bJ4 (λh=>RRoute_set2 _ HC.out h) (show jA.bdd Big (kNm l[k] c) from kD.zL a8.rd Z) rfl;have aj:=yD (s1.cast L.symm);have E5:Below w w (w4.setCell ⟨b,k * 3 + 2,none⟩ (Qn c)):=E4.setCell af.1 _;have bw:(w4.setCell ⟨b,k * 3 + 2,none⟩ (Qn c)).heap.size=w4.heap.size:=by simp [World.setCell]
 clear s1 s2 ai a8;go_upto_region 7 with fail;generalize ac:w4.setCell ⟨b,k * 3 + 2,none⟩ (Qn c)=w5 at *;clear ac;go_wp2_with fail;refine (kGu aj.kMm).mono ?_;refine fO λw7 D=>?_;have E:=(tQ E5 D);have am:=D.size;have ab:=yD (aj.below D);clear D;cases hv:kCt (kLd (n,f,c) l);exact QT;have HQ:=yD (jEd hv);have b5:=yD (kXq hv);clear hv;go_wp2;go_ret2;exact ⟨.slice (Qa b) on oc,by rw [HQ.2];rfl,((ab.cast HQ.1.symm).own qF).wide pJ,E⟩
def sumL (f:α->Nat) (l:Aa α):Nat:=(l.map f).sum
def wN (n:kU):Nat:=n.length + sumL ByteArray.size n
def kCe (m:Nat) (l:Aa jH):Prop:=l.length<=m/\∀ r∈l,zR r.1/\r.1.length<=64
def kCe.addR {m:Nat} {l:Aa jH} {r:jH} (h:kCe m l) (hr:zR r.1/\r.1.length<=64):kCe (m + 1) (addR r l):=by
 have hm:=h.1;have key:(kLd r l).length<=m + 1/\∀ x∈kLd r l,zR x.1/\x.1.length<=64:=by
  by_cases q:idxOf (kBg r.1 r.2.1) l < 0
  · rw [jHj q];refine ⟨by simp;omega,λx hx=>?_⟩;rcases Ak.1 hx with hx | hx;exact h.2 x hx;rw [Al.1 hx];exact hr
  obtain ⟨k,hk,e⟩:=kFe q;rw [jHi e hk];refine ⟨by simp;omega,λx hx=>?_⟩;rcases List.mem_or_eq_of_mem_set hx with hx | hx;exact h.2 x hx;rw [hx];exact h.2 l[k] (List.getElem_mem hk)
 cases q:kCt (kLd r l);rw [(jIw q).1];exact ⟨by omega,h.2⟩;rw [(jEd q).1];exact key
def kCe.snoc {l:Aa jH} (h:kCe m l) (hr:zR r.1/\r.1.length<=64):kCe (m + 1) (l++[r]):=by
 refine ⟨by have:=h.1;simp;omega,λx hx=>?_⟩;rcases Ak.1 hx with hx | hx;exact h.2 x hx;rw [Al.1 hx];exact hr
def kCe.twice {l:Aa jH} (h:kCe m l):kCe (m + m) (l++l):=by
 refine ⟨by have:=h.1;simp;omega,λx hx=>?_⟩;rcases Ak.1 hx with hx | hx <;> exact h.2 x hx
def kCe.mono {l:Aa jH} (h:kCe m l) (hk:m<=k):kCe k l:=⟨Nat.le_trans h.1 hk,h.2⟩
def kCe.nil:kCe m []:=⟨by simp,λr hr=>by simp at hr⟩
def jGa {ps:kU} {c:Int} (k:kQ.own w [v] ps S) (hf:Qi f) (hc:Qi c):jA.own w [v,Qn f,Qn c] (ps,f,c) S :=
  kD.yR (r:=kQ) (cs:=[v]) (ds:=[.int .i64 f,.int .i64 c]) k (kD.yh (cs:=[.int .i64 f]) (kD.jB hf) (kD.jB hc))
def jHx {w0:Ad} (hc:yz w0 w p) :
    Ai prog 253 #[.pointer (Qa p)] w λe w'=>∃ a c ps f I,e=.returned (.agg #[Qs a ps c,Qn f,Qn I])/\kQ.own w' [Qs a ps c] ps (jW w w')/\zR ps/\ps.length<=64/\(1<=f/\f<=4)/\(0<=I/\I<=4)/\yz w0 w' p/\Touch (λk=>k=p) w w':=by
 go_enter func253,ntmps253;obtain ⟨bx,b5⟩:=hc.lt;go_upto_region 1 with fail;refine N7 λw1 R br hc TE=>?_;go_wp2_with fail;refine (kBh (hc.below (bR.alloc nL _)) (kD.kCn _ [{ data:=#[47] },{ data:=#[47,97] },{ data:=#[47,98] },{ data:=#[47,97,47,110,101,119,115] },{ data:=#[47,110,101,119,115] }] bJ4 bJ4) bJ5 bJ4 bJ4).mono ?_;refine iR λw2 y Y a5 N D b8=>?_;refine NI λR TE hc=>?_;clear D N;go_wp2_with fail;refine (zT (kD.kEl bJ4 Y)).mono ?_;rintro e w3 ⟨a,c,ps,rfl,hr,hl,dd,hb⟩;replace R:=kC R hb;refine NM λhc TE HR=>?_;clear hb;clear hr;go_wp2_with fail;refine (kw (n:=4) hc bJ4).mono ?_;refine iP λw4 x bd H bu N D de=>?_;refine eH D R HR λR HR=>?_;refine LK H bu λTE hc H=>?_;clear D N bu;have hw:IntKind.i64.wrap (1 + x)=1 + x:=IntWalk.i64_in _ bJ5;go_wp2_with fail;refine (kw (n:=5) hc bJ4).mono ?_;refine iP λw5 y cw ab cz N D df=>?_;refine eH D R HR λR HR=>?_;refine LK ab cz λTE hc ab=>?_;clear D N cz;obtain ⟨ae,aw,bh⟩:=kBc R;obtain ⟨au,av,be⟩:=rowF3 R;go_wp2;refine Am (v:=.agg #[Qs a ps c,.int .i64 (1 + x),Qn y]) (by simp [results,results253,go_sem,ae,aw,bh,au,av,be]) rfl ⟨_,_,ps,1 + x,y,rfl,?_,dd,hl,by omega,by omega,hc.touch sT3 bJ5 bF2,TE.jO sT3 bJ5⟩;exact (HR.touch sT3 wJ).wide gV
def kRt {w0:Ad} (hc:yz w0 w p) :
    Ai prog 217 #[.pointer (Qa p)] w λe w'=>∃ a c l,e=.returned (.slice a l.length c)/\Ch.own w' [Qs a l c] l (jW w w')/\kCe 7 l/\yz w0 w' p/\Touch (λk=>k=p) w w':=by
 go_enter func217,ntmps217;obtain ⟨bx,b5⟩:=hc.lt;go_upto_region 2 with fail;refine PP λw1 br hc TE=>?_;go_wp2_with fail;refine (kw (n:=8) hc bJ4).mono ?_;refine iP λw2 m b1 b3 ck N D b8=>?_;refine LK b3 ck λTE hc b3=>?_;clear D N ck;obtain ⟨m,rfl⟩:=Aj b1;go_wp2;go_loopw [3,4] (λv i wr=>∃ (j:Nat) (a:Option Addr) (n c:Nat) (l:Aa jH),v=.slice a n c/\i=.int .i64 j/\Hid (kCe (7 - j) l)/\Hid (n=l.length)/\j < 8/\Hid (Ch.own wr [.slice a n c] l (jW w wr))/\w2.heap.size<=wr.heap.size/\yz w0 wr p/\Touch (λk=>k=p) w wr) (λ_ i _=>(intOf i).toNat);case atStart=>exact ⟨m,_,0,0,[],rfl,rfl,yD kCe.nil,yD rfl,by omega,yD kD.jr,Nat.le_refl _,hc,TE⟩
 clear hc TE;obtain ⟨j,a,n,c,l,rfl,rfl,ao,HN,J,F,dn,hc,TE⟩:=hrel;cases j with
 | zero =>
   go_wp2;go_ret;have hn:=HN.out;subst hn;exact ⟨_,_,l,rfl,F.out,ao.out,hc,TE⟩
 | succ j =>
   have dc:(0:Int) < (j:Int) + 1:=bJ5;go_wp2_with fail;refine (jHx hc).mono ?_;rintro e w4 ⟨na,nc,ps,f,I,rfl,hr,dd,ed,hf,E,N,D⟩;have de:=D.size;obtain ⟨F,TE⟩:=VX;clear hc D;have hc:=N;clear N;have HR:=yD (jGa hr (f:=f) (c:=I) bJ5 bJ5);clear hr;go_wp2_with fail;refine (jBq F.rd HR.rd).mono ?_;rintro e w5 ⟨v2,rfl,cq,hb⟩;have df:=hb.size;replace hc:=hc.below hb;replace TE:=TE.trans (Touch.of_below hb);clear hb;have d8:=yD ((ao.addR (r:=(ps,f,I)) ⟨dd,ed⟩).mono (k:=7 - j) bJ5);generalize addR (ps,f,I) l=l2 at *;generalize jEf (ps,f,I) l=ok at *;obtain ⟨a2,c2,rfl,_⟩:=kD.sl cq.raw;have ae:=yD (cq.wide (T:=jW w w5) sZ);clear cq F HR;go_wp2;go_roundw;case rel=>exact ⟨j,a2,l2.length,c2,l2,rfl,by go_num,d8,yD rfl,by omega,ae,by omega,hc,TE⟩
   case measure=>simp [intOf]
def jHy {w0:Ad} (hc:yz w0 w p) :
    Ai prog 154 #[.pointer (Qa p)] w λe w'=>∃ a c l,e=.returned (.slice a l.length c)/\Ch.own w' [Qs a l c] l (jW w w')/\kCe 14 l/\yz w0 w' p/\Touch (λk=>k=p) w w':=by
 go_enter func154,ntmps154;obtain ⟨bx,b5⟩:=hc.lt;go_wp2_with fail;refine (kRt hc).mono ?_;refine l6 λw1 a c l hO dd N D br=>?_;have TE:=D;clear hc D;have hc:=N;clear N;have F:=yD (hO);clear hO;have W:=dd.1;have ao:=yD dd;clear dd;go_wp2_with fail;refine U9 λw2 m b1 b8 F TE hc b3=>?_;obtain ⟨m,rfl⟩:=Aj b1;by_cases b0:m=0
 · subst b0;go_wp2_with fail;refine (kIe hc).mono ?_;rintro e w3 ⟨na,nc,L,rfl,hr,c6,U,N,D⟩;have cv:=D.size;refine ME λF TE hc=>?_;clear D N;have HR:=yD (hr);clear hr;go_wp2_with fail;refine (kDd (hc.below (bR.alloc nL _)) (kD.kKv _ [0,1,6,7] bJ4 bJ4) bJ5 bJ4 bJ4).mono ?_;refine iR λw4 f J X N D de=>?_;refine eX F D HR λF HR=>?_;refine eO λTE hc=>?_;clear D N;have hf:=kD.kKt (lo:=0) (hi:=7) bJ4 J;clear J;go_wp2_with fail;refine (kDd (hc.below (bR.alloc nL _)) (kD.kKv _ [-1,0,1000,1001] bJ4 bJ4) bJ5 bJ4 bJ4).mono ?_;refine iR λw5 y Y a5 N D df=>?_;refine eX F D HR λF HR=>?_;refine eO λTE hc=>?_;clear D N;have hy:=kD.kKt (lo:=-1) (hi:=1001) bJ4 Y;clear Y;go_wp2_with (at_builtin;refine kD.zG rfl _ _ 30 rfl (r:=jA) (e:=139) Ap kIk rfl bJ4 bJ4 F.out bR (jGa HR.out bJ5 bJ5) bJ7 bJ7 rA bJ5 ?_);intro v9 w9 ak aa;have O:=aa.size;have b9:=yD ((ao.snoc (r:=(L,f,y)) ⟨U,by show L.length<=64;omega⟩).mono (k:=14) bJ5);generalize l++[(L,f,y)]=q at *;obtain ⟨a9,c9,bb,_⟩:=kD.kBw ak.raw;obtain rfl:v9=_:=by simpa using bb
   have bo:=yD (ak.wide (T:=jW w w9) bM);have G:=hc.touch aa bA4 wV;have E:=TE.kCk aa (λk q=>q.1.1);clear ak aa bb;go_wp2;go_ret;exact ⟨_,_,q,rfl,bo.out,b9.out,G,E⟩
 have I:¬ (m:Int)=0:=bJ5;by_cases R:m=1
 · subst R;go_wp2_with fail;refine (kFn F.rd).mono ?_;refine eD λw3 vc hr hb=>?_;have cv:=hb.size;refine MK hb λF hc TE=>?_;clear hb;have HR:=yD (hr);clear hr;refine aH HR λya Z yc hv V=>?_;obtain rfl:=hv;go_wp2_with (at_builtin;refine kD.kRj rfl _ _ 30 rfl (r:=jA) (e:=139) Ap kIk rfl bJ4 bJ4 F.out HR.out bJ7 bJ7 rA bJ5 ?_);intro v9 w9 ak aa;have O:=aa.size;have b9:=yD (ao.twice);generalize l++l=q at *;obtain ⟨a9,c9,bb,_⟩:=kD.kBw ak.raw;obtain rfl:v9=_:=by simpa using bb
   have bo:=yD (ak.wide (T:=jW w w9) bM);have G:=hc.touch aa bB1 bA0;have E:=TE.kCk aa (λk q=>q.1);clear ak aa bb;go_wp2;go_ret;exact ⟨_,_,q,rfl,bo.out,b9.out,G,E⟩
 have H:¬ (m:Int)=1:=bJ5;go_wp2;go_ret;exact ⟨_,_,l,rfl,F.wide vK,ao.mono bJ5,hc,TE⟩
def jFs {a b:Int}:Ai prog 136 #[.int .i64 a,.int .i64 b] w λe w'=>e=.returned (.int .i64 (min a b))/\w'=w:=by
 go_enter func136,ntmps136;by_cases h:b < a
 · have hd:decide (b < a)=true:=bH8;have L:=yD (show min a b=b by omega);go_wp2;exact FZ
 have hd:decide (b < a)=false:=bH8;have L:=yD (show min a b=a by omega);exact DT
def specMax_c {a b:Int}:Ai prog 232 #[.int .i64 a,.int .i64 b] w λe w'=>e=.returned (.int .i64 (max a b))/\w'=w:=by
 go_enter func232,ntmps232;by_cases h:b > a
 · have hd:decide (b > a)=true:=bH8;have L:=yD (show max a b=b by omega);go_wp2;exact FZ
 have hd:decide (b > a)=false:=bH8;have L:=yD (show max a b=a by omega);exact DT
def upF (x:Int):Int:=min 50 (wrap64 (x + 1))
def upF_rng {x:Int}:-9223372036854775808<=upF x/\upF x<=9223372036854775807:=by
 unfold upF;unfold wrap64;omega
def kOr (n:kU) (f:Int) (l:Aa kM):Aa kM :=
  if zX n && inR f 1 6 then
    (if idxOf (yg n f) l < 0 then (if l.length < 24 then l++[(n,f,1)] else l)
     else l.set (idxOf (yg n f) l).toNat (ym (l.getD (idxOf (yg n f) l).toNat ([],0,0)) (upF (l.getD (idxOf (yg n f) l).toNat ([],0,0)).2.2)))
  else l
def kZz {l:List kM} (h:(zX n && inR f 1 6)=false):kOr n f l=l:=by unfold kOr;rw [h];rfl
def recF_new {l:List kM} (h:(zX n && inR f 1 6)=true) (h2:idxOf (yg n f) l < 0) (h3:l.length < 24):kOr n f l=l++[(n,f,1)]:=by unfold kOr;rw [if_pos h,if_pos h2,if_pos h3]
def jGc {l:List kM} (h:(zX n && inR f 1 6)=true) (h2:idxOf (yg n f) l < 0) (h3:¬ l.length < 24):kOr n f l=l:=by unfold kOr;rw [if_pos h,if_pos h2,if_neg h3]
def recF_up (h:(zX n && inR f 1 6)=true) (h2:idxOf (yg n f) l=k) (hk:k < l.length):kOr n f l=l.set k (ym l[k] (upF l[k].2.2)):=by
 unfold kOr;simp only [h,h2,Ag,jY hk];rw [if_pos trivial,if_neg bJ5]
def kIx (hl:Cf.rd w [vl] l) (hn:kQ.rd w cn n) (hf:Qi f) :
    Ai prog 69 #[vl,.agg cn.toArray,.int .i64 f] w (kAj Cf (kOr n f l) w):=by
 refine SL λHL HN bm=>?_;obtain ⟨nv,rfl,ab⟩:=kT hn.1;obtain ⟨na,np,rfl,_,va,vp,rfl,bj⟩:=kD.sx ab (kD.sl hl.1);clear ab hl hn;go_enter func69,ntmps69;go_wp2_with fail;refine oH λX EB Y cc=>?_;refine (kHx (HL.below EB)).mono ?_;refine NN λw1 Y E1 a4 oa on oc ak F=>?_;clear EB;have HF:=yD hf;clear hf;go_wp2_with fail;refine (zM (HN.1.below E1)).mono ?_;refine fO λw2 V=>?_;refine lC V E1 λY E2=>?_;have am:=V.size;replace F:=yD ((F.below V).wide (T:=jW w w2) vD);clear V E1;cases hv:zX n
 · have L:=yD (kZz (f:=f) (l:=l) (by rw [hv];rfl));exact DL E2
 go_wp2_with fail;refine yQ.mono ?_;refine fO λw3 av=>?_;obtain rfl:=av.symm;clear av;cases hi:inR f 1 6
 · have L:=yD (kZz (f:=f) (l:=l) bH1);exact DL E2
 have HB:Hid ((zX n && inR f 1 6)=true):=yD bH1;clear hv hi;go_wp2_with fail;refine (kHw (HL.1.below E2) (HN.1.below E2)).mono ?_;refine fO λw4 N=>?_;refine lC N E2 λY E4=>?_;refine CK E2 λcd F=>?_;clear E2 N;by_cases hk:idxOf (yg n f) l < 0
 · have em:¬ (0<=idxOf (yg n f) l):=bJ5;generalize hq:idxOf (yg n f) l=q at *;have HQ:=yD hq;clear hq;by_cases aq:l.length < 24
   · have ao:(l.length:Int) < 24:=bJ5;have L:=yD (recF_new HB.out bC5 aq);go_wp2_with fail;refine (zo (HN.below E4)).mono ?_;refine ML λwT ba a7 b7 bh OT=>?_;clear bh;go_upto_region 9 with fail;generalize R:World.alloc wT _=wC;have EC:Qb wT wC:=vT;have KC:Qd wC wT 0 (Qs a7 n b7):=bB0;clear R;have ER:=(tQ ba EC);have ee:=ba.size;have bl:=EC.size;have H:=OT.below EC;refine aI ER λF=>?_;exact uM H
   have ao:¬ (l.length:Int) < 24:=bJ5;have L:=yD (jGc HB.out bC5 aq);exact DL E4
 obtain ⟨k,Z,al⟩:=kFe hk;have bd:=yD al;rw [al];clear hk al;obtain ⟨b,cap,hv,af,bk,a2,a5⟩:=kD.kAp F.out Z;simp only [Ae] at hv;obtain ⟨rfl,ai,rfl⟩:=hv;refine tF λbg bu a8 c0 A0 A1 A2 bt ah L aj=>?_;clear ai;go_wp2_with fail;refine jFs.mono ?_;refine fO λw6 bq=>?_;obtain rfl:=bq.symm;clear bq;exact KJ
def kQy (hl:Cf.rd w [vl] l) (hn:kQ.rd w cn n) (hf:Qi f) :
    Ai prog 65 #[vl,.agg cn.toArray,.int .i64 f] w (kAj Cf (kOr n f l) w):=by
 refine SL λHL HN bm=>?_;obtain ⟨nv,rfl,ab⟩:=kT hn.1;obtain ⟨na,np,rfl,_,va,vp,rfl,bj⟩:=kD.sx ab (kD.sl hl.1);clear ab hl hn;go_enter func65,ntmps65;go_wp2_with fail;refine oH λX EB Y cc=>?_;refine (kDn (HL.below EB)).mono ?_;refine NN λw1 Y E1 a4 oa on oc ak F=>?_;clear EB;have HF:=yD hf;clear hf;go_wp2_with fail;refine (kAg (HN.1.below E1)).mono ?_;refine fO λw2 V=>?_;refine lC V E1 λY E2=>?_;have am:=V.size;replace F:=yD ((F.below V).wide (T:=jW w w2) vD);clear V E1;cases hv:zX n
 · have L:=yD (kZz (f:=f) (l:=l) (by rw [hv];rfl));exact DL E2
 go_wp2_with fail;refine yP.mono ?_;refine fO λw3 av=>?_;obtain rfl:=av.symm;clear av;cases hi:inR f 1 6
 · have L:=yD (kZz (f:=f) (l:=l) bH1);exact DL E2
 have HB:Hid ((zX n && inR f 1 6)=true):=yD bH1;clear hv hi;go_wp2_with fail;refine (kFd (HL.1.below E2) (HN.1.below E2)).mono ?_;refine fO λw4 N=>?_;refine lC N E2 λY E4=>?_;refine CK E2 λcd F=>?_;clear E2 N;by_cases hk:idxOf (yg n f) l < 0
 · have em:¬ (0<=idxOf (yg n f) l):=bJ5;generalize hq:idxOf (yg n f) l=q at *;have HQ:=yD hq;clear hq;by_cases aq:l.length < 24
   · have ao:(l.length:Int) < 24:=bJ5;have L:=yD (recF_new HB.out bC5 aq);go_wp2_with fail;refine (zl (HN.below E4)).mono ?_;refine ML λwT ba a7 b7 bh OT=>?_;clear bh;have ER:=ba;have ee:=ba.size;refine aI ER λF=>?_;exact uM OT
   have ao:¬ (l.length:Int) < 24:=bJ5;have L:=yD (jGc HB.out bC5 aq);exact DL E4
 obtain ⟨k,Z,al⟩:=kFe hk;have bd:=yD al;rw [al];clear hk al;obtain ⟨b,cap,hv,af,bk,a2,a5⟩:=kD.kAp F.out Z;simp only [Ae] at hv;obtain ⟨rfl,ai,rfl⟩:=hv;have bc:k < on:=bJ5;refine tF λbg bu a8 c0 A0 A1 A2 bt ah L aj=>?_;clear ai;exact KJ
def kLn (n:kU) (f:Int) (l:Aa kM):Aa kM :=
  if idxOf (yg n f) l < 0 then l
  else if (l.getD (idxOf (yg n f) l).toNat ([],0,0)).2.2 < 2 then l.take (idxOf (yg n f) l).toNat++l.drop ((idxOf (yg n f) l).toNat + 1)
  else l.set (idxOf (yg n f) l).toNat (ym (l.getD (idxOf (yg n f) l).toNat ([],0,0)) ((l.getD (idxOf (yg n f) l).toNat ([],0,0)).2.2 / 2))
def kWi {l:List kM} (h:idxOf (yg n f) l < 0):kLn n f l=l:=by unfold kLn;rw [if_pos h]
def jBz (h:idxOf (yg n f) l=k) (hk:k < l.length) (h2:l[k].2.2 < 2):kLn n f l=l.take k++l.drop (k + 1):=by
 unfold kLn;simp only [h,Ag,jY hk];rw [if_neg bJ5,if_pos h2]
def kWj (h:idxOf (yg n f) l=k) (hk:k < l.length) (h2:¬ l[k].2.2 < 2):kLn n f l=l.set k (ym l[k] (l[k].2.2 / 2)):=by
 unfold kLn;simp only [h,Ag,jY hk];rw [if_neg bJ5,if_neg h2]
def kFk (hl:Cf.rd w [vl] l) (hn:kQ.rd w cn n) (hf:Qi f) :
    Ai prog 54 #[vl,.agg cn.toArray,.int .i64 f] w (kAj Cf (kLn n f l) w):=by
 refine SL λHL HN bm=>?_;obtain ⟨nv,rfl,ab⟩:=kT hn.1;obtain ⟨na,np,rfl,_⟩:=kD.sl ab;clear ab hl hn hf;go_enter func54,ntmps54;go_wp2_with fail;refine oH λX EB Y cc=>?_;refine (kHx (HL.below EB)).mono ?_;refine eD λw1 v1 O1 O=>?_;refine lC O EB λY E1=>?_;have F:=yD O1;refine aH O1 λoa on oc ho ak=>?_;obtain rfl:=ho;clear O1 O;go_wp2_with fail;refine (kHw (HL.1.below E1) (HN.1.below E1)).mono ?_;refine fO λw2 V=>?_;have E2:=(tQ E1 V);have a4:=E1.size;have am:=V.size;replace F:=yD ((F.below V).wide (T:=jW w w2) pJ);clear V E1 EB;by_cases hk:idxOf (yg n f) l < 0;exact KT;obtain ⟨k,Z,al⟩:=kFe hk;have bd:=yD al;rw [al];clear hk al;obtain ⟨b,cap,hv,H⟩:=kD.kCz F.out Z;simp only [Ae] at hv;obtain ⟨rfl,ai,rfl⟩:=hv;refine o5 λbc a2 a5 af ah G a8 c0 A0 A1 A2 bt R D aa ak bg bu br bo=>?_;clear H ai;by_cases h2:l[k].2.2 < 2
 · have L:=yD (R.out h2);clear R D aa;have HK:Hid ((l.take k).length=k):=yD bJ0;refine GI λd4 em g4 bf=>?_;by_cases bq:oc=k + 1
   · have HR:Hid ((l.drop (k + 1)).length=0):=yD (by have:=ak.out;simp;omega);obtain rfl:on=k + 1:=bJ5;subst bq;have bh:(k:Int)<=(k:Int) + 1:=bJ5;go_upto_region 6 with fail;refine jf (λW=>Qb w2 W) [(1,true),(2,true),(3,true),(5,true),(6,true),(7,true),(8,true),(0,false),(4,false),(9,false),(10,true)] bI9 bI9 sD (bR.drew) ?_;intro wS I;simp only [jE,List.getElem?_cons_succ,List.getElem?_cons_zero,List.map_cons,List.map_nil];all_goals ((iterate 7 refine kZ ?_);(first|(refine kI rfl I ?_)|(refine ku rfl (λK E=>?_);go_simp;generalize ax:World.alloc wS _=wU;replace I:Qb w2 wU:=(by rw [<- ax];exact I.alloc I.size _);clear ax;refine E _ _ I ?_;clear E K));refine jD ?_;(first|(refine kI rfl I ?_)|(refine ku rfl (λK E=>?_);obtain ⟨v3,u3,b7,ag,v4,u4,ba,a9,N⟩:=kD.kGk (P:=prog) (t:=31) underlying31 zY rfl bJ4 bJ4 G.out I (a0:=some ⟨wS,0,none⟩) bJ5 (k + 1) 0 31 31 (q:=0) (kl:=k) (rl:=0) (λhne=>absurd (List.eq_nil_of_length_eq_zero HR.out) hne) HK.symm HR.symm;have ar:=(tQ I ag);refine kD.kV _ _ _ rfl bJ7 bJ7 b7 ?_;refine E _ _ ar ?_;clear E K));refine jD ?_;(first|(refine kI rfl I ?_)|(refine ku rfl (λK E=>?_);have a6:=(tQ I N);refine kD.kV _ _ _ rfl bJ7 bJ7 ba ?_;refine E _ _ a6 ?_;clear E K));refine jD ?_;refine kZ ?_;refine kR ?_)
     go_wp2;go_ret;exact VB
   have HR:Hid ((l.drop (k + 1)).length=on - (k + 1)):=yD (by have:=ak.out;simp;omega);go_upto_region 6 with fail;refine jf (λW=>Qb w2 W) [(1,true),(2,true),(3,true),(5,true),(6,true),(7,true),(8,true),(0,false),(4,false),(9,false),(10,true)] bI9 bI9 sD (bR.drew) ?_;refine uN λwS I=>?_;all_goals ((iterate 7 refine kZ ?_);(first|(refine kI rfl I ?_)|(refine ku rfl (λK E=>?_);go_simp;generalize ax:World.alloc wS _=wU;replace I:Qb w2 wU:=(by rw [<- ax];exact I.alloc I.size _);clear ax;refine E _ _ I ?_;clear E K));refine jD ?_;(first|(refine kI rfl I ?_)|(refine ku rfl (λK E=>?_);obtain ⟨v3,u3,b7,ag,v4,u4,ba,a9,N⟩:=kD.kGk (P:=prog) (t:=31) underlying31 zY rfl bJ4 bJ4 G.out I (a0:=some ⟨wS,0,none⟩) bJ5 oc (oc - (k + 1)) 31 31 (q:=((k + 1) * 3)) (kl:=k) (rl:=(on - (k + 1))) bB4 HK.symm HR.symm;have ar:=(tQ I ag);refine kD.kV _ _ _ rfl bJ7 bJ7 b7 ?_;refine E _ _ ar ?_;clear E K));refine jD ?_;(first|(refine kI rfl I ?_)|(refine ku rfl (λK E=>?_);have a6:=(tQ I N);refine kD.kV _ _ _ rfl bJ7 bJ7 ba ?_;refine E _ _ a6 ?_;clear E K));refine jD ?_;refine kZ ?_;refine kR ?_)
   go_wp2;go_ret;have cd:=N.size;exact VB
 have L:=yD (D.out bJ5);obtain ⟨s1,s2⟩:=aa.out (l[k].2.2 / 2) bJ5;have aj:=yD s1;clear R D aa s1 s2 G;go_wp2;go_ret;exact ⟨_,rfl,((aj.cast L.symm).own tJ).wide nZ,E2.setCell af.1 _⟩
def kIy (hl:Cf.rd w [vl] l) (hn:kQ.rd w cn n) (hf:Qi f) :
    Ai prog 40 #[vl,.agg cn.toArray,.int .i64 f] w (kAj Cf (kLn n f l) w):=by
 refine SL λHL HN bm=>?_;obtain ⟨nv,rfl,ab⟩:=kT hn.1;obtain ⟨na,np,rfl,_⟩:=kD.sl ab;clear ab hl hn hf;go_enter func40,ntmps40;go_wp2_with fail;refine oH λX EB Y cc=>?_;refine (kDn (HL.below EB)).mono ?_;refine eD λw1 v1 O1 O=>?_;refine lC O EB λY E1=>?_;have F:=yD O1;refine aH O1 λoa on oc ho ak=>?_;obtain rfl:=ho;clear O1 O;go_wp2_with fail;refine (kFd (HL.1.below E1) (HN.1.below E1)).mono ?_;refine fO λw2 V=>?_;have E2:=(tQ E1 V);have a4:=E1.size;have am:=V.size;replace F:=yD ((F.below V).wide (T:=jW w w2) pJ);clear V E1 EB;by_cases hk:idxOf (yg n f) l < 0;exact KT;obtain ⟨k,Z,al⟩:=kFe hk;have bd:=yD al;rw [al];clear hk al;obtain ⟨b,cap,hv,H⟩:=kD.kCz F.out Z;simp only [Ae] at hv;obtain ⟨rfl,ai,rfl⟩:=hv;refine o5 λbc a2 a5 af ah G a8 c0 A0 A1 A2 bt R D aa ak bg bu br bo=>?_;clear H ai;have ac:l[k].2.2 / 2 ^ (1:Nat)=l[k].2.2 / 2:=rfl;obtain ⟨s1,s2⟩:=aa.out (l[k].2.2 / 2) bJ5;refine aN s1 s2 λaj d8=>?_;have E:k < (l.set k (ym l[k] (l[k].2.2 / 2))).length:=by simpa using Z
 have an:=kD.at3 (aj.own (by simpa [Big] using bm)).raw E rfl;simp only [List.getElem_set_self] at an;obtain ⟨d0,I,N,an,B0,B1,B2⟩:=an;obtain ⟨rfl,rfl,au,az,aw,bi⟩:=jy an;change _=some (Value.int IntKind.i64 (l[k].2.2 / 2)) at B2;clear s1 s2 an au az aw bi aa G;go_upto_region 6 with fail;have E3:Below w w (w2.setCell ⟨b,k * 3 + 2,none⟩ (.int .i64 (l[k].2.2 / 2))):=E2.setCell af.1 _;have bq:(w2.setCell ⟨b,k * 3 + 2,none⟩ (.int .i64 (l[k].2.2 / 2))).heap.size=w2.heap.size:=by simp [World.setCell]
 generalize av:w2.setCell ⟨b,k * 3 + 2,none⟩ (.int .i64 (l[k].2.2 / 2))=w3 at *;clear av ac d8 A0 A1 A2 a8 F ah;by_cases h2:l[k].2.2 < 2
 · have h3:l[k].2.2 / 2 < 1:=bJ5;have L:=yD (R.out h2);clear R D;go_wp2_with fail;refine (kQd aj.out (by simpa using bm) E).mono ?_;refine eD λw4 v4 O4 T4=>?_;have HQ:Hid ((l.set k (ym l[k] (l[k].2.2 / 2))).take k++(l.set k (ym l[k] (l[k].2.2 / 2))).drop (k + 1)=kLn n f l):=yD (by
     rw [L.out,List.take_set_of_le nL,List.drop_set_of_lt (Nat.lt_succ_self _)])
   have W:Hid ((kLn n f l).length<=16777216):=yD (by rw [L.out,List.length_append,List.length_take,List.length_drop];omega);have cd:=T4.size;have E4:Qb w w4:=E3.trans (T4.below bJ5 (λj J=>J.1));have aq:=yD (O4.cast HQ.out);clear O4 T4;go_wp2;go_ret;exact ⟨_,rfl,(aq.own W.out).wide vD,E4⟩
 have h3:¬ l[k].2.2 / 2 < 1:=bJ5;have L:=yD (D.out bJ5);clear R D;go_wp2;go_ret;exact ⟨_,rfl,((aj.cast L.symm).own tJ).wide vD,E3⟩
end Go.Proofs.YthocbplmdjkifabGreat

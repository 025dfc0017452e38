/-
  Content stores as the reference draws them.
-/
import Derived.Test.YtjhfdpopkkmigaaGreatDrawY
import Derived.Test.YtjhfdpopkkmigaaGreatDrawK
import Derived.Test.YtjhfdpopkkmigaaGreatCacheD
set_option linter.unusedVariables false
set_option linter.defProp false
set_option linter.unusedSimpArgs false
set_option linter.unnecessarySimpa false
set_option maxRecDepth 100000
set_option maxHeartbeats 8000000
open Go renaming bodyPost_ret->Aa,World->Ab,frozen_of_row->Ag,Value->Ah,Calls->Au
open List renaming getElem?_cons_succ->Ac,getElem?_cons_zero->Ad,length_append->Ae,map_cons->Ak,map_nil->Am,singleton_append->Aq
open List.cons renaming injEq->Ai
open _root_ renaming List->Aj
open Int renaming eq_ofNat_of_zero_le->Al
open Go.Builtin renaming append_->Ap
open Option.some renaming injEq->Ar
open Go.Addr.mk renaming injEq->Av
namespace Go.Proofs.YtjhfdpopkkmigaaGreat
open Go.RowKit _root_.Go.Proofs.Tryz
def kNc (n:kr) (t:Int) (x:kg):kg:=(x.1,if idxOf (isC n) x.2 < 0 then x.2 else x.2.modify (idxOf (isC n) x.2).toNat (λy=>kBw y t))
def touchS_no {n:kr} {t c:Int} {l:List kZ} (h:idxOf (isC n) l < 0):kNc n t (c,l)=(c,l):=by unfold kNc;simp only;rw [if_pos h]
def touchS_yes {n:kr} {t c:Int} {l:Aj kZ} {k:Nat} (h:idxOf (isC n) l=k) (hk:k < l.length):kNc n t (c,l)=(c,l.set k (kBw l[k] t)):=by
 unfold kNc;simp only [h,Int.toNat_natCast];rw [if_neg bD1];congr 1;apply List.ext_getElem bD2;intro i h1 h2;rw [List.getElem_modify,List.getElem_set];by_cases e:k=i
 · subst e;simp
 simp [e]
def kYa {w:Ab} {c:Int} {v:Ah} {l:Aj kZ} {S:Nat->Prop} (h:kP.own w [Qn c,v] (c,l) S):(kD.slice 122 jC).own w [v] l S:=by
 obtain ⟨a,d,A,B,he,h1,h2,hA,hB,hd⟩:=kD.kEd h;obtain ⟨rfl,_⟩:=kD.jb h1.raw;simp only [Aq,Ai,true_and] at he;subst he;exact h2.wide hB
def store_in {w:Ab} {c:Int} {v:Ah} {l:Aj kZ} {S:Nat->Prop} (hc:Qi c) (h:(kD.slice 122 jC).own w [v] l S):kP.own w [Qn c,v] (c,l) S :=
  kD.kKy (cs:=[.int .i64 c]) (kD.jG hc) h
def specTouch_c {w:Ab} {cx:Aj Ah} {x:kg} (hx:kP.rd w cx x) {cn:Aj Ah} {n:kr} (hn:kW.rd w cn n) {t:Int} (ht:Qi t) :
    Au prog 209 #[.agg cx.toArray,.agg cn.toArray,.int .i64 t] w (kAe kP (kNc n t x) w):=by
 obtain ⟨I,xe⟩:=x
 have HX:=yD hx
 have HN:=yD hn
 have HF:=yD ht
 obtain ⟨ei,rfl,cq,b6⟩:=jI hx.1
 obtain ⟨b3,bz,rfl,xl⟩:=kD.sl b6
 obtain ⟨av,rfl,G⟩:=ko hn.1
 obtain ⟨na,np,rfl,_⟩:=kD.sl G
 have J:Hid ((kD.slice 122 jC).raw w [Qs b3 xe bz] xe):=yD b6
 have az:Qi I:=cq
 replace xl:xe.length<=9223372036854775807:=xl
 clear hx hn ht cq b6 G
 go_enter func209,ntmps209
 go_upto_region 1 with fail
 generalize F:World.alloc (World.alloc (World.alloc w _) _) _=w1
 have EE:Qb w w1:=by rw [<- F];exact bG
 have BX:Qr w1 w.heap.size #[Qn I,Qs b3 xe bz] 27:=qX
 have BN:Qr w1 (w.heap.size + 1) #[Qs na n np] 36:=by rw [<- F];exact jR (kH bD2)
 obtain ⟨BR,bf⟩:=JG
 clear F
 obtain ⟨ae,af⟩:=yQ BX
 go_wp2_with fail
 refine (kMs (HX.out.below EE)).mono ?_
 rintro e V ⟨cs,rfl,O,hb⟩
 have bg:=hb.size
 replace BX:=kC BX hb
 replace BN:=kC BN hb
 replace BR:=kC BR hb
 replace EE:=(tQ EE hb)
 clear ae af
 clear hb
 obtain ⟨bl,rfl,Z,W⟩:=jI O.raw
 obtain ⟨oa,D,rfl,_⟩:=kD.sl W
 clear Z W
 have L:=yD ((kYa O).wide (T:=(λj=>w.heap.size + 3<=j/\j < V.heap.size)) rH)
 clear O
 go_upto_region 2 with fail
 generalize F:World.alloc V _=w3
 have aa:Qb V w3:=rT
 have Y:Qr w3 V.heap.size #[Qn I,Qs oa xe D] 27:=vD
 have bi:V.heap.size + 1<=w3.heap.size:=bB3
 clear F
 replace BX:=kC BX aa
 replace BN:=kC BN aa
 replace BR:=kC BR aa
 replace L:=yD (L.out.below aa)
 replace EE:=(tQ EE aa)
 clear aa
 obtain ⟨ae,af⟩:=yQ BX
 have ao:Qc w3 (w.heap.size + 1) 0 (.slice na n.length np):=kE BN rfl
 go_wp2_with fail
 refine (kEv (J.out.below EE) (cn:=[.slice na n.length np]) (HN.out.1.below EE)).mono ?_
 rintro e w4 ⟨rfl,hb⟩
 have bu:=hb.size
 replace BX:=kC BX hb
 replace BN:=kC BN hb
 obtain ⟨BR,Y,L,EE⟩:=AZ
 clear ae af ao
 clear hb
 by_cases hf:idxOf (isC n) xe < 0
 · have U:=yD (touchS_no (t:=t) (c:=I) hf);have ee:¬ (0<=idxOf (isC n) xe):=bD1;generalize idxOf (isC n) xe=q at *;go_upto_region 5 with fail;obtain ⟨H,o⟩:=yQ Y;obtain ⟨ar,au⟩:=yQ BR;obtain ⟨al,ak⟩:=kCj BR;go_wp2;refine Aa (v:=.agg #[Qn I,Qs oa xe D]) mE rfl ⟨[Qn I,Qs oa xe D],rfl,?_,?_⟩
   · rw [U.out];exact store_in az ((L.out.touch sT2 rQ).wide fG)
   exact EE.trans (Touch.below sT2 EE.size wW)
 obtain ⟨k,hlt,ad⟩:=kIm hf
 have U:=yD (touchS_yes (t:=t) (c:=I) ad hlt)
 rw [ad]
 clear hf ad
 obtain ⟨qb,qo,rfl,c0,c1,c2,c3,c4,c5,hr,A0,A1,A2,A3,A4,A5⟩:=kD.kPk L.out.raw hlt rfl
 obtain ⟨_,R,N,E,ab,b8⟩:=kD.kOx L.out bD1
 simp only [Ar,Av,and_true] at E
 obtain ⟨rfl,rfl⟩:=E
 have ah:=kD.own_frozen L.out bD1 (qo + k * 6 + 5)
 clear hr A0 A1 A2 A3 A4
 have bv:(0:Int)<=k:=bD1
 have a3:(k:Int) < xe.length:=bD1
 obtain ⟨H,o⟩:=yQ Y
 obtain ⟨O2,T2⟩:(kD.slice 122 jC).own (World.setCell w4 ⟨qb,qo + k * 6 + 5,none⟩ (.int .i64 t)) [.slice (some ⟨qb,qo,none⟩) xe.length D] (xe.set k (kBw xe[k] t)) (λj=>w.heap.size + 3<=j/\j < V.heap.size)/\Touch (λj=>j=qb) w4 (World.setCell w4 ⟨qb,qo + k * 6 + 5,none⟩ (.int .i64 t)):=kD.kRs (i:=k) (j:=5) L.out hlt bD0 (λh=>kQx _ HF.out h) (show jC.bdd Big (kBw xe[k] t) from kD.yh L.out.rd hlt)
 go_upto_region 5 with fail
 generalize F:World.setCell w4 _ _=w5 at O2 T2 ⊢
 clear F
 clear L
 have L:=yD O2
 clear O2
 have br:=T2.size
 replace BX:=T2.kC BX bD1
 replace BN:=T2.kC BN bD1
 replace BR:=T2.kC BR bD1
 replace Y:=T2.kC Y bD1
 replace EE:=EE.trans (T2.below EE.size wW)
 clear H o
 clear T2
 obtain ⟨H,o⟩:=yQ Y
 obtain ⟨ar,au⟩:=yQ BR
 obtain ⟨al,ak⟩:=kCj BR
 go_wp2
 refine Aa (v:=.agg #[Qn I,.slice (some ⟨qb,qo,none⟩) xe.length D]) mE rfl ⟨[Qn I,.slice (some ⟨qb,qo,none⟩) xe.length D],rfl,?_,?_⟩
 · rw [U.out];exact store_in az ((L.out.touch sT2 rQ).wide fG)
 exact EE.trans (Touch.below sT2 EE.size wW)
def kOr (x:jq):Int:=(x.1.length:Int) + (x.2.1.2.length:Int) + (x.2.2.1.length:Int) + (x.2.2.2.1.length:Int) + (x.2.2.2.2.1.length:Int) + (x.2.2.2.2.2.1.length:Int)
def kGu (c:Int):Int:=if inR c 0 8 then c else 0
def kGs (c:Int):kg:=(kGu c,[])
def newN (c:Int):jq:=([],kGs c,[],[],[],[],0)
def kIn {c:Int} (h:Qi c):-9223372036854775808<=kGu c/\kGu c<=9223372036854775807:=by unfold kGu;split <;> omega
def kPa {w:Ab} {c:Int} {S:Nat->Prop} (h:Qi c):kP.own w [Qn c,.slice none 0 0] (c,[]) S :=
  ⟨kOa (x:=kP.zero) c h kP.is_zero,(kP.bdd_zero:kP.bdd Big kP.zero)⟩
def kAk {α β:Type} {e:TypeId} {r:kD α} {q:kD β} {w:Ab} {ds:Aj Ah} {y:β} {S:Nat->Prop} (h:q.own w ds y S):(kD.pair (kD.slice e r) q).own w ([.slice none 0 0]++ds) ([],y) S :=
  kD.jY (A:=λ_=>False) (B:=S) kD.jr h (λ_ h=>h.elim) (λ_ h=>h) (λ_ h _=>h)
def kYo {β:Type} {q:kD β} {r:kD kg} {w:Ab} {cs ds:Aj Ah} {x:kg} {y:β} {S:Nat->Prop} (h:r.own w cs x S) (k:q.own w ds y (λ_=>False)):(kD.pair r q).own w (cs++ds) (x,y) S :=
  kD.jY (A:=S) (B:=λ_=>False) h k (λ_ h=>h) (λ_ h=>h.elim) (λ_ _ h=>h)
def kUt {w:Ab} {cx:Aj Ah} {x:jq} (hx:je.rd w cx x):Au prog 28 #[.agg cx.toArray] w (bQ w (.int .i64 (kOr x))):=by
 obtain ⟨q1,⟨_,q2⟩,q3,q4,Y,q6,_⟩:=hx.2;obtain ⟨b1,b2,R,O,V,b6⟩:=FY;clear q1 q2 q3 q4 Y q6;obtain ⟨ch,cz,dg,df,db,c9,rfl,G,aq,ba,a3,au,a4,a6,bg,br⟩:=yB hx.1;obtain ⟨bp,bi,rfl,co⟩:=kD.sl G;obtain ⟨bw,bt,rfl,dd⟩:=kD.sl a3;obtain ⟨ck,cc,rfl,dh⟩:=kD.sl au;obtain ⟨b9,b8,rfl,dj⟩:=kD.sl a4;obtain ⟨bx,bu,rfl,dk⟩:=kD.sl a6;obtain ⟨b0,bz,rfl,di⟩:=kD.sl bg;clear G aq ba a3 au a4 a6 bg br;clear hx;go_enter func28,ntmps28;go_wp2;go_ret;exact ⟨rfl,bG⟩
def kCt {w:Ab} {cx:Aj Ah} {x:jq} (hx:je.rd w cx x):Au prog 27 #[.agg cx.toArray] w (bQ w (.int .i64 (kOr x))):=by
 obtain ⟨q1,⟨_,q2⟩,q3,q4,Y,q6,_⟩:=hx.2;obtain ⟨b1,b2,R,O,V,b6⟩:=FY;clear q1 q2 q3 q4 Y q6;obtain ⟨ch,cz,dg,df,db,c9,rfl,G,aq,ba,a3,au,a4,a6,bg,br⟩:=yB hx.1;obtain ⟨bp,bi,rfl,co⟩:=kD.sl G;obtain ⟨bw,bt,rfl,dd⟩:=kD.sl a3;obtain ⟨ck,cc,rfl,dh⟩:=kD.sl au;obtain ⟨b9,b8,rfl,dj⟩:=kD.sl a4;obtain ⟨bx,bu,rfl,dk⟩:=kD.sl a6;obtain ⟨b0,bz,rfl,di⟩:=kD.sl bg;clear G aq ba a3 au a4 a6 bg br;clear hx;go_enter func27,ntmps27;go_wp2;go_ret;exact ⟨rfl,bG⟩
def kCf {w:Ab} {c:Int} (hc:Qi c):Au prog 66 #[.int .i64 c] w (kAe kP (kGs c) w):=by
 have HC:=yD (kIn hc);go_enter func66,ntmps66;go_wp2_with fail;generalize J:World.alloc w _=N;obtain ⟨R,M0,M1,F0,F1⟩:=IA;clear J;refine jw.mono ?_;rintro e u ⟨rfl,hu⟩;obtain rfl:=hu.symm;clear hu;cases hi:inR c 0 8
 · have U:=yD (show kGu c=0 by unfold kGu;rw [hi];rfl);go_wp2;refine Aa (v:=.agg #[Qn 0,.slice none 0 0]) mI rfl ⟨[_,_],rfl,?_,?_⟩
   · unfold kGs;rw [U.out];exact kPa bD1
   exact (R.setCell bD2 _).setCell bD2 _
 have U:=yD (show kGu c=c by unfold kGu;rw [hi];rfl);go_wp2;refine Aa (v:=.agg #[Qn c,.slice none 0 0]) mI rfl ⟨[_,_],rfl,?_,?_⟩
 · unfold kGs;rw [U.out];exact kPa (by have:=HC.out;rwa [U.out] at this)
 exact (R.setCell bD2 _).setCell bD2 _
def kMu {w:Ab} {c:Int} (hc:Qi c):Au prog 24 #[.int .i64 c] w (kAe je (newN c) w):=by
 have HC:=yD (kIn hc);go_enter func24,ntmps24;go_wp2_with fail;generalize J:World.alloc w _=N;obtain ⟨R,XB,bq⟩:=FH;clear J;refine (kCf hc).mono ?_;rintro e w1 ⟨cs,rfl,O1,O⟩;obtain ⟨cv,rfl,ah,ak⟩:=jI O1.raw;have X:=kC XB O;have E1:=(tQ R O);have ac:(kGs c).2=[]:=rfl;have cd:(kGs c).1=kGu c:=rfl;obtain ⟨ca,cp,rfl,_⟩:=kD.sl ak;have L:=yD O1;clear O1 ah ak O XB;obtain ⟨M0,F0,M1,F1,M2,F2,M3,F3,M4,F4,M5,F5,M6,F6⟩:=BG;have M7:=kE (b:=w.heap.size) X (j:=7) rfl;have F7:=Ag w1 w.heap.size 7 _ _ X;go_wp2;refine Aa (v:=.agg #[.slice none 0 0,.int .i64 (kGu c),.slice ca 0 cp,.slice none 0 0,.slice none 0 0,.slice none 0 0,.slice none 0 0,Qn 0]) (by simp [results,results24,go_sem,M0,F0,M1,F1,M2,F2,M3,F3,M4,F4,M5,F5,M6,F6,M7,F7,kGs]) rfl ⟨[_,_,_,_,_,_,_,_],rfl,?_,?_⟩
 · exact lV
 repeat (first|(with_reducible exact E1) | refine Below.setCell ?_ bD2 _)
def kEl {w:Ab} {c:Int} (hc:Qi c):Au prog 53 #[.int .i64 c] w (kAe kP (kGs c) w):=by
 have HC:=yD (kIn hc);go_enter func53,ntmps53;go_wp2_with fail;generalize J:World.alloc w _=N;obtain ⟨R,M0,M1,F0,F1⟩:=IA;clear J;refine yF.mono ?_;rintro e u ⟨rfl,hu⟩;obtain rfl:=hu.symm;clear hu;cases hi:inR c 0 8
 · have U:=yD (show kGu c=0 by unfold kGu;rw [hi];rfl);go_wp2;refine Aa (v:=.agg #[Qn 0,.slice none 0 0]) mJ rfl ⟨[_,_],rfl,?_,?_⟩
   · unfold kGs;rw [U.out];exact kPa bD1
   exact (R.setCell bD2 _).setCell bD2 _
 have U:=yD (show kGu c=c by unfold kGu;rw [hi];rfl);go_wp2;refine Aa (v:=.agg #[Qn c,.slice none 0 0]) mJ rfl ⟨[_,_],rfl,?_,?_⟩
 · unfold kGs;rw [U.out];exact kPa (by have:=HC.out;rwa [U.out] at this)
 exact (R.setCell bD2 _).setCell bD2 _
def kXn {w:Ab} {c:Int} (hc:Qi c):Au prog 23 #[.int .i64 c] w (kAe je (newN c) w):=by
 have HC:=yD (kIn hc);go_enter func23,ntmps23;go_wp2_with fail;generalize J:World.alloc w _=N;obtain ⟨R,XB,bq⟩:=FH;clear J;refine (kEl hc).mono ?_;rintro e w1 ⟨cs,rfl,O1,O⟩;obtain ⟨cv,rfl,ah,ak⟩:=jI O1.raw;have X:=kC XB O;have E1:=(tQ R O);have ac:(kGs c).2=[]:=rfl;have cd:(kGs c).1=kGu c:=rfl;obtain ⟨ca,cp,rfl,_⟩:=kD.sl ak;have L:=yD O1;clear O1 ah ak O XB;obtain ⟨M0,F0,M1,F1,M2,F2,M3,F3,M4,F4,M5,F5,M6,F6⟩:=BG;have M7:=kE (b:=w.heap.size) X (j:=7) rfl;have F7:=Ag w1 w.heap.size 7 _ _ X;go_wp2;refine Aa (v:=.agg #[.slice none 0 0,.int .i64 (kGu c),.slice ca 0 cp,.slice none 0 0,.slice none 0 0,.slice none 0 0,.slice none 0 0,Qn 0]) (by simp [results,results23,go_sem,M0,F0,M1,F1,M2,F2,M3,F3,M4,F4,M5,F5,M6,F6,M7,F7,kGs]) rfl ⟨[_,_,_,_,_,_,_,_],rfl,?_,?_⟩
 · exact lV
 repeat (first|(with_reducible exact E1) | refine Below.setCell ?_ bD2 _)
namespace kD
section
variable {α β:Type} {r:kD α} {q:kD β} {e:TypeId} {w w' W W':Ab} {v:Ah} {cs ds:Aj Ah} {x:α} {xs ys:Aj α} {S T F G:Nat->Prop}
def run_pushD {P:Program} {t ty:TypeId} {z:Ah} {bytes:Nat} (ht:P.underlying t=some (.slice e)) (hinf:(P.info? e).map (λi=>(i.zero,i.size,i.bytes))=some (some z,r.n,bytes)) (hzs:z.cells.size=r.n) (hn:0 < r.n) (hby:bytes<=1000)
    {a:Option Addr} {len cap:Nat} (hown:(slice e r).own w [.slice a len cap] xs S) {sv:Ah} {m:Nat} {cells:Aj Ah} (hsrc:Src w sv m cells) (hrow:row r false w cells ys T) (hm:ys.length=m) (hb:∀ y∈ys,r.bdd Big y) (hd:∀ b off,a=some ⟨b,off,none⟩->¬ T b) (hne:0 < xs.length) (hlen:xs.length + ys.length<=16777216) :
    ∃ v' w',(Ap #[t,t] ty #[.slice a len cap,sv]).run P w=.ok v' w'/\(slice e r).ji w' [v'] (xs++ys) (λk=>S k\/T k\/(w.heap.size<=k/\k < w'.heap.size))/\Touch S w w':=by
 obtain ⟨i,hi,hz,hsize,D⟩:=info_parts hinf
 have X:∀ n,n<=16777216->n<=Big:=λn h=>by unfold Big;omega
 obtain ⟨⟨a',E,cap',h0,h1,h2,h3,h4⟩,bp,cf⟩:=hown
 simp only [Ai,Value.slice.injEq,and_true] at h0
 obtain ⟨rfl,rfl,rfl⟩:=h0
 subst h1
 have R:∀ y∈xs++ys,r.bdd Big y:=by
  intro y hy;rcases List.mem_append.1 hy with q | q
  · exact cf y q
  exact hb y q
 rcases h4 with ⟨rfl,hc0⟩|⟨b,off,rfl,cur,e',fr,p,cs,tl,g1,g2,g3,g4,g5,g6,g7⟩
 · simp at hne
 obtain ⟨he,L⟩:=g5 rfl
 rw [he,L] at g1
 have J:=zQ g7
 have ah:=zQ hrow
 by_cases bc:m=0
 · have db:ys=[]:=List.eq_nil_of_length_eq_zero bD1;subst db;have hc:cells=[]:=hrow;subst hc;obtain ⟨a1,c1,rfl⟩:∃ a c,sv=.slice a 0 c:=by
    rcases hsrc with ⟨_,h⟩|⟨ad,c,h,_⟩
    · exact h
    exact ⟨_,_,by rw [h,bc]⟩
   refine ⟨.slice (some ⟨b,off,none⟩) xs.length cap,w,?_,?_,Touch.refl _ _⟩
   · cases a1 <;> simp [Ap,run_underlying ht,sizeOf,typeInfo,hi,Builtin.lenOf,h2,Builtin.firstCells,loadCells,loadCellsFrom,storeCells]
   rw [List.append_nil];refine ⟨⟨_,_,cap,rfl,rfl,h2,h3,.inr ⟨b,off,rfl,cur,e,(0,0),p,cs,tl,g1,g2,g3,g4,λ_=>⟨rfl,rfl⟩,.inl g6,yK (kKr g7) qA⟩⟩,bp,cf⟩
 obtain ⟨ad,c,rfl,Y⟩:∃ ad c,sv=.slice (some ad) m c/\∀ j u,cells[j]?=some u->w.cell? (ad.add j)=some u:=by
  rcases hsrc with ⟨h,_⟩ | h
  · exact absurd h bc
  exact h
 obtain ⟨O,U,V⟩:=FI
 by_cases o:xs.length + m<=cap
 · have Z:(xs.length + m) * r.n<=cap * r.n:=Nat.mul_le_mul_right _ o;rw [Nat.add_mul] at Z;obtain ⟨eb,G⟩:=JC;have hr:=run_append_room_cells (P:=P) (w:=w) t ty e i ht hi b off xs.length cap ad m c cells O Y (row_one hrow) o
     (λj I=>by
       rw [cell_of_row w b _ cur e (0,0) g1];have:off + xs.length * i.size + j < cur.size:=by rw [G,Ae];omega
       simp [this])
     (λj _=>Ag w b _ _ _ g1)
   rw [kHo] at hr;have W:=zn (e:=e) cells (tl.take cells.length) (p++cs) (tl.drop cells.length) w b (off + xs.length * i.size) gP G.symm sI;refine ⟨_,_,hr,?_,(yt cells w b _).wide (λk hk=>by rw [hk];exact g6)⟩;have aa:∀ k,k≠b->(setCells w b (off + xs.length * i.size) cells).heap[k]?=w.heap[k]?:=λk hk=>zz cells w b _ k hk;refine ⟨⟨_,_,cap,rfl,by rw [Ae,hm],o,h3,.inr ⟨b,off,rfl,_,e,(0,0),p,cs++cells,tl.drop cells.length,W,by simp,g3,?_,λ_=>⟨rfl,rfl⟩,.inl g6,?_⟩⟩,X _ qI,R⟩
   · simp only [List.size_toArray,Ae,List.length_drop];omega
   have a1:=yG (w':=setCells w b (off + xs.length * i.size) cells) g7 (λk hk=>aa k (hk.2 rfl));have a2:=yG (w':=setCells w b (off + xs.length * i.size) cells) hrow (λk hk=>aa k (λq=>hd b off rfl (q ▸ hk)));exact kAg (kKr a1) a2 qA (λk hk=>⟨.inr (.inl hk),λh=>by cases h⟩) (λh=>by cases h)
 have H:∀ j u,cs[j]?=some u->w.cell? ((⟨b,off,none⟩:Addr).add j)=some u:=by
  exact aT
 have N:(xs.length + m) * i.bytes<=140737488355328:=by
  have:(xs.length + m) * i.bytes<=16777216 * 1000:=Nat.mul_le_mul bD1 bD1;omega
 have hr:=run_append_grow (P:=P) w t ty e i z ht hi hz ⟨b,off,none⟩ xs.length cap cs wG H ad m c cells O Y bD1 bD1 (growslice_fits bD1 N)
 refine ⟨_,_,hr,?_,⟨rfl,rfl,rfl,by simp,λk hk _=>heap_alloc_old w.drew _ hk⟩⟩
 have ab:=grownCap_ge w (xs.length + m) cap e
 have bq:=grownCap_le_maxLen w (xs.length + m) cap e vN
 refine ⟨⟨_,_,_,rfl,by rw [Ae,hm],ab,bq,.inr ⟨w.heap.size,0,rfl,_,e,(0,0),[],cs++cells,(Builtin.zeroCells z.cells (grownCap w (xs.length + m) cap e - (xs.length + m))).toList,heap_alloc_new w.drew _,by simp,rfl,?_,λ_=>⟨rfl,rfl⟩,.inr (.inr ⟨Nat.le_refl _,by simp⟩),?_⟩⟩,X _ qI,R⟩
 · exact aU
 obtain ⟨a1,a2⟩:=AA
 exact kAg (kKr a1) a2 qA (λk hk=>⟨.inr (.inl hk.1),λh=>by cases h⟩) (λh=>by cases h)
def ji.live (h:r.ji w cs x S):r.ji w cs x (λk=>S k/\k < w.heap.size):=⟨r.live h.1,h.2⟩
def kVd {P:Program} {t ty:TypeId} {z:Ah} {bytes:Nat} (ht:P.underlying t=some (.slice e)) (hinf:(P.info? e).map (λi=>(i.zero,i.size,i.bytes))=some (some z,r.n,bytes)) (hzs:z.cells.size=r.n) (hn:0 < r.n) (hby:bytes<=1000)
    {a:Option Addr} {len cap:Nat} (hown:(slice e r).own w [.slice a len cap] xs S) {u:Ab} (hu:Qb w u) {cx:Aj Ah} {x:α} (hx:r.ji u cx x T) (hd:∀ b off,a=some ⟨b,off,none⟩->¬ T b) (hne:0 < xs.length) (hlen:xs.length < 16777216) {c:Nat} :
    ∃ v' w',(Ap #[t,t] ty #[.slice a len cap,.slice (some ⟨u.heap.size,0,none⟩) 1 c]).run P (u.alloc (.cells cx.toArray e))=.ok v' w'/\(slice e r).ji w' [v'] (xs++[x]) (λk=>S k\/T k\/(u.heap.size<=k/\k < w'.heap.size))/\Touch (λk=>S k/\k < w.heap.size) u w':=by
 obtain ⟨E,hS⟩:=EI
 have hrow:row r false (u.alloc (.cells cx.toArray e)) cx [x] (λk=>T k/\k < u.heap.size):=kDi (r.mono (r.live hx.1) (λk hk=>E.block k hk.2))
 have hsrc:Src (u.alloc (.cells cx.toArray e)) (.slice (some ⟨u.heap.size,0,none⟩) 1 c) 1 cx:=by
  exact aV
 obtain ⟨v',w',hr,ho,o⟩:=run_pushD (ty:=ty) ht hinf hzs hn hby (hS.below E) hsrc hrow rfl mD (λb off q h2=>hd b off q h2.1) hne bC6
 exact aW
def kWz {P:Program} {ops:Array Oper} {rest:Aj Oper} {o:Oper} {D:Act} {Q:Exit->Act->Ab->Prop} (E:o.guard=none) (s x:Operand) (t:TypeId)
    (ho:o.op=.call { callee:=.builtin .append,args:=#[s,x],argTypes:=#[t,t] })
    {z:Ah} {bytes:Nat} (ht:P.underlying t=some (.slice e)) (hinf:(P.info? e).map (λi=>(i.zero,i.size,i.bytes))=some (some z,r.n,bytes)) (hzs:z.cells.size=r.n) (hn:0 < r.n) (hby:bytes<=1000)
    {a:Option Addr} {len cap:Nat} (hown:(slice e r).own w [.slice a len cap] xs S) {u:Ab} (hu:Qb w u) {cx:Aj Ah} {y:α} (hy:r.ji u cx y T) {c:Nat} (hs:D.eval s=.slice a len cap) (hx:D.eval x=.slice (some ⟨u.heap.size,0,none⟩) 1 c) (hd:∀ b off,a=some ⟨b,off,none⟩->¬ T b) (hne:0 < xs.length) (hlen:xs.length < 16777216)
    (h:∀ v' w',(slice e r).ji w' [v'] (xs++[y]) (λk=>S k\/T k\/(u.heap.size<=k/\k < w'.heap.size))->Touch (λk=>S k/\k < w.heap.size) u w'->wpList P ops Q rest (D.put o.dst v') w'):wpList P ops Q (o :: rest) D (u.alloc (.cells cx.toArray e)):=by
 refine wpList_plain E λ_ H=>?_
 obtain ⟨v',w',hr,h1,h2⟩:=kVd (ty:=o.type) (c:=c) ht hinf hzs hn hby hown hu hy hd hne hlen
 exact kV s x t ho hs hx hr (H _ _ (h v' w' h1 h2))
end
end kD
def kIx {w:Ab} {cs:Aj Ah} {x:kg} (h:kP.raw w cs x):∃ a c,cs=[.int .i64 x.1,.slice a x.2.length c]:=by
 obtain ⟨v0,rfl,ac,Z⟩:=jI h;obtain ⟨a0,c0,rfl,_⟩:=kD.sl Z;exact ⟨_,_,rfl⟩
def kPo (y:jL) (t:Int) (c:Int) (l:Aj kZ):∃ k,kEi y t (c,l)=(c,k)/\k.length<=l.length + 1:=by
 unfold kEi;split
 · exact ⟨_,rfl,by omega⟩
 refine ⟨_,rfl,?_⟩;have h1:=kYk c (kEe y.1 l);have h2:=otherC_len y.1 l;simp only [Ae,List.length_cons,List.length_nil];show (kJr c (kEe y.1 l)).length + 1<=l.length + 1;omega
def touchS_len (n:kr) (t:Int) (c:Int) (l:Aj kZ):∃ k,kNc n t (c,l)=(c,k)/\k.length=l.length:=by
 unfold kNc;refine ⟨_,rfl,?_⟩;simp only;split <;> simp
def DrawnS (m:Nat) (w0 w:Ab) (p:Nat) (e:Ending) (w':Ab):Prop:=∃ a c kc l,e=.returned (.agg #[Qn kc,Qs a l c])/\kP.own w' [Qn kc,Qs a l c] (kc,l) (jU w.heap.size w'.heap.size)/\l.length<=m/\yT w0 w' p/\Touch (λk=>k=p) w w'
def data_parts9 {w:Ab} {c0 c1 c2 c3 c4:Ah} {x:jL} {S:Nat->Prop} (h:jF.own w [c0,c1,c2,c3,c4] x S):kW.rd w [c0] x.1:=by
 obtain ⟨a,d,A,T,he,h1,h2,hA,N,hd⟩:=kD.kEd (r:=kW) h;have l1:=kW.len h1.1
 match a,l1 with
 | [u],_=>simp only [Aq,Ai] at he;obtain ⟨rfl,_⟩:=he;exact h1.rd
def kXi {w0 w:Ab} {p:Nat} (hc:yT w0 w p) :
    Au prog 175 #[.pointer (some ⟨p,0,none⟩)] w λe w'=>DrawnS 7 w0 w p e w':=by
 go_enter func175,ntmps175
 obtain ⟨ay,bt⟩:=hc.lt
 go_upto_region 1 with fail
 generalize F:World.alloc w _=w1
 have ag:Qb w w1:=rT
 have R:Qr w1 w.heap.size #[Qn 0,.slice none 0 0] 27:=vD
 have bf:w.heap.size + 1<=w1.heap.size:=bB3
 clear F
 obtain ⟨hc,J⟩:=xO
 clear ag
 go_wp2_with fail
 refine (ku (n:=5) hc bD0).mono ?_
 rintro e V ⟨x,ao,U,a1,rfl,G,D⟩
 have bg:=D.size
 obtain ⟨R,J⟩:=DX
 clear hc D
 have hc:=G
 clear G
 replace U:=U bD0
 clear a1
 go_wp2_with fail
 refine (kCf (c:=x) bD1).mono ?_
 rintro e w3 ⟨cs,rfl,hO,hb⟩
 have bi:=hb.size
 replace R:=kC R hb
 obtain ⟨hc,J⟩:=xE
 clear hb
 obtain ⟨ka,kp,rfl⟩:=kIx hO.raw
 simp only [kGs,List.length_nil] at hO ⊢
 have fz:=kIn (c:=x) bD1
 generalize kGu x=kc at *
 have L:=yD (hO)
 clear hO
 go_upto_region 2 with fail
 generalize F:World.alloc w3 _=w4
 have ab:Qb w3 w4:=rT
 have BK:Qr w4 w3.heap.size #[Qn kc,.slice ka 0 kp] 27:=vD
 have bu:w3.heap.size + 1<=w4.heap.size:=bB3
 clear F
 replace R:=kC R ab
 replace L:=yD (L.out.below ab)
 replace hc:=hc.below ab
 replace J:=J.trans (Touch.of_below ab)
 clear ab
 obtain ⟨kb,dd⟩:∃ b_,b_=w3.heap.size:=⟨_,rfl⟩
 rw [<- dd] at BK ⊢
 have ah:=Nat.le_of_eq dd
 have ai:=Nat.le_of_eq dd.symm
 clear dd
 go_wp2_with fail
 refine (ku (n:=8) hc bD0).mono ?_
 rintro e w5 ⟨m,bc,ad,c8,rfl,G,D⟩
 have br:=D.size
 replace R:=D.kC R bD1
 replace BK:=D.kC BK bD1
 obtain ⟨L,J⟩:=xK
 clear hc D
 have hc:=G
 clear G
 replace ad:=ad bD0
 clear c8
 obtain ⟨m,rfl⟩:=Al bc
 go_wp2
 go_loopw [4] (λi wr=>∃ (j:Nat) (ka:Option Addr) (kp:Nat) (l:Aj kZ),i=.int .i64 j/\j<=7/\Hid (l.length + j<=7)/\Qr wr kb #[Qn kc,Qs ka l kp] 27/\Hid (kP.own wr [Qn kc,Qs ka l kp] (kc,l) (λk=>w.heap.size < k/\k < wr.heap.size/\k≠kb))/\w5.heap.size<=wr.heap.size/\yT w0 wr p/\Touch (λk=>k=p\/k=kb) w5 wr) (λi _=>(intOf i).toNat)
 case atStart=>exact ⟨m,ka,kp,[],rfl,by omega,yD bC6,BK,yD (L.out.wide fP),Nat.le_refl _,hc,Touch.of_below bR⟩
 clear BK hc
 obtain ⟨j,ka,kp,l,rfl,I,HL,BK,L,dp,hc,Z⟩:=hrel
 have fb:=Z.size
 cases j with
 | zero =>
   have dq:¬ (0:Int) < (0:Nat):=bD1;replace R:=Z.kC R bD1;replace J:=J.ja Z wZ;obtain ⟨ac,an⟩:=yQ R;obtain ⟨av,a2⟩:=yQ BK;obtain ⟨ak,al⟩:=kCj R;go_wp2;refine Aa (v:=.agg #[Qn kc,Qs ka l kp]) (by simp [results,results175,go_sem,ac,an,ak,al]) rfl ⟨ka,kp,kc,l,rfl,?_,by have:=HL.out;omega,hc.touch sT2 bD1 wW,J.jP sT2 bD1⟩;exact (L.out.touch (T:=λk=>k=w.heap.size) sT2 sK).wide dZ
 | succ j =>
   have dn:(0:Int) < (j:Int) + 1:=bD1;go_wp2_with fail;refine (kIy hc).mono ?_;rintro e b8 ⟨ds,x,rfl,hX,b5,G,D⟩;have dr:=D.size;replace Z:=Z.ja D mM;replace BK:=D.kC BK bD1;replace L:=yD (L.out.touch D nT);clear hc D;have hc:=G;clear G;obtain ⟨cl,cm,b3,cf,ch,cg,rfl⟩:=yS hX.raw;have HX:=yD hX;clear hX;go_upto_region 6 with fail;generalize F:World.alloc b8 _=a6;have hb:Qb b8 a6:=rT;have BX:Qr a6 b8.heap.size #[Qs cl x.1 cm,Qs b3 x.2.1 cf,Qs ch x.2.2.1 cg,Qn x.2.2.2.1,Qn x.2.2.2.2] 38:=vD;have dw:b8.heap.size + 1<=a6.heap.size:=bB3;clear F;have ee:=hb.size;replace Z:=Z.trans (Touch.of_below hb);replace BK:=kC BK hb;replace L:=yD (L.out.below hb);replace HX:=yD (HX.out.below hb);replace hc:=hc.below hb;clear hb;refine zZ (λW=>Touch (λk=>k=p) a6 W/\yT w0 W p) (λ_=>True) [] [(0,true),(1,true),(2,true),(3,false),(4,true),(5,false)] [(6,false)] bC5 bC5 pY (⟨Touch.of_below bR.drew,hc.below bR.drew⟩) ?_;intro wS E;simp only [jB,zK,Ac,Ad,Ak,Am];refine pre_nil ?_;iterate 2
    refine jf (v:=?_) rfl (λW hW=>?_) ?_;rotate_left;(· have dt:=kE (hW.1.kC BK bD1) (j:=0) (v:=.int .i64 kc) rfl;have d8:=kE (hW.1.kC BK bD1) (j:=1) (v:=.slice ka l.length kp) rfl;have eh:=kE (hW.1.kC BX bD1) (j:=0) (v:=.slice cl x.1.length cm) rfl;have ef:=kE (hW.1.kC BX bD1) (j:=1) (v:=.slice b3 x.2.1.length cf) rfl;have ec:=kE (hW.1.kC BX bD1) (j:=2) (v:=.slice ch x.2.2.1.length cg) rfl;have et:=kE (hW.1.kC BX bD1) (j:=3) (v:=.int .i64 x.2.2.2.1) rfl;have en:=kE (hW.1.kC BX bD1) (j:=4) (v:=.int .i64 x.2.2.2.2) rfl;clear hW;go_simp;try with_reducible rfl)
    refine jD ?_
   refine jf (v:=?_) rfl (λW hW=>?_) ?_;rotate_left;(· go_simp;try with_reducible rfl);refine jD ?_;refine zH rfl (λK H=>?_);go_simp;refine (ku (n:=20) E.2 bD0).mono ?_;rintro e wS1 ⟨y,db,bk,bm,rfl,au,aq⟩;replace bk:=bk bD0;clear bm;replace E:=And.intro (E.1.trans aq) au;clear au aq;have hw:IntKind.i64.wrap (40 + y)=40 + y:=IntWalk.i64_in _ bD1;refine H _ _ E ?_;clear H K;refine jD ?_;refine jf (v:=?_) rfl (λW hW=>?_) ?_;rotate_left;(· go_simp;try with_reducible rfl);refine jD ?_;refine zH rfl (λK H=>?_);go_simp;refine (kJp (cx:=[.int .i64 kc,.slice ka l.length kp]) (x:=(kc,l)) (L.out.touch E.1 nT).rd (cy:=[.slice cl x.1.length cm,.slice b3 x.2.1.length cf,.slice ch x.2.2.1.length cg,.int .i64 x.2.2.2.1,.int .i64 x.2.2.2.2]) (HX.out.touch E.1 nT).rd (t:=40 + y) bD1 (by have:=HL.out;show l.length<=_;omega)).mono ?_;rintro e O ⟨cs,rfl,hO,X⟩;have d7:=E.1.size;have bq:=X.size;replace E:=And.intro (E.1.trans (Touch.of_below X)) (E.2.below X);obtain ⟨l2,ba,ek⟩:=kPo x (40 + y) kc l;rw [ba] at hO;obtain ⟨na,np,rfl⟩:=kIx hO.raw;clear ba;have HN:=yD hO;refine H _ _ E ?_;clear H K X hO;refine jD ?_;have e5:=E.1.size;have RS:=E.1.kC BK bD1;have ac:Qc O kb 0 (.int .i64 kc):=kE RS rfl;have ak:O.frozen? ⟨kb,0,none⟩=false:=Ag O (kb) 0 _ _ RS;have an:Qc O kb 1 (.slice ka l.length kp):=kE RS rfl;have al:O.frozen? ⟨kb,1,none⟩=false:=Ag O (kb) 1 _ _ RS;refine zl trivial ?_;refine kY rfl (λK H=>?_);go_simp;refine H _ _ trivial ?_;clear H K;refine jD ?_;refine kR ?_;replace Z:=Z.ja E.1 mM;replace BX:=E.1.kC BX bD1;replace L:=yD (L.out.touch E.1 nT);replace HX:=yD (HX.out.touch E.1 nT);replace hc:=E.2;clear E BK;have BK:=RS;clear RS ac ak an al;clear L HX BX;generalize F:World.setCell (World.setCell O _ _) _ _=eb;have N:Touch (λk=>k=kb) O eb:=wF;replace BK:Qr eb kb #[Qn kc,Qs na l2 np] 27:=by rw [<- F];exact kF (kF (BK) 0) 1
   have g7:=N.size;clear F;replace HN:=yD (HN.out.touch N nT);obtain ⟨hc,Z⟩:=BO;clear N;have aa:=yD (show l2.length + j<=7 by have:=HL.out;omega);clear HL ek;go_wp2_with fail;refine (zk (n:=3) hc bD0).mono ?_;rintro e d6 ⟨b,rfl,G,D⟩;have ev:=D.size;replace Z:=Z.ja D mM;replace BK:=D.kC BK bD1;replace HN:=yD (HN.out.touch D nT);clear hc D;have hc:=G;clear G;cases b
   · go_wp2;go_roundw;case rel=>exact ⟨j,na,np,l2,by go_num,by omega,aa,BK,yD (HN.out.wide fO),by omega,hc,Z⟩
     case measure=>simp [intOf]
   · go_upto_region 8 with fail;refine zZ (λW=>Touch (λk=>k=p) d6 W/\yT w0 W p) (λ_=>True) [] [(0,true),(1,true),(2,false),(3,true),(4,false)] [(5,false)] bC5 bC5 pY (⟨Touch.of_below bR.drew,hc.below bR.drew⟩) ?_;intro wS E;simp only [jB,zK,Ac,Ad,Ak,Am];refine pre_nil ?_;refine jf (v:=?_) rfl (λW hW=>?_) ?_;rotate_left;(· have dt:=kE (hW.1.kC BK bD1) (j:=0) (v:=.int .i64 kc) rfl;have d8:=kE (hW.1.kC BK bD1) (j:=1) (v:=.slice na l2.length np) rfl;clear hW;go_simp;try with_reducible rfl);refine jD ?_;refine jf (v:=?_) rfl (λW hW=>?_) ?_;rotate_left;(· go_simp;try with_reducible rfl);refine jD ?_;refine zH rfl (λK H=>?_);go_simp;refine (kIy E.2).mono ?_;rintro e wS1 ⟨ds,v,rfl,hV,dx,au,aq⟩;obtain ⟨eo,ep,fu,fy,es,eu,rfl⟩:=yS hV.raw;have Y:=yD hV;have a9:=E.1.size;have aj:=aq.size;replace E:=And.intro (E.1.trans aq) au;have eq:∀ W:Ab,Sem.run prog (Instr.field 38 (.agg #[Qs eo v.1 ep,Qs fu v.2.1 fy,Qs es v.2.2.1 eu,Qn v.2.2.2.1,Qn v.2.2.2.2]) 0) W=.ok (.agg #[Qs eo v.1 ep]) W:=λW=>bC5;refine H _ _ E ?_;clear H K au aq hV;refine jD ?_;refine jf (v:=.agg #[Qs eo v.1 ep]) rfl (λW hW=>?_) ?_;(· go_simp;(try simp only [eq]);try rfl);refine jD ?_;refine zH rfl (λK H=>?_);go_simp;refine (specTouch_c (cx:=[.int .i64 kc,.slice na l2.length np]) (x:=(kc,l2)) (HN.out.touch E.1 nT).rd (cn:=[.slice eo v.1.length ep]) (n:=v.1) (data_parts9 Y.out) (t:=60) bD1).mono ?_;rintro e O ⟨cs,rfl,hO,X⟩;have d7:=E.1.size;have bq:=X.size;replace E:=And.intro (E.1.trans (Touch.of_below X)) (E.2.below X);obtain ⟨l3,ck,af⟩:=touchS_len v.1 60 kc l2;rw [ck] at hO;obtain ⟨ma,o,rfl⟩:=kIx hO.raw;have ae:=yD af;clear ck af;have HM:=yD hO;refine H _ _ E ?_;clear H K X hO;refine jD ?_;have e5:=E.1.size;have RS:=E.1.kC BK bD1;have ac:Qc O kb 0 (.int .i64 kc):=kE RS rfl;have ak:O.frozen? ⟨kb,0,none⟩=false:=Ag O (kb) 0 _ _ RS;have an:Qc O kb 1 (.slice na l2.length np):=kE RS rfl;have al:O.frozen? ⟨kb,1,none⟩=false:=Ag O (kb) 1 _ _ RS;refine zl trivial ?_;refine kY rfl (λK H=>?_);go_simp;refine H _ _ trivial ?_;clear H K;refine jD ?_;refine kR ?_;replace Z:=Z.ja E.1 mM;replace HN:=yD (HN.out.touch E.1 nT);replace hc:=E.2;clear E BK;have BK:=RS;clear RS ac ak an al;clear HN;generalize F:World.setCell (World.setCell O _ _) _ _=er;have N:Touch (λk=>k=kb) O er:=wF;replace BK:Qr er kb #[Qn kc,Qs ma l3 o] 27:=by rw [<- F];exact kF (kF (BK) 0) 1
     have g4:=N.size;clear F;replace HM:=yD (HM.out.touch N nT);obtain ⟨hc,Z⟩:=BO;clear N;go_wp2;go_roundw;case rel=>exact ⟨j,ma,o,l3,by go_num,by omega,yD (by have:=aa.out;have:=ae.out;omega),BK,yD (HM.out.wide fO),by omega,hc,Z⟩
     case measure=>simp [intOf]
def entry_own {w:Ab} {c0 c1 c2 c3 c4:Ah} {x:jL} {u:Int} {S:Nat->Prop} (h:jF.own w [c0,c1,c2,c3,c4] x S) (hu:Qi u):jC.own w [c0,c1,c2,c3,c4,Qn u] (x,u) S :=
  kD.yN (r:=jF) (q:=.int) (cs:=[c0,c1,c2,c3,c4]) (ds:=[.int .i64 u]) h (kD.jG hu)
def kIa {w:Ab} {v:Ah} {c:Int} {l:Aj kZ} {S:Nat->Prop} (h:(kD.slice 122 jC).ji w [v] l S) (hc:Qi c):kP.ji w [Qn c,v] (c,l) S :=
  kD.kAn (r:=.int) (q:=(kD.slice 122 jC)) (z:=(c,l)) (kD.flat.ji (kD.jG hc)) h
def store_int {w:Ab} {c:Int} {v:Ah} {l:Aj kZ} {x:Int} {S:Nat->Prop} (h:kP.own w [Qn x,v] (c,l) S):Qi c:=by
 obtain ⟨a,d,A,B,he,h1,h2,hA,hB,hd⟩:=kD.kEd h;exact (kD.jb h1.raw).2
def DrawnSR (m:Nat) (w0 w:Ab) (p:Nat) (e:Ending) (w':Ab):Prop:=∃ a c kc l,e=.returned (.agg #[Qn kc,Qs a l c])/\kP.ji w' [Qn kc,Qs a l c] (kc,l) (jU w.heap.size w'.heap.size)/\l.length<=m/\yT w0 w' p/\Touch (λk=>k=p) w w'
def entry_form {w:Ab} {cs:Aj Ah} {y:kZ} (h:jC.raw w cs y):∃ a0 c0 a1 c1 a2 c2,cs=[.slice a0 y.1.1.length c0,.slice a1 y.1.2.1.length c1,.slice a2 y.1.2.2.1.length c2,.int .i64 y.1.2.2.2.1,.int .i64 y.1.2.2.2.2,.int .i64 y.2]:=by
 obtain ⟨v0,v1,v2,rfl,ac,_⟩:=jV h;obtain ⟨a0,c0,a1,c1,a2,c2,e⟩:=yS ac;simp only [Ai,and_true] at e;obtain ⟨rfl,rfl,rfl⟩:=e;exact ⟨_,_,_,_,_,_,rfl⟩
def kZz {w0 w:Ab} {p:Nat} (hc:yT w0 w p) :
    Au prog 114 #[.pointer (some ⟨p,0,none⟩)] w λe w'=>DrawnSR 8 w0 w p e w':=by
 go_enter func114,ntmps114
 obtain ⟨ay,bt⟩:=hc.lt
 go_upto_region 1 with fail
 generalize F:World.alloc w _=w1
 have ag:Qb w w1:=rT
 have R:Qr w1 w.heap.size #[Qn 0,.slice none 0 0] 27:=vD
 have bf:w.heap.size + 1<=w1.heap.size:=bB3
 clear F
 obtain ⟨hc,J⟩:=xO
 clear ag
 go_wp2_with fail
 refine (kXi hc).mono ?_
 rintro e V ⟨ka,kp,kc,l,rfl,hO,ai,G,D⟩
 have bg:=D.size
 obtain ⟨R,J⟩:=DX
 clear hc D
 have hc:=G
 clear G
 have fz:=store_int hO
 have L:=yD (kYa hO)
 clear hO
 go_upto_region 2 with fail
 generalize F:World.alloc V _=w3
 have aa:Qb V w3:=rT
 have BK:Qr w3 V.heap.size #[Qn kc,Qs ka l kp] 27:=vD
 have bi:V.heap.size + 1<=w3.heap.size:=bB3
 clear F
 replace R:=kC R aa
 obtain ⟨L,hc,J⟩:=xR
 clear aa
 go_wp2_with fail
 refine (ku (n:=10) hc bD0).mono ?_
 rintro e w4 ⟨m,bc,ad,c8,rfl,G,D⟩
 have bu:=D.size
 replace R:=D.kC R bD1
 replace BK:=D.kC BK bD1
 obtain ⟨L,J⟩:=xK
 clear hc D
 have hc:=G
 clear G
 replace ad:=ad bD0
 clear c8
 obtain ⟨m,rfl⟩:=Al bc
 by_cases bj:m=0
 · subst bj;go_wp2_with fail;refine (zy (hc.below (bR.alloc nL _)) (kD.kEf _ [-1,0,8,9] bD0 bD0) bD1 bD0 bD0).mono ?_;rintro e w5 ⟨y,ar,bz,rfl,G,D⟩;obtain ⟨D,br⟩:=DF;replace R:=D.kC R bD1;replace BK:=D.kC BK bD1;obtain ⟨L,J⟩:=xK;clear hc D;have hc:=G;clear G;have a6:=kD.kHd (lo:=-1) (hi:=9) bD0 ar;clear ar bz;obtain ⟨av,a2⟩:=yQ BK;obtain ⟨X,O⟩:=kCj BK;go_upto_region 10 with fail;generalize F:World.setCell w5 _ _=w6;have N:Touch (λk=>k=V.heap.size) w5 w6:=vR;replace BK:Qr w6 V.heap.size #[Qn y,Qs ka l kp] 27:=by rw [<- F];exact kF BK 0
   have da:=N.size;clear F av a2 X O;replace R:=N.kC R bD1;replace L:=yD (L.out.touch N pX);replace hc:=hc.touch N bD1 wW;replace J:=J.jP N bD1;clear N;obtain ⟨ac,an⟩:=yQ R;obtain ⟨av,a2⟩:=yQ BK;obtain ⟨ak,al⟩:=kCj R;go_wp2;refine Aa (v:=.agg #[Qn y,Qs ka l kp]) gY rfl ⟨ka,kp,y,l,rfl,?_,by omega,hc.touch sT2 bD1 wW,J.jP sT2 bD1⟩;exact ((kIa (L.out.ji.wide (T:=λk=>w.heap.size < k/\k < w6.heap.size/\k≠V.heap.size) fP) bD1).touch (T:=λk=>k=w.heap.size) sT2 sK).wide dZ
 have bo:¬ (m:Int)=0:=bD1
 by_cases bx:m=1
 · subst bx;go_upto_region 6 with fail;refine zZ (λW=>Touch (λk=>k=p) w4 W/\yT w0 W p) (λ_=>True) [] [(0,true),(1,true),(2,true),(3,false),(4,true),(5,false)] [(6,false),(7,true),(8,false)] bC5 bC5 pY (⟨Touch.of_below bR.drew,hc.below bR.drew⟩) ?_;intro wS E;simp only [jB,zK,Ac,Ad,Ak,Am];refine pre_nil ?_;refine jf (v:=?_) rfl (λW hW=>?_) ?_;rotate_left;(· go_simp;try with_reducible rfl);refine jD ?_;refine jf (v:=?_) rfl (λW hW=>?_) ?_;rotate_left;(· have dt:=kE (hW.1.kC BK bD1) (j:=0) (v:=.int .i64 kc) rfl;have d8:=kE (hW.1.kC BK bD1) (j:=1) (v:=.slice ka l.length kp) rfl;clear hW;go_simp;try with_reducible rfl);refine jD ?_;refine jf (v:=?_) rfl (λW hW=>?_) ?_;rotate_left;(· go_simp;try with_reducible rfl);refine jD ?_;refine zH rfl (λK H=>?_);go_simp;refine (kKk E.2).mono ?_;rintro e wS1 ⟨ds,x,rfl,hX,b5,au,aq⟩;obtain ⟨cl,cm,b3,cf,ch,cg,rfl⟩:=yS hX.raw;have HX:=yD hX;have e0:=E.1.size;replace E:=And.intro (E.1.trans aq) au;refine H _ _ E ?_;clear H K au aq hX;refine jD ?_;refine jf (v:=?_) rfl (λW hW=>?_) ?_;rotate_left;(· go_simp;try with_reducible rfl);refine jD ?_;refine zH rfl (λK H=>?_);go_simp;have af:Touch (λk=>k=p) w4 (World.alloc wS1 (.cells #[.slice cl x.1.length cm,.slice b3 x.2.1.length cf,.slice ch x.2.2.1.length cg,.int .i64 x.2.2.2.1,.int .i64 x.2.2.2.2,.int .i64 0] 122))/\yT w0 (World.alloc wS1 (.cells #[.slice cl x.1.length cm,.slice b3 x.2.1.length cf,.slice ch x.2.2.1.length cg,.int .i64 x.2.2.2.1,.int .i64 x.2.2.2.2,.int .i64 0] 122)) p:=⟨E.1.trans (Touch.of_below (bR.alloc nL _)),E.2.below (bR.alloc nL _)⟩;refine H _ _ af ?_;clear H K af;refine jD ?_;have zS:=E.1.size;have R5:=E.1.kC R bD1;have B5:=E.1.kC BK bD1;have o:=J.trans E.1;have am:=E.2;have az:=L.out.touch E.1 pX;clear R BK J hc L;obtain ⟨v3,u3,bd,ax,ba⟩:=kD.kJb (P:=prog) (t:=25) (ty:=25) (r:=jC) (e:=122) (c:=1) underlying25 kAl rfl bD0 bD0 az bR (entry_own HX.out (u:=0) bD1) pG bD1;have z3:=ba.size;have ae:Touch (λk=>w.heap.size < k/\k < V.heap.size/\k≠p) wS1 u3:=ba.wide dY;have ca:(l++[(x,(0:Int))]).length<=8:=bC6;generalize l++[(x,(0:Int))]=q at *;obtain ⟨a3,c3,rfl,_⟩:=kD.sl ax.raw;have R:=ae.kC R5 bD1;have BK:=ae.kC B5 bD1;have J:=o.kBq ae sM;have hc:=am.touch ae bC2 sM;obtain ⟨be,bh⟩:=yQ BK;obtain ⟨bk,bm⟩:=kCj BK;clear R5 B5 o am az ba ae E;refine zl trivial ?_;refine kY rfl (λK H=>?_);refine kD.kV _ _ _ rfl bD3 bD3 bd ?_;refine H _ _ trivial ?_;clear H K;refine jD ?_;refine kX ?_;refine kY rfl (λK H=>?_);go_simp;refine H _ _ trivial ?_;clear H K;refine jD ?_;refine kR ?_;generalize F:World.setCell u3 _ _=wQ;have N:Touch (λk=>k=V.heap.size) u3 wQ:=vR;have BQ:Qr wQ V.heap.size #[Qn kc,Qs a3 q c3] 27:=by rw [<- F];exact kF BK 1
   have b7:=N.size;clear F be bh bk bm BK;have BK:=BQ;clear BQ;replace R:=N.kC R bD1;replace hc:=hc.touch N bD1 wW;replace J:=J.jP N bD1;have HQ:=yD ((ax.ji.touch N (λk q h=>by rcases q with q | q | q;(have:=q.2;omega);(have:=q.1;omega);(have:=q.1;omega))).wide (T:=λk=>w.heap.size < k/\k < wQ.heap.size/\k≠V.heap.size) (λk q=>by rcases q with q | q | q;exact ⟨by have:=q.1;omega,by have:=q.2;omega,by have:=q.2;omega⟩;exact ⟨by have:=q.1;omega,by have:=q.2;omega,by have:=q.1;omega⟩;exact ⟨by have:=q.1;omega,by have:=q.2;omega,by have:=q.1;omega⟩));exact aX
 have b2:¬ (m:Int)=1:=bD1
 by_cases bq:m=2
 · subst bq;by_cases bp:0 < l.length
   · have a1:(0:Int) < l.length:=bD1;obtain ⟨_,bb,off,rfl,_,aw⟩:=kD.kOx L.out bp;obtain ⟨ce,B_,U,hB,ah,Y,_,_⟩:=kD.own_get L.out (i:=0) bp;obtain ⟨cl,cm,b3,cf,ch,cg,rfl⟩:=entry_form U.raw;have A0:=Y 0 _ rfl;have A1:=Y 1 _ rfl;have A2:=Y 2 _ rfl;have A3:=Y 3 _ rfl;have A4:=Y 4 _ rfl;have A5:=Y 5 _ rfl;simp only [Nat.zero_mul,Nat.add_zero] at A0 A1 A2 A3 A4 A5;have HE:=yD U;have ab:w1.heap.size<=bb:=ah.1;clear Y U;generalize a4:l[0]=y at *;clear a4;obtain ⟨av,a2⟩:=yQ BK;go_upto_region 9 with fail;clear av a2;refine zZ (λW=>Touch (λk=>k=p) w4 W/\yT w0 W p) (λ_=>True) [] [(0,true),(1,true),(2,true),(3,true),(4,true),(5,true),(6,false)] [(7,false),(8,true),(9,false)] bC5 bC5 pY (⟨Touch.of_below bR.drew,hc.below bR.drew⟩) ?_;intro wS E;simp only [jB,zK,Ac,Ad,Ak,Am];refine pre_nil ?_;iterate 3
      refine jf (v:=?_) rfl (λW hW=>?_) ?_;rotate_left;(· go_simp;try with_reducible rfl)
      refine jD ?_
      refine jf (v:=?_) rfl (λW hW=>?_) ?_;rotate_left;(· have dt:=kE (hW.1.kC BK bD1) (j:=0) (v:=.int .i64 kc) rfl;have d8:=kE (hW.1.kC BK bD1) (j:=1) (v:=.slice (some ⟨bb,off,none⟩) l.length kp) rfl;have eh:=hW.1.cellT A0 bD1;have ef:=hW.1.cellT A1 bD1;have ec:=hW.1.cellT A2 bD1;have et:=hW.1.cellT A3 bD1;have en:=hW.1.cellT A4 bD1;have ep:=hW.1.cellT A5 bD1;clear hW;go_simp;try with_reducible rfl)
      refine jD ?_
     refine zH rfl (λK H=>?_);go_simp;have af:Touch (λk=>k=p) w4 (World.alloc wS (.cells #[.slice cl y.1.1.length cm,.slice b3 y.1.2.1.length cf,.slice ch y.1.2.2.1.length cg,.int .i64 y.1.2.2.2.1,.int .i64 y.1.2.2.2.2,.int .i64 y.2] 122))/\yT w0 (World.alloc wS (.cells #[.slice cl y.1.1.length cm,.slice b3 y.1.2.1.length cf,.slice ch y.1.2.2.1.length cg,.int .i64 y.1.2.2.2.1,.int .i64 y.1.2.2.2.2,.int .i64 y.2] 122)) p:=⟨E.1.trans (Touch.of_below (bR.alloc nL _)),E.2.below (bR.alloc nL _)⟩;refine H _ _ af ?_;clear H K af;refine jD ?_;have Z:=yD E.1;have zS:=E.1.size;have R5:=E.1.kC R bD1;have B5:=E.1.kC BK bD1;have o:=J.trans E.1;have am:=E.2;have az:=L.out.touch E.1 pX;clear R BK J hc L;obtain ⟨v3,u3,bd,ax,ba⟩:=kD.kVd (P:=prog) (t:=25) (ty:=25) (r:=jC) (e:=122) (c:=1) underlying25 kAl rfl bD0 bD0 az bR (HE.out.touch Z.out (λk q=>by have h1:=(hB k q).1;have h2:=h1.1;have h3:=h1.2;omega)).ji (λb_ o_ q_ h_=>by simp only [Ar,Av,and_true] at q_;have:=(hB _ h_).2;omega) bp bD1;have z3:=ba.size;have ae:Touch (λk=>w.heap.size < k/\k < V.heap.size/\k≠p) wS u3:=ba.wide dY;have ca:(l++[y]).length<=8:=bC6;generalize l++[y]=q at *;obtain ⟨a3,c3,rfl,_⟩:=kD.sl ax.rd.1;have R:=ae.kC R5 bD1;have BK:=ae.kC B5 bD1;have J:=o.kBq ae sM;have hc:=am.touch ae bC2 sM;obtain ⟨be,bh⟩:=yQ BK;obtain ⟨bk,bm⟩:=kCj BK;clear R5 B5 o am az ba ae E;refine zl trivial ?_;refine kY rfl (λK H=>?_);refine kD.kV _ _ _ rfl bD3 bD3 bd ?_;refine H _ _ trivial ?_;clear H K;refine jD ?_;refine kX ?_;refine kY rfl (λK H=>?_);go_simp;refine H _ _ trivial ?_;clear H K;refine jD ?_;refine kR ?_;generalize F:World.setCell u3 _ _=wQ;have N:Touch (λk=>k=V.heap.size) u3 wQ:=vR;have BQ:Qr wQ V.heap.size #[Qn kc,Qs a3 q c3] 27:=by rw [<- F];exact kF BK 1
     have b7:=N.size;clear F be bh bk bm BK;have BK:=BQ;clear BQ;replace R:=N.kC R bD1;replace hc:=hc.touch N bD1 wW;replace J:=J.jP N bD1;have HQ:=yD ((ax.touch N (λk q h=>by rcases q with q | q | q;(have:=q.2;omega);(have h1:=(hB k q).1;have h2:=h1.2;omega);(have:=q.1;omega))).wide (T:=λk=>w.heap.size < k/\k < wQ.heap.size/\k≠V.heap.size) (λk q=>by rcases q with q | q | q;exact ⟨by have:=q.1;omega,by have:=q.2;omega,by have:=q.2;omega⟩;exact ⟨by have:=(hB k q).1.1;omega,by have:=(hB k q).1.2;omega,by have:=(hB k q).1.2;omega⟩;exact ⟨by have:=q.1;omega,by have:=q.2;omega,by have:=q.1;omega⟩));exact aX
   have a1:¬ (0:Int) < l.length:=bD1;obtain ⟨av,a2⟩:=yQ BK;go_upto_region 10 with fail;clear av a2;exact aY
 have db:¬ (m:Int)=2:=bD1
 go_upto_region 10 with fail
 exact aY
end Go.Proofs.YtjhfdpopkkmigaaGreat

/-
  Content stores as the reference draws them.
-/
import Derived.Test.YtonmjkmaadgceabGreatDrawY
import Derived.Test.YtonmjkmaadgceabGreatDrawK
import Derived.Test.YtonmjkmaadgceabGreatCacheD
set_option linter.unusedVariables false
set_option linter.defProp false
set_option linter.unusedSimpArgs false
set_option linter.unnecessarySimpa false
set_option maxRecDepth 100000
set_option maxHeartbeats 8000000
open Go renaming frozen_of_row->Aa,World->Ae,bodyPost_ret->Ag,Value->Ah
open List renaming getElem?_cons_succ->Ab,getElem?_cons_zero->Ac,length_append->Ad,map_cons->Aj,map_nil->Am,singleton_append->Aq
open List.cons renaming injEq->Ai
open _root_ renaming List->Ak
open Int renaming eq_ofNat_of_zero_le->Al
open Go.Builtin renaming append_->Ap
open Option.some renaming injEq->Ar
open Go.Addr.mk renaming injEq->Au
namespace Go.Proofs.YtonmjkmaadgceabGreat
open Go.RowKit _root_.Go.Proofs.Tryz
def kMy (n:ko) (t:Int) (x:kg):kg:=(x.1,if idxOf (isC n) x.2 < 0 then x.2 else x.2.modify (idxOf (isC n) x.2).toNat (λy=>kCc y t))
def touchS_no {n:ko} {t c:Int} {l:List kT} (h:idxOf (isC n) l < 0):kMy n t (c,l)=(c,l):=by unfold kMy;simp only;rw [if_pos h]
def touchS_yes {n:ko} {t c:Int} {l:Ak kT} {k:Nat} (h:idxOf (isC n) l=k) (hk:k < l.length):kMy n t (c,l)=(c,l.set k (kCc l[k] t)):=by
 unfold kMy;simp only [h,Int.toNat_natCast];rw [if_neg bC9];congr 1;apply List.ext_getElem bD0;intro i h1 h2;rw [List.getElem_modify,List.getElem_set];by_cases e:k=i
 · subst e;simp
 simp [e]
def kXl {w:Ae} {c:Int} {v:Ah} {l:Ak kT} {S:Nat->Prop} (h:kN.own w [Qn c,v] (c,l) S):(kD.slice 111 jD).own w [v] l S:=by
 obtain ⟨a,d,A,B,he,h1,h2,hA,hB,hd⟩:=kD.kEe h;obtain ⟨rfl,_⟩:=kD.jY h1.raw;simp only [Aq,Ai,true_and] at he;subst he;exact h2.wide hB
def store_in {w:Ae} {c:Int} {v:Ah} {l:Ak kT} {S:Nat->Prop} (hc:Qi c) (h:(kD.slice 111 jD).own w [v] l S):kN.own w [Qn c,v] (c,l) S :=
  kD.kIg (cs:=[.int .i64 c]) (kD.jB hc) h
def specTouch_c {w:Ae} {cx:Ak Ah} {x:kg} (hx:kN.rd w cx x) {cn:Ak Ah} {n:ko} (hn:kU.rd w cn n) {t:Int} (ht:Qi t) :
    Calls prog 177 #[.agg cx.toArray,.agg cn.toArray,.int .i64 t] w (kAe kN (kMy n t x) w):=by
 obtain ⟨xc,xe⟩:=x
 have HX:=yD hx
 have HN:=yD hn
 have HF:=yD ht
 obtain ⟨eh,rfl,dg,cz⟩:=jK hx.1
 obtain ⟨b3,co,rfl,xl⟩:=kD.sl cz
 obtain ⟨av,rfl,ad⟩:=kZ hn.1
 obtain ⟨na,np,rfl,_⟩:=kD.sl ad
 have D:Hid ((kD.slice 111 jD).raw w [Qs b3 xe co] xe):=yD cz
 have ae:Qi xc:=dg
 replace xl:xe.length<=9223372036854775807:=xl
 clear hx hn ht dg cz ad
 go_enter func177,ntmps177
 go_upto_region 1 with fail
 generalize F:World.alloc (World.alloc (World.alloc w _) _) _=Y
 have U:Qb w Y:=by rw [<- F];exact bF
 have BX:Qr Y w.heap.size #[Qn xc,Qs b3 xe co] 27:=qO
 have BN:Qr Y (w.heap.size + 1) #[Qs na n np] 40:=by rw [<- F];exact jV (kG bD0)
 have BR:Qr Y (w.heap.size + 2) #[Qn 0,.slice none 0 0] 27:=by rw [<- F];exact kG bD0
 have bd:w.heap.size + 3<=Y.heap.size:=bB1
 clear F
 obtain ⟨X,aa⟩:=yT BX
 go_wp2_with fail
 refine (kMq (HX.out.below U)).mono ?_
 rintro e V ⟨cs,rfl,O,hb⟩
 have bk:=hb.size
 replace BX:=kC BX hb
 replace BN:=kC BN hb
 replace BR:=kC BR hb
 replace U:=(tQ U hb)
 clear X aa
 clear hb
 obtain ⟨aq,rfl,Z,E⟩:=jK O.raw
 obtain ⟨oa,W,rfl,_⟩:=kD.sl E
 clear Z E
 have J:=yD ((kXl O).wide (T:=(λj=>w.heap.size + 3<=j/\j < V.heap.size)) qY)
 clear O
 go_upto_region 2 with fail
 generalize F:World.alloc V _=w3
 have ak:Qb V w3:=rM
 have BO:Qr w3 V.heap.size #[Qn xc,Qs oa xe W] 27:=vB
 have bl:V.heap.size + 1<=w3.heap.size:=bB1
 clear F
 replace BX:=kC BX ak
 replace BN:=kC BN ak
 obtain ⟨BR,J,U⟩:=DJ
 clear ak
 obtain ⟨X,aa⟩:=yT BX
 have ao:Qc w3 (w.heap.size + 1) 0 (.slice na n.length np):=kE BN rfl
 go_wp2_with fail
 refine (kEx (D.out.below U) (cn:=[.slice na n.length np]) (HN.out.1.below U)).mono ?_
 rintro e w4 ⟨rfl,hb⟩
 have bw:=hb.size
 replace BX:=kC BX hb
 replace BN:=kC BN hb
 obtain ⟨BR,BO,J,U⟩:=xN
 clear X aa ao
 clear hb
 by_cases hf:idxOf (isC n) xe < 0
 · have L:=yD (touchS_no (t:=t) (c:=xc) hf);have d1:¬ (0<=idxOf (isC n) xe):=bC9;generalize idxOf (isC n) xe=q at *;go_upto_region 5 with fail;obtain ⟨G,o⟩:=yT BO;obtain ⟨a4,a5⟩:=yT BR;obtain ⟨bh,bf⟩:=kCm BR;go_wp2;refine Ag (v:=.agg #[Qn xc,Qs oa xe W]) gT rfl ⟨[Qn xc,Qs oa xe W],rfl,?_,?_⟩
   · rw [L.out];exact store_in ae ((J.out.touch sT2 rF).wide fC)
   exact U.trans (Touch.below sT2 U.size wM)
 obtain ⟨k,hlt,ac⟩:=kIf hf
 have L:=yD (touchS_yes (t:=t) (c:=xc) ac hlt)
 rw [ac]
 clear hf ac
 obtain ⟨qb,qo,rfl,c0,c1,c2,c3,c4,c5,hr,A0,A1,A2,A3,A4,A5⟩:=kD.get6 J.out.raw hlt rfl
 obtain ⟨_,N,I,H,ai,b9⟩:=kD.kKo J.out bC9
 simp only [Ar,Au,and_true] at H
 obtain ⟨rfl,rfl⟩:=H
 have ah:=kD.own_frozen J.out bC9 (qo + k * 6 + 5)
 clear hr A0 A1 A2 A3 A4
 have bt:(0:Int)<=k:=bC9
 have bx:(k:Int) < xe.length:=bC9
 obtain ⟨G,o⟩:=yT BO
 obtain ⟨O2,T2⟩:(kD.slice 111 jD).own (World.setCell w4 ⟨qb,qo + k * 6 + 5,none⟩ (.int .i64 t)) [.slice (some ⟨qb,qo,none⟩) xe.length W] (xe.set k (kCc xe[k] t)) (λj=>w.heap.size + 3<=j/\j < V.heap.size)/\Touch (λj=>j=qb) w4 (World.setCell w4 ⟨qb,qo + k * 6 + 5,none⟩ (.int .i64 t)):=kD.kRk (i:=k) (j:=5) J.out hlt bC8 (λh=>kQq _ HF.out h) (show jD.bdd Big (kCc xe[k] t) from kD.yX J.out.rd hlt)
 go_upto_region 5 with fail
 generalize F:World.setCell w4 _ _=w5 at O2 T2 ⊢
 clear F
 clear J
 have J:=yD O2
 clear O2
 have bv:=T2.size
 replace BX:=T2.kC BX bC9
 replace BN:=T2.kC BN bC9
 replace BR:=T2.kC BR bC9
 replace BO:=T2.kC BO bC9
 replace U:=U.trans (T2.below U.size wM)
 clear G o
 clear T2
 obtain ⟨G,o⟩:=yT BO
 obtain ⟨a4,a5⟩:=yT BR
 obtain ⟨bh,bf⟩:=kCm BR
 go_wp2
 refine Ag (v:=.agg #[Qn xc,.slice (some ⟨qb,qo,none⟩) xe.length W]) gT rfl ⟨[Qn xc,.slice (some ⟨qb,qo,none⟩) xe.length W],rfl,?_,?_⟩
 · rw [L.out];exact store_in ae ((J.out.touch sT2 rF).wide fC)
 exact U.trans (Touch.below sT2 U.size wM)
def idleN (x:yB):Bool:=(x.2.2.1.length:Int)==0
def capC (c:Int):Int:=if inR c 0 8 then c else 0
def newC (c:Int):kg:=(capC c,[])
def newN (c:Int):yB:=([],newC c,[],[],[],[],0)
def kPi {c:Int} (h:Qi c):-9223372036854775808<=capC c/\capC c<=9223372036854775807:=by unfold capC;split <;> omega
def newC_own {w:Ae} {c:Int} {S:Nat->Prop} (h:Qi c):kN.own w [Qn c,.slice none 0 0] (c,[]) S :=
  ⟨kNt (x:=kN.zero) c h kN.is_zero,(kN.bdd_zero:kN.bdd Big kN.zero)⟩
def kKn {α β:Type} {e:TypeId} {r:kD α} {q:kD β} {w:Ae} {ds:Ak Ah} {y:β} {S:Nat->Prop} (h:q.own w ds y S):(kD.pair (kD.slice e r) q).own w ([.slice none 0 0]++ds) ([],y) S :=
  kD.jl (A:=λ_=>False) (B:=S) kD.jd h (λ_ h=>h.elim) (λ_ h=>h) (λ_ h _=>h)
def own_store {β:Type} {q:kD β} {r:kD kg} {w:Ae} {cs ds:Ak Ah} {x:kg} {y:β} {S:Nat->Prop} (h:r.own w cs x S) (k:q.own w ds y (λ_=>False)):(kD.pair r q).own w (cs++ds) (x,y) S :=
  kD.jl (A:=S) (B:=λ_=>False) h k (λ_ h=>h) (λ_ h=>h.elim) (λ_ _ h=>h)
def kPc {w:Ae} {cx:Ak Ah} {x:yB} (hx:jr.rd w cx x):Calls prog 10 #[.agg cx.toArray] w (bQ w (.bool (idleN x))):=by
 obtain ⟨d4,d7,en,el,eg,ef,rfl,ad,a3,bi,a9,az,ba,bm,bz,dg⟩:=yS hx.1;obtain ⟨cw,b6,rfl,d6⟩:=kD.sl ad;obtain ⟨cz,co,rfl,d8⟩:=kD.sl a9;obtain ⟨dk,c8,rfl,eh⟩:=kD.sl az;obtain ⟨dj,di,rfl,ek⟩:=kD.sl ba;obtain ⟨c5,c4,rfl,eq⟩:=kD.sl bm;obtain ⟨c3,cm,rfl,ej⟩:=kD.sl bz;clear ad a3 bi a9 az ba bm bz dg;clear hx;go_enter func10,ntmps10;go_wp2;go_ret;exact ⟨rfl,bF⟩
def kEq {w:Ae} {c:Int} (hc:Qi c):Calls prog 159 #[.int .i64 c] w (kAe kN (newC c) w):=by
 have HC:=yD (kPi hc);go_enter func159,ntmps159;go_wp2_with fail;generalize D:World.alloc w _=N;have EB:Qb w N:=rP;have M0:Qd N w 0 (.int .i64 0):=tK;have M1:Qd N w 1 (.slice none 0 0):=tK;have F0:N.frozen? ⟨w.heap.size,0,none⟩=false:=tK;have F1:N.frozen? ⟨w.heap.size,1,none⟩=false:=tK;clear D;refine jo.mono ?_;rintro e u ⟨rfl,hu⟩;obtain rfl:=hu.symm;clear hu;cases hi:inR c 0 8
 · have L:=yD (show capC c=0 by unfold capC;rw [hi];rfl);go_wp2;refine Ag (v:=.agg #[Qn 0,.slice none 0 0]) gP rfl ⟨[_,_],rfl,?_,?_⟩
   · unfold newC;rw [L.out];exact newC_own bC9
   exact (EB.setCell bD0 _).setCell bD0 _
 have L:=yD (show capC c=c by unfold capC;rw [hi];rfl);go_wp2;refine Ag (v:=.agg #[Qn c,.slice none 0 0]) gP rfl ⟨[_,_],rfl,?_,?_⟩
 · unfold newC;rw [L.out];exact newC_own (by have:=HC.out;rwa [L.out] at this)
 exact (EB.setCell bD0 _).setCell bD0 _
def kWu {w:Ae} {c:Int} (hc:Qi c):Calls prog 131 #[.int .i64 c] w (kAe jr (newN c) w):=by
 have HC:=yD (kPi hc);go_enter func131,ntmps131;go_wp2_with fail;generalize D:World.alloc w _=N;have EB:Qb w N:=rP;have XB:Qr N w.heap.size #[.slice none 0 0,Qn 0,.slice none 0 0,.slice none 0 0,.slice none 0 0,.slice none 0 0,.slice none 0 0,Qn 0] 33:=by rw [<- D];exact kG rfl
 have bu:N.heap.size=w.heap.size + 1:=bB2;clear D;refine (kEq hc).mono ?_;rintro e Y ⟨cs,rfl,O1,O⟩;obtain ⟨cv,rfl,ap,au⟩:=jK O1.raw;have o:=kC XB O;have E1:=(tQ EB O);have G:(newC c).2=[]:=rfl;have bc:(newC c).1=capC c:=rfl;obtain ⟨ca,cp,rfl,_⟩:=kD.sl au;have J:=yD O1;clear O1 ap au O XB;have M0:=kE (b:=w.heap.size) o (j:=0) rfl;have F0:=Aa Y w.heap.size 0 _ _ o;have M1:=kE (b:=w.heap.size) o (j:=1) rfl;have F1:=Aa Y w.heap.size 1 _ _ o;have M2:=kE (b:=w.heap.size) o (j:=2) rfl;have F2:=Aa Y w.heap.size 2 _ _ o;have M3:=kE (b:=w.heap.size) o (j:=3) rfl;have F3:=Aa Y w.heap.size 3 _ _ o;have M4:=kE (b:=w.heap.size) o (j:=4) rfl;have F4:=Aa Y w.heap.size 4 _ _ o;have M5:=kE (b:=w.heap.size) o (j:=5) rfl;have F5:=Aa Y w.heap.size 5 _ _ o;have M6:=kE (b:=w.heap.size) o (j:=6) rfl;have F6:=Aa Y w.heap.size 6 _ _ o;have M7:=kE (b:=w.heap.size) o (j:=7) rfl;have F7:=Aa Y w.heap.size 7 _ _ o;go_wp2;refine Ag (v:=.agg #[.slice none 0 0,.int .i64 (capC c),.slice ca 0 cp,.slice none 0 0,.slice none 0 0,.slice none 0 0,.slice none 0 0,Qn 0]) (by simp [results,results131,go_sem,M0,F0,M1,F1,M2,F2,M3,F3,M4,F4,M5,F5,M6,F6,M7,F7,newC]) rfl ⟨[_,_,_,_,_,_,_,_],rfl,?_,?_⟩
 · refine kD.own.wide (S:=jX N.heap.size Y.heap.size) ?_ fB;exact kKn (own_store (kD.own.out J.out dR) (kKn (kKn (kKn (kKn (kD.flat.own (kD.jB (n:=0) bC9)))))))
 repeat (first|(with_reducible exact E1) | refine Below.setCell ?_ bD0 _)
namespace kD
section
variable {α β:Type} {r:kD α} {q:kD β} {e:TypeId} {w w' W W':Ae} {v:Ah} {cs ds:Ak Ah} {x:α} {xs ys:Ak α} {S T F G:Nat->Prop}
def run_pushD {P:Program} {t ty:TypeId} {z:Ah} {bytes:Nat} (ht:P.underlying t=some (.slice e)) (hinf:(P.info? e).map (λi=>(i.zero,i.size,i.bytes))=some (some z,r.n,bytes)) (hzs:z.cells.size=r.n) (hn:0 < r.n) (hby:bytes<=1000)
    {a:Option Addr} {len cap:Nat} (hown:(slice e r).own w [.slice a len cap] xs S) {sv:Ah} {m:Nat} {cells:Ak Ah} (hsrc:Src w sv m cells) (hrow:row r false w cells ys T) (hm:ys.length=m) (hb:∀ y∈ys,r.bdd Big y) (hd:∀ b off,a=some ⟨b,off,none⟩->¬ T b) (hne:0 < xs.length) (hlen:xs.length + ys.length<=16777216) :
    ∃ v' w',(Ap #[t,t] ty #[.slice a len cap,sv]).run P w=.ok v' w'/\(slice e r).ji w' [v'] (xs++ys) (λk=>S k\/T k\/(w.heap.size<=k/\k < w'.heap.size))/\Touch S w w':=by
 obtain ⟨i,hi,hz,hsize,D⟩:=info_parts hinf
 have V:∀ n,n<=16777216->n<=Big:=λn h=>by unfold Big;omega
 obtain ⟨⟨a',E,cap',h0,h1,h2,h3,h4⟩,bm,cq⟩:=hown
 simp only [Ai,Value.slice.injEq,and_true] at h0
 obtain ⟨rfl,rfl,rfl⟩:=h0
 subst h1
 have N:∀ y∈xs++ys,r.bdd Big y:=by
  intro y hy;rcases List.mem_append.1 hy with q | q
  · exact cq y q
  exact hb y q
 rcases h4 with ⟨rfl,hc0⟩|⟨b,off,rfl,cur,e',fr,p,cs,tl,g1,g2,g3,g4,g5,g6,g7⟩
 · simp at hne
 obtain ⟨he,J⟩:=g5 rfl
 rw [he,J] at g1
 have ag:=zK g7
 have d9:=zK hrow
 by_cases bt:m=0
 · have b7:ys=[]:=List.eq_nil_of_length_eq_zero bC9;subst b7;have hc:cells=[]:=hrow;subst hc;obtain ⟨a1,c1,rfl⟩:∃ a c,sv=.slice a 0 c:=by
    rcases hsrc with ⟨_,h⟩|⟨ad,c,h,_⟩
    · exact h
    exact ⟨_,_,by rw [h,bt]⟩
   refine ⟨.slice (some ⟨b,off,none⟩) xs.length cap,w,?_,?_,Touch.refl _ _⟩
   · cases a1 <;> simp [Ap,run_underlying ht,sizeOf,typeInfo,hi,Builtin.lenOf,h2,Builtin.firstCells,loadCells,loadCellsFrom,storeCells]
   rw [List.append_nil];refine ⟨⟨_,_,cap,rfl,rfl,h2,h3,.inr ⟨b,off,rfl,cur,e,(0,0),p,cs,tl,g1,g2,g3,g4,λ_=>⟨rfl,rfl⟩,.inl g6,yL (kKl g7) pM⟩⟩,bm,cq⟩
 obtain ⟨ad,c,rfl,U⟩:∃ ad c,sv=.slice (some ad) m c/\∀ j u,cells[j]?=some u->w.cell? (ad.add j)=some u:=by
  rcases hsrc with ⟨h,_⟩ | h
  · exact absurd h bt
  exact h
 obtain ⟨G,O,al⟩:=EH
 by_cases o:xs.length + m<=cap
 · have W:(xs.length + m) * r.n<=cap * r.n:=Nat.mul_le_mul_right _ o;rw [Nat.add_mul] at W;obtain ⟨dv,Y⟩:=I4;have hr:=run_append_room_cells (P:=P) (w:=w) t ty e i ht hi b off xs.length cap ad m c cells G U (row_one hrow) o
     (λj I=>by
       rw [cell_of_row w b _ cur e (0,0) g1];have:off + xs.length * i.size + j < cur.size:=by rw [Y,Ad];omega
       simp [this])
     (λj _=>Aa w b _ _ _ g1)
   rw [kHi] at hr;have R:=zl (e:=e) cells (tl.take cells.length) (p++cs) (tl.drop cells.length) w b (off + xs.length * i.size) gB Y.symm rV;refine ⟨_,_,hr,?_,(zH cells w b _).wide (λk hk=>by rw [hk];exact g6)⟩;have X:∀ k,k≠b->(setCells w b (off + xs.length * i.size) cells).heap[k]?=w.heap[k]?:=λk hk=>zy cells w b _ k hk;refine ⟨⟨_,_,cap,rfl,by rw [Ad,hm],o,h3,.inr ⟨b,off,rfl,_,e,(0,0),p,cs++cells,tl.drop cells.length,R,by simp,g3,?_,λ_=>⟨rfl,rfl⟩,.inl g6,?_⟩⟩,V _ pW,N⟩
   · simp only [List.size_toArray,Ad,List.length_drop];omega
   have a1:=yM (w':=setCells w b (off + xs.length * i.size) cells) g7 (λk hk=>X k (hk.2 rfl));have a2:=yM (w':=setCells w b (off + xs.length * i.size) cells) hrow (λk hk=>X k (λq=>hd b off rfl (q ▸ hk)));exact kAg (kKl a1) a2 pM (λk hk=>⟨.inr (.inl hk),λh=>by cases h⟩) (λh=>by cases h)
 have H:∀ j u,cs[j]?=some u->w.cell? ((⟨b,off,none⟩:Addr).add j)=some u:=by
  exact aS
 have L:(xs.length + m) * i.bytes<=140737488355328:=by
  have:(xs.length + m) * i.bytes<=16777216 * 1000:=Nat.mul_le_mul bC9 bC9;omega
 have hr:=run_append_grow (P:=P) w t ty e i z ht hi hz ⟨b,off,none⟩ xs.length cap cs (by rw [hsize];exact ag) H ad m c cells G U bC9 bC9 (growslice_fits bC9 L)
 refine ⟨_,_,hr,?_,⟨rfl,rfl,rfl,by simp,λk hk _=>heap_alloc_old w.drew _ hk⟩⟩
 have bz:=grownCap_ge w (xs.length + m) cap e
 have ap:=grownCap_le_maxLen w (xs.length + m) cap e vK
 refine ⟨⟨_,_,_,rfl,by rw [Ad,hm],bz,ap,.inr ⟨w.heap.size,0,rfl,_,e,(0,0),[],cs++cells,(Builtin.zeroCells z.cells (grownCap w (xs.length + m) cap e - (xs.length + m))).toList,heap_alloc_new w.drew _,by simp,rfl,?_,λ_=>⟨rfl,rfl⟩,.inr (.inr ⟨Nat.le_refl _,by simp⟩),?_⟩⟩,V _ pW,N⟩
 · exact aT
 obtain ⟨a1,a2⟩:=xY
 exact kAg (kKl a1) a2 pM (λk hk=>⟨.inr (.inl hk.1),λh=>by cases h⟩) (λh=>by cases h)
def ji.live (h:r.ji w cs x S):r.ji w cs x (λk=>S k/\k < w.heap.size):=⟨r.live h.1,h.2⟩
def kUk {P:Program} {t ty:TypeId} {z:Ah} {bytes:Nat} (ht:P.underlying t=some (.slice e)) (hinf:(P.info? e).map (λi=>(i.zero,i.size,i.bytes))=some (some z,r.n,bytes)) (hzs:z.cells.size=r.n) (hn:0 < r.n) (hby:bytes<=1000)
    {a:Option Addr} {len cap:Nat} (hown:(slice e r).own w [.slice a len cap] xs S) {u:Ae} (hu:Qb w u) {cx:Ak Ah} {x:α} (hx:r.ji u cx x T) (hd:∀ b off,a=some ⟨b,off,none⟩->¬ T b) (hne:0 < xs.length) (hlen:xs.length < 16777216) {c:Nat} :
    ∃ v' w',(Ap #[t,t] ty #[.slice a len cap,.slice (some ⟨u.heap.size,0,none⟩) 1 c]).run P (u.alloc (.cells cx.toArray e))=.ok v' w'/\(slice e r).ji w' [v'] (xs++[x]) (λk=>S k\/T k\/(u.heap.size<=k/\k < w'.heap.size))/\Touch (λk=>S k/\k < w.heap.size) u w':=by
 obtain ⟨H,hS⟩:=CZ
 have hrow:row r false (u.alloc (.cells cx.toArray e)) cx [x] (λk=>T k/\k < u.heap.size):=kDm (r.mono (r.live hx.1) (λk hk=>H.block k hk.2))
 have hsrc:Src (u.alloc (.cells cx.toArray e)) (.slice (some ⟨u.heap.size,0,none⟩) 1 c) 1 cx:=by
  exact aU
 obtain ⟨v',w',hr,ho,o⟩:=run_pushD (ty:=ty) ht hinf hzs hn hby (hS.below H) hsrc hrow rfl gN (λb off q h2=>hd b off q h2.1) hne bC4
 exact aV
def kWg {P:Program} {ops:Array Oper} {rest:Ak Oper} {o:Oper} {D:Act} {Q:Exit->Act->Ae->Prop} (E:o.guard=none) (s x:Operand) (t:TypeId)
    (ho:o.op=.call { callee:=.builtin .append,args:=#[s,x],argTypes:=#[t,t] })
    {z:Ah} {bytes:Nat} (ht:P.underlying t=some (.slice e)) (hinf:(P.info? e).map (λi=>(i.zero,i.size,i.bytes))=some (some z,r.n,bytes)) (hzs:z.cells.size=r.n) (hn:0 < r.n) (hby:bytes<=1000)
    {a:Option Addr} {len cap:Nat} (hown:(slice e r).own w [.slice a len cap] xs S) {u:Ae} (hu:Qb w u) {cx:Ak Ah} {y:α} (hy:r.ji u cx y T) {c:Nat} (hs:D.eval s=.slice a len cap) (hx:D.eval x=.slice (some ⟨u.heap.size,0,none⟩) 1 c) (hd:∀ b off,a=some ⟨b,off,none⟩->¬ T b) (hne:0 < xs.length) (hlen:xs.length < 16777216)
    (h:∀ v' w',(slice e r).ji w' [v'] (xs++[y]) (λk=>S k\/T k\/(u.heap.size<=k/\k < w'.heap.size))->Touch (λk=>S k/\k < w.heap.size) u w'->wpList P ops Q rest (D.put o.dst v') w'):wpList P ops Q (o :: rest) D (u.alloc (.cells cx.toArray e)):=by
 refine wpList_plain E λ_ H=>?_
 obtain ⟨v',w',hr,h1,h2⟩:=kUk (ty:=o.type) (c:=c) ht hinf hzs hn hby hown hu hy hd hne hlen
 exact kV s x t ho hs hx hr (H _ _ (h v' w' h1 h2))
end
end kD
def kIs {w:Ae} {cs:Ak Ah} {x:kg} (h:kN.raw w cs x):∃ a c,cs=[.int .i64 x.1,.slice a x.2.length c]:=by
 obtain ⟨v0,rfl,ab,Z⟩:=jK h;obtain ⟨a0,c0,rfl,_⟩:=kD.sl Z;exact ⟨_,_,rfl⟩
def kPj (y:jN) (t:Int) (c:Int) (l:Ak kT):∃ k,kEl y t (c,l)=(c,k)/\k.length<=l.length + 1:=by
 unfold kEl;split
 · exact ⟨_,rfl,by omega⟩
 refine ⟨_,rfl,?_⟩;have h1:=kXv c (kEg y.1 l);have h2:=otherC_len y.1 l;simp only [Ad,List.length_cons,List.length_nil];show (kJm c (kEg y.1 l)).length + 1<=l.length + 1;omega
def touchS_len (n:ko) (t:Int) (c:Int) (l:Ak kT):∃ k,kMy n t (c,l)=(c,k)/\k.length=l.length:=by
 unfold kMy;refine ⟨_,rfl,?_⟩;simp only;split <;> simp
def DrawnS (m:Nat) (w0 w:Ae) (p:Nat) (e:Ending) (w':Ae):Prop:=∃ a c kc l,e=.returned (.agg #[Qn kc,Qs a l c])/\kN.own w' [Qn kc,Qs a l c] (kc,l) (jX w.heap.size w'.heap.size)/\l.length<=m/\yU w0 w' p/\Touch (λk=>k=p) w w'
def data_parts9 {w:Ae} {c0 c1 c2 c3 c4:Ah} {x:jN} {S:Nat->Prop} (h:jJ.own w [c0,c1,c2,c3,c4] x S):kU.rd w [c0] x.1:=by
 obtain ⟨a,d,A,T,he,h1,h2,hA,hT,hd⟩:=kD.kEe (r:=kU) h;have l1:=kU.len h1.1
 match a,l1 with
 | [u],_=>simp only [Aq,Ai] at he;obtain ⟨rfl,_⟩:=he;exact h1.rd
def kWt {w0 w:Ae} {p:Nat} (hc:yU w0 w p) :
    Calls prog 146 #[.pointer (some ⟨p,0,none⟩)] w λe w'=>DrawnS 7 w0 w p e w':=by
 go_enter func146,ntmps146
 obtain ⟨bf,b4⟩:=hc.lt
 go_upto_region 1 with fail
 generalize F:World.alloc w _=Y
 have X:Qb w Y:=rM
 have R:Qr Y w.heap.size #[Qn 0,.slice none 0 0] 27:=vB
 have bd:w.heap.size + 1<=Y.heap.size:=bB1
 clear F
 obtain ⟨hc,N⟩:=xQ
 clear X
 go_wp2_with fail
 refine (kr (n:=5) hc bC8).mono ?_
 rintro e V ⟨x,ao,L,a1,rfl,G,D⟩
 obtain ⟨bk,R,N⟩:=BG
 clear hc D
 have hc:=G
 clear G
 replace L:=L bC8
 clear a1
 go_wp2_with fail
 refine (kEq (c:=x) bC9).mono ?_
 rintro e w3 ⟨cs,rfl,hO,hb⟩
 have bl:=hb.size
 replace R:=kC R hb
 obtain ⟨hc,N⟩:=xG
 clear hb
 obtain ⟨ka,kp,rfl⟩:=kIs hO.raw
 simp only [newC,List.length_nil] at hO ⊢
 have fx:=kPi (c:=x) bC9
 generalize capC x=kc at *
 have J:=yD (hO)
 clear hO
 go_upto_region 2 with fail
 generalize F:World.alloc w3 _=w4
 have a2:Qb w3 w4:=rM
 have BK:Qr w4 w3.heap.size #[Qn kc,.slice ka 0 kp] 27:=vB
 have bw:w3.heap.size + 1<=w4.heap.size:=bB1
 clear F
 replace R:=kC R a2
 replace J:=yD (J.out.below a2)
 replace hc:=hc.below a2
 replace N:=N.trans (Touch.of_below a2)
 clear a2
 obtain ⟨kb,cw⟩:∃ b_,b_=w3.heap.size:=⟨_,rfl⟩
 rw [<- cw] at BK ⊢
 have aw:=Nat.le_of_eq cw
 have ax:=Nat.le_of_eq cw.symm
 clear cw
 go_wp2_with fail
 refine (kr (n:=8) hc bC8).mono ?_
 rintro e w5 ⟨m,bt,ah,b1,rfl,G,D⟩
 have bv:=D.size
 replace R:=D.kC R bC9
 replace BK:=D.kC BK bC9
 obtain ⟨J,N⟩:=xM
 clear hc D
 have hc:=G
 clear G
 replace ah:=ah bC8
 clear b1
 obtain ⟨m,rfl⟩:=Al bt
 go_wp2
 go_loopw [4] (λi wr=>∃ (j:Nat) (ka:Option Addr) (kp:Nat) (l:Ak kT),i=.int .i64 j/\j<=7/\Hid (l.length + j<=7)/\Qr wr kb #[Qn kc,Qs ka l kp] 27/\Hid (kN.own wr [Qn kc,Qs ka l kp] (kc,l) (λk=>w.heap.size < k/\k < wr.heap.size/\k≠kb))/\w5.heap.size<=wr.heap.size/\yU w0 wr p/\Touch (λk=>k=p\/k=kb) w5 wr) (λi _=>(intOf i).toNat)
 case atStart=>exact ⟨m,ka,kp,[],rfl,by omega,yD bC4,BK,yD (J.out.wide fH),Nat.le_refl _,hc,Touch.of_below bR⟩
 clear BK hc
 obtain ⟨j,ka,kp,l,rfl,I,HL,BK,J,dt,hc,Z⟩:=hrel
 have e4:=Z.size
 cases j with
 | zero =>
   have cq:¬ (0:Int) < (0:Nat):=bC9;replace R:=Z.kC R bC9;replace N:=N.jh Z wP;obtain ⟨ad,an⟩:=yT R;obtain ⟨bo,o⟩:=yT BK;obtain ⟨aj,al⟩:=kCm R;go_wp2;refine Ag (v:=.agg #[Qn kc,Qs ka l kp]) (by simp [results,results146,go_sem,ad,an,aj,al]) rfl ⟨ka,kp,kc,l,rfl,?_,by have:=HL.out;omega,hc.touch sT2 bC9 wM,N.jO sT2 bC9⟩;exact (J.out.touch (T:=λk=>k=w.heap.size) sT2 rZ).wide dU
 | succ j =>
   have ce:(0:Int) < (j:Int) + 1:=bC9;go_wp2_with fail;refine (kIt hc).mono ?_;rintro e b6 ⟨ds,x,rfl,hX,b0,G,D⟩;have cv:=D.size;replace Z:=Z.jh D gZ;replace BK:=D.kC BK bC9;replace J:=yD (J.out.touch D nH);clear hc D;have hc:=G;clear G;obtain ⟨ch,cg,b3,b9,cd,ca,rfl⟩:=zZ hX.raw;have HX:=yD hX;clear hX;go_upto_region 6 with fail;generalize F:World.alloc b6 _=bi;have hb:Qb b6 bi:=rM;have BX:Qr bi b6.heap.size #[Qs ch x.1 cg,Qs b3 x.2.1 b9,Qs cd x.2.2.1 ca,Qn x.2.2.2.1,Qn x.2.2.2.2] 68:=vB;have d2:b6.heap.size + 1<=bi.heap.size:=bB1;clear F;have dc:=hb.size;replace Z:=Z.trans (Touch.of_below hb);replace BK:=kC BK hb;replace J:=yD (J.out.below hb);replace HX:=yD (HX.out.below hb);replace hc:=hc.below hb;clear hb;refine zb (λW=>Touch (λk=>k=p) bi W/\yU w0 W p) (λ_=>True) [] [(0,true),(1,true),(2,true),(3,false),(4,true),(5,false)] [(6,false)] bC3 bC3 pK (⟨Touch.of_below bR.drew,hc.below bR.drew⟩) ?_;intro wS E;simp only [kz,zF,Ab,Ac,Aj,Am];refine pre_nil ?_;iterate 2
    refine jW (v:=?_) rfl (λW hW=>?_) ?_;rotate_left;(· have c6:=kE (hW.1.kC BK bC9) (j:=0) (v:=.int .i64 kc) rfl;have dj:=kE (hW.1.kC BK bC9) (j:=1) (v:=.slice ka l.length kp) rfl;have du:=kE (hW.1.kC BX bC9) (j:=0) (v:=.slice ch x.1.length cg) rfl;have dq:=kE (hW.1.kC BX bC9) (j:=1) (v:=.slice b3 x.2.1.length b9) rfl;have dn:=kE (hW.1.kC BX bC9) (j:=2) (v:=.slice cd x.2.2.1.length ca) rfl;have eb:=kE (hW.1.kC BX bC9) (j:=3) (v:=.int .i64 x.2.2.2.1) rfl;have d3:=kE (hW.1.kC BX bC9) (j:=4) (v:=.int .i64 x.2.2.2.2) rfl;clear hW;go_simp;try with_reducible rfl)
    refine jF ?_
   refine jW (v:=?_) rfl (λW hW=>?_) ?_;rotate_left;(· go_simp;try with_reducible rfl);refine jF ?_;refine yx rfl (λK H=>?_);go_simp;refine (kr (n:=20) E.2 bC8).mono ?_;rintro e wS1 ⟨y,b7,bn,bz,rfl,ar,ap⟩;replace bn:=bn bC8;clear bz;replace E:=And.intro (E.1.trans ap) ar;clear ar ap;have hw:IntKind.i64.wrap (40 + y)=40 + y:=IntWalk.i64_in _ bC9;refine H _ _ E ?_;clear H K;refine jF ?_;refine jW (v:=?_) rfl (λW hW=>?_) ?_;rotate_left;(· go_simp;try with_reducible rfl);refine jF ?_;refine yx rfl (λK H=>?_);go_simp;refine (kJk (cx:=[.int .i64 kc,.slice ka l.length kp]) (x:=(kc,l)) (J.out.touch E.1 nH).rd (cy:=[.slice ch x.1.length cg,.slice b3 x.2.1.length b9,.slice cd x.2.2.1.length ca,.int .i64 x.2.2.2.1,.int .i64 x.2.2.2.2]) (HX.out.touch E.1 nH).rd (t:=40 + y) bC9 (by have:=HL.out;show l.length<=_;omega)).mono ?_;rintro e O ⟨cs,rfl,hO,ab⟩;have di:=E.1.size;have bu:=ab.size;replace E:=And.intro (E.1.trans (Touch.of_below ab)) (E.2.below ab);obtain ⟨l2,a8,ec⟩:=kPj x (40 + y) kc l;rw [a8] at hO;obtain ⟨na,np,rfl⟩:=kIs hO.raw;clear a8;have HN:=yD hO;refine H _ _ E ?_;clear H K ab hO;refine jF ?_;have ev:=E.1.size;have RS:=E.1.kC BK bC9;have ad:Qc O kb 0 (.int .i64 kc):=kE RS rfl;have aj:O.frozen? ⟨kb,0,none⟩=false:=Aa O (kb) 0 _ _ RS;have an:Qc O kb 1 (.slice ka l.length kp):=kE RS rfl;have al:O.frozen? ⟨kb,1,none⟩=false:=Aa O (kb) 1 _ _ RS;refine zk trivial ?_;refine kw rfl (λK H=>?_);go_simp;refine H _ _ trivial ?_;clear H K;refine jF ?_;refine kS ?_;replace Z:=Z.jh E.1 gZ;replace BX:=E.1.kC BX bC9;replace J:=yD (J.out.touch E.1 nH);replace HX:=yD (HX.out.touch E.1 nH);replace hc:=E.2;clear E BK;have BK:=RS;clear RS ad aj an al;clear J HX BX;generalize F:World.setCell (World.setCell O _ _) _ _=dw;have hT:Touch (λk=>k=kb) O dw:=vU;replace BK:Qr dw kb #[Qn kc,Qs na l2 np] 27:=by rw [<- F];exact kK (kK (BK) 0) 1
   have ed:=hT.size;clear F;replace HN:=yD (HN.out.touch hT nH);obtain ⟨hc,Z⟩:=A9;clear hT;have az:=yD (show l2.length + j<=7 by have:=HL.out;omega);clear HL ec;go_wp2_with fail;refine (kAk (n:=3) hc bC8).mono ?_;rintro e ai ⟨b,rfl,G,D⟩;have ak:=D.size;replace Z:=Z.jh D gZ;replace BK:=D.kC BK bC9;replace HN:=yD (HN.out.touch D nH);clear hc D;have hc:=G;clear G;cases b
   · go_wp2;go_roundw;case rel=>exact ⟨j,na,np,l2,by go_num,by omega,az,BK,yD (HN.out.wide fG),by omega,hc,Z⟩
     case measure=>simp [intOf]
   · go_upto_region 8 with fail;refine zb (λW=>Touch (λk=>k=p) ai W/\yU w0 W p) (λ_=>True) [] [(0,true),(1,true),(2,false),(3,true),(4,false)] [(5,false)] bC3 bC3 pK (⟨Touch.of_below bR.drew,hc.below bR.drew⟩) ?_;intro wS E;simp only [kz,zF,Ab,Ac,Aj,Am];refine pre_nil ?_;refine jW (v:=?_) rfl (λW hW=>?_) ?_;rotate_left;(· have c6:=kE (hW.1.kC BK bC9) (j:=0) (v:=.int .i64 kc) rfl;have dj:=kE (hW.1.kC BK bC9) (j:=1) (v:=.slice na l2.length np) rfl;clear hW;go_simp;try with_reducible rfl);refine jF ?_;refine jW (v:=?_) rfl (λW hW=>?_) ?_;rotate_left;(· go_simp;try with_reducible rfl);refine jF ?_;refine yx rfl (λK H=>?_);go_simp;refine (kIt E.2).mono ?_;rintro e wS1 ⟨ds,v,rfl,hV,fm,ar,ap⟩;obtain ⟨ac,ae,am,aq,b5,cl,rfl⟩:=zZ hV.raw;have U:=yD hV;have a3:=E.1.size;have ay:=ap.size;replace E:=And.intro (E.1.trans ap) ar;have au:∀ W:Ae,Sem.run prog (Instr.field 68 (.agg #[Qs ac v.1 ae,Qs am v.2.1 aq,Qs b5 v.2.2.1 cl,Qn v.2.2.2.1,Qn v.2.2.2.2]) 0) W=.ok (.agg #[Qs ac v.1 ae]) W:=λW=>bC3;refine H _ _ E ?_;clear H K ar ap hV;refine jF ?_;refine jW (v:=.agg #[Qs ac v.1 ae]) rfl (λW hW=>?_) ?_;(· go_simp;(try simp only [au]);try rfl);refine jF ?_;refine yx rfl (λK H=>?_);go_simp;refine (specTouch_c (cx:=[.int .i64 kc,.slice na l2.length np]) (x:=(kc,l2)) (HN.out.touch E.1 nH).rd (cn:=[.slice ac v.1.length ae]) (n:=v.1) (data_parts9 U.out) (t:=60) bC9).mono ?_;rintro e O ⟨cs,rfl,hO,ab⟩;have di:=E.1.size;have bu:=ab.size;replace E:=And.intro (E.1.trans (Touch.of_below ab)) (E.2.below ab);obtain ⟨l3,d5,af⟩:=touchS_len v.1 60 kc l2;rw [d5] at hO;obtain ⟨ma,mp,rfl⟩:=kIs hO.raw;have aa:=yD af;clear d5 af;have HM:=yD hO;refine H _ _ E ?_;clear H K ab hO;refine jF ?_;have ev:=E.1.size;have RS:=E.1.kC BK bC9;have ad:Qc O kb 0 (.int .i64 kc):=kE RS rfl;have aj:O.frozen? ⟨kb,0,none⟩=false:=Aa O (kb) 0 _ _ RS;have an:Qc O kb 1 (.slice na l2.length np):=kE RS rfl;have al:O.frozen? ⟨kb,1,none⟩=false:=Aa O (kb) 1 _ _ RS;refine zk trivial ?_;refine kw rfl (λK H=>?_);go_simp;refine H _ _ trivial ?_;clear H K;refine jF ?_;refine kS ?_;replace Z:=Z.jh E.1 gZ;replace HN:=yD (HN.out.touch E.1 nH);replace hc:=E.2;clear E BK;have BK:=RS;clear RS ad aj an al;clear HN;generalize F:World.setCell (World.setCell O _ _) _ _=ag;have hT:Touch (λk=>k=kb) O ag:=vU;replace BK:Qr ag kb #[Qn kc,Qs ma l3 mp] 27:=by rw [<- F];exact kK (kK (BK) 0) 1
     have av:=hT.size;clear F;replace HM:=yD (HM.out.touch hT nH);obtain ⟨hc,Z⟩:=A9;clear hT;go_wp2;go_roundw;case rel=>exact ⟨j,ma,mp,l3,by go_num,by omega,yD (by have:=az.out;have:=aa.out;omega),BK,yD (HM.out.wide fG),by omega,hc,Z⟩
     case measure=>simp [intOf]
def entry_own {w:Ae} {c0 c1 c2 c3 c4:Ah} {x:jN} {u:Int} {S:Nat->Prop} (h:jJ.own w [c0,c1,c2,c3,c4] x S) (hu:Qi u):jD.own w [c0,c1,c2,c3,c4,Qn u] (x,u) S :=
  kD.jv (r:=jJ) (q:=.int) (cs:=[c0,c1,c2,c3,c4]) (ds:=[.int .i64 u]) h (kD.jB hu)
def kHt {w:Ae} {v:Ah} {c:Int} {l:Ak kT} {S:Nat->Prop} (h:(kD.slice 111 jD).ji w [v] l S) (hc:Qi c):kN.ji w [Qn c,v] (c,l) S :=
  kD.kAp (r:=.int) (q:=(kD.slice 111 jD)) (z:=(c,l)) (kD.flat.ji (kD.jB hc)) h
def store_int {w:Ae} {c:Int} {v:Ah} {l:Ak kT} {x:Int} {S:Nat->Prop} (h:kN.own w [Qn x,v] (c,l) S):Qi c:=by
 obtain ⟨a,d,A,B,he,h1,h2,hA,hB,hd⟩:=kD.kEe h;exact (kD.jY h1.raw).2
def DrawnSR (m:Nat) (w0 w:Ae) (p:Nat) (e:Ending) (w':Ae):Prop:=∃ a c kc l,e=.returned (.agg #[Qn kc,Qs a l c])/\kN.ji w' [Qn kc,Qs a l c] (kc,l) (jX w.heap.size w'.heap.size)/\l.length<=m/\yU w0 w' p/\Touch (λk=>k=p) w w'
def entry_form {w:Ae} {cs:Ak Ah} {y:kT} (h:jD.raw w cs y):∃ a0 c0 a1 c1 a2 c2,cs=[.slice a0 y.1.1.length c0,.slice a1 y.1.2.1.length c1,.slice a2 y.1.2.2.1.length c2,.int .i64 y.1.2.2.2.1,.int .i64 y.1.2.2.2.2,.int .i64 y.2]:=by
 obtain ⟨v0,v1,v2,rfl,ab,_⟩:=jq h;obtain ⟨a0,c0,a1,c1,a2,c2,e⟩:=zZ ab;simp only [Ai,and_true] at e;obtain ⟨rfl,rfl,rfl⟩:=e;exact ⟨_,_,_,_,_,_,rfl⟩
def kZo {w0 w:Ae} {p:Nat} (hc:yU w0 w p) :
    Calls prog 96 #[.pointer (some ⟨p,0,none⟩)] w λe w'=>DrawnSR 8 w0 w p e w':=by
 go_enter func96,ntmps96
 obtain ⟨bf,b4⟩:=hc.lt
 go_upto_region 1 with fail
 generalize F:World.alloc w _=Y
 have X:Qb w Y:=rM
 have R:Qr Y w.heap.size #[Qn 0,.slice none 0 0] 27:=vB
 have bd:w.heap.size + 1<=Y.heap.size:=bB1
 clear F
 obtain ⟨hc,N⟩:=xQ
 clear X
 go_wp2_with fail
 refine (kWt hc).mono ?_
 rintro e V ⟨ka,kp,kc,l,rfl,hO,a4,G,D⟩
 obtain ⟨bk,R,N⟩:=BG
 clear hc D
 have hc:=G
 clear G
 have fx:=store_int hO
 have J:=yD (kXl hO)
 clear hO
 go_upto_region 2 with fail
 generalize F:World.alloc V _=w3
 have ak:Qb V w3:=rM
 have BK:Qr w3 V.heap.size #[Qn kc,Qs ka l kp] 27:=vB
 have bl:V.heap.size + 1<=w3.heap.size:=bB1
 clear F
 obtain ⟨R,J,hc,N⟩:=z8
 clear ak
 go_wp2_with fail
 refine (kr (n:=10) hc bC8).mono ?_
 rintro e w4 ⟨m,bt,ah,b1,rfl,G,D⟩
 have bw:=D.size
 replace R:=D.kC R bC9
 replace BK:=D.kC BK bC9
 obtain ⟨J,N⟩:=xM
 clear hc D
 have hc:=G
 clear G
 replace ah:=ah bC8
 clear b1
 obtain ⟨m,rfl⟩:=Al bt
 by_cases ay:m=0
 · subst ay;go_wp2_with fail;refine (kBp (hc.below (bR.alloc nL _)) (kD.kGy _ [-1,0,8,9] bC8 bC8) bC9 bC8 bC8).mono ?_;rintro e w5 ⟨y,au,a5,rfl,G,D⟩;obtain ⟨D,bv⟩:=CJ;replace R:=D.kC R bC9;replace BK:=D.kC BK bC9;obtain ⟨J,N⟩:=xM;clear hc D;have hc:=G;clear G;have b6:=kD.kGx (lo:=-1) (hi:=9) bC8 au;clear au a5;obtain ⟨bo,o⟩:=yT BK;obtain ⟨a1,ac⟩:=kCm BK;go_upto_region 10 with fail;generalize F:World.setCell w5 _ _=w6;have L:Touch (λk=>k=V.heap.size) w5 w6:=vO;replace BK:Qr w6 V.heap.size #[Qn y,Qs ka l kp] 27:=by rw [<- F];exact kK BK 0
   have cf:=L.size;clear F bo o a1 ac;replace R:=L.kC R bC9;replace J:=yD (J.out.touch L pJ);replace hc:=hc.touch L bC9 wM;replace N:=N.jO L bC9;clear L;obtain ⟨ad,an⟩:=yT R;obtain ⟨bo,o⟩:=yT BK;obtain ⟨aj,al⟩:=kCm R;go_wp2;refine Ag (v:=.agg #[Qn y,Qs ka l kp]) gV rfl ⟨ka,kp,y,l,rfl,?_,by omega,hc.touch sT2 bC9 wM,N.jO sT2 bC9⟩;exact ((kHt (J.out.ji.wide (T:=λk=>w.heap.size < k/\k < w6.heap.size/\k≠V.heap.size) fH) bC9).touch (T:=λk=>k=w.heap.size) sT2 rZ).wide dU
 have b2:¬ (m:Int)=0:=bC9
 by_cases a9:m=1
 · subst a9;go_upto_region 6 with fail;refine zb (λW=>Touch (λk=>k=p) w4 W/\yU w0 W p) (λ_=>True) [] [(0,true),(1,true),(2,true),(3,false),(4,true),(5,false)] [(6,false),(7,true),(8,false)] bC3 bC3 pK (⟨Touch.of_below bR.drew,hc.below bR.drew⟩) ?_;intro wS E;simp only [kz,zF,Ab,Ac,Aj,Am];refine pre_nil ?_;refine jW (v:=?_) rfl (λW hW=>?_) ?_;rotate_left;(· go_simp;try with_reducible rfl);refine jF ?_;refine jW (v:=?_) rfl (λW hW=>?_) ?_;rotate_left;(· have c6:=kE (hW.1.kC BK bC9) (j:=0) (v:=.int .i64 kc) rfl;have dj:=kE (hW.1.kC BK bC9) (j:=1) (v:=.slice ka l.length kp) rfl;clear hW;go_simp;try with_reducible rfl);refine jF ?_;refine jW (v:=?_) rfl (λW hW=>?_) ?_;rotate_left;(· go_simp;try with_reducible rfl);refine jF ?_;refine yx rfl (λK H=>?_);go_simp;refine (kRf E.2).mono ?_;rintro e wS1 ⟨ds,x,rfl,hX,b0,ar,ap⟩;obtain ⟨ch,cg,b3,b9,cd,ca,rfl⟩:=zZ hX.raw;have HX:=yD hX;have er:=E.1.size;replace E:=And.intro (E.1.trans ap) ar;refine H _ _ E ?_;clear H K ar ap hX;refine jF ?_;refine jW (v:=?_) rfl (λW hW=>?_) ?_;rotate_left;(· go_simp;try with_reducible rfl);refine jF ?_;refine yx rfl (λK H=>?_);go_simp;have aa:Touch (λk=>k=p) w4 (World.alloc wS1 (.cells #[.slice ch x.1.length cg,.slice b3 x.2.1.length b9,.slice cd x.2.2.1.length ca,.int .i64 x.2.2.2.1,.int .i64 x.2.2.2.2,.int .i64 0] 111))/\yU w0 (World.alloc wS1 (.cells #[.slice ch x.1.length cg,.slice b3 x.2.1.length b9,.slice cd x.2.2.1.length ca,.int .i64 x.2.2.2.1,.int .i64 x.2.2.2.2,.int .i64 0] 111)) p:=⟨E.1.trans (Touch.of_below (bR.alloc nL _)),E.2.below (bR.alloc nL _)⟩;refine H _ _ aa ?_;clear H K aa;refine jF ?_;have zS:=E.1.size;have R5:=E.1.kC R bC9;have B5:=E.1.kC BK bC9;have Z:=N.trans E.1;have af:=E.2;have bc:=J.out.touch E.1 pJ;clear R BK N hc J;obtain ⟨v3,u3,aq,ab,ag⟩:=kD.kGg (P:=prog) (t:=25) (ty:=25) (r:=jD) (e:=111) (c:=1) underlying25 zt rfl bC8 bC8 bc bR (entry_own HX.out (u:=0) bC9) nT bC9;have z3:=ag.size;have ae:Touch (λk=>w.heap.size < k/\k < V.heap.size/\k≠p) wS1 u3:=ag.wide dS;have b7:(l++[(x,(0:Int))]).length<=8:=bC4;generalize l++[(x,(0:Int))]=q at *;obtain ⟨a3,c3,rfl,_⟩:=kD.sl ab.raw;have R:=ae.kC R5 bC9;have BK:=ae.kC B5 bC9;have N:=Z.kBv ae sD;have hc:=af.touch ae bC0 sD;obtain ⟨av,az⟩:=yT BK;obtain ⟨bg,bh⟩:=kCm BK;clear R5 B5 Z af bc ag ae E;refine zk trivial ?_;refine kw rfl (λK H=>?_);refine kD.kV _ _ _ rfl bD1 bD1 aq ?_;refine H _ _ trivial ?_;clear H K;refine jF ?_;refine ku ?_;refine kw rfl (λK H=>?_);go_simp;refine H _ _ trivial ?_;clear H K;refine jF ?_;refine kS ?_;generalize F:World.setCell u3 _ _=wQ;have L:Touch (λk=>k=V.heap.size) u3 wQ:=vO;have BQ:Qr wQ V.heap.size #[Qn kc,Qs a3 q c3] 27:=by rw [<- F];exact kK BK 1
   have bn:=L.size;clear F av az bg bh BK;have BK:=BQ;clear BQ;replace R:=L.kC R bC9;replace hc:=hc.touch L bC9 wM;replace N:=N.jO L bC9;have HQ:=yD ((ab.ji.touch L (λk q h=>by rcases q with q | q | q;(have:=q.2;omega);(have:=q.1;omega);(have:=q.1;omega))).wide (T:=λk=>w.heap.size < k/\k < wQ.heap.size/\k≠V.heap.size) (λk q=>by rcases q with q | q | q;exact ⟨by have:=q.1;omega,by have:=q.2;omega,by have:=q.2;omega⟩;exact ⟨by have:=q.1;omega,by have:=q.2;omega,by have:=q.1;omega⟩;exact ⟨by have:=q.1;omega,by have:=q.2;omega,by have:=q.1;omega⟩));exact aW
 have b5:¬ (m:Int)=1:=bC9
 by_cases a8:m=2
 · subst a8;by_cases bm:0 < l.length
   · have am:(0:Int) < l.length:=bC9;obtain ⟨_,bb,off,rfl,_,aw⟩:=kD.kKo J.out bm;obtain ⟨ce,B_,ai,hB,ao,U,_,_⟩:=kD.own_get J.out (i:=0) bm;obtain ⟨ch,cg,b3,b9,cd,ca,rfl⟩:=entry_form ai.raw;have A0:=U 0 _ rfl;have A1:=U 1 _ rfl;have A2:=U 2 _ rfl;have A3:=U 3 _ rfl;have A4:=U 4 _ rfl;have A5:=U 5 _ rfl;simp only [Nat.zero_mul,Nat.add_zero] at A0 A1 A2 A3 A4 A5;have HE:=yD ai;have a2:Y.heap.size<=bb:=ao.1;clear U ai;generalize ax:l[0]=y at *;clear ax;obtain ⟨bo,o⟩:=yT BK;go_upto_region 9 with fail;clear bo o;refine zb (λW=>Touch (λk=>k=p) w4 W/\yU w0 W p) (λ_=>True) [] [(0,true),(1,true),(2,true),(3,true),(4,true),(5,true),(6,false)] [(7,false),(8,true),(9,false)] bC3 bC3 pK (⟨Touch.of_below bR.drew,hc.below bR.drew⟩) ?_;intro wS E;simp only [kz,zF,Ab,Ac,Aj,Am];refine pre_nil ?_;iterate 3
      refine jW (v:=?_) rfl (λW hW=>?_) ?_;rotate_left;(· go_simp;try with_reducible rfl)
      refine jF ?_
      refine jW (v:=?_) rfl (λW hW=>?_) ?_;rotate_left;(· have c6:=kE (hW.1.kC BK bC9) (j:=0) (v:=.int .i64 kc) rfl;have dj:=kE (hW.1.kC BK bC9) (j:=1) (v:=.slice (some ⟨bb,off,none⟩) l.length kp) rfl;have du:=hW.1.cellT A0 bC9;have dq:=hW.1.cellT A1 bC9;have dn:=hW.1.cellT A2 bC9;have eb:=hW.1.cellT A3 bC9;have d3:=hW.1.cellT A4 bC9;have eg:=hW.1.cellT A5 bC9;clear hW;go_simp;try with_reducible rfl)
      refine jF ?_
     refine yx rfl (λK H=>?_);go_simp;have aa:Touch (λk=>k=p) w4 (World.alloc wS (.cells #[.slice ch y.1.1.length cg,.slice b3 y.1.2.1.length b9,.slice cd y.1.2.2.1.length ca,.int .i64 y.1.2.2.2.1,.int .i64 y.1.2.2.2.2,.int .i64 y.2] 111))/\yU w0 (World.alloc wS (.cells #[.slice ch y.1.1.length cg,.slice b3 y.1.2.1.length b9,.slice cd y.1.2.2.1.length ca,.int .i64 y.1.2.2.2.1,.int .i64 y.1.2.2.2.2,.int .i64 y.2] 111)) p:=⟨E.1.trans (Touch.of_below (bR.alloc nL _)),E.2.below (bR.alloc nL _)⟩;refine H _ _ aa ?_;clear H K aa;refine jF ?_;have O:=yD E.1;have zS:=E.1.size;have R5:=E.1.kC R bC9;have B5:=E.1.kC BK bC9;have Z:=N.trans E.1;have af:=E.2;have bc:=J.out.touch E.1 pJ;clear R BK N hc J;obtain ⟨v3,u3,aq,ab,ag⟩:=kD.kUk (P:=prog) (t:=25) (ty:=25) (r:=jD) (e:=111) (c:=1) underlying25 zt rfl bC8 bC8 bc bR (HE.out.touch O.out (λk q=>by have h1:=(hB k q).1;have h2:=h1.1;have h3:=h1.2;omega)).ji (λb_ o_ q_ h_=>by simp only [Ar,Au,and_true] at q_;have:=(hB _ h_).2;omega) bm bC9;have z3:=ag.size;have ae:Touch (λk=>w.heap.size < k/\k < V.heap.size/\k≠p) wS u3:=ag.wide dS;have b7:(l++[y]).length<=8:=bC4;generalize l++[y]=q at *;obtain ⟨a3,c3,rfl,_⟩:=kD.sl ab.rd.1;have R:=ae.kC R5 bC9;have BK:=ae.kC B5 bC9;have N:=Z.kBv ae sD;have hc:=af.touch ae bC0 sD;obtain ⟨av,az⟩:=yT BK;obtain ⟨bg,bh⟩:=kCm BK;clear R5 B5 Z af bc ag ae E;refine zk trivial ?_;refine kw rfl (λK H=>?_);refine kD.kV _ _ _ rfl bD1 bD1 aq ?_;refine H _ _ trivial ?_;clear H K;refine jF ?_;refine ku ?_;refine kw rfl (λK H=>?_);go_simp;refine H _ _ trivial ?_;clear H K;refine jF ?_;refine kS ?_;generalize F:World.setCell u3 _ _=wQ;have L:Touch (λk=>k=V.heap.size) u3 wQ:=vO;have BQ:Qr wQ V.heap.size #[Qn kc,Qs a3 q c3] 27:=by rw [<- F];exact kK BK 1
     have bn:=L.size;clear F av az bg bh BK;have BK:=BQ;clear BQ;replace R:=L.kC R bC9;replace hc:=hc.touch L bC9 wM;replace N:=N.jO L bC9;have HQ:=yD ((ab.touch L (λk q h=>by rcases q with q | q | q;(have:=q.2;omega);(have h1:=(hB k q).1;have h2:=h1.2;omega);(have:=q.1;omega))).wide (T:=λk=>w.heap.size < k/\k < wQ.heap.size/\k≠V.heap.size) (λk q=>by rcases q with q | q | q;exact ⟨by have:=q.1;omega,by have:=q.2;omega,by have:=q.2;omega⟩;exact ⟨by have:=(hB k q).1.1;omega,by have:=(hB k q).1.2;omega,by have:=(hB k q).1.2;omega⟩;exact ⟨by have:=q.1;omega,by have:=q.2;omega,by have:=q.1;omega⟩));exact aW
   have am:¬ (0:Int) < l.length:=bC9;obtain ⟨bo,o⟩:=yT BK;go_upto_region 10 with fail;clear bo o;exact aX
 have ck:¬ (m:Int)=2:=bC9
 go_upto_region 10 with fail
 exact aX
end Go.Proofs.YtonmjkmaadgceabGreat

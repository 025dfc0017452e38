/-
  An element of an owned list appended to that list again: the list is read from then on. No program in sight.
-/
import Derived.Test.YtonmjkmaadgceaaGreatWoC
set_option linter.unusedVariables false
set_option linter.unusedSimpArgs false
set_option linter.unnecessarySimpa false
set_option maxRecDepth 100000
set_option maxHeartbeats 4000000
namespace Go.Proofs.YtonmjkmaadgceaaGreat
open Go.RowKit _root_.Go.Proofs.Tryz
def kMc (n:kQ) (t:Int) (x:kg):kg:=(x.1,if idxOf (isC n) x.2 < 0 then x.2 else x.2.modify (idxOf (isC n) x.2).toNat (fun y=>kBm y t))
theorem touchS_no {n:kQ} {t c:Int} {l:List kr} (h:idxOf (isC n) l < 0):kMc n t (c,l)=(c,l):=by unfold kMc;simp only;rw [if_pos h]
theorem touchS_yes {n:kQ} {t c:Int} {l:List kr} {k:Nat} (h:idxOf (isC n) l=k) (hk:k < l.length):kMc n t (c,l)=(c,l.set k (kBm l[k] t)):=by
 unfold kMc
 simp only [h,Int.toNat_natCast]
 rw [if_neg bB9]
 congr 1
 apply List.ext_getElem bC0
 intro i h1 h2
 rw [List.getElem_modify,List.getElem_set]
 by_cases e:k=i
 · subst e;simp
 simp [e]
theorem kUw {w:World} {c:Int} {v:Value} {l:List kr} {S:Nat→Prop} (h:kN.own w [.int .i64 c,v] (c,l) S):(kE.slice 98 kw).own w [v] l S:=by
 obtain ⟨a,d,A,B,he,h1,h2,hA,hB,hd⟩:=kE.kCe h
 obtain ⟨rfl,_⟩:=kE.yz h1.raw
 simp only [List.singleton_append,List.cons.injEq,true_and] at he
 subst he
 exact h2.wide hB
theorem store_in {w:World} {c:Int} {v:Value} {l:List kr} {S:Nat→Prop} (hc:-9223372036854775808≤c∧c≤9223372036854775807) (h:(kE.slice 98 kw).own w [v] l S):kN.own w [.int .i64 c,v] (c,l) S :=
  kE.kBe (cs:=[.int .i64 c]) (kE.ky hc) h
theorem specTouch_c {w:World} {cx:List Value} {x:kg} (hx:kN.rd w cx x) {cn:List Value} {n:kQ} (hn:kM.rd w cn n) {t:Int} (ht:-9223372036854775808≤t∧t≤9223372036854775807) :
    Calls prog 159 #[.agg cx.toArray,.agg cn.toArray,.int .i64 t] w (kAn kN (kMc n t x) w):=by
 obtain ⟨xc,xe⟩:=x
 have HX:=yD hx
 have HN:=yD hn
 have HF:=yD ht
 obtain ⟨d1,rfl,c6,cz⟩:=jQ hx.1
 obtain ⟨ay,bx,rfl,xl⟩:=kE.sl cz
 obtain ⟨av,rfl,ac⟩:=kU hn.1
 obtain ⟨na,np,rfl,_⟩:=kE.sl ac
 have E:Hid ((kE.slice 98 kw).raw w [.slice ay xe.length bx] xe):=yD cz
 have am:-9223372036854775808≤xc∧xc≤9223372036854775807:=c6
 replace xl:xe.length≤9223372036854775807:=xl
 clear hx hn ht c6 cz ac
 go_enter func159,ntmps159
 go_upto_region 1 with fail
 generalize F:World.alloc (World.alloc (World.alloc w _) _) _=w1
 have X:Below w.heap.size w w1:=by rw [← F];exact bI
 have BX:w1.heap[w.heap.size]?=some (.cells #[.int .i64 xc,.slice ay xe.length bx] 27 (0,0)):=rA
 have BN:w1.heap[w.heap.size + 1]?=some (.cells #[.slice na n.length np] 41 (0,0)):=by rw [← F];exact jC (kG bC0)
 have BR:w1.heap[w.heap.size + 2]?=some (.cells #[.int .i64 0,.slice none 0 0] 27 (0,0)):=by rw [← F];exact kG bC0
 have bn:w.heap.size + 3≤w1.heap.size:=bA3
 clear F
 obtain ⟨aa,ab⟩:=jc BX
 go_wp2_with fail
 refine (kLs (HX.out.below X)).mono ?_
 rintro e V ⟨cs,rfl,O,hb⟩
 have bo:=hb.size
 replace BX:=kD BX hb
 replace BN:=kD BN hb
 replace BR:=kD BR hb
 replace X:=(tQ X hb)
 clear aa ab
 clear hb
 obtain ⟨bt,rfl,ae,D⟩:=jQ O.raw
 obtain ⟨oa,op,rfl,_⟩:=kE.sl D
 clear ae D
 have L:=yD ((kUw O).wide (T:=(fun j=>w.heap.size + 3≤j∧j < V.heap.size)) rJ)
 clear O
 go_upto_region 2 with fail
 generalize F:World.alloc V _=w3
 have ap:Below V.heap.size V w3:=rX
 have I:w3.heap[V.heap.size]?=some (.cells #[.int .i64 xc,.slice oa xe.length op] 27 (0,0)):=tX
 have bp:V.heap.size + 1≤w3.heap.size:=bA3
 clear F
 replace BX:=kD BX ap
 replace BN:=kD BN ap
 obtain ⟨BR,L,X⟩:=D5
 clear ap
 obtain ⟨aa,ab⟩:=jc BX
 have bb:w3.cell? ⟨w.heap.size + 1,0,none⟩=some (.slice na n.length np):=kF BN rfl
 go_wp2_with fail
 refine (kEv (E.out.below X) (cn:=[.slice na n.length np]) (HN.out.1.below X)).mono ?_
 rintro e w4 ⟨rfl,hb⟩
 have b9:=hb.size
 replace BX:=kD BX hb
 replace BN:=kD BN hb
 obtain ⟨BR,I,L,X⟩:=qW
 clear aa ab bb
 clear hb
 by_cases hf:idxOf (isC n) xe < 0
 · have U:=yD (touchS_no (t:=t) (c:=xc) hf)
   have d4:¬ (0≤idxOf (isC n) xe):=bB9
   generalize idxOf (isC n) xe=q at *
   go_upto_region 5 with fail
   obtain ⟨H,G⟩:=jc I
   obtain ⟨ax,a1⟩:=jc BR
   obtain ⟨ar,aq⟩:=kAo BR
   go_wp2
   refine bodyPost_ret (v:=.agg #[.int .i64 xc,.slice oa xe.length op]) gZ rfl ⟨[.int .i64 xc,.slice oa xe.length op],rfl,?_,?_⟩
   · rw [U.out];exact store_in am ((L.out.touch ((kC _ _ _ _).trans (kC _ _ _ _)) rR).wide fM)
   exact X.trans (Touch.below ((kC _ _ _ _).trans (kC _ _ _ _)) X.size wB)
 obtain ⟨k,hlt,aj⟩:=kEj hf
 have U:=yD (touchS_yes (t:=t) (c:=xc) aj hlt)
 rw [aj]
 clear hf aj
 obtain ⟨qb,qo,rfl,c0,c1,c2,c3,c4,c5,hr,A0,A1,A2,A3,A4,A5⟩:=kE.get6 L.out.raw hlt rfl
 obtain ⟨_,N,J,cl,ag,bf⟩:=kE.kHv L.out bB9
 simp only [Option.some.injEq,Addr.mk.injEq,and_true] at cl
 obtain ⟨rfl,rfl⟩:=cl
 have bg:=kE.own_frozen L.out bB9 (qo + k * 6 + 5)
 clear hr A0 A1 A2 A3 A4
 have a8:(0:Int)≤k:=bB9
 have be:(k:Int) < xe.length:=bB9
 obtain ⟨H,G⟩:=jc I
 obtain ⟨O2,R⟩:(kE.slice 98 kw).own (World.setCell w4 ⟨qb,qo + k * 6 + 5,none⟩ (.int .i64 t)) [.slice (some ⟨qb,qo,none⟩) xe.length op] (xe.set k (kBm xe[k] t)) (fun j=>w.heap.size + 3≤j∧j < V.heap.size)∧Touch (fun j=>j=qb) w4 (World.setCell w4 ⟨qb,qo + k * 6 + 5,none⟩ (.int .i64 t)):=kE.kQj (i:=k) (j:=5) L.out hlt bB8 (fun h=>kPr _ HF.out h) (show kw.bdd Big (kBm xe[k] t) from kE.zM L.out.rd hlt)
 go_upto_region 5 with fail
 generalize F:World.setCell w4 _ _=w5 at O2 R ⊢
 clear F
 clear L
 have L:=yD O2
 clear O2
 have cd:=R.size
 replace BX:=R.kD BX bB9
 replace BN:=R.kD BN bB9
 replace BR:=R.kD BR bB9
 replace I:=R.kD I bB9
 replace X:=X.trans (R.below X.size wB)
 clear H G
 clear R
 obtain ⟨H,G⟩:=jc I
 obtain ⟨ax,a1⟩:=jc BR
 obtain ⟨ar,aq⟩:=kAo BR
 go_wp2
 refine bodyPost_ret (v:=.agg #[.int .i64 xc,.slice (some ⟨qb,qo,none⟩) xe.length op]) gZ rfl ⟨[.int .i64 xc,.slice (some ⟨qb,qo,none⟩) xe.length op],rfl,?_,?_⟩
 · rw [U.out];exact store_in am ((L.out.touch ((kC _ _ _ _).trans (kC _ _ _ _)) rR).wide fM)
 exact X.trans (Touch.below ((kC _ _ _ _).trans (kC _ _ _ _)) X.size wB)
def capC (c:Int):Int:=if inR c 0 8 then c else 0
def newC (c:Int):kg:=(capC c,[])
def newN (c:Int):yI:=([],newC c,[],[],[],[],0)
theorem kOd {c:Int} (h:-9223372036854775808≤c∧c≤9223372036854775807):-9223372036854775808≤capC c∧capC c≤9223372036854775807:=by unfold capC;split <;> omega
theorem newC_own {w:World} {c:Int} {S:Nat→Prop} (h:-9223372036854775808≤c∧c≤9223372036854775807):kN.own w [.int .i64 c,.slice none 0 0] (c,[]) S :=
  ⟨kMv (x:=kN.zero) c h kN.is_zero,(kN.bdd_zero:kN.bdd Big kN.zero)⟩
theorem kKc {α β:Type} {e:TypeId} {r:kE α} {q:kE β} {w:World} {ds:List Value} {y:β} {S:Nat→Prop} (h:q.own w ds y S):(kE.pair (kE.slice e r) q).own w ([.slice none 0 0]++ds) ([],y) S :=
  kE.ja (A:=fun _=>False) (B:=S) kE.jf h (fun _ h=>h.elim) (fun _ h=>h) (fun _ h _=>h)
theorem own_store {β:Type} {q:kE β} {r:kE kg} {w:World} {cs ds:List Value} {x:kg} {y:β} {S:Nat→Prop} (h:r.own w cs x S) (k:q.own w ds y (fun _=>False)):(kE.pair r q).own w (cs++ds) (x,y) S :=
  kE.ja (A:=S) (B:=fun _=>False) h k (fun _ h=>h) (fun _ h=>h.elim) (fun _ _ h=>h)
theorem kEn {w:World} {c:Int} (hc:-9223372036854775808≤c∧c≤9223372036854775807):Calls prog 141 #[.int .i64 c] w (kAn kN (newC c) w):=by
 have HC:=yD (kOd hc)
 go_enter func141,ntmps141
 go_wp2_with fail
 generalize H:World.alloc w _=N
 have Z:Below w.heap.size w N:=rY
 have M0:N.cell? ⟨w.heap.size,0,none⟩=some (.int .i64 0):=tN
 have M1:N.cell? ⟨w.heap.size,1,none⟩=some (.slice none 0 0):=tN
 have F0:N.frozen? ⟨w.heap.size,0,none⟩=false:=tN
 have F1:N.frozen? ⟨w.heap.size,1,none⟩=false:=tN
 clear H
 refine ji.mono ?_
 rintro e u ⟨rfl,hu⟩
 obtain rfl:=hu.symm
 clear hu
 cases hi:inR c 0 8
 · have U:=yD (show capC c=0 by unfold capC;rw [hi];rfl)
   go_wp2
   refine bodyPost_ret (v:=.agg #[.int .i64 0,.slice none 0 0]) gY rfl ⟨[_,_],rfl,?_,?_⟩
   · unfold newC;rw [U.out];exact newC_own bB9
   exact (Z.setCell bC0 _).setCell bC0 _
 have U:=yD (show capC c=c by unfold capC;rw [hi];rfl)
 go_wp2
 refine bodyPost_ret (v:=.agg #[.int .i64 c,.slice none 0 0]) gY rfl ⟨[_,_],rfl,?_,?_⟩
 · unfold newC;rw [U.out];exact newC_own (by have:=HC.out;rwa [U.out] at this)
 exact (Z.setCell bC0 _).setCell bC0 _
theorem kUh {w:World} {c:Int} (hc:-9223372036854775808≤c∧c≤9223372036854775807):Calls prog 105 #[.int .i64 c] w (kAn yA (newN c) w):=by
 have HC:=yD (kOd hc)
 go_enter func105,ntmps105
 go_wp2_with fail
 generalize H:World.alloc w _=N
 have Z:Below w.heap.size w N:=rY
 have XB:N.heap[w.heap.size]?=some (.cells #[.slice none 0 0,.int .i64 0,.slice none 0 0,.slice none 0 0,.slice none 0 0,.slice none 0 0,.slice none 0 0,.int .i64 0] 33 (0,0)):=by rw [← H];exact kG rfl
 have b8:N.heap.size=w.heap.size + 1:=bA4
 clear H
 refine (kEn hc).mono ?_
 rintro e w1 ⟨cs,rfl,O1,O⟩
 obtain ⟨cv,rfl,e4,e5⟩:=jQ O1.raw
 have X1:=kD XB O
 have E1:=(tQ Z O)
 have ag:(newC c).2=[]:=rfl
 have bt:(newC c).1=capC c:=rfl
 obtain ⟨ca,cp,rfl,_⟩:=kE.sl e5
 have L:=yD O1
 clear O1 e4 e5 O XB
 have M0:=kF (b:=w.heap.size) X1 (j:=0) rfl
 have F0:=frozen_of_row w1 w.heap.size 0 _ _ X1
 have M1:=kF (b:=w.heap.size) X1 (j:=1) rfl
 have F1:=frozen_of_row w1 w.heap.size 1 _ _ X1
 have M2:=kF (b:=w.heap.size) X1 (j:=2) rfl
 have F2:=frozen_of_row w1 w.heap.size 2 _ _ X1
 have M3:=kF (b:=w.heap.size) X1 (j:=3) rfl
 have F3:=frozen_of_row w1 w.heap.size 3 _ _ X1
 have M4:=kF (b:=w.heap.size) X1 (j:=4) rfl
 have F4:=frozen_of_row w1 w.heap.size 4 _ _ X1
 have M5:=kF (b:=w.heap.size) X1 (j:=5) rfl
 have F5:=frozen_of_row w1 w.heap.size 5 _ _ X1
 have M6:=kF (b:=w.heap.size) X1 (j:=6) rfl
 have F6:=frozen_of_row w1 w.heap.size 6 _ _ X1
 have M7:=kF (b:=w.heap.size) X1 (j:=7) rfl
 have F7:=frozen_of_row w1 w.heap.size 7 _ _ X1
 go_wp2
 refine bodyPost_ret (v:=.agg #[.slice none 0 0,.int .i64 (capC c),.slice ca 0 cp,.slice none 0 0,.slice none 0 0,.slice none 0 0,.slice none 0 0,.int .i64 0]) (by simp [results,results105,go_sem,M0,F0,M1,F1,M2,F2,M3,F3,M4,F4,M5,F5,M6,F6,M7,F7,newC]) rfl ⟨[_,_,_,_,_,_,_,_],rfl,?_,?_⟩
 · refine kE.own.wide (S:=jR N.heap.size w1.heap.size) ?_ fK
   exact kKc (own_store (kE.own.out L.out fD) (kKc (kKc (kKc (kKc (kE.flat.own (kE.ky (n:=0) bB9)))))))
 repeat (first|(with_reducible exact E1) | refine Below.setCell ?_ bC0 _)
namespace kE
section
variable {α β:Type} {r:kE α} {q:kE β} {e:TypeId} {w w' W W':World} {v:Value} {cs ds:List Value} {x:α} {xs ys:List α} {S T F G:Nat→Prop}
theorem run_pushD {P:Program} {t ty:TypeId} {z:Value} {bytes:Nat} (ht:P.underlying t=some (.slice e)) (hinf:(P.info? e).map (fun i=>(i.zero,i.size,i.bytes))=some (some z,r.n,bytes)) (hzs:z.cells.size=r.n) (hn:0 < r.n) (hby:bytes≤1000)
    {a:Option Addr} {len cap:Nat} (hown:(slice e r).own w [.slice a len cap] xs S) {sv:Value} {m:Nat} {cells:List Value} (hsrc:Src w sv m cells) (hrow:row r false w cells ys T) (hm:ys.length=m) (hb:∀ y∈ys,r.bdd Big y) (hd:∀ b off,a=some ⟨b,off,none⟩→¬ T b) (hne:0 < xs.length) (hlen:xs.length + ys.length≤16777216) :
    ∃ v' w',(Builtin.append_ #[t,t] ty #[.slice a len cap,sv]).run P w=.ok v' w'∧(slice e r).jY w' [v'] (xs++ys) (fun k=>S k∨T k∨(w.heap.size≤k∧k < w'.heap.size))∧Touch S w w':=by
 obtain ⟨i,hi,hz,hsize,E⟩:=info_parts hinf
 have V:∀ n,n≤16777216→n≤Big:=fun n h=>by unfold Big;omega
 obtain ⟨⟨a',H,cap',h0,h1,h2,h3,h4⟩,da,dc⟩:=hown
 simp only [List.cons.injEq,Value.slice.injEq,and_true] at h0
 obtain ⟨rfl,rfl,rfl⟩:=h0
 subst h1
 have ck:∀ y∈xs++ys,r.bdd Big y:=by
  intro y hy
  rcases List.mem_append.1 hy with q | q
  · exact dc y q
  exact hb y q
 rcases h4 with ⟨rfl,hc0⟩|⟨b,off,rfl,cur,e',fr,p,cs,tl,g1,g2,g3,g4,g5,g6,g7⟩
 · simp at hne
 obtain ⟨he,ah⟩:=g5 rfl
 rw [he,ah] at g1
 have N:=zH g7
 have e7:=zH hrow
 by_cases bq:m=0
 · have b6:ys=[]:=List.eq_nil_of_length_eq_zero bB9
   subst b6
   have hc:cells=[]:=hrow
   subst hc
   obtain ⟨a1,c1,rfl⟩:∃ a c,sv=.slice a 0 c:=by
    rcases hsrc with ⟨_,h⟩|⟨ad,c,h,_⟩
    · exact h
    exact ⟨_,_,by rw [h,bq]⟩
   refine ⟨.slice (some ⟨b,off,none⟩) xs.length cap,w,?_,?_,Touch.refl _ _⟩
   · cases a1 <;> simp [Builtin.append_,run_underlying ht,sizeOf,typeInfo,hi,Builtin.lenOf,h2,Builtin.firstCells,loadCells,loadCellsFrom,storeCells]
   rw [List.append_nil]
   refine ⟨⟨_,_,cap,rfl,rfl,h2,h3,.inr ⟨b,off,rfl,cur,e,(0,0),p,cs,tl,g1,g2,g3,g4,fun _=>⟨rfl,rfl⟩,.inl g6,yH (kKa g7) qH⟩⟩,da,dc⟩
 obtain ⟨ad,c,rfl,ae⟩:∃ ad c,sv=.slice (some ad) m c∧∀ j u,cells[j]?=some u→w.cell? (ad.add j)=some u:=by
  rcases hsrc with ⟨h,_⟩ | h
  · exact absurd h bq
  exact h
 obtain ⟨G,R,ac⟩:=BH
 by_cases D:xs.length + m≤cap
 · have W:(xs.length + m) * r.n≤cap * r.n:=Nat.mul_le_mul_right _ D
   rw [Nat.add_mul] at W
   obtain ⟨ee,J⟩:=EG
   have hr:=run_append_room_cells (P:=P) (w:=w) t ty e i ht hi b off xs.length cap ad m c cells G ae (row_one hrow) D
     (fun j I=>by
       rw [cell_of_row w b _ cur e (0,0) g1]
       have:off + xs.length * i.size + j < cur.size:=by rw [J,List.length_append];omega
       simp [this])
     (fun j _=>frozen_of_row w b _ _ _ g1)
   rw [kHe] at hr
   have U:=kCw (e:=e) cells (tl.take cells.length) (p++cs) (tl.drop cells.length) w b (off + xs.length * i.size) gM J.symm sI
   refine ⟨_,_,hr,?_,(zn cells w b _).wide (fun k hk=>by rw [hk];exact g6)⟩
   have X:∀ k,k≠b→(setCells w b (off + xs.length * i.size) cells).heap[k]?=w.heap[k]?:=fun k hk=>kBb cells w b _ k hk
   refine ⟨⟨_,_,cap,rfl,by rw [List.length_append,hm],D,h3,.inr ⟨b,off,rfl,_,e,(0,0),p,cs++cells,tl.drop cells.length,U,by simp,g3,?_,fun _=>⟨rfl,rfl⟩,.inl g6,?_⟩⟩,V _ qO,ck⟩
   · simp only [List.size_toArray,List.length_append,List.length_drop];omega
   have a1:=yC (w':=setCells w b (off + xs.length * i.size) cells) g7 (fun k hk=>X k (hk.2 rfl))
   have a2:=yC (w':=setCells w b (off + xs.length * i.size) cells) hrow (fun k hk=>X k (fun q=>hd b off rfl (q ▸ hk)))
   exact kAg (kKa a1) a2 qH (fun k hk=>⟨.inr (.inl hk),fun h=>by cases h⟩) (fun h=>by cases h)
 have L:∀ j u,cs[j]?=some u→w.cell? ((⟨b,off,none⟩:Addr).add j)=some u:=by
  exact aY
 have O:(xs.length + m) * i.bytes≤140737488355328:=by
  have:(xs.length + m) * i.bytes≤16777216 * 1000:=Nat.mul_le_mul bB9 bB9
  omega
 have hr:=run_append_grow (P:=P) w t ty e i z ht hi hz ⟨b,off,none⟩ xs.length cap cs vR L ad m c cells G ae bB9 bB9 (growslice_fits bB9 O)
 refine ⟨_,_,hr,?_,⟨rfl,rfl,rfl,by simp,fun k hk _=>heap_alloc_old w.drew _ hk⟩⟩
 have ak:=grownCap_ge w (xs.length + m) cap e
 have an:=grownCap_le_maxLen w (xs.length + m) cap e vI
 refine ⟨⟨_,_,_,rfl,by rw [List.length_append,hm],ak,an,.inr ⟨w.heap.size,0,rfl,_,e,(0,0),[],cs++cells,(Builtin.zeroCells z.cells (grownCap w (xs.length + m) cap e - (xs.length + m))).toList,heap_alloc_new w.drew _,by simp,rfl,?_,fun _=>⟨rfl,rfl⟩,.inr (.inr ⟨Nat.le_refl _,by simp⟩),?_⟩⟩,V _ qO,ck⟩
 · exact aZ
 obtain ⟨a1,a2⟩:=uB
 exact kAg (kKa a1) a2 qH (fun k hk=>⟨.inr (.inl hk.1),fun h=>by cases h⟩) (fun h=>by cases h)
theorem jY.live (h:r.jY w cs x S):r.jY w cs x (fun k=>S k∧k < w.heap.size):=⟨r.live h.1,h.2⟩
theorem rdB_get {a:Option Addr} {len cap:Nat} (h:(slice e r).jY w [.slice a len cap] xs S) {i:Nat} (hi:i < xs.length) :
    ∃ b off,a=some ⟨b,off,none⟩∧∃ cs,r.jY w cs xs[i] S∧∀ j c,cs[j]?=some c→w.cell? ⟨b,off + i * r.n + j,none⟩=some c:=by
 obtain ⟨⟨a',H,cap',h0,h1,h2,h3,h4⟩,fc,O⟩:=h
 simp only [List.cons.injEq,Value.slice.injEq,and_true] at h0
 obtain ⟨rfl,rfl,rfl⟩:=h0
 rcases h4 with ⟨rfl,_⟩|⟨b,off,ha,cur,e',fr,p,c,q,hb,hc,hp,hl,hf,hS,hx⟩
 · simp at hi
 obtain ⟨E,c',F,A,B,C,rfl,D,_,hr,_,_,hB,_⟩:=kOu hx hi
 refine ⟨b,off,ha,c',⟨r.wide hr (fun k hk=>(hB k hk).1),O _ (List.getElem_mem hi)⟩,?_⟩
 exact aD
theorem kSp {P:Program} {t ty:TypeId} {z:Value} {bytes:Nat} (ht:P.underlying t=some (.slice e)) (hinf:(P.info? e).map (fun i=>(i.zero,i.size,i.bytes))=some (some z,r.n,bytes)) (hzs:z.cells.size=r.n) (hn:0 < r.n) (hby:bytes≤1000)
    {a:Option Addr} {len cap:Nat} (hown:(slice e r).own w [.slice a len cap] xs S) {u:World} (hu:Below w.heap.size w u) {cx:List Value} {x:α} (hx:r.jY u cx x T) (hd:∀ b off,a=some ⟨b,off,none⟩→¬ T b) (hne:0 < xs.length) (hlen:xs.length < 16777216) {c:Nat} :
    ∃ v' w',(Builtin.append_ #[t,t] ty #[.slice a len cap,.slice (some ⟨u.heap.size,0,none⟩) 1 c]).run P (u.alloc (.cells cx.toArray e))=.ok v' w'∧(slice e r).jY w' [v'] (xs++[x]) (fun k=>S k∨T k∨(u.heap.size≤k∧k < w'.heap.size))∧Touch (fun k=>S k∧k < w.heap.size) u w':=by
 obtain ⟨H,hS⟩:=A7
 have hrow:row r false (u.alloc (.cells cx.toArray e)) cx [x] (fun k=>T k∧k < u.heap.size):=kFv (r.mono (r.live hx.1) (fun k hk=>H.block k hk.2))
 have hsrc:Src (u.alloc (.cells cx.toArray e)) (.slice (some ⟨u.heap.size,0,none⟩) 1 c) 1 cx:=by
  exact bB
 obtain ⟨v',w',hr,ho,D⟩:=run_pushD (ty:=ty) ht hinf hzs hn hby (hS.below H) hsrc hrow rfl gX (fun b off q h2=>hd b off q h2.1) hne bB5
 exact bC
theorem kTx {P:Program} {ops:Array Oper} {rest:List Oper} {o:Oper} {E:Act} {Q:Exit→Act→World→Prop} (D:o.guard=none) (s x:Operand) (t:TypeId)
    (ho:o.op=.call { callee:=.builtin .append,args:=#[s,x],argTypes:=#[t,t] })
    {z:Value} {bytes:Nat} (ht:P.underlying t=some (.slice e)) (hinf:(P.info? e).map (fun i=>(i.zero,i.size,i.bytes))=some (some z,r.n,bytes)) (hzs:z.cells.size=r.n) (hn:0 < r.n) (hby:bytes≤1000)
    {a:Option Addr} {len cap:Nat} (hown:(slice e r).own w [.slice a len cap] xs S) {u:World} (hu:Below w.heap.size w u) {cx:List Value} {y:α} (hy:r.jY u cx y T) {c:Nat} (hs:E.eval s=.slice a len cap) (hx:E.eval x=.slice (some ⟨u.heap.size,0,none⟩) 1 c) (hd:∀ b off,a=some ⟨b,off,none⟩→¬ T b) (hne:0 < xs.length) (hlen:xs.length < 16777216)
    (h:∀ v' w',(slice e r).jY w' [v'] (xs++[y]) (fun k=>S k∨T k∨(u.heap.size≤k∧k < w'.heap.size))→Touch (fun k=>S k∧k < w.heap.size) u w'→wpList P ops Q rest (E.put o.dst v') w'):wpList P ops Q (o :: rest) E (u.alloc (.cells cx.toArray e)):=by
 refine wpList_plain D fun _ J=>?_
 obtain ⟨v',w',hr,h1,h2⟩:=kSp (ty:=o.type) (c:=c) ht hinf hzs hn hby hown hu hy hd hne hlen
 exact jP s x t ho hs hx hr (J _ _ (h v' w' h1 h2))
end
end kE
end Go.Proofs.YtonmjkmaadgceaaGreat

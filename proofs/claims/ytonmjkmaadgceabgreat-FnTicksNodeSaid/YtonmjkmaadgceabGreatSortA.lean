/-
  The stable sort, its small parts.
-/
import Derived.Test.YtonmjkmaadgceabGreatSrt
import Derived.Test.YtonmjkmaadgceabGreatSoft4
set_option linter.unusedVariables false
set_option linter.defProp false
set_option linter.unusedSimpArgs false
set_option linter.unnecessarySimpa false
set_option maxRecDepth 100000
set_option maxHeartbeats 4000000
open Bool renaming true->Tt,false->Ff
open Int renaming natCast_nonneg->Aa
open Go.IntWalk renaming i64_in->Ab
open Go.IntKind renaming i64->Ac
open List renaming getElem?_cons_succ->Ad,getElem?_cons_zero->Ae,drop_succ_cons->Ak,length_cons->Al,cons_append->Am,length_nil->Ap,nil_append->Aq,length_append->Au,drop_zero->Av,mem_or_eq_of_mem_set->Aw,map_cons->Az,map_nil->Ba,getElem_mem->Be
open Go renaming Value->Ag,World->Ai,FuncId->Bd,TypeId->Bg,Calls->Bh
open _root_ renaming List->Ah,Array->Bf
open Go.Value.slice renaming injEq->Aj
open List.cons renaming injEq->Ar
open Option.some renaming injEq->Ay
open Go.RowKit renaming intOf->Bb
open Go.Addr.mk renaming injEq->Bc
namespace Go.Proofs.YtonmjkmaadgceabGreat
open Go.RowKit _root_.Go.Proofs.Tryz
namespace kD
section
variable {α:Type} {r:kD α} {e:Bg} {w w' u:Ai} {v:Ag} {b cap len n i j:Nat} {xs:Ah α} {x y:α} {S T:Nat->Prop}
def row_swap {cells:Ah Ag} {o G L:Ah α} (h:row r true w cells (o++x :: (G++y :: L)) S) :
    ∃ N cx R cy V,cells=N++(cx++(R++(cy++V)))/\N.length=o.length * r.n/\cx.length=r.n/\R.length=G.length * r.n/\cy.length=r.n /\
      row r true w (N++(cy++(R++(cx++V)))) (o++y :: (G++x :: L)) S:=by
 obtain ⟨N,e1,A1,B1,rfl,r1,⟨cx,e2,J,U,rfl,Z,q2,I,E,O⟩,hA1,H,D1⟩:=kHz o h
 obtain ⟨R,e3,A2,B3,rfl,r2,⟨cy,V,X,A3,rfl,Y,W,D,aa,dy⟩,hA2,F,D2⟩:=kHz G q2
 refine ⟨N,cx,R,cy,V,rfl,zK r1,r.len Z,zK r2,r.len Y,?_⟩
 have t3:row r true w (cx++V) (x :: L) (λk=>J k\/A3 k):=⟨cx,V,J,A3,rfl,Z,W,λ_=>.inl,λ_=>.inr,λ_ k h1 h2=>O rfl k h1 (F k (aa k h2))⟩
 have t2:row r true w (R++(cx++V)) (G++x :: L) (λk=>A2 k\/(J k\/A3 k)):=kAg r2 t3 (λ_=>.inl) (λ_=>.inr) (λ_ k h1 h2=>h2.elim (λq=>O rfl k q (hA2 k h1)) (λq=>D2 rfl k h1 (aa k q)))
 have t1:row r true w (cy++(R++(cx++V))) (y :: (G++x :: L)) (λk=>X k\/(A2 k\/(J k\/A3 k))):=⟨cy,_,X,_,rfl,Y,t2,λ_=>.inl,λ_=>.inr,λ_ k h1 h2=>h2.elim (λq=>D2 rfl k q (D k h1)) (λh2=>h2.elim (λq=>O rfl k q (F k (D k h1))) (λq=>dy rfl k h1 q))⟩
 refine kAg r1 t1 hA1 ?_ ?_
 · rintro k (q | q | q | q)
   · exact H k (E k (F k (D k q)))
   · exact H k (E k (hA2 k q))
   · exact H k (I k q)
   exact H k (E k (F k (aa k q)))
 rintro _ k h1 (q | q | q | q)
 · exact D1 rfl k h1 (E k (F k (D k q)))
 · exact D1 rfl k h1 (E k (hA2 k q))
 · exact D1 rfl k h1 (I k q)
 exact D1 rfl k h1 (E k (F k (aa k q)))
def kXm {l:Ah α} {i j:Nat} (D:i < j) (I:j < l.length):∃ o x G y L,l=o++x :: (G++y :: L)/\o.length=i/\G.length=j - i - 1:=by
 refine ⟨l.take i,l[i],(l.drop (i + 1)).take (j - i - 1),l[j],l.drop (j + 1),?_,by simp;omega,by simp;omega⟩;have e1:l=l.take i++l[i] :: l.drop (i + 1):=bD0;have e2:l.drop (i + 1)=(l.drop (i + 1)).take (j - i - 1)++l[j] :: l.drop (j + 1):=by
  have h1:(l.drop (i + 1)).drop (j - i - 1)=l.drop j:=by rw [List.drop_drop];congr 1;omega
  have h2:l.drop j=l[j] :: l.drop (j + 1):=bD0;rw [<- h2,<- h1,List.take_append_drop]
 rw [<- e2,<- e1]
def kPh {cells mid pre I:Ah Ag} {o:Nat} {cs:Ah Ag} {e:Bg} (hc:w.heap[b]?=some (.cells cells.toArray e (0,0))) (he:cells=pre++(mid++I)) (ho:pre.length=o) (hl:cs.length=mid.length)
    (h:∀ q u,cs[q]?=some u->Qc w b (o + q) u):cs=mid:=by
 apply List.ext_getElem hl
 intro q h1 h2
 have:=h q cs[q] (by simp [h1])
 rw [cell_of_row w b _ _ e (0,0) hc] at this
 simp only [List.getElem?_toArray] at this
 rw [he,List.getElem?_append_right bC9,List.getElem?_append_left bC9,show o + q - pre.length=q by omega,List.getElem?_eq_getElem h2] at this
 exact (Option.some.inj this).symm
def kDs (h:kR e r w (.slice (some ⟨b,0,none⟩) len cap) xs S) (hi:i < xs.length) (I:j < xs.length) (D:i≠j) {ci cj:Ah Ag} (li:ci.length=r.n) (X:cj.length=r.n)
    (bc:∀ q u,ci[q]?=some u->w.cell? ⟨b,i * r.n + q,none⟩=some u) (be:∀ q u,cj[q]?=some u->w.cell? ⟨b,j * r.n + q,none⟩=some u) {pi pj:Nat} (O:pi=i * r.n) (H:pj=j * r.n) :
    kR e r (setCells (setCells w b pi cj) b pj ci) (.slice (some ⟨b,0,none⟩) len cap) (Srt.sw xs i j) S/\Touch (λk=>k=b) w (setCells (setCells w b pi cj) b pj ci):=by
 subst O H
 refine ⟨?_,(zH _ _ _ _).trans (zH _ _ _ _)⟩
 obtain ⟨hb,h⟩:=h
 rcases h with ⟨⟨a,h0⟩,rfl⟩|⟨b',cap',cur,cs,tl,h0,h1,h2,h3,h4,h5,h6,h7⟩
 · simp at hi
 simp only [Aj,Ay,Bc,and_true] at h0
 obtain ⟨rfl,rfl,rfl⟩:=h0
 have J:cur=(cs++tl).toArray:=by rw [<- h4]
 subst J
 have U:∀ z∈Srt.sw xs i j,r.bdd Big z:=by
  intro z hz;rw [Srt.kZa hi I] at hz;rcases Aw hz with q | q
  · rcases Aw q with q | q
    · exact hb z q
    rw [q];exact hb _ (Be I)
  rw [q];exact hb _ (Be hi)
 have hlen:=Srt.kAm xs i j
 refine ⟨U,.inr ⟨b,cap,?_⟩⟩
 suffices hh:∃ cs',(setCells (setCells w b (i * r.n) cj) b (j * r.n) ci).heap[b]?=some (.cells (cs'++tl).toArray e (0,0))/\cs'.length=cs.length/\row r true w cs' (Srt.sw xs i j) (λk=>S k/\k≠b) by
   obtain ⟨cs',g1,g2,g3⟩:=hh;refine ⟨_,cs',tl,by rw [hlen],by rw [hlen];exact h1,h2,g1,by simp,?_,h6,?_⟩
   · rw [<- h5];simp [g2]
   · exact yM g3 (λk hk=>by rw [zy _ _ _ _ _ hk.2,zy _ _ _ _ _ hk.2])
 rcases Nat.lt_or_gt_of_ne D with q | q
 · obtain ⟨o,x,G,y,L,rfl,l1,l2⟩:=kXm q I;obtain ⟨N,cx,R,cy,V,rfl,m1,Z,m2,Y,hr⟩:=row_swap h7;have e1:ci=cx:=kPh h3 (show _=N++(cx++((R++(cy++V))++tl)) by simp) (by rw [m1,l1]) bC9 bc;have e2:cj=cy:=kPh h3 (show _=(N++(cx++R))++(cy++(V++tl)) by simp) (by
     simp only [Au];rw [m1,Z,m2,l1,l2];have:j=i + 1 + (j - i - 1):=by omega
     generalize j - i - 1=t at *;subst this;simp only [Nat.add_mul];omega) bC9 be
   subst e1 e2;have W:(N++(cj++R)).length=j * r.n:=by
    simp only [Au];rw [m1,X,m2,l1,l2];have:j=i + 1 + (j - i - 1):=by omega
    generalize j - i - 1=t at *;subst this;simp only [Nat.add_mul];omega
   refine ⟨N++(cj++(R++(ci++V))),?_,by simp;omega,?_⟩
   · have g1:=zl (e:=e) cj ci N ((R++(cj++V))++tl) w b (i * r.n) (by rw [h3];simp) (by rw [m1,l1]) bC9;have g2:=zl (e:=e) ci cj (N++(cj++R)) (V++tl) _ b (j * r.n) (by rw [g1];simp) W bC9;rw [g2];simp
   have E:=Srt.kHs o G L x y (i:=i) (j:=j) l1.symm bC9;rw [show o++x :: (G++y :: L)=o++x :: G++y :: L by simp,E];simpa using hr
 obtain ⟨o,y,G,x,L,rfl,l1,l2⟩:=kXm q hi
 obtain ⟨N,cy,R,cx,V,rfl,m1,Y,m2,Z,hr⟩:=row_swap h7
 have F:∀ z:Ah Ag,z.length=r.n->(N++(z++R)).length=i * r.n:=by
  intro z hz;simp only [Au];rw [m1,hz,m2,l1,l2];have:i=j + 1 + (i - j - 1):=by omega
  generalize i - j - 1=t at *;subst this;simp only [Nat.add_mul];omega
 have e1:cj=cy:=kPh h3 (show _=N++(cy++((R++(cx++V))++tl)) by simp) (by rw [m1,l1]) bC9 be
 have e2:ci=cx:=kPh h3 (show _=(N++(cy++R))++(cx++(V++tl)) by simp) (F _ Y) bC9 bc
 subst e1 e2
 refine ⟨N++(ci++(R++(cj++V))),?_,by simp;omega,?_⟩
 · have g1:=zl (e:=e) cj ci (N++(cj++R)) (V++tl) w b (i * r.n) (by rw [h3];simp) (F _ X) bC9;have g2:=zl (e:=e) ci cj N ((R++(cj++V))++tl) _ b (j * r.n) (by rw [g1];simp) (by rw [m1,l1]) bC9;rw [g2];simp
 have E:=Srt.kHs o G L y x (i:=j) (j:=i) l1.symm bC9
 rw [Srt.kZb,show o++y :: (G++x :: L)=o++y :: G++x :: L by simp,E]
 simpa using hr
end
end kD
def kPu {P:Program} (w:Ai) (b o:Nat) (ty:Bg) (v:Ag) (cs:Ah Ag) (al:v.cells=cs.toArray) (ht:w.there b o cs.length) (hi:(P.info? ty).map (·.size)=some cs.length) (h1:∀ c∈cs,c.oneCell'=true) :
    (storeVar ty ⟨b,o,none⟩ v).run P w=.ok () (kD.setCells w b o cs):=by
 have:=run_storeCells_cells (P:=P) b o cs 0 w (λj I=>by simpa using (ht j bB4).1) (λj I=>by simpa using (ht j bB4).2) h1
 cases hq:P.info? ty with
 | none=>simp [hq] at hi
 | some i =>
   have hs:cs.length=i.size:=by simp [hq] at hi;omega
   simp only [Nat.add_zero] at this;rw [<- kD.kFu];simp [storeVar,sizeOf,typeInfo,hq,al,hs,this]
def wp_storeV {P:Program} {W:Oper} {a:Act} {w:Ai} {K:Act->Ai->Prop} {Q:Exit->Act->Ai->Prop} (ty:Bg) (x y:Operand) (ho:W.op=.store ty x y)
    (b o:Nat) (v:Ag) (cs:Ah Ag) (al:v.cells=cs.toArray) (hx:a.eval x=.pointer (some ⟨b,o,none⟩)) (hy:a.eval y=v)
    (ht:w.there b o cs.length) (hi:(P.info? ty).map (·.size)=some cs.length) (h1:∀ c∈cs,c.oneCell'=true)
    (h:∀ w',w'=kD.setCells w b o cs->K (a.put W.dst undef) w'):W.wp P a w K Q:=by
 unfold Oper.wp execOp
 simp only [ho,hx,hy,Instr.storeAt,Instr.sureAddr,Sem.run_bind,Sem.run_pure,Result.andThen_ok,kPu w b o ty v cs al ht hi h1]
 exact h _ rfl
def yI {P:Program} {ops:Bf Oper} {rest:Ah Oper} {W:Oper} {a:Act} {w:Ai} {Q:Exit->Act->Ai->Prop} (E:W.guard=none) (ty:Bg) (x y:Operand) (ho:W.op=.store ty x y)
    (b o:Nat) (v:Ag) (cs:Ah Ag) (al:v.cells=cs.toArray) (hx:a.eval x=.pointer (some ⟨b,o,none⟩)) (hy:a.eval y=v)
    (ht:w.there b o cs.length) (hi:(P.info? ty).map (·.size)=some cs.length) (h1:∀ c∈cs,c.oneCell'=true)
    (h:∀ w',w'=kD.setCells w b o cs->wpList P ops Q rest (a.put W.dst undef) w'):wpList P ops Q (W :: rest) a w :=
  wpList_plain E λ_ H=>wp_storeV ty x y ho b o v cs al hx hy ht hi h1 (λw' hw=>H _ _ (h w' hw))
namespace kD
section
variable {α:Type} {r:kD α} {e:Bg} {w w' u:Ai} {v:Ag} {b cap len n i j:Nat} {xs:Ah α} {x y:α} {S T:Nat->Prop}
def kDq {m o p:Nat} {cs:Ah Ag} (h:w.there b o m):(setCells w b p cs).there b o m:=by
 rw [<- kFu];exact World.there_setCells h b p cs
def zD (h:kR e r w (.slice (some ⟨b,0,none⟩) len cap) xs S) (hi:i < xs.length):w.there b (i * r.n) r.n:=by
 obtain ⟨hb,h⟩:=h;rcases h with ⟨⟨a,h0⟩,rfl⟩|⟨b',cap',cur,cs,tl,h0,h1,h2,h3,h4,h5,h6,h7⟩
 · simp at hi
 simp only [Aj,Ay,Bc,and_true] at h0;obtain ⟨rfl,rfl,rfl⟩:=h0;intro j I;have hlt:i * r.n + j < cur.size:=by
  rw [h5];have:(i + 1) * r.n<=cap * r.n:=Nat.mul_le_mul_right _ bC9;rw [Nat.add_mul] at this;omega
 refine ⟨?_,frozen_of_row w b _ _ _ h3⟩;rw [cell_of_row w b _ _ e (0,0) h3,Array.getElem?_eq_getElem hlt];rfl
def kCs (h:kR e r w (.slice (some ⟨b,0,none⟩) len cap) xs S) (hi:i < xs.length):S b/\b < w.heap.size:=by
 obtain ⟨b',cap',h0,h1,h2,_⟩:=kAn h hi;simp only [Aj,Ay,Bc,and_true] at h0;obtain ⟨rfl,_,_⟩:=h0;exact ⟨h1,h2⟩
end
end kD
def kDp {S:Nat->Prop} {b:Nat} {w w':Ai} (h:Touch (λk=>k=b) w w') (hb:S b):Touch S w w':=h.wide (λk hk=>hk ▸ hb)
namespace kD
def kLb {w:Ai} {b o:Nat} {c0:Ag} (h0:Qc w b o c0):∀ q u,([c0]:Ah Ag)[q]?=some u->Qc w b (o + q) u:=by
 intro q u hq
 match q with
 | 0=>simp at hq;subst hq;exact h0
 | q + 1=>simp at hq
def cells3 {w:Ai} {b o:Nat} {c0 c1 c2:Ag} (h0:Qc w b o c0) (h1:Qc w b (o + 1) c1) (h2:Qc w b (o + 2) c2):∀ q u,([c0,c1,c2]:Ah Ag)[q]?=some u->Qc w b (o + q) u:=by
 intro q u hq
 match q with
 | 0=>simp at hq;subst hq;exact h0
 | 1=>simp at hq;subst hq;exact h1
 | 2=>simp at hq;subst hq;exact h2
 | q + 3=>simp at hq
end kD
def kYh {α:Type} {key:α->Int} {a j k:Nat} {cu:Ah α} (hk:k + 1=j) (ha:a < j) (I:j < cu.length) (aa:k < cu.length) (h:decide (key cu[j] < key cu[k])=true):Srt.inner key a j cu=Srt.inner key a k (Srt.sw cu j k):=by
 subst hk;have h:=of_decide_eq_true h;rw [Srt.inner,if_pos ⟨ha,by rw [Srt.zL I,Srt.zL aa];exact h⟩]
def inner_no {α:Type} {key:α->Int} {a j k:Nat} {cu:Ah α} (hk:k + 1=j) (I:j < cu.length) (aa:k < cu.length) (h:decide (key cu[j] < key cu[k])=false):Srt.inner key a j cu=cu:=by
 subst hk;have h:=of_decide_eq_false h;rw [Srt.inner,if_neg (by rintro ⟨_,q⟩;rw [Srt.zL I,Srt.zL aa] at q;exact h q)]
def kVk {α:Type} {key:α->Int} {a j:Nat} {cu:Ah α} (ha:¬ a < j):Srt.inner key a j cu=cu:=by
 cases j with
 | zero=>rfl
 | succ j=>rw [Srt.inner,if_neg (by rintro ⟨q,_⟩;exact ha q)]
def kUu {α:Type} {key:α->Int} {a z i:Nat} {cu:Ah α} (h:i < z):Srt.outer key a (z - i) i cu=Srt.outer key a (z - (i + 1)) (i + 1) (Srt.inner key a i cu):=by
 rw [show z - i=(z - (i + 1)) + 1 by omega,Srt.outer]
def kYb {α:Type} {key:α->Int} {a z i:Nat} {cu:Ah α} (h:¬ i < z):Srt.outer key a (z - i) i cu=cu:=by
 rw [show z - i=0 by omega,Srt.outer]
def swr_next {α:Type} {n a b i:Nat} {cu:Ah α} (h:i < n):Srt.swr (n - i) (a + i) (b + i) cu=Srt.swr (n - (i + 1)) (a + (i + 1)) (b + (i + 1)) (Srt.sw cu (a + i) (b + i)):=by
 rw [show n - i=(n - (i + 1)) + 1 by omega,Srt.swr];rfl
def swr_end {α:Type} {n a b i:Nat} {cu:Ah α} (h:¬ i < n):Srt.swr (n - i) (a + i) (b + i) cu=cu:=by
 rw [show n - i=0 by omega,Srt.swr]
def kEo (key:Int->Int) (g:Bd) (cp:Bf Ag) (S:Nat->Prop) (w0:Ai):Prop :=
  ∀ wr,Touch S w0 wr->∀ x y c d,kD.int.raw wr [c] x->kD.int.raw wr [d] y->Bh prog g (#[c,d]++cp) wr (λe w'=>∃ k:Int,e=.returned (.int .i64 k)/\decide (k < 0)=decide (key x < key y)/\Qb wr w')
def kOv {w:Ai} {b n cap a z:Nat} {xs:Ah Int} {S:Nat->Prop} {g:Bd} {cp:Bf Ag} (key:Int->Int) (hg:jI prog g) (ag:kEo key g cp S w) (h:kD.kR 3 kD.int w (.slice (some ⟨b,0,none⟩) n cap) xs S) (hn:n=xs.length) (hlen:xs.length<=16777216) (ce:a<=z) (hz:z<=xs.length) :
    Bh prog 182 #[.slice (some ⟨b,0,none⟩) n cap,.int .i64 (a:Nat),.int .i64 (z:Nat),.func (.func g) #[] cp] w λe w'=>e=.returned (.tuple #[])/\kD.kR 3 kD.int w' (.slice (some ⟨b,0,none⟩) n cap) (Srt.kBz key a z xs) S/\Touch S w w':=by
 have aw:=yD ag
 unfold jI at hg
 have O:=yD h
 have bb:=yD hn
 clear h ag
 have bj:z<=16777216:=bC9
 have a6:z<=n:=bC9
 clear hlen hz hn
 obtain ⟨cg,bx⟩:=HV
 have ar:(a:Int)<=z:=bC9
 have ck:(z:Int)<=16777216:=bC9
 have V:n<=cap\/xs=[]:=by
  rcases O.out.2 with ⟨_,q⟩|⟨_,_,_,_,_,q,q2,_⟩
  · exact .inr q
  simp only [Aj] at q;left;omega
 clear V
 go_enter func182,ntmps182
 go_wp2
 go_loopw [8] (λi wr=>∃ (m:Nat) (cur:Ah Int),i=.int .i64 m/\a + 1<=m/\(m<=z\/m=a + 1)/\Hid (Srt.outer key a (z - m) m cur=Srt.kBz key a z xs)/\Hid (cur.length=n)/\Hid (kD.kR 3 kD.int wr (.slice (some ⟨b,0,none⟩) n cap) cur S)/\Hid (Touch S w wr)) (λi _=>z - (Bb i).toNat)
 case atStart=>exact ⟨a + 1,xs,by go_num,Nat.le_refl _,.inr rfl,yD rfl,yD bb.out.symm,O,yD (Touch.refl _ _)⟩
 obtain ⟨i,cur,rfl,cc,bu,HF,al,J,L⟩:=hrel
 have cz:=Aa i
 by_cases hlt:i < z
 · have cv:(i:Int) < z:=bC9;have db:=yD (kUu (key:=key) (a:=a) (cu:=cur) hlt);go_wp2;go_loopw [9] (λj wr=>∃ (m:Nat) (cu:Ah Int),j=.int .i64 m/\a<=m/\m<=i/\Hid (Srt.inner key a m cu=Srt.inner key a i cur)/\Hid (cu.length=n)/\Hid (kD.kR 3 kD.int wr (.slice (some ⟨b,0,none⟩) n cap) cu S)/\Hid (Touch S w wr)) (λj _=>(Bb j).toNat);case atStart=>exact ⟨i,cur,rfl,by omega,Nat.le_refl _,yD rfl,al,J,L⟩
   obtain ⟨j,cu,rfl,ai,br,Y,az,R,am⟩:=hrel;have ch:=Aa j;have c2:(j:Int) < z:=bC9;by_cases D:a < j
   · obtain ⟨k,hk⟩:∃ k,k + 1=j:=⟨j - 1,by omega⟩;have an:j < cu.length:=vR;have aa:k < cu.length:=bC9;obtain ⟨ak,b3,cq,cw,bp,co,hw,hp,b9,cf,HY,a4⟩:=BM;obtain ⟨bm,pr,av⟩:=kD.at1 R.out.kBc an rfl;obtain ⟨aq,af⟩:=kD.jY pr;obtain rfl:bm=_:=by simpa using aq
     clear aq af;obtain ⟨ae,qr,ad⟩:=kD.at1 R.out.kBc aa rfl;obtain ⟨Z,ac⟩:=kD.jY qr;obtain rfl:ae=_:=by simpa using Z
     clear Z ac;generalize cu[j]=x at *;generalize cu[k]=y at *;go_upto_region 4 with fail;have FX:=yD (λ(W:Ai) (hW:Qb wr W)=>kIk hW av ad);refine kM (λW=>Qb wr W) [Tt,Tt,Tt,Tt,Tt,Tt,Tt,Tt,Tt,Tt,Tt,Tt,Tt,Tt,Ff,Tt,Tt] bC3 bC3 pK (bR.drew) ?_;intro wS E;iterate 3
      all_goals refine ku ?_
     all_goals (refine jy λb a1=>?_;cases b <;> try simp only [jw] at a1)
     iterate 10
      all_goals refine ku ?_
     all_goals first|(refine kI rfl E ?_)|(refine kw rfl (λK H=>?_);go_simp;refine (aw.out _ (am.out.trans (Touch.of_below E)) _ _ _ _ (kD.raw.below pr E) (kD.raw.below qr E)).mono ?_;rintro e wS1 ⟨kk,rfl,bq,ab⟩;replace E:=(tQ E ab);refine H _ _ E ?_;clear H K ab)
     all_goals refine jF ?_
     all_goals refine ku ?_
     all_goals (refine jy λb G=>?_;cases b <;> try simp only [jw] at G)
     all_goals refine kS ?_
     all_goals have a3:=yD (am.out.trans (Touch.of_below E))
     all_goals replace R:=yD (R.out.below E)
     all_goals first
       | (have U:=yD (show decide (key x < key y)=false by first|(exact G)|(simpa using G)|(rw [<- bq];simpa using G));have I:Hid (cu=Srt.inner key a i cur):=yD (a4.out U.out);clear a4 HY bq G;have bt:=R;have bf:Hid (Srt.outer key a (z - (i + 1)) (i + 1) cu=Srt.kBz key a z xs):=yD qF;go_wp2;go_roundw;(case rel=>exact ⟨i + 1,cu,by go_num,by omega,.inl bC9,bf,az,bt,a3⟩);(case measure=>simp [Bb];omega))
       | have U:=yD (show decide (key x < key y)=true by first|(exact G)|(simpa using G)|(rw [<- bq];simpa using G))
     have b7:=yD (HY.out U.out);clear HY a4 bq G U;replace av:=cL E av;replace ad:=cL E ad;clear E;generalize wS1=b5 at *;go_upto_region 6 with fail;have FX:=yD (λ(W:Ai) (hW:Qb b5 W)=>kIk hW av ad);refine yf (λW=>Qb b5 W) [2,3,4] [(0,true),(1,true),(5,true),(6,true),(7,true),(8,true),(9,true),(10,true),(11,true),(12,true),(13,true),(14,true)] bC3 bC3 pK (bR.drew) ?_;intro wS E;simp only [kz,zF,Al,Ap,Ad,Ae,Az,Ba,Am,Aq,Ak,Av,Nat.reduceAdd,Nat.zero_add];iterate 3
      refine kFe (v:=?_) rfl (λW=>?_) ?_;rotate_left;(· go_simp;try with_reducible rfl)
      refine jF ?_
     refine pre_nil ?_;iterate 12
      refine ku ?_
     refine jc ?_;replace a3:=yD (a3.out.trans (Touch.of_below E));replace R:=yD (R.out.below E);replace av:=cL E av;replace ad:=cL E ad;have BK:=kD.kCs R.out an;have a5:j * kD.int.n=j:=Nat.mul_one _;have X:k * kD.int.n=k:=Nat.mul_one _;have bh:wS.there b (j) 1:=nE;have bv:wS.there b (k) 1:=nO;obtain ⟨bc,be⟩:=EF;obtain ⟨s1,s2⟩:=kD.kDs (ci:=[.int .i64 x]) (cj:=[.int .i64 y]) R.out an aa bC9 rfl rfl bc be (pi:=j) (pj:=k) a5.symm X.symm;have a2:=yD s1;have ba:=yD s2;clear s1 s2 bc be a5 X;obtain ⟨ax,N,F⟩:=FT;refine yI rfl 3 _ _ rfl b (j) (.int .i64 y) [.int .i64 y] rfl bD1 bD1 bh ax F ?_;intro w5 a9;have a8:w5.there b (k) 1:=tF;have b0:=yD a9;clear a9;go_wp2_with (refine yI rfl 3 _ _ rfl b (k) (.int .i64 x) [.int .i64 x] rfl bD1 bD1 a8 ax N ?_);rw [<- b0.out] at a2 ba;generalize b4:kD.setCells w5 b (k) [.int .i64 x]=w6 at *;exact oI
   obtain ⟨c1,hp,b9,I⟩:=GH;go_upto_region 4 with fail;refine kM (λW=>Qb wr W) [Tt,Tt,Tt,Tt,Tt,Tt,Tt,Tt,Tt,Tt,Tt,Tt,Tt,Tt,Ff,Tt,Tt] bC3 bC3 pK (bR.drew) ?_;intro wS E;iterate 3
    all_goals refine ku ?_
   all_goals (refine jy λb a1=>?_;cases b <;> try simp only [jw] at a1)
   iterate 10
    all_goals refine ku ?_
   all_goals first|(refine kI rfl E ?_)|(fail)
   all_goals refine jF ?_
   all_goals refine ku ?_
   all_goals (refine jy λb G=>?_;cases b <;> try simp only [jw] at G)
   all_goals refine kS ?_
   all_goals have a3:=yD (am.out.trans (Touch.of_below E))
   all_goals have bt:=yD (R.out.below E)
   exact oJ
 exact oK
def kBo (key:ky->Int) (g:Bd) (cp:Bf Ag) (S:Nat->Prop) (w0:Ai):Prop :=
  ∀ wr,Touch S w0 wr->∀ x y cs ds,kY.raw wr cs x->kY.raw wr ds y->Bh prog g (#[.agg cs.toArray,.agg ds.toArray]++cp) wr (λe w'=>∃ k:Int,e=.returned (.int .i64 k)/\decide (k < 0)=decide (key x < key y)/\Qb wr w')
def kKt {w:Ai} {b n cap a z:Nat} {xs:Ah ky} {S:Nat->Prop} {g:Bd} {cp:Bf Ag} (key:ky->Int) (hg:jI prog g) (ag:kBo key g cp S w) (h:kD.kR 77 kY w (.slice (some ⟨b,0,none⟩) n cap) xs S) (hn:n=xs.length) (hlen:xs.length<=16777216) (ce:a<=z) (hz:z<=xs.length) :
    Bh prog 180 #[.slice (some ⟨b,0,none⟩) n cap,.int .i64 (a:Nat),.int .i64 (z:Nat),.func (.func g) #[] cp] w λe w'=>e=.returned (.tuple #[])/\kD.kR 77 kY w' (.slice (some ⟨b,0,none⟩) n cap) (Srt.kBz key a z xs) S/\Touch S w w':=by
 have aw:=yD ag
 unfold jI at hg
 have O:=yD h
 have bb:=yD hn
 clear h ag
 have bj:z<=16777216:=bC9
 have a6:z<=n:=bC9
 clear hlen hz hn
 obtain ⟨cg,bx⟩:=HV
 have ar:(a:Int)<=z:=bC9
 have ck:(z:Int)<=16777216:=bC9
 have V:n<=cap\/xs=[]:=by
  rcases O.out.2 with ⟨_,q⟩|⟨_,_,_,_,_,q,q2,_⟩
  · exact .inr q
  simp only [Aj] at q;left;omega
 clear V
 go_enter func180,ntmps180
 go_wp2
 go_loopw [8] (λi wr=>∃ (m:Nat) (cur:Ah ky),i=.int .i64 m/\a + 1<=m/\(m<=z\/m=a + 1)/\Hid (Srt.outer key a (z - m) m cur=Srt.kBz key a z xs)/\Hid (cur.length=n)/\Hid (kD.kR 77 kY wr (.slice (some ⟨b,0,none⟩) n cap) cur S)/\Hid (Touch S w wr)) (λi _=>z - (Bb i).toNat)
 case atStart=>exact ⟨a + 1,xs,by go_num,Nat.le_refl _,.inr rfl,yD rfl,yD bb.out.symm,O,yD (Touch.refl _ _)⟩
 obtain ⟨i,cur,rfl,cc,bu,HF,al,J,L⟩:=hrel
 have cz:=Aa i
 by_cases hlt:i < z
 · have cv:(i:Int) < z:=bC9;have db:=yD (kUu (key:=key) (a:=a) (cu:=cur) hlt);go_wp2;go_loopw [9] (λj wr=>∃ (m:Nat) (cu:Ah ky),j=.int .i64 m/\a<=m/\m<=i/\Hid (Srt.inner key a m cu=Srt.inner key a i cur)/\Hid (cu.length=n)/\Hid (kD.kR 77 kY wr (.slice (some ⟨b,0,none⟩) n cap) cu S)/\Hid (Touch S w wr)) (λj _=>(Bb j).toNat);case atStart=>exact ⟨i,cur,rfl,by omega,Nat.le_refl _,yD rfl,al,J,L⟩
   obtain ⟨j,cu,rfl,ai,br,Y,az,R,am⟩:=hrel;have ch:=Aa j;have c2:(j:Int) < z:=bC9;by_cases D:a < j
   · obtain ⟨k,hk⟩:∃ k,k + 1=j:=⟨j - 1,by omega⟩;have an:j < cu.length:=vR;have aa:k < cu.length:=bC9;obtain ⟨ak,b3,cq,cw,bp,co,hw,hp,b9,cf,HY,a4⟩:=BM;obtain ⟨bm,cm,cl,pr,av,b2,bz⟩:=kD.at3 R.out.kBc an rfl;obtain ⟨b8,aq,a7,bi,bw,b6⟩:=jM pr;simp only [Ar,and_true] at aq;obtain ⟨rfl,rfl,rfl⟩:=aq;obtain ⟨bn,bo,rfl,cd⟩:=kD.sl bi;clear a7 bi bw b6;obtain ⟨ae,af,ah,qr,ad,bk,bl⟩:=kD.at3 R.out.kBc aa rfl;obtain ⟨bg,Z,aj,ap,ao,au⟩:=jM qr;simp only [Ar,and_true] at Z;obtain ⟨rfl,rfl,rfl⟩:=Z;obtain ⟨ac,ay,rfl,bd⟩:=kD.sl ap;clear aj ap ao au;generalize cu[j]=x at *;generalize cu[k]=y at *;go_upto_region 4 with fail;have FX:=yD (λ(W:Ai) (hW:Qb wr W)=>kKa hW av b2 bz ad bk bl);refine kM (λW=>Qb wr W) [Tt,Tt,Tt,Tt,Tt,Tt,Tt,Tt,Tt,Tt,Tt,Tt,Tt,Tt,Ff,Tt,Tt] bC3 bC3 pK (bR.drew) ?_;intro wS E;iterate 3
      all_goals refine ku ?_
     all_goals (refine jy λb a1=>?_;cases b <;> try simp only [jw] at a1)
     iterate 10
      all_goals refine ku ?_
     all_goals first|(refine kI rfl E ?_)|(refine kw rfl (λK H=>?_);go_simp;refine (aw.out _ (am.out.trans (Touch.of_below E)) _ _ _ _ (kD.raw.below pr E) (kD.raw.below qr E)).mono ?_;rintro e wS1 ⟨kk,rfl,bq,ab⟩;replace E:=(tQ E ab);refine H _ _ E ?_;clear H K ab)
     all_goals refine jF ?_
     all_goals refine ku ?_
     all_goals (refine jy λb G=>?_;cases b <;> try simp only [jw] at G)
     all_goals refine kS ?_
     all_goals have a3:=yD (am.out.trans (Touch.of_below E))
     all_goals replace R:=yD (R.out.below E)
     all_goals first
       | (have U:=yD (show decide (key x < key y)=false by first|(exact G)|(simpa using G)|(rw [<- bq];simpa using G));have I:Hid (cu=Srt.inner key a i cur):=yD (a4.out U.out);clear a4 HY bq G;have bt:=R;have bf:Hid (Srt.outer key a (z - (i + 1)) (i + 1) cu=Srt.kBz key a z xs):=yD qF;go_wp2;go_roundw;(case rel=>exact ⟨i + 1,cu,by go_num,by omega,.inl bC9,bf,az,bt,a3⟩);(case measure=>simp [Bb];omega))
       | have U:=yD (show decide (key x < key y)=true by first|(exact G)|(simpa using G)|(rw [<- bq];simpa using G))
     have b7:=yD (HY.out U.out);clear HY a4 bq G U;obtain ⟨av,b2,bz,ad,bk,bl⟩:=G7;clear E;generalize wS1=b5 at *;go_upto_region 6 with fail;have FX:=yD (λ(W:Ai) (hW:Qb b5 W)=>kKa hW av b2 bz ad bk bl);refine yf (λW=>Qb b5 W) [2,3,4] [(0,true),(1,true),(5,true),(6,true),(7,true),(8,true),(9,true),(10,true),(11,true),(12,true),(13,true),(14,true)] bC3 bC3 pK (bR.drew) ?_;intro wS E;simp only [kz,zF,Al,Ap,Ad,Ae,Az,Ba,Am,Aq,Ak,Av,Nat.reduceAdd,Nat.zero_add];iterate 3
      refine kFe (v:=?_) rfl (λW=>?_) ?_;rotate_left;(· go_simp;try with_reducible rfl)
      refine jF ?_
     refine pre_nil ?_;iterate 12
      refine ku ?_
     refine jc ?_;replace a3:=yD (a3.out.trans (Touch.of_below E));replace R:=yD (R.out.below E);obtain ⟨av,b2,bz,ad,bk,bl⟩:=G7;have BK:=kD.kCs R.out an;have a5:j * kY.n=j * 3:=rfl;have X:k * kY.n=k * 3:=rfl;have bh:wS.there b (j * 3) 3:=nE;have bv:wS.there b (k * 3) 3:=nO;obtain ⟨bc,be⟩:=BV;obtain ⟨s1,s2⟩:=kD.kDs (ci:=[.slice bn (x.1).length bo,.int .i64 x.2.1,.int .i64 x.2.2]) (cj:=[.slice ac (y.1).length ay,.int .i64 y.2.1,.int .i64 y.2.2]) R.out an aa bC9 rfl rfl bc be (pi:=j * 3) (pj:=k * 3) a5.symm X.symm;have a2:=yD s1;have ba:=yD s2;clear s1 s2 bc be a5 X;obtain ⟨ax,N,F⟩:=CR;refine yI rfl 77 _ _ rfl b (j * 3) (.agg #[.slice ac (y.1).length ay,Qn y.2.1,Qn y.2.2]) [.slice ac (y.1).length ay,.int .i64 y.2.1,.int .i64 y.2.2] rfl bD1 bD1 bh ax F ?_;intro w5 a9;have a8:w5.there b (k * 3) 3:=tF;have b0:=yD a9;clear a9;go_wp2_with (refine yI rfl 77 _ _ rfl b (k * 3) (.agg #[.slice bn (x.1).length bo,Qn x.2.1,Qn x.2.2]) [.slice bn (x.1).length bo,.int .i64 x.2.1,.int .i64 x.2.2] rfl bD1 bD1 a8 ax N ?_);rw [<- b0.out] at a2 ba;generalize b4:kD.setCells w5 b (k * 3) [.slice bn (x.1).length bo,.int .i64 x.2.1,.int .i64 x.2.2]=w6 at *;exact oI
   obtain ⟨c1,hp,b9,I⟩:=GH;go_upto_region 4 with fail;refine kM (λW=>Qb wr W) [Tt,Tt,Tt,Tt,Tt,Tt,Tt,Tt,Tt,Tt,Tt,Tt,Tt,Tt,Ff,Tt,Tt] bC3 bC3 pK (bR.drew) ?_;intro wS E;iterate 3
    all_goals refine ku ?_
   all_goals (refine jy λb a1=>?_;cases b <;> try simp only [jw] at a1)
   iterate 10
    all_goals refine ku ?_
   all_goals first|(refine kI rfl E ?_)|(fail)
   all_goals refine jF ?_
   all_goals refine ku ?_
   all_goals (refine jy λb G=>?_;cases b <;> try simp only [jw] at G)
   all_goals refine kS ?_
   all_goals have a3:=yD (am.out.trans (Touch.of_below E))
   all_goals have bt:=yD (R.out.below E)
   exact oJ
 exact oK
def rot_eq {α:Type} {m p q:Nat} {cu:List α} (h:p=q):Srt.rot m p q cu=Srt.swr p (m - p) m cu:=by rw [Srt.rot,if_pos h]
def rot_gt {α:Type} {m p q:Nat} {cu:Ah α} (h:q < p) (hq:0 < q):Srt.rot m p q cu=Srt.rot m (p - q) q (Srt.swr q (m - p) m cu):=by
 rw [Srt.rot,if_neg bC9,dif_pos ⟨by omega,hq⟩,if_pos h]
def rot_lt {α:Type} {m p q:Nat} {cu:Ah α} (h:p < q) (hp:0 < p):Srt.rot m p q cu=Srt.rot m p (q - p) (Srt.swr p (m - p) (m + q - p) cu):=by
 rw [Srt.rot,if_neg bC9,dif_pos ⟨hp,by omega⟩,if_neg bC9]
def kKg {w:Ai} {b n cap a z c:Nat} {xs:Ah Int} {S:Nat->Prop} {g:Bd} {cp:Bf Ag} (h:kD.kR 3 kD.int w (.slice (some ⟨b,0,none⟩) n cap) xs S) (hn:n=xs.length) (hlen:xs.length<=16777216) (ce:a + c<=z) (hz:z + c<=xs.length) :
    Bh prog 210 #[.slice (some ⟨b,0,none⟩) n cap,.int .i64 (a:Nat),.int .i64 (z:Nat),.int .i64 (c:Nat),.func (.func g) #[] cp] w λe w'=>e=.returned (.tuple #[])/\kD.kR 3 kD.int w' (.slice (some ⟨b,0,none⟩) n cap) (Srt.swr c a z xs) S/\Touch S w w':=by
 have O:=yD h
 have bb:=yD hn
 clear h
 have bj:z + c<=16777216:=bC9
 have a6:z + c<=n:=bC9
 clear hlen hz hn
 obtain ⟨cg,bx⟩:=HV
 have hc0:=Aa c
 have ar:(a:Int)<=z:=bC9
 have ck:(z:Int) + c<=16777216:=bC9
 go_enter func210,ntmps210
 go_wp2
 go_loopw [10] (λi wr=>∃ (m:Nat) (cu:Ah Int),i=.int .i64 m/\m<=c/\Hid (Srt.swr (c - m) (a + m) (z + m) cu=Srt.swr c a z xs)/\Hid (cu.length=n)/\Hid (kD.kR 3 kD.int wr (.slice (some ⟨b,0,none⟩) n cap) cu S)/\Hid (Touch S w wr)) (λi _=>c - (Bb i).toNat)
 case atStart=>exact ⟨0,xs,rfl,Nat.zero_le _,yD rfl,yD bb.out.symm,O,yD (Touch.refl _ _)⟩
 obtain ⟨i,cu,rfl,cc,HF,HL,J,L⟩:=hrel
 have cz:=Aa i
 by_cases hlt:i < c
 · have cv:(i:Int) < c:=bC9;have b7:=yD ((swr_next (a:=a) (b:=z) (cu:=cu) hlt).symm.trans HF.out);have G:a + i < cu.length:=vN;have D:z + i < cu.length:=vN;obtain ⟨j,I⟩:∃ j,a + i=j:=⟨_,rfl⟩;obtain ⟨k,hk⟩:∃ k,z + i=k:=⟨_,rfl⟩;have an:j < cu.length:=bC9;have aa:k < cu.length:=bC9;have hjk:j≠k:=bC9;rw [I,hk] at b7;obtain ⟨ch,bp,cq,cw,b9,bt,H,R,co,bq⟩:=D8;clear G D;obtain ⟨bm,pr,av⟩:=kD.at1 J.out.kBc an rfl;obtain ⟨aq,af⟩:=kD.jY pr;obtain rfl:bm=_:=by simpa using aq
   clear aq af;obtain ⟨ae,qr,ad⟩:=kD.at1 J.out.kBc aa rfl;obtain ⟨Z,ac⟩:=kD.jY qr;obtain rfl:ae=_:=by simpa using Z
   clear Z ac;generalize cu[j]=x at *;generalize cu[k]=y at *;go_upto_region 3 with fail;have FX:=yD (λ(W:Ai) (hW:Qb wr W)=>kIk hW av ad);refine yf (λW=>Qb wr W) [4,5,6,7] [(0,true),(1,true),(2,true),(3,true),(8,true),(9,true),(10,true),(11,true),(12,true),(13,true),(14,true),(15,true),(16,true),(17,true),(18,true),(19,true),(20,true)] bC3 bC3 pK (bR.drew) ?_;intro wS E;simp only [kz,zF,Al,Ap,Ad,Ae,Az,Ba,Am,Aq,Ak,Av,Nat.reduceAdd,Nat.zero_add];iterate 4
    refine kFe (v:=?_) rfl (λW=>?_) ?_;rotate_left;(· go_simp;try with_reducible rfl)
    refine jF ?_
   refine pre_nil ?_;iterate 17
    refine ku ?_
   refine jc ?_;have a3:=yD (L.out.trans (Touch.of_below E));replace J:=yD (J.out.below E);replace av:=cL E av;replace ad:=cL E ad;have BK:=kD.kCs J.out an;have a5:j * kD.int.n=j:=Nat.mul_one _;have X:k * kD.int.n=k:=Nat.mul_one _;have bh:wS.there b (j) 1:=nG;have bv:wS.there b (k) 1:=nP;obtain ⟨bc,be⟩:=EF;obtain ⟨s1,s2⟩:=kD.kDs (ci:=[.int .i64 x]) (cj:=[.int .i64 y]) J.out an aa hjk rfl rfl bc be (pi:=j) (pj:=k) a5.symm X.symm;have a2:=yD s1;have ba:=yD s2;clear s1 s2 bc be a5 X;obtain ⟨ax,N,F⟩:=FT;refine yI rfl 3 _ _ rfl b (j) (.int .i64 y) [.int .i64 y] rfl bD1 bD1 bh ax F ?_;intro w5 a9;have a8:w5.there b (k) 1:=tF;have b0:=yD a9;clear a9;go_wp2_with (refine yI rfl 3 _ _ rfl b (k) (.int .i64 x) [.int .i64 x] rfl bD1 bD1 a8 ax N ?_);rw [<- b0.out] at a2 ba;generalize b4:kD.setCells w5 b (k) [.int .i64 x]=w6 at *;exact oL
 exact oM
def rot_int_c {w:Ai} {b n cap a m z:Nat} {xs:Ah Int} {S:Nat->Prop} {g:Bd} {cp:Bf Ag} (h:kD.kR 3 kD.int w (.slice (some ⟨b,0,none⟩) n cap) xs S) (hn:n=xs.length) (hlen:xs.length<=16777216) (b3:a < m) (bx:m < z) (hz:z<=xs.length) :
    Bh prog 199 #[.slice (some ⟨b,0,none⟩) n cap,.int .i64 (a:Nat),.int .i64 (m:Nat),.int .i64 (z:Nat),.func (.func g) #[] cp] w λe w'=>e=.returned (.tuple #[])/\kD.kR 3 kD.int w' (.slice (some ⟨b,0,none⟩) n cap) (Srt.rot m (m - a) (z - m) xs) S/\Touch S w w':=by
 have O:=yD h
 have bb:=yD hn
 clear h
 have bj:z<=16777216:=bC9
 have a6:z<=n:=bC9
 have c0:n<=16777216:=bC9
 clear hlen hz hn
 obtain ⟨cg,c4,c3,ck,b9,bt⟩:=GN
 generalize cz:m - a=F at *
 generalize ch:z - m=D at *
 obtain ⟨cc,ai,bu,br,co,bq⟩:=FH
 go_enter func199,ntmps199
 go_wp2
 go_loopw [10,11] (λi j wr=>∃ (p q:Nat) (cu:Ah Int),i=.int .i64 p/\j=.int .i64 q/\0 < p/\0 < q/\p<=m/\m + q<=n/\Hid (Srt.rot m p q cu=Srt.rot m F D xs)/\Hid (cu.length=n)/\Hid (kD.kR 3 kD.int wr (.slice (some ⟨b,0,none⟩) n cap) cu S)/\Hid (Touch S w wr)) (λi j _=>(Bb i).toNat + (Bb j).toNat)
 case atStart=>exact ⟨F,D,xs,rfl,rfl,by omega,by omega,by omega,by omega,yD rfl,yD bb.out.symm,O,yD (Touch.refl _ _)⟩
 clear b9 bt co bq
 obtain ⟨p,q,cu,rfl,rfl,hp,hq,N,Y,HF,HL,J,L⟩:=hrel
 have bf:=Aa p
 have b8:=Aa q
 have Z:(p:Int)<=m:=bC9
 have ab:(m:Int) + q<=16777216:=bC9
 obtain ⟨mp,cf⟩:∃ mp,m - p=mp:=⟨_,rfl⟩
 have dl:(m:Int) - (p:Int)=(mp:Int):=bC9
 have G:Ac.wrap (mp:Int)=mp:=Ab _ bC9
 have W:=Aa mp
 by_cases cv:p=q
 · subst cv;have HE:=yD ((rot_eq (m:=m) (cu:=cu) rfl).symm.trans HF.out);rw [cf] at HE;have hb:((p:Int) != (p:Int))=false:=bD0;go_wp2_with fail;refine (kKg (n:=n) (b:=b) J.out HL.out.symm vN (a:=mp) (z:=m) (c:=p) bC9 vN).mono ?_;exact oN
 have hb:((p:Int) != (q:Int))=true:=bC4
 have ak:(p != q)=true:=by simpa using cv
 have ar:¬ (p:Int)=q:=bC9
 by_cases aq:q < p
 · have HE:=yD ((rot_gt (m:=m) (cu:=cu) aq hq).symm.trans HF.out);rw [cf] at HE;have al:(q:Int) < p:=bC9;have a1:decide ((p:Int) > q)=true:=bC4;have c6:(p:Int) - (q:Int)=((p - q:Nat):Int):=bC9;generalize I:p - q=E at *;have U:Ac.wrap (E:Int)=E:=Ab _ bC9;go_wp2_with fail;refine (kKg (n:=n) (b:=b) J.out HL.out.symm vN (a:=mp) (z:=m) (c:=q) bC9 vN).mono ?_;exact oO
 have hlt:p < q:=bC9
 have HE:=yD ((rot_lt (m:=m) (cu:=cu) hlt hp).symm.trans HF.out)
 rw [cf] at HE
 have al:¬ (q:Int) < p:=bC9
 have a1:decide ((p:Int) > q)=false:=bC4
 have c6:(q:Int) - (p:Int)=((q - p:Nat):Int):=bC9
 generalize I:q - p=E at *
 have U:Ac.wrap (E:Int)=E:=Ab _ bC9
 have a8:(m:Int) + (q:Int)=((m + q:Nat):Int):=bC9
 generalize aa:m + q=H at *
 have a9:Ac.wrap (H:Int)=H:=Ab _ bC9
 have bd:(H:Int) - (p:Int)=((H - p:Nat):Int):=bC9
 generalize X:H - p=o at *
 have b4:Ac.wrap (o:Int)=o:=Ab _ bC9
 go_wp2_with fail
 refine (kKg (n:=n) (b:=b) J.out HL.out.symm vN (a:=mp) (z:=o) (c:=p) bC9 vN).mono ?_
 exact oP
def kHf {w:Ai} {b n cap a z c:Nat} {xs:Ah ky} {S:Nat->Prop} {g:Bd} {cp:Bf Ag} (h:kD.kR 77 kY w (.slice (some ⟨b,0,none⟩) n cap) xs S) (hn:n=xs.length) (hlen:xs.length<=16777216) (ce:a + c<=z) (hz:z + c<=xs.length) :
    Bh prog 209 #[.slice (some ⟨b,0,none⟩) n cap,.int .i64 (a:Nat),.int .i64 (z:Nat),.int .i64 (c:Nat),.func (.func g) #[] cp] w λe w'=>e=.returned (.tuple #[])/\kD.kR 77 kY w' (.slice (some ⟨b,0,none⟩) n cap) (Srt.swr c a z xs) S/\Touch S w w':=by
 have O:=yD h
 have bb:=yD hn
 clear h
 have bj:z + c<=16777216:=bC9
 have a6:z + c<=n:=bC9
 clear hlen hz hn
 obtain ⟨cg,bx⟩:=HV
 have hc0:=Aa c
 have ar:(a:Int)<=z:=bC9
 have ck:(z:Int) + c<=16777216:=bC9
 go_enter func209,ntmps209
 go_wp2
 go_loopw [10] (λi wr=>∃ (m:Nat) (cu:Ah ky),i=.int .i64 m/\m<=c/\Hid (Srt.swr (c - m) (a + m) (z + m) cu=Srt.swr c a z xs)/\Hid (cu.length=n)/\Hid (kD.kR 77 kY wr (.slice (some ⟨b,0,none⟩) n cap) cu S)/\Hid (Touch S w wr)) (λi _=>c - (Bb i).toNat)
 case atStart=>exact ⟨0,xs,rfl,Nat.zero_le _,yD rfl,yD bb.out.symm,O,yD (Touch.refl _ _)⟩
 obtain ⟨i,cu,rfl,cc,HF,HL,J,L⟩:=hrel
 have cz:=Aa i
 by_cases hlt:i < c
 · have cv:(i:Int) < c:=bC9;have b7:=yD ((swr_next (a:=a) (b:=z) (cu:=cu) hlt).symm.trans HF.out);have G:a + i < cu.length:=vN;have D:z + i < cu.length:=vN;obtain ⟨j,I⟩:∃ j,a + i=j:=⟨_,rfl⟩;obtain ⟨k,hk⟩:∃ k,z + i=k:=⟨_,rfl⟩;have an:j < cu.length:=bC9;have aa:k < cu.length:=bC9;have hjk:j≠k:=bC9;rw [I,hk] at b7;obtain ⟨ch,bp,cq,cw,b9,bt,H,R,co,bq⟩:=D8;clear G D;obtain ⟨bm,cm,cl,pr,av,b2,bz⟩:=kD.at3 J.out.kBc an rfl;obtain ⟨b8,aq,a7,bi,bw,b6⟩:=jM pr;simp only [Ar,and_true] at aq;obtain ⟨rfl,rfl,rfl⟩:=aq;obtain ⟨bn,bo,rfl,cd⟩:=kD.sl bi;clear a7 bi bw b6;obtain ⟨ae,af,ah,qr,ad,bk,bl⟩:=kD.at3 J.out.kBc aa rfl;obtain ⟨bg,Z,aj,ap,ao,au⟩:=jM qr;simp only [Ar,and_true] at Z;obtain ⟨rfl,rfl,rfl⟩:=Z;obtain ⟨ac,ay,rfl,bd⟩:=kD.sl ap;clear aj ap ao au;generalize cu[j]=x at *;generalize cu[k]=y at *;go_upto_region 3 with fail;have FX:=yD (λ(W:Ai) (hW:Qb wr W)=>kKa hW av b2 bz ad bk bl);refine yf (λW=>Qb wr W) [4,5,6,7] [(0,true),(1,true),(2,true),(3,true),(8,true),(9,true),(10,true),(11,true),(12,true),(13,true),(14,true),(15,true),(16,true),(17,true),(18,true),(19,true),(20,true)] bC3 bC3 pK (bR.drew) ?_;intro wS E;simp only [kz,zF,Al,Ap,Ad,Ae,Az,Ba,Am,Aq,Ak,Av,Nat.reduceAdd,Nat.zero_add];iterate 4
    refine kFe (v:=?_) rfl (λW=>?_) ?_;rotate_left;(· go_simp;try with_reducible rfl)
    refine jF ?_
   refine pre_nil ?_;iterate 17
    refine ku ?_
   refine jc ?_;have a3:=yD (L.out.trans (Touch.of_below E));replace J:=yD (J.out.below E);obtain ⟨av,b2,bz,ad,bk,bl⟩:=G7;have BK:=kD.kCs J.out an;have a5:j * kY.n=j * 3:=rfl;have X:k * kY.n=k * 3:=rfl;have bh:wS.there b (j * 3) 3:=nG;have bv:wS.there b (k * 3) 3:=nP;obtain ⟨bc,be⟩:=BV;obtain ⟨s1,s2⟩:=kD.kDs (ci:=[.slice bn (x.1).length bo,.int .i64 x.2.1,.int .i64 x.2.2]) (cj:=[.slice ac (y.1).length ay,.int .i64 y.2.1,.int .i64 y.2.2]) J.out an aa hjk rfl rfl bc be (pi:=j * 3) (pj:=k * 3) a5.symm X.symm;have a2:=yD s1;have ba:=yD s2;clear s1 s2 bc be a5 X;obtain ⟨ax,N,F⟩:=CR;refine yI rfl 77 _ _ rfl b (j * 3) (.agg #[.slice ac (y.1).length ay,Qn y.2.1,Qn y.2.2]) [.slice ac (y.1).length ay,.int .i64 y.2.1,.int .i64 y.2.2] rfl bD1 bD1 bh ax F ?_;intro w5 a9;have a8:w5.there b (k * 3) 3:=tF;have b0:=yD a9;clear a9;go_wp2_with (refine yI rfl 77 _ _ rfl b (k * 3) (.agg #[.slice bn (x.1).length bo,Qn x.2.1,Qn x.2.2]) [.slice bn (x.1).length bo,.int .i64 x.2.1,.int .i64 x.2.2] rfl bD1 bD1 a8 ax N ?_);rw [<- b0.out] at a2 ba;generalize b4:kD.setCells w5 b (k * 3) [.slice bn (x.1).length bo,.int .i64 x.2.1,.int .i64 x.2.2]=w6 at *;exact oL
 exact oM
def rot_Route_c {w:Ai} {b n cap a m z:Nat} {xs:Ah ky} {S:Nat->Prop} {g:Bd} {cp:Bf Ag} (h:kD.kR 77 kY w (.slice (some ⟨b,0,none⟩) n cap) xs S) (hn:n=xs.length) (hlen:xs.length<=16777216) (b3:a < m) (bx:m < z) (hz:z<=xs.length) :
    Bh prog 198 #[.slice (some ⟨b,0,none⟩) n cap,.int .i64 (a:Nat),.int .i64 (m:Nat),.int .i64 (z:Nat),.func (.func g) #[] cp] w λe w'=>e=.returned (.tuple #[])/\kD.kR 77 kY w' (.slice (some ⟨b,0,none⟩) n cap) (Srt.rot m (m - a) (z - m) xs) S/\Touch S w w':=by
 have O:=yD h
 have bb:=yD hn
 clear h
 have bj:z<=16777216:=bC9
 have a6:z<=n:=bC9
 have c0:n<=16777216:=bC9
 clear hlen hz hn
 obtain ⟨cg,c4,c3,ck,b9,bt⟩:=GN
 generalize cz:m - a=F at *
 generalize ch:z - m=D at *
 obtain ⟨cc,ai,bu,br,co,bq⟩:=FH
 go_enter func198,ntmps198
 go_wp2
 go_loopw [10,11] (λi j wr=>∃ (p q:Nat) (cu:Ah ky),i=.int .i64 p/\j=.int .i64 q/\0 < p/\0 < q/\p<=m/\m + q<=n/\Hid (Srt.rot m p q cu=Srt.rot m F D xs)/\Hid (cu.length=n)/\Hid (kD.kR 77 kY wr (.slice (some ⟨b,0,none⟩) n cap) cu S)/\Hid (Touch S w wr)) (λi j _=>(Bb i).toNat + (Bb j).toNat)
 case atStart=>exact ⟨F,D,xs,rfl,rfl,by omega,by omega,by omega,by omega,yD rfl,yD bb.out.symm,O,yD (Touch.refl _ _)⟩
 clear b9 bt co bq
 obtain ⟨p,q,cu,rfl,rfl,hp,hq,N,Y,HF,HL,J,L⟩:=hrel
 have bf:=Aa p
 have b8:=Aa q
 have Z:(p:Int)<=m:=bC9
 have ab:(m:Int) + q<=16777216:=bC9
 obtain ⟨mp,cf⟩:∃ mp,m - p=mp:=⟨_,rfl⟩
 have dl:(m:Int) - (p:Int)=(mp:Int):=bC9
 have G:Ac.wrap (mp:Int)=mp:=Ab _ bC9
 have W:=Aa mp
 by_cases cv:p=q
 · subst cv;have HE:=yD ((rot_eq (m:=m) (cu:=cu) rfl).symm.trans HF.out);rw [cf] at HE;have hb:((p:Int) != (p:Int))=false:=bD0;go_wp2_with fail;refine (kHf (n:=n) (b:=b) J.out HL.out.symm vN (a:=mp) (z:=m) (c:=p) bC9 vN).mono ?_;exact oN
 have hb:((p:Int) != (q:Int))=true:=bC4
 have ak:(p != q)=true:=by simpa using cv
 have ar:¬ (p:Int)=q:=bC9
 by_cases aq:q < p
 · have HE:=yD ((rot_gt (m:=m) (cu:=cu) aq hq).symm.trans HF.out);rw [cf] at HE;have al:(q:Int) < p:=bC9;have a1:decide ((p:Int) > q)=true:=bC4;have c6:(p:Int) - (q:Int)=((p - q:Nat):Int):=bC9;generalize I:p - q=E at *;have U:Ac.wrap (E:Int)=E:=Ab _ bC9;go_wp2_with fail;refine (kHf (n:=n) (b:=b) J.out HL.out.symm vN (a:=mp) (z:=m) (c:=q) bC9 vN).mono ?_;exact oO
 have hlt:p < q:=bC9
 have HE:=yD ((rot_lt (m:=m) (cu:=cu) hlt hp).symm.trans HF.out)
 rw [cf] at HE
 have al:¬ (q:Int) < p:=bC9
 have a1:decide ((p:Int) > q)=false:=bC4
 have c6:(q:Int) - (p:Int)=((q - p:Nat):Int):=bC9
 generalize I:q - p=E at *
 have U:Ac.wrap (E:Int)=E:=Ab _ bC9
 have a8:(m:Int) + (q:Int)=((m + q:Nat):Int):=bC9
 generalize aa:m + q=H at *
 have a9:Ac.wrap (H:Int)=H:=Ab _ bC9
 have bd:(H:Int) - (p:Int)=((H - p:Nat):Int):=bC9
 generalize X:H - p=o at *
 have b4:Ac.wrap (o:Int)=o:=Ab _ bC9
 go_wp2_with fail
 refine (kHf (n:=n) (b:=b) J.out HL.out.symm vN (a:=mp) (z:=o) (c:=p) bC9 vN).mono ?_
 exact oP
end Go.Proofs.YtonmjkmaadgceabGreat

/-
  The stable sort, its small parts.
-/
import Derived.Test.YtjhfdpopkkmigabGreatSrt
import Derived.Test.YtjhfdpopkkmigabGreatSoft4
set_option linter.unusedVariables false
set_option linter.defProp false
set_option linter.unusedSimpArgs false
set_option linter.unnecessarySimpa false
set_option maxRecDepth 100000
set_option maxHeartbeats 4000000
open Bool renaming true->Tt,false->Ff
open Int renaming natCast_nonneg->Aa
open Go.IntWalk renaming i64_in->Ab
open Go.IntKind renaming i64->Ac
open List renaming getElem?_cons_succ->Ad,getElem?_cons_zero->Ae,drop_succ_cons->Ak,length_cons->Al,cons_append->Am,length_nil->Ap,nil_append->Aq,length_append->Au,drop_zero->Av,mem_or_eq_of_mem_set->Aw,map_cons->Az,map_nil->Ba,getElem_mem->Be
open Go renaming Value->Ag,World->Ai,FuncId->Bd,TypeId->Bg,Calls->Bh
open _root_ renaming List->Ah,Array->Bf
open Go.Value.slice renaming injEq->Aj
open List.cons renaming injEq->Ar
open Option.some renaming injEq->Ay
open Go.RowKit renaming intOf->Bb
open Go.Addr.mk renaming injEq->Bc
namespace Go.Proofs.YtjhfdpopkkmigabGreat
open Go.RowKit _root_.Go.Proofs.Tryz
namespace kD
section
variable {α:Type} {r:kD α} {e:Bg} {w w' u:Ai} {v:Ag} {b cap len n i j:Nat} {xs:Ah α} {x y:α} {S T:Nat->Prop}
def row_swap {cells:Ah Ag} {F J L:Ah α} (h:row r true w cells (F++x :: (J++y :: L)) S) :
    ∃ d1 cx d2 cy d3,cells=d1++(cx++(d2++(cy++d3)))/\d1.length=F.length * r.n/\cx.length=r.n/\d2.length=J.length * r.n/\cy.length=r.n /\
      row r true w (d1++(cy++(d2++(cx++d3)))) (F++y :: (J++x :: L)) S:=by
 obtain ⟨d1,e1,A1,B1,rfl,r1,⟨cx,e2,N,X,rfl,V,q2,D,E,O⟩,hA1,H,D1⟩:=kGz F h
 obtain ⟨d2,e3,A2,B3,rfl,r2,⟨cy,d3,R,A3,rfl,U,G,o,Y,W⟩,hA2,I,D2⟩:=kGz J q2
 refine ⟨d1,cx,d2,cy,d3,rfl,zH r1,r.len V,zH r2,r.len U,?_⟩
 have t3:row r true w (cx++d3) (x :: L) (λk=>N k\/A3 k):=⟨cx,d3,N,A3,rfl,V,G,λ_=>.inl,λ_=>.inr,λ_ k h1 h2=>O rfl k h1 (I k (Y k h2))⟩
 have t2:row r true w (d2++(cx++d3)) (J++x :: L) (λk=>A2 k\/(N k\/A3 k)):=zx r2 t3 (λ_=>.inl) (λ_=>.inr) (λ_ k h1 h2=>h2.elim (λq=>O rfl k q (hA2 k h1)) (λq=>D2 rfl k h1 (Y k q)))
 have t1:row r true w (cy++(d2++(cx++d3))) (y :: (J++x :: L)) (λk=>R k\/(A2 k\/(N k\/A3 k))):=⟨cy,_,R,_,rfl,U,t2,λ_=>.inl,λ_=>.inr,λ_ k h1 h2=>h2.elim (λq=>D2 rfl k q (o k h1)) (λh2=>h2.elim (λq=>O rfl k q (I k (o k h1))) (λq=>W rfl k h1 q))⟩
 refine zx r1 t1 hA1 ?_ ?_
 · rintro k (q | q | q | q)
   · exact H k (E k (I k (o k q)))
   · exact H k (E k (hA2 k q))
   · exact H k (D k q)
   exact H k (E k (I k (Y k q)))
 rintro _ k h1 (q | q | q | q)
 · exact D1 rfl k h1 (E k (I k (o k q)))
 · exact D1 rfl k h1 (E k (hA2 k q))
 · exact D1 rfl k h1 (D k q)
 exact D1 rfl k h1 (E k (I k (Y k q)))
def kZe {l:Ah α} {i j:Nat} (D:i < j) (hj:j < l.length):∃ F x J y L,l=F++x :: (J++y :: L)/\F.length=i/\J.length=j - i - 1:=by
 refine ⟨l.take i,l[i],(l.drop (i + 1)).take (j - i - 1),l[j],l.drop (j + 1),?_,by simp;omega,by simp;omega⟩;have e1:l=l.take i++l[i] :: l.drop (i + 1):=bH4;have e2:l.drop (i + 1)=(l.drop (i + 1)).take (j - i - 1)++l[j] :: l.drop (j + 1):=by
  have h1:(l.drop (i + 1)).drop (j - i - 1)=l.drop j:=by rw [List.drop_drop];congr 1;omega
  have h2:l.drop j=l[j] :: l.drop (j + 1):=bH4;rw [<- h2,<- h1,List.take_append_drop]
 rw [<- e2,<- e1]
def kRb {cells mid pre L:Ah Ag} {o:Nat} {cs:Ah Ag} {e:Bg} (hc:w.heap[b]?=some (.cells cells.toArray e (0,0))) (he:cells=pre++(mid++L)) (ho:pre.length=o) (hl:cs.length=mid.length)
    (h:∀ q u,cs[q]?=some u->Qc w b (o + q) u):cs=mid:=by
 apply List.ext_getElem hl
 intro q h1 h2
 have:=h q cs[q] (by simp [h1])
 rw [cell_of_row w b _ _ e (0,0) hc] at this
 simp only [List.getElem?_toArray] at this
 rw [he,List.getElem?_append_right bH3,List.getElem?_append_left bH3,show o + q - pre.length=q by omega,List.getElem?_eq_getElem h2] at this
 exact (Option.some.inj this).symm
def kEj (h:kQ e r w (.slice (some ⟨b,0,none⟩) len cap) xs S) (hi:i < xs.length) (hj:j < xs.length) (D:i≠j) {ci cj:Ah Ag} (X:ci.length=r.n) (U:cj.length=r.n)
    (bl:∀ q u,ci[q]?=some u->w.cell? ⟨b,i * r.n + q,none⟩=some u) (bu:∀ q u,cj[q]?=some u->w.cell? ⟨b,j * r.n + q,none⟩=some u) {pi pj:Nat} (cv:pi=i * r.n) (I:pj=j * r.n) :
    kQ e r (setCells (setCells w b pi cj) b pj ci) (.slice (some ⟨b,0,none⟩) len cap) (Srt.sw xs i j) S/\Touch (λk=>k=b) w (setCells (setCells w b pi cj) b pj ci):=by
 subst cv I
 refine ⟨?_,(zR _ _ _ _).trans (zR _ _ _ _)⟩
 obtain ⟨hb,h⟩:=h
 rcases h with ⟨⟨a,h0⟩,rfl⟩|⟨b',cap',cur,cs,tl,h0,h1,h2,h3,h4,h5,h6,h7⟩
 · simp at hi
 simp only [Aj,Ay,Bc,and_true] at h0
 obtain ⟨rfl,rfl,rfl⟩:=h0
 have o:cur=(cs++tl).toArray:=bH1
 subst o
 have N:∀ z∈Srt.sw xs i j,r.bdd Big z:=by
  intro z hz;rw [Srt.jAv hi hj] at hz;rcases Aw hz with q | q
  · rcases Aw q with q | q
    · exact hb z q
    rw [q];exact hb _ (Be hj)
  rw [q];exact hb _ (Be hi)
 have hlen:=Srt.kAw xs i j
 refine ⟨N,.inr ⟨b,cap,?_⟩⟩
 suffices hh:∃ cs',(setCells (setCells w b (i * r.n) cj) b (j * r.n) ci).heap[b]?=some (.cells (cs'++tl).toArray e (0,0))/\cs'.length=cs.length/\row r true w cs' (Srt.sw xs i j) (λk=>S k/\k≠b) by
   obtain ⟨cs',g1,g2,g3⟩:=hh;refine ⟨_,cs',tl,by rw [hlen],by rw [hlen];exact h1,h2,g1,by simp,?_,h6,?_⟩
   · rw [<- h5];simp [g2]
   · exact yI g3 (λk hk=>by rw [kAf _ _ _ _ _ hk.2,kAf _ _ _ _ _ hk.2])
 rcases Nat.lt_or_gt_of_ne D with q | q
 · obtain ⟨F,x,J,y,L,rfl,G,O⟩:=kZe q hj;obtain ⟨d1,cx,d2,cy,d3,rfl,m1,W,m2,V,hr⟩:=row_swap h7;have e1:ci=cx:=kRb h3 (show _=d1++(cx++((d2++(cy++d3))++tl)) by simp) (by rw [m1,G]) bH3 bl;have e2:cj=cy:=kRb h3 (show _=(d1++(cx++d2))++(cy++(d3++tl)) by simp) (by
     simp only [Au];rw [m1,W,m2,G,O];have:j=i + 1 + (j - i - 1):=by omega
     generalize j - i - 1=t at *;subst this;simp only [Nat.add_mul];omega) bH3 bu
   subst e1 e2;have R:(d1++(cj++d2)).length=j * r.n:=by
    simp only [Au];rw [m1,U,m2,G,O];have:j=i + 1 + (j - i - 1):=by omega
    generalize j - i - 1=t at *;subst this;simp only [Nat.add_mul];omega
   refine ⟨d1++(cj++(d2++(ci++d3))),?_,by simp;omega,?_⟩
   · have g1:=kAb (e:=e) cj ci d1 ((d2++(cj++d3))++tl) w b (i * r.n) (by rw [h3];simp) (by rw [m1,G]) bH3;have g2:=kAb (e:=e) ci cj (d1++(cj++d2)) (d3++tl) _ b (j * r.n) (by rw [g1];simp) R bH3;rw [g2];simp
   have E:=Srt.kJf F J L x y (i:=i) (j:=j) G.symm bH3;rw [show F++x :: (J++y :: L)=F++x :: J++y :: L by simp,E];simpa using hr
 obtain ⟨F,y,J,x,L,rfl,G,O⟩:=kZe q hi
 obtain ⟨d1,cy,d2,cx,d3,rfl,m1,V,m2,W,hr⟩:=row_swap h7
 have H:∀ z:Ah Ag,z.length=r.n->(d1++(z++d2)).length=i * r.n:=by
  intro z hz;simp only [Au];rw [m1,hz,m2,G,O];have:i=j + 1 + (i - j - 1):=by omega
  generalize i - j - 1=t at *;subst this;simp only [Nat.add_mul];omega
 have e1:cj=cy:=kRb h3 (show _=d1++(cy++((d2++(cx++d3))++tl)) by simp) (by rw [m1,G]) bH3 bu
 have e2:ci=cx:=kRb h3 (show _=(d1++(cy++d2))++(cx++(d3++tl)) by simp) (H _ V) bH3 bl
 subst e1 e2
 refine ⟨d1++(ci++(d2++(cj++d3))),?_,by simp;omega,?_⟩
 · have g1:=kAb (e:=e) cj ci (d1++(cj++d2)) (d3++tl) w b (i * r.n) (by rw [h3];simp) (H _ U) bH3;have g2:=kAb (e:=e) ci cj d1 ((d2++(cj++d3))++tl) _ b (j * r.n) (by rw [g1];simp) (by rw [m1,G]) bH3;rw [g2];simp
 have E:=Srt.kJf F J L y x (i:=j) (j:=i) G.symm bH3
 rw [Srt.jAw,show F++y :: (J++x :: L)=F++y :: J++x :: L by simp,E]
 simpa using hr
end
end kD
def kRz {P:Program} (w:Ai) (b o:Nat) (ty:Bg) (v:Ag) (cs:Ah Ag) (V:v.cells=cs.toArray) (ht:w.there b o cs.length) (hi:(P.info? ty).map (·.size)=some cs.length) (h1:∀ c∈cs,c.oneCell'=true) :
    (storeVar ty ⟨b,o,none⟩ v).run P w=.ok () (kD.setCells w b o cs):=by
 have:=run_storeCells_cells (P:=P) b o cs 0 w (λj hj=>by simpa using (ht j bD9).1) (λj hj=>by simpa using (ht j bD9).2) h1
 cases hq:P.info? ty with
 | none=>simp [hq] at hi
 | some i =>
   have hs:cs.length=i.size:=by simp [hq] at hi;omega
   simp only [Nat.add_zero] at this;rw [<- kD.kGt];simp [storeVar,sizeOf,typeInfo,hq,V,hs,this]
def wp_storeV {P:Program} {R:Oper} {a:Act} {w:Ai} {K:Act->Ai->Prop} {Q:Exit->Act->Ai->Prop} (ty:Bg) (x y:Operand) (ho:R.op=.store ty x y)
    (b o:Nat) (v:Ag) (cs:Ah Ag) (V:v.cells=cs.toArray) (hx:a.eval x=.pointer (some ⟨b,o,none⟩)) (hy:a.eval y=v)
    (ht:w.there b o cs.length) (hi:(P.info? ty).map (·.size)=some cs.length) (h1:∀ c∈cs,c.oneCell'=true)
    (h:∀ w',w'=kD.setCells w b o cs->K (a.put R.dst undef) w'):R.wp P a w K Q:=by
 unfold Oper.wp execOp
 simp only [ho,hx,hy,Instr.storeAt,Instr.sureAddr,Sem.run_bind,Sem.run_pure,Result.andThen_ok,kRz w b o ty v cs V ht hi h1]
 exact h _ rfl
def yK {P:Program} {ops:Bf Oper} {rest:Ah Oper} {R:Oper} {a:Act} {w:Ai} {Q:Exit->Act->Ai->Prop} (E:R.guard=none) (ty:Bg) (x y:Operand) (ho:R.op=.store ty x y)
    (b o:Nat) (v:Ag) (cs:Ah Ag) (V:v.cells=cs.toArray) (hx:a.eval x=.pointer (some ⟨b,o,none⟩)) (hy:a.eval y=v)
    (ht:w.there b o cs.length) (hi:(P.info? ty).map (·.size)=some cs.length) (h1:∀ c∈cs,c.oneCell'=true)
    (h:∀ w',w'=kD.setCells w b o cs->wpList P ops Q rest (a.put R.dst undef) w'):wpList P ops Q (R :: rest) a w :=
  wpList_plain E λ_ H=>wp_storeV ty x y ho b o v cs V hx hy ht hi h1 (λw' hw=>H _ _ (h w' hw))
namespace kD
section
variable {α:Type} {r:kD α} {e:Bg} {w w' u:Ai} {v:Ag} {b cap len n i j:Nat} {xs:Ah α} {x y:α} {S T:Nat->Prop}
def kEg {m o p:Nat} {cs:Ah Ag} (h:w.there b o m):(setCells w b p cs).there b o m:=by
 rw [<- kGt];exact World.there_setCells h b p cs
def zN (h:kQ e r w (.slice (some ⟨b,0,none⟩) len cap) xs S) (hi:i < xs.length):w.there b (i * r.n) r.n:=by
 obtain ⟨hb,h⟩:=h;rcases h with ⟨⟨a,h0⟩,rfl⟩|⟨b',cap',cur,cs,tl,h0,h1,h2,h3,h4,h5,h6,h7⟩
 · simp at hi
 simp only [Aj,Ay,Bc,and_true] at h0;obtain ⟨rfl,rfl,rfl⟩:=h0;intro j hj;have hlt:i * r.n + j < cur.size:=by
  rw [h5];have:(i + 1) * r.n<=cap * r.n:=Nat.mul_le_mul_right _ bH3;rw [Nat.add_mul] at this;omega
 refine ⟨?_,frozen_of_row w b _ _ _ h3⟩;rw [cell_of_row w b _ _ e (0,0) h3,Array.getElem?_eq_getElem hlt];rfl
def kCz (h:kQ e r w (.slice (some ⟨b,0,none⟩) len cap) xs S) (hi:i < xs.length):S b/\b < w.heap.size:=by
 obtain ⟨b',cap',h0,h1,h2,_⟩:=zy h hi;simp only [Aj,Ay,Bc,and_true] at h0;obtain ⟨rfl,_,_⟩:=h0;exact ⟨h1,h2⟩
end
end kD
def kEf {S:Nat->Prop} {b:Nat} {w w':Ai} (h:Touch (λk=>k=b) w w') (hb:S b):Touch S w w':=h.wide (λk hk=>hk ▸ hb)
namespace kD
def kMw {w:Ai} {b o:Nat} {c0:Ag} (h0:Qc w b o c0):∀ q u,([c0]:Ah Ag)[q]?=some u->Qc w b (o + q) u:=by
 intro q u hq
 match q with
 | 0=>simp at hq;subst hq;exact h0
 | q + 1=>simp at hq
def cells3 {w:Ai} {b o:Nat} {c0 c1 c2:Ag} (h0:Qc w b o c0) (h1:Qc w b (o + 1) c1) (h2:Qc w b (o + 2) c2):∀ q u,([c0,c1,c2]:Ah Ag)[q]?=some u->Qc w b (o + q) u:=by
 intro q u hq
 match q with
 | 0=>simp at hq;subst hq;exact h0
 | 1=>simp at hq;subst hq;exact h1
 | 2=>simp at hq;subst hq;exact h2
 | q + 3=>simp at hq
end kD
def kZy {α:Type} {key:α->Int} {a j k:Nat} {cu:Ah α} (hk:k + 1=j) (ha:a < j) (hj:j < cu.length) (hkl:k < cu.length) (h:decide (key cu[j] < key cu[k])=true):Srt.inner key a j cu=Srt.inner key a k (Srt.sw cu j k):=by
 subst hk;have h:=of_decide_eq_true h;rw [Srt.inner,if_pos ⟨ha,by rw [Srt.zZ hj,Srt.zZ hkl];exact h⟩]
def inner_no {α:Type} {key:α->Int} {a j k:Nat} {cu:Ah α} (hk:k + 1=j) (hj:j < cu.length) (hkl:k < cu.length) (h:decide (key cu[j] < key cu[k])=false):Srt.inner key a j cu=cu:=by
 subst hk;have h:=of_decide_eq_false h;rw [Srt.inner,if_neg (by rintro ⟨_,q⟩;rw [Srt.zZ hj,Srt.zZ hkl] at q;exact h q)]
def kXc {α:Type} {key:α->Int} {a j:Nat} {cu:Ah α} (ha:¬ a < j):Srt.inner key a j cu=cu:=by
 cases j with
 | zero=>rfl
 | succ j=>rw [Srt.inner,if_neg (by rintro ⟨q,_⟩;exact ha q)]
def kWn {α:Type} {key:α->Int} {a z i:Nat} {cu:Ah α} (h:i < z):Srt.outer key a (z - i) i cu=Srt.outer key a (z - (i + 1)) (i + 1) (Srt.inner key a i cu):=by
 rw [show z - i=(z - (i + 1)) + 1 by omega,Srt.outer]
def kZu {α:Type} {key:α->Int} {a z i:Nat} {cu:Ah α} (h:¬ i < z):Srt.outer key a (z - i) i cu=cu:=by
 rw [show z - i=0 by omega,Srt.outer]
def swr_next {α:Type} {n a b i:Nat} {cu:Ah α} (h:i < n):Srt.swr (n - i) (a + i) (b + i) cu=Srt.swr (n - (i + 1)) (a + (i + 1)) (b + (i + 1)) (Srt.sw cu (a + i) (b + i)):=by
 rw [show n - i=(n - (i + 1)) + 1 by omega,Srt.swr];rfl
def swr_end {α:Type} {n a b i:Nat} {cu:Ah α} (h:¬ i < n):Srt.swr (n - i) (a + i) (b + i) cu=cu:=by
 rw [show n - i=0 by omega,Srt.swr]
def kFg (key:Int->Int) (g:Bd) (cp:Bf Ag) (S:Nat->Prop) (w0:Ai):Prop :=
  ∀ wr,Touch S w0 wr->∀ x y c d,kD.int.raw wr [c] x->kD.int.raw wr [d] y->Bh prog g (#[c,d]++cp) wr (λe w'=>∃ k:Int,e=.returned (.int .i64 k)/\decide (k < 0)=decide (key x < key y)/\Qb wr w')
def kQp {w:Ai} {b n cap a z:Nat} {xs:Ah Int} {S:Nat->Prop} {g:Bd} {cp:Bf Ag} (key:Int->Int) (hg:jK prog g) (F:kFg key g cp S w) (h:kD.kQ 3 kD.int w (.slice (some ⟨b,0,none⟩) n cap) xs S) (hn:n=xs.length) (hlen:xs.length<=16777216) (b7:a<=z) (hz:z<=xs.length) :
    Bh prog 198 #[.slice (some ⟨b,0,none⟩) n cap,.int .i64 (a:Nat),.int .i64 (z:Nat),.func (.func g) #[] cp] w λe w'=>e=.returned (.tuple #[])/\kD.kQ 3 kD.int w' (.slice (some ⟨b,0,none⟩) n cap) (Srt.kCb key a z xs) S/\Touch S w w':=by
 have au:=yD F
 unfold jK at hg
 have O:=yD h
 have bc:=yD hn
 clear h F
 have bo:z<=16777216:=bH3
 have a9:z<=n:=bH3
 clear hlen hz hn
 obtain ⟨cl,bi⟩:=J4
 have b4:(a:Int)<=z:=bH3
 have cm:(z:Int)<=16777216:=bH3
 have ai:n<=cap\/xs=[]:=by
  rcases O.out.2 with ⟨_,q⟩|⟨_,_,_,_,_,q,q2,_⟩
  · exact .inr q
  simp only [Aj] at q;left;omega
 clear ai
 go_enter func198,ntmps198
 go_wp2
 go_loopw [8] (λi wr=>∃ (m:Nat) (cur:Ah Int),i=.int .i64 m/\a + 1<=m/\(m<=z\/m=a + 1)/\Hid (Srt.outer key a (z - m) m cur=Srt.kCb key a z xs)/\Hid (cur.length=n)/\Hid (kD.kQ 3 kD.int wr (.slice (some ⟨b,0,none⟩) n cap) cur S)/\Hid (Touch S w wr)) (λi _=>z - (Bb i).toNat)
 case atStart=>exact ⟨a + 1,xs,by go_num,Nat.le_refl _,.inr rfl,yD rfl,yD bc.out.symm,O,yD (Touch.refl _ _)⟩
 obtain ⟨i,cur,rfl,be,hi2,HF,ap,I,L⟩:=hrel
 have cz:=Aa i
 by_cases hlt:i < z
 · have cv:(i:Int) < z:=bH3;have an:=yD (kWn (key:=key) (a:=a) (cu:=cur) hlt);go_wp2;go_loopw [9] (λj wr=>∃ (m:Nat) (cu:Ah Int),j=.int .i64 m/\a<=m/\m<=i/\Hid (Srt.inner key a m cu=Srt.inner key a i cur)/\Hid (cu.length=n)/\Hid (kD.kQ 3 kD.int wr (.slice (some ⟨b,0,none⟩) n cap) cu S)/\Hid (Touch S w wr)) (λj _=>(Bb j).toNat);case atStart=>exact ⟨i,cur,rfl,by omega,Nat.le_refl _,yD rfl,ap,I,L⟩
   obtain ⟨j,cu,rfl,bk,bf,al,N,R,aa⟩:=hrel;have bz:=Aa j;have c2:(j:Int) < z:=bH3;by_cases D:a < j
   · obtain ⟨k,hk⟩:∃ k,k + 1=j:=⟨j - 1,by omega⟩;have aj:j < cu.length:=bC8;have hkl:k < cu.length:=bH3;obtain ⟨ad,du,c9,co,ce,bd,hw,hp,ch,ck,HY,a4⟩:=CP;obtain ⟨bm,pr,aq⟩:=kD.at1 R.out.kBi aj rfl;obtain ⟨aw,ae⟩:=kD.je pr;obtain rfl:bm=_:=by simpa using aw
     clear aw ae;obtain ⟨Y,qr,J⟩:=kD.at1 R.out.kBi hkl rfl;obtain ⟨G,ac⟩:=kD.je qr;obtain rfl:Y=_:=by simpa using G
     clear G ac;generalize cu[j]=x at *;generalize cu[k]=y at *;go_upto_region 4 with fail;have FX:=yD (λ(W:Ai) (hW:Qb wr W)=>kIz hW aq J);refine kK (λW=>Qb wr W) [Tt,Tt,Tt,Tt,Tt,Tt,Tt,Tt,Tt,Tt,Tt,Tt,Tt,Tt,Ff,Tt,Tt] bG6 bG6 qY (bR.drew) ?_;intro wS E;iterate 3
      all_goals refine ky ?_
     all_goals (refine jy λb bh=>?_;cases b <;> try simp only [jw] at bh)
     iterate 10
      all_goals refine ky ?_
     all_goals first|(refine kJ rfl E ?_)|(refine kw rfl (λK H=>?_);go_simp;refine (au.out _ (aa.out.trans (Touch.of_below E)) _ _ _ _ (kD.raw.below pr E) (kD.raw.below qr E)).mono ?_;rintro e wS1 ⟨kk,rfl,bn,Z⟩;replace E:=(tQ E Z);refine H _ _ E ?_;clear H K Z)
     all_goals refine jG ?_
     all_goals refine ky ?_
     all_goals (refine jy λb V=>?_;cases b <;> try simp only [jw] at V)
     all_goals refine kS ?_
     all_goals have ay:=yD (aa.out.trans (Touch.of_below E))
     all_goals replace R:=yD (R.out.below E)
     all_goals first
       | (have X:=yD (show decide (key x < key y)=false by first|(exact V)|(simpa using V)|(rw [<- bn];simpa using V));have af:Hid (cu=Srt.inner key a i cur):=yD (a4.out X.out);clear a4 HY bn V;have bv:=R;have ax:Hid (Srt.outer key a (z - (i + 1)) (i + 1) cu=Srt.kCb key a z xs):=yD rV;go_wp2;go_roundw;(case rel=>exact ⟨i + 1,cu,by go_num,by omega,.inl bH3,ax,N,bv,ay⟩);(case measure=>simp [Bb];omega))
       | have X:=yD (show decide (key x < key y)=true by first|(exact V)|(simpa using V)|(rw [<- bn];simpa using V))
     have b6:=yD (HY.out X.out);clear HY a4 bn V X;replace aq:=cL E aq;replace J:=cL E J;clear E;generalize wS1=cc at *;go_upto_region 6 with fail;have FX:=yD (λ(W:Ai) (hW:Qb cc W)=>kIz hW aq J);refine ym (λW=>Qb cc W) [2,3,4] [(0,true),(1,true),(5,true),(6,true),(7,true),(8,true),(9,true),(10,true),(11,true),(12,true),(13,true),(14,true)] bG6 bG6 qY (bR.drew) ?_;intro wS E;simp only [jB,zO,Al,Ap,Ad,Ae,Az,Ba,Am,Aq,Ak,Av,Nat.reduceAdd,Nat.zero_add];iterate 3
      refine kGe (v:=?_) rfl (λW=>?_) ?_;rotate_left;(· go_simp;try with_reducible rfl)
      refine jG ?_
     refine pre_nil ?_;iterate 12
      refine ky ?_
     refine yG ?_;replace ay:=yD (ay.out.trans (Touch.of_below E));replace R:=yD (R.out.below E);replace aq:=cL E aq;replace J:=cL E J;have BK:=kD.kCz R.out aj;have a5:j * kD.int.n=j:=Nat.mul_one _;have a1:k * kD.int.n=k:=Nat.mul_one _;have bx:wS.there b (j) 1:=pR;have b0:wS.there b (k) 1:=pF;obtain ⟨bl,bu⟩:=F9;obtain ⟨s1,s2⟩:=kD.kEj (ci:=[.int .i64 x]) (cj:=[.int .i64 y]) R.out aj hkl bH3 rfl rfl bl bu (pi:=j) (pj:=k) a5.symm a1.symm;have ao:=yD s1;have bg:=yD s2;clear s1 s2 bl bu a5 a1;obtain ⟨U,av,ab⟩:=GY;refine yK rfl 3 _ _ rfl b (j) (.int .i64 y) [.int .i64 y] rfl bH5 bH5 bx U ab ?_;intro w5 ba;have bb:w5.there b (k) 1:=vW;have b1:=yD ba;clear ba;go_wp2_with (refine yK rfl 3 _ _ rfl b (k) (.int .i64 x) [.int .i64 x] rfl bH5 bH5 bb U av ?_);rw [<- b1.out] at ao bg;generalize b5:kD.setCells w5 b (k) [.int .i64 x]=w6 at *;exact oM
   obtain ⟨c1,hp,ch,af⟩:=I8;go_upto_region 4 with fail;refine kK (λW=>Qb wr W) [Tt,Tt,Tt,Tt,Tt,Tt,Tt,Tt,Tt,Tt,Tt,Tt,Tt,Tt,Ff,Tt,Tt] bG6 bG6 qY (bR.drew) ?_;intro wS E;iterate 3
    all_goals refine ky ?_
   all_goals (refine jy λb bh=>?_;cases b <;> try simp only [jw] at bh)
   iterate 10
    all_goals refine ky ?_
   all_goals first|(refine kJ rfl E ?_)|(fail)
   all_goals refine jG ?_
   all_goals refine ky ?_
   all_goals (refine jy λb V=>?_;cases b <;> try simp only [jw] at V)
   all_goals refine kS ?_
   all_goals have ay:=yD (aa.out.trans (Touch.of_below E))
   all_goals have bv:=yD (R.out.below E)
   exact oN
 exact oO
def kBs (key:jA->Int) (g:Bd) (cp:Bf Ag) (S:Nat->Prop) (w0:Ai):Prop :=
  ∀ wr,Touch S w0 wr->∀ x y cs ds,kY.raw wr cs x->kY.raw wr ds y->Bh prog g (#[.agg cs.toArray,.agg ds.toArray]++cp) wr (λe w'=>∃ k:Int,e=.returned (.int .i64 k)/\decide (k < 0)=decide (key x < key y)/\Qb wr w')
def kMo {w:Ai} {b n cap a z:Nat} {xs:Ah jA} {S:Nat->Prop} {g:Bd} {cp:Bf Ag} (key:jA->Int) (hg:jK prog g) (F:kBs key g cp S w) (h:kD.kQ 144 kY w (.slice (some ⟨b,0,none⟩) n cap) xs S) (hn:n=xs.length) (hlen:xs.length<=16777216) (b7:a<=z) (hz:z<=xs.length) :
    Bh prog 196 #[.slice (some ⟨b,0,none⟩) n cap,.int .i64 (a:Nat),.int .i64 (z:Nat),.func (.func g) #[] cp] w λe w'=>e=.returned (.tuple #[])/\kD.kQ 144 kY w' (.slice (some ⟨b,0,none⟩) n cap) (Srt.kCb key a z xs) S/\Touch S w w':=by
 have au:=yD F
 unfold jK at hg
 have O:=yD h
 have bc:=yD hn
 clear h F
 have bo:z<=16777216:=bH3
 have a9:z<=n:=bH3
 clear hlen hz hn
 obtain ⟨cl,bi⟩:=J4
 have b4:(a:Int)<=z:=bH3
 have cm:(z:Int)<=16777216:=bH3
 have ai:n<=cap\/xs=[]:=by
  rcases O.out.2 with ⟨_,q⟩|⟨_,_,_,_,_,q,q2,_⟩
  · exact .inr q
  simp only [Aj] at q;left;omega
 clear ai
 go_enter func196,ntmps196
 go_wp2
 go_loopw [8] (λi wr=>∃ (m:Nat) (cur:Ah jA),i=.int .i64 m/\a + 1<=m/\(m<=z\/m=a + 1)/\Hid (Srt.outer key a (z - m) m cur=Srt.kCb key a z xs)/\Hid (cur.length=n)/\Hid (kD.kQ 144 kY wr (.slice (some ⟨b,0,none⟩) n cap) cur S)/\Hid (Touch S w wr)) (λi _=>z - (Bb i).toNat)
 case atStart=>exact ⟨a + 1,xs,by go_num,Nat.le_refl _,.inr rfl,yD rfl,yD bc.out.symm,O,yD (Touch.refl _ _)⟩
 obtain ⟨i,cur,rfl,be,hi2,HF,ap,I,L⟩:=hrel
 have cz:=Aa i
 by_cases hlt:i < z
 · have cv:(i:Int) < z:=bH3;have an:=yD (kWn (key:=key) (a:=a) (cu:=cur) hlt);go_wp2;go_loopw [9] (λj wr=>∃ (m:Nat) (cu:Ah jA),j=.int .i64 m/\a<=m/\m<=i/\Hid (Srt.inner key a m cu=Srt.inner key a i cur)/\Hid (cu.length=n)/\Hid (kD.kQ 144 kY wr (.slice (some ⟨b,0,none⟩) n cap) cu S)/\Hid (Touch S w wr)) (λj _=>(Bb j).toNat);case atStart=>exact ⟨i,cur,rfl,by omega,Nat.le_refl _,yD rfl,ap,I,L⟩
   obtain ⟨j,cu,rfl,bk,bf,al,N,R,aa⟩:=hrel;have bz:=Aa j;have c2:(j:Int) < z:=bH3;by_cases D:a < j
   · obtain ⟨k,hk⟩:∃ k,k + 1=j:=⟨j - 1,by omega⟩;have aj:j < cu.length:=bC8;have hkl:k < cu.length:=bH3;obtain ⟨ad,du,c9,co,ce,bd,hw,hp,ch,ck,HY,a4⟩:=CP;obtain ⟨bm,cf,cd,pr,aq,bq,bp⟩:=kD.at3 R.out.kBi aj rfl;obtain ⟨b8,aw,a7,bj,bw,b3⟩:=jS pr;simp only [Ar,and_true] at aw;obtain ⟨rfl,rfl,rfl⟩:=aw;obtain ⟨a2,a3,rfl,cg⟩:=kD.sl bj;clear a7 bj bw b3;obtain ⟨Y,ae,ah,qr,J,br,bt⟩:=kD.at3 R.out.kBi hkl rfl;obtain ⟨a6,G,ag,ak,am,ar⟩:=jS qr;simp only [Ar,and_true] at G;obtain ⟨rfl,rfl,rfl⟩:=G;obtain ⟨ac,az,rfl,a8⟩:=kD.sl ak;clear ag ak am ar;generalize cu[j]=x at *;generalize cu[k]=y at *;go_upto_region 4 with fail;have FX:=yD (λ(W:Ai) (hW:Qb wr W)=>kIy hW aq bq bp J br bt);refine kK (λW=>Qb wr W) [Tt,Tt,Tt,Tt,Tt,Tt,Tt,Tt,Tt,Tt,Tt,Tt,Tt,Tt,Ff,Tt,Tt] bG6 bG6 qY (bR.drew) ?_;intro wS E;iterate 3
      all_goals refine ky ?_
     all_goals (refine jy λb bh=>?_;cases b <;> try simp only [jw] at bh)
     iterate 10
      all_goals refine ky ?_
     all_goals first|(refine kJ rfl E ?_)|(refine kw rfl (λK H=>?_);go_simp;refine (au.out _ (aa.out.trans (Touch.of_below E)) _ _ _ _ (kD.raw.below pr E) (kD.raw.below qr E)).mono ?_;rintro e wS1 ⟨kk,rfl,bn,Z⟩;replace E:=(tQ E Z);refine H _ _ E ?_;clear H K Z)
     all_goals refine jG ?_
     all_goals refine ky ?_
     all_goals (refine jy λb V=>?_;cases b <;> try simp only [jw] at V)
     all_goals refine kS ?_
     all_goals have ay:=yD (aa.out.trans (Touch.of_below E))
     all_goals replace R:=yD (R.out.below E)
     all_goals first
       | (have X:=yD (show decide (key x < key y)=false by first|(exact V)|(simpa using V)|(rw [<- bn];simpa using V));have af:Hid (cu=Srt.inner key a i cur):=yD (a4.out X.out);clear a4 HY bn V;have bv:=R;have ax:Hid (Srt.outer key a (z - (i + 1)) (i + 1) cu=Srt.kCb key a z xs):=yD rV;go_wp2;go_roundw;(case rel=>exact ⟨i + 1,cu,by go_num,by omega,.inl bH3,ax,N,bv,ay⟩);(case measure=>simp [Bb];omega))
       | have X:=yD (show decide (key x < key y)=true by first|(exact V)|(simpa using V)|(rw [<- bn];simpa using V))
     have b6:=yD (HY.out X.out);clear HY a4 bn V X;obtain ⟨aq,bq,bp,J,br,bt⟩:=I4;clear E;generalize wS1=cc at *;go_upto_region 6 with fail;have FX:=yD (λ(W:Ai) (hW:Qb cc W)=>kIy hW aq bq bp J br bt);refine ym (λW=>Qb cc W) [2,3,4] [(0,true),(1,true),(5,true),(6,true),(7,true),(8,true),(9,true),(10,true),(11,true),(12,true),(13,true),(14,true)] bG6 bG6 qY (bR.drew) ?_;intro wS E;simp only [jB,zO,Al,Ap,Ad,Ae,Az,Ba,Am,Aq,Ak,Av,Nat.reduceAdd,Nat.zero_add];iterate 3
      refine kGe (v:=?_) rfl (λW=>?_) ?_;rotate_left;(· go_simp;try with_reducible rfl)
      refine jG ?_
     refine pre_nil ?_;iterate 12
      refine ky ?_
     refine yG ?_;replace ay:=yD (ay.out.trans (Touch.of_below E));replace R:=yD (R.out.below E);obtain ⟨aq,bq,bp,J,br,bt⟩:=I4;have BK:=kD.kCz R.out aj;have a5:j * kY.n=j * 3:=rfl;have a1:k * kY.n=k * 3:=rfl;have bx:wS.there b (j * 3) 3:=pR;have b0:wS.there b (k * 3) 3:=pF;obtain ⟨bl,bu⟩:=CS;obtain ⟨s1,s2⟩:=kD.kEj (ci:=[.slice a2 (x.1).length a3,.int .i64 x.2.1,.int .i64 x.2.2]) (cj:=[.slice ac (y.1).length az,.int .i64 y.2.1,.int .i64 y.2.2]) R.out aj hkl bH3 rfl rfl bl bu (pi:=j * 3) (pj:=k * 3) a5.symm a1.symm;have ao:=yD s1;have bg:=yD s2;clear s1 s2 bl bu a5 a1;obtain ⟨U,av,ab⟩:=DF;refine yK rfl 144 _ _ rfl b (j * 3) (.agg #[.slice ac (y.1).length az,Qn y.2.1,Qn y.2.2]) [.slice ac (y.1).length az,.int .i64 y.2.1,.int .i64 y.2.2] rfl bH5 bH5 bx U ab ?_;intro w5 ba;have bb:w5.there b (k * 3) 3:=vW;have b1:=yD ba;clear ba;go_wp2_with (refine yK rfl 144 _ _ rfl b (k * 3) (.agg #[.slice a2 (x.1).length a3,Qn x.2.1,Qn x.2.2]) [.slice a2 (x.1).length a3,.int .i64 x.2.1,.int .i64 x.2.2] rfl bH5 bH5 bb U av ?_);rw [<- b1.out] at ao bg;generalize b5:kD.setCells w5 b (k * 3) [.slice a2 (x.1).length a3,.int .i64 x.2.1,.int .i64 x.2.2]=w6 at *;exact oM
   obtain ⟨c1,hp,ch,af⟩:=I8;go_upto_region 4 with fail;refine kK (λW=>Qb wr W) [Tt,Tt,Tt,Tt,Tt,Tt,Tt,Tt,Tt,Tt,Tt,Tt,Tt,Tt,Ff,Tt,Tt] bG6 bG6 qY (bR.drew) ?_;intro wS E;iterate 3
    all_goals refine ky ?_
   all_goals (refine jy λb bh=>?_;cases b <;> try simp only [jw] at bh)
   iterate 10
    all_goals refine ky ?_
   all_goals first|(refine kJ rfl E ?_)|(fail)
   all_goals refine jG ?_
   all_goals refine ky ?_
   all_goals (refine jy λb V=>?_;cases b <;> try simp only [jw] at V)
   all_goals refine kS ?_
   all_goals have ay:=yD (aa.out.trans (Touch.of_below E))
   all_goals have bv:=yD (R.out.below E)
   exact oN
 exact oO
def rot_eq {α:Type} {m p q:Nat} {cu:List α} (h:p=q):Srt.rot m p q cu=Srt.swr p (m - p) m cu:=by rw [Srt.rot,if_pos h]
def rot_gt {α:Type} {m p q:Nat} {cu:Ah α} (h:q < p) (hq:0 < q):Srt.rot m p q cu=Srt.rot m (p - q) q (Srt.swr q (m - p) m cu):=by
 rw [Srt.rot,if_neg bH3,dif_pos ⟨by omega,hq⟩,if_pos h]
def rot_lt {α:Type} {m p q:Nat} {cu:Ah α} (h:p < q) (hp:0 < p):Srt.rot m p q cu=Srt.rot m p (q - p) (Srt.swr p (m - p) (m + q - p) cu):=by
 rw [Srt.rot,if_neg bH3,dif_pos ⟨hp,by omega⟩,if_neg bH3]
def kLx {w:Ai} {b n cap a z c:Nat} {xs:Ah Int} {S:Nat->Prop} {g:Bd} {cp:Bf Ag} (h:kD.kQ 3 kD.int w (.slice (some ⟨b,0,none⟩) n cap) xs S) (hn:n=xs.length) (hlen:xs.length<=16777216) (b7:a + c<=z) (hz:z + c<=xs.length) :
    Bh prog 229 #[.slice (some ⟨b,0,none⟩) n cap,.int .i64 (a:Nat),.int .i64 (z:Nat),.int .i64 (c:Nat),.func (.func g) #[] cp] w λe w'=>e=.returned (.tuple #[])/\kD.kQ 3 kD.int w' (.slice (some ⟨b,0,none⟩) n cap) (Srt.swr c a z xs) S/\Touch S w w':=by
 have O:=yD h
 have bc:=yD hn
 clear h
 have bo:z + c<=16777216:=bH3
 have a9:z + c<=n:=bH3
 clear hlen hz hn
 obtain ⟨cl,bi⟩:=J4
 have hc0:=Aa c
 have b4:(a:Int)<=z:=bH3
 have cm:(z:Int) + c<=16777216:=bH3
 go_enter func229,ntmps229
 go_wp2
 go_loopw [10] (λi wr=>∃ (m:Nat) (cu:Ah Int),i=.int .i64 m/\m<=c/\Hid (Srt.swr (c - m) (a + m) (z + m) cu=Srt.swr c a z xs)/\Hid (cu.length=n)/\Hid (kD.kQ 3 kD.int wr (.slice (some ⟨b,0,none⟩) n cap) cu S)/\Hid (Touch S w wr)) (λi _=>c - (Bb i).toNat)
 case atStart=>exact ⟨0,xs,rfl,Nat.zero_le _,yD rfl,yD bc.out.symm,O,yD (Touch.refl _ _)⟩
 obtain ⟨i,cu,rfl,be,HF,HL,I,L⟩:=hrel
 have cz:=Aa i
 by_cases hlt:i < c
 · have cv:(i:Int) < c:=bH3;have b6:=yD ((swr_next (a:=a) (b:=z) (cu:=cu) hlt).symm.trans HF.out);have F:a + i < cu.length:=bB3;have D:z + i < cu.length:=bB3;obtain ⟨j,hj⟩:∃ j,a + i=j:=⟨_,rfl⟩;obtain ⟨k,hk⟩:∃ k,z + i=k:=⟨_,rfl⟩;have aj:j < cu.length:=bH3;have hkl:k < cu.length:=bH3;have hjk:j≠k:=bH3;rw [hj,hk] at b6;obtain ⟨bz,ce,c9,co,ch,bn,N,R,c8,H⟩:=DY;clear F D;obtain ⟨bm,pr,aq⟩:=kD.at1 I.out.kBi aj rfl;obtain ⟨aw,ae⟩:=kD.je pr;obtain rfl:bm=_:=by simpa using aw
   clear aw ae;obtain ⟨Y,qr,J⟩:=kD.at1 I.out.kBi hkl rfl;obtain ⟨G,ac⟩:=kD.je qr;obtain rfl:Y=_:=by simpa using G
   clear G ac;generalize cu[j]=x at *;generalize cu[k]=y at *;go_upto_region 3 with fail;have FX:=yD (λ(W:Ai) (hW:Qb wr W)=>kIz hW aq J);refine ym (λW=>Qb wr W) [4,5,6,7] [(0,true),(1,true),(2,true),(3,true),(8,true),(9,true),(10,true),(11,true),(12,true),(13,true),(14,true),(15,true),(16,true),(17,true),(18,true),(19,true),(20,true)] bG6 bG6 qY (bR.drew) ?_;intro wS E;simp only [jB,zO,Al,Ap,Ad,Ae,Az,Ba,Am,Aq,Ak,Av,Nat.reduceAdd,Nat.zero_add];iterate 4
    refine kGe (v:=?_) rfl (λW=>?_) ?_;rotate_left;(· go_simp;try with_reducible rfl)
    refine jG ?_
   refine pre_nil ?_;iterate 17
    refine ky ?_
   refine yG ?_;have ay:=yD (L.out.trans (Touch.of_below E));replace I:=yD (I.out.below E);replace aq:=cL E aq;replace J:=cL E J;have BK:=kD.kCz I.out aj;have a5:j * kD.int.n=j:=Nat.mul_one _;have a1:k * kD.int.n=k:=Nat.mul_one _;have bx:wS.there b (j) 1:=pU;have b0:wS.there b (k) 1:=pG;obtain ⟨bl,bu⟩:=F9;obtain ⟨s1,s2⟩:=kD.kEj (ci:=[.int .i64 x]) (cj:=[.int .i64 y]) I.out aj hkl hjk rfl rfl bl bu (pi:=j) (pj:=k) a5.symm a1.symm;have ao:=yD s1;have bg:=yD s2;clear s1 s2 bl bu a5 a1;obtain ⟨U,av,ab⟩:=GY;refine yK rfl 3 _ _ rfl b (j) (.int .i64 y) [.int .i64 y] rfl bH5 bH5 bx U ab ?_;intro w5 ba;have bb:w5.there b (k) 1:=vW;have b1:=yD ba;clear ba;go_wp2_with (refine yK rfl 3 _ _ rfl b (k) (.int .i64 x) [.int .i64 x] rfl bH5 bH5 bb U av ?_);rw [<- b1.out] at ao bg;generalize b5:kD.setCells w5 b (k) [.int .i64 x]=w6 at *;exact oP
 exact oQ
def rot_int_c {w:Ai} {b n cap a m z:Nat} {xs:Ah Int} {S:Nat->Prop} {g:Bd} {cp:Bf Ag} (h:kD.kQ 3 kD.int w (.slice (some ⟨b,0,none⟩) n cap) xs S) (hn:n=xs.length) (hlen:xs.length<=16777216) (b4:a < m) (bi:m < z) (hz:z<=xs.length) :
    Bh prog 218 #[.slice (some ⟨b,0,none⟩) n cap,.int .i64 (a:Nat),.int .i64 (m:Nat),.int .i64 (z:Nat),.func (.func g) #[] cp] w λe w'=>e=.returned (.tuple #[])/\kD.kQ 3 kD.int w' (.slice (some ⟨b,0,none⟩) n cap) (Srt.rot m (m - a) (z - m) xs) S/\Touch S w w':=by
 have O:=yD h
 have bc:=yD hn
 clear h
 have bo:z<=16777216:=bH3
 have a9:z<=n:=bH3
 have cw:n<=16777216:=bH3
 clear hlen hz hn
 obtain ⟨cl,c4,c3,cm,ch,bn⟩:=IG
 generalize cz:m - a=G at *
 generalize bz:z - m=E at *
 obtain ⟨be,bk,hi2,bf,c8,H⟩:=GI
 go_enter func218,ntmps218
 go_wp2
 go_loopw [10,11] (λi j wr=>∃ (p q:Nat) (cu:Ah Int),i=.int .i64 p/\j=.int .i64 q/\0 < p/\0 < q/\p<=m/\m + q<=n/\Hid (Srt.rot m p q cu=Srt.rot m G E xs)/\Hid (cu.length=n)/\Hid (kD.kQ 3 kD.int wr (.slice (some ⟨b,0,none⟩) n cap) cu S)/\Hid (Touch S w wr)) (λi j _=>(Bb i).toNat + (Bb j).toNat)
 case atStart=>exact ⟨G,E,xs,rfl,rfl,by omega,by omega,by omega,by omega,yD rfl,yD bc.out.symm,O,yD (Touch.refl _ _)⟩
 clear ch bn c8 H
 obtain ⟨p,q,cu,rfl,rfl,hp,hq,W,b6,HF,HL,I,L⟩:=hrel
 have bd:=Aa p
 have b1:=Aa q
 have Z:(p:Int)<=m:=bH3
 have ac:(m:Int) + q<=16777216:=bH3
 obtain ⟨mp,ck⟩:∃ mp,m - p=mp:=⟨_,rfl⟩
 have dl:(m:Int) - (p:Int)=(mp:Int):=bH3
 have cd:Ac.wrap (mp:Int)=mp:=Ab _ bH3
 have X:=Aa mp
 by_cases cv:p=q
 · subst cv;have HE:=yD ((rot_eq (m:=m) (cu:=cu) rfl).symm.trans HF.out);rw [ck] at HE;have hb:((p:Int) != (p:Int))=false:=bH4;go_wp2_with fail;refine (kLx (n:=n) (b:=b) I.out HL.out.symm bB3 (a:=mp) (z:=m) (c:=p) bH3 bB3).mono ?_;exact oU
 have hb:((p:Int) != (q:Int))=true:=bG7
 have af:(p != q)=true:=by simpa using cv
 have ap:¬ (p:Int)=q:=bH3
 by_cases br:q < p
 · have HE:=yD ((rot_gt (m:=m) (cu:=cu) br hq).symm.trans HF.out);rw [ck] at HE;have al:(q:Int) < p:=bH3;have bh:decide ((p:Int) > q)=true:=bG7;have di:(p:Int) - (q:Int)=((p - q:Nat):Int):=bH3;generalize U:p - q=F at *;have co:Ac.wrap (F:Int)=F:=Ab _ bH3;go_wp2_with fail;refine (kLx (n:=n) (b:=b) I.out HL.out.symm bB3 (a:=mp) (z:=m) (c:=q) bH3 bB3).mono ?_;exact oV
 have hlt:p < q:=bH3
 have HE:=yD ((rot_lt (m:=m) (cu:=cu) hlt hp).symm.trans HF.out)
 rw [ck] at HE
 have al:¬ (q:Int) < p:=bH3
 have bh:decide ((p:Int) > q)=false:=bG7
 have di:(q:Int) - (p:Int)=((q - p:Nat):Int):=bH3
 generalize U:q - p=F at *
 have co:Ac.wrap (F:Int)=F:=Ab _ bH3
 have ah:(m:Int) + (q:Int)=((m + q:Nat):Int):=bH3
 generalize ab:m + q=J at *
 have ba:Ac.wrap (J:Int)=J:=Ab _ bH3
 have ad:(J:Int) - (p:Int)=((J - p:Nat):Int):=bH3
 generalize Y:J - p=o at *
 have b5:Ac.wrap (o:Int)=o:=Ab _ bH3
 go_wp2_with fail
 refine (kLx (n:=n) (b:=b) I.out HL.out.symm bB3 (a:=mp) (z:=o) (c:=p) bH3 bB3).mono ?_
 exact oW
def kIp {w:Ai} {b n cap a z c:Nat} {xs:Ah jA} {S:Nat->Prop} {g:Bd} {cp:Bf Ag} (h:kD.kQ 144 kY w (.slice (some ⟨b,0,none⟩) n cap) xs S) (hn:n=xs.length) (hlen:xs.length<=16777216) (b7:a + c<=z) (hz:z + c<=xs.length) :
    Bh prog 228 #[.slice (some ⟨b,0,none⟩) n cap,.int .i64 (a:Nat),.int .i64 (z:Nat),.int .i64 (c:Nat),.func (.func g) #[] cp] w λe w'=>e=.returned (.tuple #[])/\kD.kQ 144 kY w' (.slice (some ⟨b,0,none⟩) n cap) (Srt.swr c a z xs) S/\Touch S w w':=by
 have O:=yD h
 have bc:=yD hn
 clear h
 have bo:z + c<=16777216:=bH3
 have a9:z + c<=n:=bH3
 clear hlen hz hn
 obtain ⟨cl,bi⟩:=J4
 have hc0:=Aa c
 have b4:(a:Int)<=z:=bH3
 have cm:(z:Int) + c<=16777216:=bH3
 go_enter func228,ntmps228
 go_wp2
 go_loopw [10] (λi wr=>∃ (m:Nat) (cu:Ah jA),i=.int .i64 m/\m<=c/\Hid (Srt.swr (c - m) (a + m) (z + m) cu=Srt.swr c a z xs)/\Hid (cu.length=n)/\Hid (kD.kQ 144 kY wr (.slice (some ⟨b,0,none⟩) n cap) cu S)/\Hid (Touch S w wr)) (λi _=>c - (Bb i).toNat)
 case atStart=>exact ⟨0,xs,rfl,Nat.zero_le _,yD rfl,yD bc.out.symm,O,yD (Touch.refl _ _)⟩
 obtain ⟨i,cu,rfl,be,HF,HL,I,L⟩:=hrel
 have cz:=Aa i
 by_cases hlt:i < c
 · have cv:(i:Int) < c:=bH3;have b6:=yD ((swr_next (a:=a) (b:=z) (cu:=cu) hlt).symm.trans HF.out);have F:a + i < cu.length:=bB3;have D:z + i < cu.length:=bB3;obtain ⟨j,hj⟩:∃ j,a + i=j:=⟨_,rfl⟩;obtain ⟨k,hk⟩:∃ k,z + i=k:=⟨_,rfl⟩;have aj:j < cu.length:=bH3;have hkl:k < cu.length:=bH3;have hjk:j≠k:=bH3;rw [hj,hk] at b6;obtain ⟨bz,ce,c9,co,ch,bn,N,R,c8,H⟩:=DY;clear F D;obtain ⟨bm,cf,cd,pr,aq,bq,bp⟩:=kD.at3 I.out.kBi aj rfl;obtain ⟨b8,aw,a7,bj,bw,b3⟩:=jS pr;simp only [Ar,and_true] at aw;obtain ⟨rfl,rfl,rfl⟩:=aw;obtain ⟨a2,a3,rfl,cg⟩:=kD.sl bj;clear a7 bj bw b3;obtain ⟨Y,ae,ah,qr,J,br,bt⟩:=kD.at3 I.out.kBi hkl rfl;obtain ⟨a6,G,ag,ak,am,ar⟩:=jS qr;simp only [Ar,and_true] at G;obtain ⟨rfl,rfl,rfl⟩:=G;obtain ⟨ac,az,rfl,a8⟩:=kD.sl ak;clear ag ak am ar;generalize cu[j]=x at *;generalize cu[k]=y at *;go_upto_region 3 with fail;have FX:=yD (λ(W:Ai) (hW:Qb wr W)=>kIy hW aq bq bp J br bt);refine ym (λW=>Qb wr W) [4,5,6,7] [(0,true),(1,true),(2,true),(3,true),(8,true),(9,true),(10,true),(11,true),(12,true),(13,true),(14,true),(15,true),(16,true),(17,true),(18,true),(19,true),(20,true)] bG6 bG6 qY (bR.drew) ?_;intro wS E;simp only [jB,zO,Al,Ap,Ad,Ae,Az,Ba,Am,Aq,Ak,Av,Nat.reduceAdd,Nat.zero_add];iterate 4
    refine kGe (v:=?_) rfl (λW=>?_) ?_;rotate_left;(· go_simp;try with_reducible rfl)
    refine jG ?_
   refine pre_nil ?_;iterate 17
    refine ky ?_
   refine yG ?_;have ay:=yD (L.out.trans (Touch.of_below E));replace I:=yD (I.out.below E);obtain ⟨aq,bq,bp,J,br,bt⟩:=I4;have BK:=kD.kCz I.out aj;have a5:j * kY.n=j * 3:=rfl;have a1:k * kY.n=k * 3:=rfl;have bx:wS.there b (j * 3) 3:=pU;have b0:wS.there b (k * 3) 3:=pG;obtain ⟨bl,bu⟩:=CS;obtain ⟨s1,s2⟩:=kD.kEj (ci:=[.slice a2 (x.1).length a3,.int .i64 x.2.1,.int .i64 x.2.2]) (cj:=[.slice ac (y.1).length az,.int .i64 y.2.1,.int .i64 y.2.2]) I.out aj hkl hjk rfl rfl bl bu (pi:=j * 3) (pj:=k * 3) a5.symm a1.symm;have ao:=yD s1;have bg:=yD s2;clear s1 s2 bl bu a5 a1;obtain ⟨U,av,ab⟩:=DF;refine yK rfl 144 _ _ rfl b (j * 3) (.agg #[.slice ac (y.1).length az,Qn y.2.1,Qn y.2.2]) [.slice ac (y.1).length az,.int .i64 y.2.1,.int .i64 y.2.2] rfl bH5 bH5 bx U ab ?_;intro w5 ba;have bb:w5.there b (k * 3) 3:=vW;have b1:=yD ba;clear ba;go_wp2_with (refine yK rfl 144 _ _ rfl b (k * 3) (.agg #[.slice a2 (x.1).length a3,Qn x.2.1,Qn x.2.2]) [.slice a2 (x.1).length a3,.int .i64 x.2.1,.int .i64 x.2.2] rfl bH5 bH5 bb U av ?_);rw [<- b1.out] at ao bg;generalize b5:kD.setCells w5 b (k * 3) [.slice a2 (x.1).length a3,.int .i64 x.2.1,.int .i64 x.2.2]=w6 at *;exact oP
 exact oQ
def rot_Route_c {w:Ai} {b n cap a m z:Nat} {xs:Ah jA} {S:Nat->Prop} {g:Bd} {cp:Bf Ag} (h:kD.kQ 144 kY w (.slice (some ⟨b,0,none⟩) n cap) xs S) (hn:n=xs.length) (hlen:xs.length<=16777216) (b4:a < m) (bi:m < z) (hz:z<=xs.length) :
    Bh prog 217 #[.slice (some ⟨b,0,none⟩) n cap,.int .i64 (a:Nat),.int .i64 (m:Nat),.int .i64 (z:Nat),.func (.func g) #[] cp] w λe w'=>e=.returned (.tuple #[])/\kD.kQ 144 kY w' (.slice (some ⟨b,0,none⟩) n cap) (Srt.rot m (m - a) (z - m) xs) S/\Touch S w w':=by
 have O:=yD h
 have bc:=yD hn
 clear h
 have bo:z<=16777216:=bH3
 have a9:z<=n:=bH3
 have cw:n<=16777216:=bH3
 clear hlen hz hn
 obtain ⟨cl,c4,c3,cm,ch,bn⟩:=IG
 generalize cz:m - a=G at *
 generalize bz:z - m=E at *
 obtain ⟨be,bk,hi2,bf,c8,H⟩:=GI
 go_enter func217,ntmps217
 go_wp2
 go_loopw [10,11] (λi j wr=>∃ (p q:Nat) (cu:Ah jA),i=.int .i64 p/\j=.int .i64 q/\0 < p/\0 < q/\p<=m/\m + q<=n/\Hid (Srt.rot m p q cu=Srt.rot m G E xs)/\Hid (cu.length=n)/\Hid (kD.kQ 144 kY wr (.slice (some ⟨b,0,none⟩) n cap) cu S)/\Hid (Touch S w wr)) (λi j _=>(Bb i).toNat + (Bb j).toNat)
 case atStart=>exact ⟨G,E,xs,rfl,rfl,by omega,by omega,by omega,by omega,yD rfl,yD bc.out.symm,O,yD (Touch.refl _ _)⟩
 clear ch bn c8 H
 obtain ⟨p,q,cu,rfl,rfl,hp,hq,W,b6,HF,HL,I,L⟩:=hrel
 have bd:=Aa p
 have b1:=Aa q
 have Z:(p:Int)<=m:=bH3
 have ac:(m:Int) + q<=16777216:=bH3
 obtain ⟨mp,ck⟩:∃ mp,m - p=mp:=⟨_,rfl⟩
 have dl:(m:Int) - (p:Int)=(mp:Int):=bH3
 have cd:Ac.wrap (mp:Int)=mp:=Ab _ bH3
 have X:=Aa mp
 by_cases cv:p=q
 · subst cv;have HE:=yD ((rot_eq (m:=m) (cu:=cu) rfl).symm.trans HF.out);rw [ck] at HE;have hb:((p:Int) != (p:Int))=false:=bH4;go_wp2_with fail;refine (kIp (n:=n) (b:=b) I.out HL.out.symm bB3 (a:=mp) (z:=m) (c:=p) bH3 bB3).mono ?_;exact oU
 have hb:((p:Int) != (q:Int))=true:=bG7
 have af:(p != q)=true:=by simpa using cv
 have ap:¬ (p:Int)=q:=bH3
 by_cases br:q < p
 · have HE:=yD ((rot_gt (m:=m) (cu:=cu) br hq).symm.trans HF.out);rw [ck] at HE;have al:(q:Int) < p:=bH3;have bh:decide ((p:Int) > q)=true:=bG7;have di:(p:Int) - (q:Int)=((p - q:Nat):Int):=bH3;generalize U:p - q=F at *;have co:Ac.wrap (F:Int)=F:=Ab _ bH3;go_wp2_with fail;refine (kIp (n:=n) (b:=b) I.out HL.out.symm bB3 (a:=mp) (z:=m) (c:=q) bH3 bB3).mono ?_;exact oV
 have hlt:p < q:=bH3
 have HE:=yD ((rot_lt (m:=m) (cu:=cu) hlt hp).symm.trans HF.out)
 rw [ck] at HE
 have al:¬ (q:Int) < p:=bH3
 have bh:decide ((p:Int) > q)=false:=bG7
 have di:(q:Int) - (p:Int)=((q - p:Nat):Int):=bH3
 generalize U:q - p=F at *
 have co:Ac.wrap (F:Int)=F:=Ab _ bH3
 have ah:(m:Int) + (q:Int)=((m + q:Nat):Int):=bH3
 generalize ab:m + q=J at *
 have ba:Ac.wrap (J:Int)=J:=Ab _ bH3
 have ad:(J:Int) - (p:Int)=((J - p:Nat):Int):=bH3
 generalize Y:J - p=o at *
 have b5:Ac.wrap (o:Int)=o:=Ab _ bH3
 go_wp2_with fail
 refine (kIp (n:=n) (b:=b) I.out HL.out.symm bB3 (a:=mp) (z:=o) (c:=p) bH3 bB3).mono ?_
 exact oW
end Go.Proofs.YtjhfdpopkkmigabGreat

/-
  The stable sort, its small parts.
-/
import Derived.Test.YtjhfdpopkkmigaaGreatSrt
import Derived.Test.YtjhfdpopkkmigaaGreatSoft4
set_option linter.unusedVariables false
set_option linter.defProp false
set_option linter.unusedSimpArgs false
set_option linter.unnecessarySimpa false
set_option maxRecDepth 100000
set_option maxHeartbeats 4000000
open Bool renaming true->Tt,false->Ff
open Int renaming natCast_nonneg->Aa
open Go.IntWalk renaming i64_in->Ab
open Go.IntKind renaming i64->Ac
open List renaming getElem?_cons_succ->Ad,getElem?_cons_zero->Ae,drop_succ_cons->Ak,length_cons->Al,cons_append->Am,length_nil->Ap,nil_append->Aq,length_append->Au,drop_zero->Av,mem_or_eq_of_mem_set->Aw,map_cons->Az,map_nil->Ba,getElem_mem->Be
open Go renaming Value->Ag,World->Ai,FuncId->Bd,TypeId->Bg,Calls->Bh
open _root_ renaming List->Ah,Array->Bf
open Go.Value.slice renaming injEq->Aj
open List.cons renaming injEq->Ar
open Option.some renaming injEq->Ay
open Go.RowKit renaming intOf->Bb
open Go.Addr.mk renaming injEq->Bc
namespace Go.Proofs.YtjhfdpopkkmigaaGreat
open Go.RowKit _root_.Go.Proofs.Tryz
namespace kD
section
variable {α:Type} {r:kD α} {e:Bg} {w w' u:Ai} {v:Ag} {b cap len n i j:Nat} {xs:Ah α} {x y:α} {S T:Nat->Prop}
def row_swap {cells:Ah Ag} {X J N:Ah α} (h:row r true w cells (X++x :: (J++y :: N)) S) :
    ∃ H cx O cy R,cells=H++(cx++(O++(cy++R)))/\H.length=X.length * r.n/\cx.length=r.n/\O.length=J.length * r.n/\cy.length=r.n /\
      row r true w (H++(cy++(O++(cx++R)))) (X++y :: (J++x :: N)) S:=by
 obtain ⟨H,e1,A1,B1,rfl,W,⟨cx,e2,I,B2,rfl,Z,q2,D,E,L⟩,hA1,F,D1⟩:=kIg X h
 obtain ⟨O,e3,A2,B3,rfl,r2,⟨cy,R,V,A3,rfl,Y,U,o,aa,dy⟩,hA2,G,D2⟩:=kIg J q2
 refine ⟨H,cx,O,cy,R,rfl,zQ W,r.len Z,zQ r2,r.len Y,?_⟩
 have t3:row r true w (cx++R) (x :: N) (λk=>I k\/A3 k):=⟨cx,R,I,A3,rfl,Z,U,λ_=>.inl,λ_=>.inr,λ_ k h1 h2=>L rfl k h1 (G k (aa k h2))⟩
 have t2:row r true w (O++(cx++R)) (J++x :: N) (λk=>A2 k\/(I k\/A3 k)):=kAg r2 t3 (λ_=>.inl) (λ_=>.inr) (λ_ k h1 h2=>h2.elim (λq=>L rfl k q (hA2 k h1)) (λq=>D2 rfl k h1 (aa k q)))
 have t1:row r true w (cy++(O++(cx++R))) (y :: (J++x :: N)) (λk=>V k\/(A2 k\/(I k\/A3 k))):=⟨cy,_,V,_,rfl,Y,t2,λ_=>.inl,λ_=>.inr,λ_ k h1 h2=>h2.elim (λq=>D2 rfl k q (o k h1)) (λh2=>h2.elim (λq=>L rfl k q (G k (o k h1))) (λq=>dy rfl k h1 q))⟩
 refine kAg W t1 hA1 ?_ ?_
 · rintro k (q | q | q | q)
   · exact F k (E k (G k (o k q)))
   · exact F k (E k (hA2 k q))
   · exact F k (D k q)
   exact F k (E k (G k (aa k q)))
 rintro _ k h1 (q | q | q | q)
 · exact D1 rfl k h1 (E k (G k (o k q)))
 · exact D1 rfl k h1 (E k (hA2 k q))
 · exact D1 rfl k h1 (D k q)
 exact D1 rfl k h1 (E k (G k (aa k q)))
def kYb {l:Ah α} {i j:Nat} (D:i < j) (I:j < l.length):∃ X x J y N,l=X++x :: (J++y :: N)/\X.length=i/\J.length=j - i - 1:=by
 refine ⟨l.take i,l[i],(l.drop (i + 1)).take (j - i - 1),l[j],l.drop (j + 1),?_,by simp;omega,by simp;omega⟩;have e1:l=l.take i++l[i] :: l.drop (i + 1):=bD2;have e2:l.drop (i + 1)=(l.drop (i + 1)).take (j - i - 1)++l[j] :: l.drop (j + 1):=by
  have h1:(l.drop (i + 1)).drop (j - i - 1)=l.drop j:=by rw [List.drop_drop];congr 1;omega
  have h2:l.drop j=l[j] :: l.drop (j + 1):=bD2;rw [<- h2,<- h1,List.take_append_drop]
 rw [<- e2,<- e1]
def kPn {cells mid pre H:Ah Ag} {o:Nat} {cs:Ah Ag} {e:Bg} (hc:w.heap[b]?=some (.cells cells.toArray e (0,0))) (he:cells=pre++(mid++H)) (ho:pre.length=o) (hl:cs.length=mid.length)
    (h:∀ q u,cs[q]?=some u->Qc w b (o + q) u):cs=mid:=by
 apply List.ext_getElem hl
 intro q h1 h2
 have:=h q cs[q] (by simp [h1])
 rw [cell_of_row w b _ _ e (0,0) hc] at this
 simp only [List.getElem?_toArray] at this
 rw [he,List.getElem?_append_right bD1,List.getElem?_append_left bD1,show o + q - pre.length=q by omega,List.getElem?_eq_getElem h2] at this
 exact (Option.some.inj this).symm
def kDo (h:kU e r w (.slice (some ⟨b,0,none⟩) len cap) xs S) (hi:i < xs.length) (I:j < xs.length) (D:i≠j) {ci cj:Ah Ag} (li:ci.length=r.n) (W:cj.length=r.n)
    (bm:∀ q u,ci[q]?=some u->w.cell? ⟨b,i * r.n + q,none⟩=some u) (bw:∀ q u,cj[q]?=some u->w.cell? ⟨b,j * r.n + q,none⟩=some u) {pi pj:Nat} (L:pi=i * r.n) (G:pj=j * r.n) :
    kU e r (setCells (setCells w b pi cj) b pj ci) (.slice (some ⟨b,0,none⟩) len cap) (Srt.sw xs i j) S/\Touch (λk=>k=b) w (setCells (setCells w b pi cj) b pj ci):=by
 subst L G
 refine ⟨?_,(yt _ _ _ _).trans (yt _ _ _ _)⟩
 obtain ⟨hb,h⟩:=h
 rcases h with ⟨⟨a,h0⟩,rfl⟩|⟨b',cap',cur,cs,tl,h0,h1,h2,h3,h4,h5,h6,h7⟩
 · simp at hi
 simp only [Aj,Ay,Bc,and_true] at h0
 obtain ⟨rfl,rfl,rfl⟩:=h0
 have o:cur=(cs++tl).toArray:=by rw [<- h4]
 subst o
 have U:∀ z∈Srt.sw xs i j,r.bdd Big z:=by
  intro z hz;rw [Srt.kZn hi I] at hz;rcases Aw hz with q | q
  · rcases Aw q with q | q
    · exact hb z q
    rw [q];exact hb _ (Be I)
  rw [q];exact hb _ (Be hi)
 have hlen:=Srt.kAm xs i j
 refine ⟨U,.inr ⟨b,cap,?_⟩⟩
 suffices hh:∃ cs',(setCells (setCells w b (i * r.n) cj) b (j * r.n) ci).heap[b]?=some (.cells (cs'++tl).toArray e (0,0))/\cs'.length=cs.length/\row r true w cs' (Srt.sw xs i j) (λk=>S k/\k≠b) by
   obtain ⟨cs',g1,g2,g3⟩:=hh;refine ⟨_,cs',tl,by rw [hlen],by rw [hlen];exact h1,h2,g1,by simp,?_,h6,?_⟩
   · rw [<- h5];simp [g2]
   · exact yG g3 (λk hk=>by rw [zz _ _ _ _ _ hk.2,zz _ _ _ _ _ hk.2])
 rcases Nat.lt_or_gt_of_ne D with q | q
 · obtain ⟨X,x,J,y,N,rfl,l1,l2⟩:=kYb q I;obtain ⟨H,cx,O,cy,R,rfl,m1,Z,m2,Y,hr⟩:=row_swap h7;have e1:ci=cx:=kPn h3 (show _=H++(cx++((O++(cy++R))++tl)) by simp) (by rw [m1,l1]) bD1 bm;have e2:cj=cy:=kPn h3 (show _=(H++(cx++O))++(cy++(R++tl)) by simp) (by
     simp only [Au];rw [m1,Z,m2,l1,l2];have:j=i + 1 + (j - i - 1):=by omega
     generalize j - i - 1=t at *;subst this;simp only [Nat.add_mul];omega) bD1 bw
   subst e1 e2;have V:(H++(cj++O)).length=j * r.n:=by
    simp only [Au];rw [m1,W,m2,l1,l2];have:j=i + 1 + (j - i - 1):=by omega
    generalize j - i - 1=t at *;subst this;simp only [Nat.add_mul];omega
   refine ⟨H++(cj++(O++(ci++R))),?_,by simp;omega,?_⟩
   · have g1:=zn (e:=e) cj ci H ((O++(cj++R))++tl) w b (i * r.n) (by rw [h3];simp) (by rw [m1,l1]) bD1;have g2:=zn (e:=e) ci cj (H++(cj++O)) (R++tl) _ b (j * r.n) (by rw [g1];simp) V bD1;rw [g2];simp
   have E:=Srt.kHz X J N x y (i:=i) (j:=j) l1.symm bD1;rw [show X++x :: (J++y :: N)=X++x :: J++y :: N by simp,E];simpa using hr
 obtain ⟨X,y,J,x,N,rfl,l1,l2⟩:=kYb q hi
 obtain ⟨H,cy,O,cx,R,rfl,m1,Y,m2,Z,hr⟩:=row_swap h7
 have F:∀ z:Ah Ag,z.length=r.n->(H++(z++O)).length=i * r.n:=by
  intro z hz;simp only [Au];rw [m1,hz,m2,l1,l2];have:i=j + 1 + (i - j - 1):=by omega
  generalize i - j - 1=t at *;subst this;simp only [Nat.add_mul];omega
 have e1:cj=cy:=kPn h3 (show _=H++(cy++((O++(cx++R))++tl)) by simp) (by rw [m1,l1]) bD1 bw
 have e2:ci=cx:=kPn h3 (show _=(H++(cy++O))++(cx++(R++tl)) by simp) (F _ Y) bD1 bm
 subst e1 e2
 refine ⟨H++(ci++(O++(cj++R))),?_,by simp;omega,?_⟩
 · have g1:=zn (e:=e) cj ci (H++(cj++O)) (R++tl) w b (i * r.n) (by rw [h3];simp) (F _ W) bD1;have g2:=zn (e:=e) ci cj H ((O++(cj++R))++tl) _ b (j * r.n) (by rw [g1];simp) (by rw [m1,l1]) bD1;rw [g2];simp
 have E:=Srt.kHz X J N y x (i:=j) (j:=i) l1.symm bD1
 rw [Srt.kZo,show X++y :: (J++x :: N)=X++y :: J++x :: N by simp,E]
 simpa using hr
end
end kD
def kPy {P:Program} (w:Ai) (b o:Nat) (ty:Bg) (v:Ag) (cs:Ah Ag) (V:v.cells=cs.toArray) (ht:w.there b o cs.length) (hi:(P.info? ty).map (·.size)=some cs.length) (h1:∀ c∈cs,c.oneCell'=true) :
    (storeVar ty ⟨b,o,none⟩ v).run P w=.ok () (kD.setCells w b o cs):=by
 have:=run_storeCells_cells (P:=P) b o cs 0 w (λj I=>by simpa using (ht j bB6).1) (λj I=>by simpa using (ht j bB6).2) h1
 cases hq:P.info? ty with
 | none=>simp [hq] at hi
 | some i =>
   have hs:cs.length=i.size:=by simp [hq] at hi;omega
   simp only [Nat.add_zero] at this;rw [<- kD.kFt];simp [storeVar,sizeOf,typeInfo,hq,V,hs,this]
def wp_storeV {P:Program} {D:Oper} {a:Act} {w:Ai} {K:Act->Ai->Prop} {Q:Exit->Act->Ai->Prop} (ty:Bg) (x y:Operand) (ho:D.op=.store ty x y)
    (b o:Nat) (v:Ag) (cs:Ah Ag) (V:v.cells=cs.toArray) (hx:a.eval x=.pointer (some ⟨b,o,none⟩)) (hy:a.eval y=v)
    (ht:w.there b o cs.length) (hi:(P.info? ty).map (·.size)=some cs.length) (h1:∀ c∈cs,c.oneCell'=true)
    (h:∀ w',w'=kD.setCells w b o cs->K (a.put D.dst undef) w'):D.wp P a w K Q:=by
 unfold Oper.wp execOp
 simp only [ho,hx,hy,Instr.storeAt,Instr.sureAddr,Sem.run_bind,Sem.run_pure,Result.andThen_ok,kPy w b o ty v cs V ht hi h1]
 exact h _ rfl
def yC {P:Program} {ops:Bf Oper} {rest:Ah Oper} {D:Oper} {a:Act} {w:Ai} {Q:Exit->Act->Ai->Prop} (E:D.guard=none) (ty:Bg) (x y:Operand) (ho:D.op=.store ty x y)
    (b o:Nat) (v:Ag) (cs:Ah Ag) (V:v.cells=cs.toArray) (hx:a.eval x=.pointer (some ⟨b,o,none⟩)) (hy:a.eval y=v)
    (ht:w.there b o cs.length) (hi:(P.info? ty).map (·.size)=some cs.length) (h1:∀ c∈cs,c.oneCell'=true)
    (h:∀ w',w'=kD.setCells w b o cs->wpList P ops Q rest (a.put D.dst undef) w'):wpList P ops Q (D :: rest) a w :=
  wpList_plain E λ_ H=>wp_storeV ty x y ho b o v cs V hx hy ht hi h1 (λw' hw=>H _ _ (h w' hw))
namespace kD
section
variable {α:Type} {r:kD α} {e:Bg} {w w' u:Ai} {v:Ag} {b cap len n i j:Nat} {xs:Ah α} {x y:α} {S T:Nat->Prop}
def kDm {m o p:Nat} {cs:Ah Ag} (h:w.there b o m):(setCells w b p cs).there b o m:=by
 rw [<- kFt];exact World.there_setCells h b p cs
def zJ (h:kU e r w (.slice (some ⟨b,0,none⟩) len cap) xs S) (hi:i < xs.length):w.there b (i * r.n) r.n:=by
 obtain ⟨hb,h⟩:=h;rcases h with ⟨⟨a,h0⟩,rfl⟩|⟨b',cap',cur,cs,tl,h0,h1,h2,h3,h4,h5,h6,h7⟩
 · simp at hi
 simp only [Aj,Ay,Bc,and_true] at h0;obtain ⟨rfl,rfl,rfl⟩:=h0;intro j I;have hlt:i * r.n + j < cur.size:=by
  rw [h5];have:(i + 1) * r.n<=cap * r.n:=Nat.mul_le_mul_right _ bD1;rw [Nat.add_mul] at this;omega
 refine ⟨?_,frozen_of_row w b _ _ _ h3⟩;rw [cell_of_row w b _ _ e (0,0) h3,Array.getElem?_eq_getElem hlt];rfl
def kCq (h:kU e r w (.slice (some ⟨b,0,none⟩) len cap) xs S) (hi:i < xs.length):S b/\b < w.heap.size:=by
 obtain ⟨b',cap',h0,h1,h2,_⟩:=kAr h hi;simp only [Aj,Ay,Bc,and_true] at h0;obtain ⟨rfl,_,_⟩:=h0;exact ⟨h1,h2⟩
end
end kD
def kDl {S:Nat->Prop} {b:Nat} {w w':Ai} (h:Touch (λk=>k=b) w w') (hb:S b):Touch S w w':=h.wide (λk hk=>hk ▸ hb)
namespace kD
def kLa {w:Ai} {b o:Nat} {c0:Ag} (h0:Qc w b o c0):∀ q u,([c0]:Ah Ag)[q]?=some u->Qc w b (o + q) u:=by
 intro q u hq
 match q with
 | 0=>simp at hq;subst hq;exact h0
 | q + 1=>simp at hq
def cells3 {w:Ai} {b o:Nat} {c0 c1 c2:Ag} (h0:Qc w b o c0) (h1:Qc w b (o + 1) c1) (h2:Qc w b (o + 2) c2):∀ q u,([c0,c1,c2]:Ah Ag)[q]?=some u->Qc w b (o + q) u:=by
 intro q u hq
 match q with
 | 0=>simp at hq;subst hq;exact h0
 | 1=>simp at hq;subst hq;exact h1
 | 2=>simp at hq;subst hq;exact h2
 | q + 3=>simp at hq
end kD
def kYu {α:Type} {key:α->Int} {a j k:Nat} {cu:Ah α} (hk:k + 1=j) (ha:a < j) (I:j < cu.length) (am:k < cu.length) (h:decide (key cu[j] < key cu[k])=true):Srt.inner key a j cu=Srt.inner key a k (Srt.sw cu j k):=by
 subst hk;have h:=of_decide_eq_true h;rw [Srt.inner,if_pos ⟨ha,by rw [Srt.zM I,Srt.zM am];exact h⟩]
def inner_no {α:Type} {key:α->Int} {a j k:Nat} {cu:Ah α} (hk:k + 1=j) (I:j < cu.length) (am:k < cu.length) (h:decide (key cu[j] < key cu[k])=false):Srt.inner key a j cu=cu:=by
 subst hk;have h:=of_decide_eq_false h;rw [Srt.inner,if_neg (by rintro ⟨_,q⟩;rw [Srt.zM I,Srt.zM am] at q;exact h q)]
def kWa {α:Type} {key:α->Int} {a j:Nat} {cu:Ah α} (ha:¬ a < j):Srt.inner key a j cu=cu:=by
 cases j with
 | zero=>rfl
 | succ j=>rw [Srt.inner,if_neg (by rintro ⟨q,_⟩;exact ha q)]
def kVm {α:Type} {key:α->Int} {a z i:Nat} {cu:Ah α} (h:i < z):Srt.outer key a (z - i) i cu=Srt.outer key a (z - (i + 1)) (i + 1) (Srt.inner key a i cu):=by
 rw [show z - i=(z - (i + 1)) + 1 by omega,Srt.outer]
def kYq {α:Type} {key:α->Int} {a z i:Nat} {cu:Ah α} (h:¬ i < z):Srt.outer key a (z - i) i cu=cu:=by
 rw [show z - i=0 by omega,Srt.outer]
def swr_next {α:Type} {n a b i:Nat} {cu:Ah α} (h:i < n):Srt.swr (n - i) (a + i) (b + i) cu=Srt.swr (n - (i + 1)) (a + (i + 1)) (b + (i + 1)) (Srt.sw cu (a + i) (b + i)):=by
 rw [show n - i=(n - (i + 1)) + 1 by omega,Srt.swr];rfl
def swr_end {α:Type} {n a b i:Nat} {cu:Ah α} (h:¬ i < n):Srt.swr (n - i) (a + i) (b + i) cu=cu:=by
 rw [show n - i=0 by omega,Srt.swr]
def kEj (key:Int->Int) (g:Bd) (cp:Bf Ag) (S:Nat->Prop) (w0:Ai):Prop :=
  ∀ wr,Touch S w0 wr->∀ x y c d,kD.int.raw wr [c] x->kD.int.raw wr [d] y->Bh prog g (#[c,d]++cp) wr (λe w'=>∃ k:Int,e=.returned (.int .i64 k)/\decide (k < 0)=decide (key x < key y)/\Qb wr w')
def kPc {w:Ai} {b n cap a z:Nat} {xs:Ah Int} {S:Nat->Prop} {g:Bd} {cp:Bf Ag} (key:Int->Int) (hg:jH prog g) (J:kEj key g cp S w) (h:kD.kU 3 kD.int w (.slice (some ⟨b,0,none⟩) n cap) xs S) (hn:n=xs.length) (hlen:xs.length<=16777216) (co:a<=z) (hz:z<=xs.length) :
    Bh prog 212 #[.slice (some ⟨b,0,none⟩) n cap,.int .i64 (a:Nat),.int .i64 (z:Nat),.func (.func g) #[] cp] w λe w'=>e=.returned (.tuple #[])/\kD.kU 3 kD.int w' (.slice (some ⟨b,0,none⟩) n cap) (Srt.kBs key a z xs) S/\Touch S w w':=by
 have av:=yD J
 unfold jH at hg
 have D:=yD h
 have bl:=yD hn
 clear h J
 have a3:z<=16777216:=bD1
 have a7:z<=n:=bD1
 clear hlen hz hn
 obtain ⟨cl,b1⟩:=J8
 have ay:(a:Int)<=z:=bD1
 have cq:(z:Int)<=16777216:=bD1
 have ai:n<=cap\/xs=[]:=by
  rcases D.out.2 with ⟨_,q⟩|⟨_,_,_,_,_,q,q2,_⟩
  · exact .inr q
  simp only [Aj] at q;left;omega
 clear ai
 go_enter func212,ntmps212
 go_wp2
 go_loopw [8] (λi wr=>∃ (m:Nat) (cur:Ah Int),i=.int .i64 m/\a + 1<=m/\(m<=z\/m=a + 1)/\Hid (Srt.outer key a (z - m) m cur=Srt.kBs key a z xs)/\Hid (cur.length=n)/\Hid (kD.kU 3 kD.int wr (.slice (some ⟨b,0,none⟩) n cap) cur S)/\Hid (Touch S w wr)) (λi _=>z - (Bb i).toNat)
 case atStart=>exact ⟨a + 1,xs,by go_num,Nat.le_refl _,.inr rfl,yD rfl,yD bl.out.symm,D,yD (Touch.refl _ _)⟩
 obtain ⟨i,cur,rfl,aq,bu,HF,au,L,U⟩:=hrel
 have cw:=Aa i
 by_cases hlt:i < z
 · have cv:(i:Int) < z:=bD1;have ap:=yD (kVm (key:=key) (a:=a) (cu:=cur) hlt);go_wp2;go_loopw [9] (λj wr=>∃ (m:Nat) (cu:Ah Int),j=.int .i64 m/\a<=m/\m<=i/\Hid (Srt.inner key a m cu=Srt.inner key a i cur)/\Hid (cu.length=n)/\Hid (kD.kU 3 kD.int wr (.slice (some ⟨b,0,none⟩) n cap) cu S)/\Hid (Touch S w wr)) (λj _=>(Bb j).toNat);case atStart=>exact ⟨i,cur,rfl,by omega,Nat.le_refl _,yD rfl,au,L,U⟩
   obtain ⟨j,cu,rfl,bq,bn,al,aa,Z,F⟩:=hrel;have b0:=Aa j;have c2:(j:Int) < z:=bD1;by_cases O:a < j
   · obtain ⟨k,hk⟩:∃ k,k + 1=j:=⟨j - 1,by omega⟩;have a4:j < cu.length:=vV;have am:k < cu.length:=bD1;obtain ⟨ab,b6,dq,cz,bk,cm,hw,hp,cf,ck,HY,a5⟩:=CW;obtain ⟨ba,pr,G⟩:=kD.at1 Z.out.kAz a4 rfl;obtain ⟨an,af⟩:=kD.jb pr;obtain rfl:ba=_:=by simpa using an
     clear an af;obtain ⟨ae,qr,R⟩:=kD.at1 Z.out.kAz am rfl;obtain ⟨ac,ad⟩:=kD.jb qr;obtain rfl:ae=_:=by simpa using ac
     clear ac ad;generalize cu[j]=x at *;generalize cu[k]=y at *;go_upto_region 4 with fail;have FX:=yD (λ(W:Ai) (hW:Qb wr W)=>kHv hW G R);refine kM (λW=>Qb wr W) [Tt,Tt,Tt,Tt,Tt,Tt,Tt,Tt,Tt,Tt,Tt,Tt,Tt,Tt,Ff,Tt,Tt] bC5 bC5 pY (bR.drew) ?_;intro wS E;iterate 3
      all_goals refine kX ?_
     all_goals (refine jd λb a1=>?_;cases b <;> try simp only [jc] at a1)
     iterate 10
      all_goals refine kX ?_
     all_goals first|(refine kG rfl E ?_)|(refine kY rfl (λK H=>?_);go_simp;refine (av.out _ (F.out.trans (Touch.of_below E)) _ _ _ _ (kD.raw.below pr E) (kD.raw.below qr E)).mono ?_;rintro e wS1 ⟨kk,rfl,bo,X⟩;replace E:=(tQ E X);refine H _ _ E ?_;clear H K X)
     all_goals refine jD ?_
     all_goals refine kX ?_
     all_goals (refine jd λb V=>?_;cases b <;> try simp only [jc] at V)
     all_goals refine kR ?_
     all_goals have ar:=yD (F.out.trans (Touch.of_below E))
     all_goals replace Z:=yD (Z.out.below E)
     all_goals first
       | (have Y:=yD (show decide (key x < key y)=false by first|(exact V)|(simpa using V)|(rw [<- bo];simpa using V));have I:Hid (cu=Srt.inner key a i cur):=yD (a5.out Y.out);clear a5 HY bo V;have bx:=Z;have b4:Hid (Srt.outer key a (z - (i + 1)) (i + 1) cu=Srt.kBs key a z xs):=yD qQ;go_wp2;go_roundw;(case rel=>exact ⟨i + 1,cu,by go_num,by omega,.inl bD1,b4,aa,bx,ar⟩);(case measure=>simp [Bb];omega))
       | have Y:=yD (show decide (key x < key y)=true by first|(exact V)|(simpa using V)|(rw [<- bo];simpa using V))
     have ce:=yD (HY.out Y.out);clear HY a5 bo V Y;replace G:=cL E G;replace R:=cL E R;clear E;generalize wS1=ca at *;go_upto_region 6 with fail;have FX:=yD (λ(W:Ai) (hW:Qb ca W)=>kHv hW G R);refine yf (λW=>Qb ca W) [2,3,4] [(0,true),(1,true),(5,true),(6,true),(7,true),(8,true),(9,true),(10,true),(11,true),(12,true),(13,true),(14,true)] bC5 bC5 pY (bR.drew) ?_;intro wS E;simp only [jB,zK,Al,Ap,Ad,Ae,Az,Ba,Am,Aq,Ak,Av,Nat.reduceAdd,Nat.zero_add];iterate 3
      refine kFd (v:=?_) rfl (λW=>?_) ?_;rotate_left;(· go_simp;try with_reducible rfl)
      refine jD ?_
     refine pre_nil ?_;iterate 12
      refine kX ?_
     refine jy ?_;replace ar:=yD (ar.out.trans (Touch.of_below E));replace Z:=yD (Z.out.below E);replace G:=cL E G;replace R:=cL E R;have BK:=kD.kCq Z.out a4;have bc:j * kD.int.n=j:=Nat.mul_one _;have a9:k * kD.int.n=k:=Nat.mul_one _;have b2:wS.there b (j) 1:=nP;have b3:wS.there b (k) 1:=nQ;obtain ⟨bm,bw⟩:=FE;obtain ⟨s1,s2⟩:=kD.kDo (ci:=[.int .i64 x]) (cj:=[.int .i64 y]) Z.out a4 am bD1 rfl rfl bm bw (pi:=j) (pj:=k) bc.symm a9.symm;have bb:=yD s1;have bj:=yD s2;clear s1 s2 bm bw bc a9;obtain ⟨az,aj,N⟩:=GZ;refine yC rfl 3 _ _ rfl b (j) (.int .i64 y) [.int .i64 y] rfl bD3 bD3 b2 az N ?_;intro w5 bi;have bg:w5.there b (k) 1:=tL;have b5:=yD bi;clear bi;go_wp2_with (refine yC rfl 3 _ _ rfl b (k) (.int .i64 x) [.int .i64 x] rfl bD3 bD3 bg az aj ?_);rw [<- b5.out] at bb bj;generalize cc:kD.setCells w5 b (k) [.int .i64 x]=w6 at *;exact oJ
   obtain ⟨c1,hp,cf,I⟩:=IB;go_upto_region 4 with fail;refine kM (λW=>Qb wr W) [Tt,Tt,Tt,Tt,Tt,Tt,Tt,Tt,Tt,Tt,Tt,Tt,Tt,Tt,Ff,Tt,Tt] bC5 bC5 pY (bR.drew) ?_;intro wS E;iterate 3
    all_goals refine kX ?_
   all_goals (refine jd λb a1=>?_;cases b <;> try simp only [jc] at a1)
   iterate 10
    all_goals refine kX ?_
   all_goals first|(refine kG rfl E ?_)|(fail)
   all_goals refine jD ?_
   all_goals refine kX ?_
   all_goals (refine jd λb V=>?_;cases b <;> try simp only [jc] at V)
   all_goals refine kR ?_
   all_goals have ar:=yD (F.out.trans (Touch.of_below E))
   all_goals have bx:=yD (Z.out.below E)
   exact oK
 exact oL
def kBo (key:kz->Int) (g:Bd) (cp:Bf Ag) (S:Nat->Prop) (w0:Ai):Prop :=
  ∀ wr,Touch S w0 wr->∀ x y cs ds,kS.raw wr cs x->kS.raw wr ds y->Bh prog g (#[.agg cs.toArray,.agg ds.toArray]++cp) wr (λe w'=>∃ k:Int,e=.returned (.int .i64 k)/\decide (k < 0)=decide (key x < key y)/\Qb wr w')
def kKv {w:Ai} {b n cap a z:Nat} {xs:Ah kz} {S:Nat->Prop} {g:Bd} {cp:Bf Ag} (key:kz->Int) (hg:jH prog g) (J:kBo key g cp S w) (h:kD.kU 131 kS w (.slice (some ⟨b,0,none⟩) n cap) xs S) (hn:n=xs.length) (hlen:xs.length<=16777216) (co:a<=z) (hz:z<=xs.length) :
    Bh prog 210 #[.slice (some ⟨b,0,none⟩) n cap,.int .i64 (a:Nat),.int .i64 (z:Nat),.func (.func g) #[] cp] w λe w'=>e=.returned (.tuple #[])/\kD.kU 131 kS w' (.slice (some ⟨b,0,none⟩) n cap) (Srt.kBs key a z xs) S/\Touch S w w':=by
 have av:=yD J
 unfold jH at hg
 have D:=yD h
 have bl:=yD hn
 clear h J
 have a3:z<=16777216:=bD1
 have a7:z<=n:=bD1
 clear hlen hz hn
 obtain ⟨cl,b1⟩:=J8
 have ay:(a:Int)<=z:=bD1
 have cq:(z:Int)<=16777216:=bD1
 have ai:n<=cap\/xs=[]:=by
  rcases D.out.2 with ⟨_,q⟩|⟨_,_,_,_,_,q,q2,_⟩
  · exact .inr q
  simp only [Aj] at q;left;omega
 clear ai
 go_enter func210,ntmps210
 go_wp2
 go_loopw [8] (λi wr=>∃ (m:Nat) (cur:Ah kz),i=.int .i64 m/\a + 1<=m/\(m<=z\/m=a + 1)/\Hid (Srt.outer key a (z - m) m cur=Srt.kBs key a z xs)/\Hid (cur.length=n)/\Hid (kD.kU 131 kS wr (.slice (some ⟨b,0,none⟩) n cap) cur S)/\Hid (Touch S w wr)) (λi _=>z - (Bb i).toNat)
 case atStart=>exact ⟨a + 1,xs,by go_num,Nat.le_refl _,.inr rfl,yD rfl,yD bl.out.symm,D,yD (Touch.refl _ _)⟩
 obtain ⟨i,cur,rfl,aq,bu,HF,au,L,U⟩:=hrel
 have cw:=Aa i
 by_cases hlt:i < z
 · have cv:(i:Int) < z:=bD1;have ap:=yD (kVm (key:=key) (a:=a) (cu:=cur) hlt);go_wp2;go_loopw [9] (λj wr=>∃ (m:Nat) (cu:Ah kz),j=.int .i64 m/\a<=m/\m<=i/\Hid (Srt.inner key a m cu=Srt.inner key a i cur)/\Hid (cu.length=n)/\Hid (kD.kU 131 kS wr (.slice (some ⟨b,0,none⟩) n cap) cu S)/\Hid (Touch S w wr)) (λj _=>(Bb j).toNat);case atStart=>exact ⟨i,cur,rfl,by omega,Nat.le_refl _,yD rfl,au,L,U⟩
   obtain ⟨j,cu,rfl,bq,bn,al,aa,Z,F⟩:=hrel;have b0:=Aa j;have c2:(j:Int) < z:=bD1;by_cases O:a < j
   · obtain ⟨k,hk⟩:∃ k,k + 1=j:=⟨j - 1,by omega⟩;have a4:j < cu.length:=vV;have am:k < cu.length:=bD1;obtain ⟨ab,b6,dq,cz,bk,cm,hw,hp,cf,ck,HY,a5⟩:=CW;obtain ⟨ba,b9,ch,pr,G,bt,bp⟩:=kD.at3 Z.out.kAz a4 rfl;obtain ⟨b7,an,a8,a6,bh,bz⟩:=jJ pr;simp only [Ar,and_true] at an;obtain ⟨rfl,rfl,rfl⟩:=an;obtain ⟨a2,be,rfl,cd⟩:=kD.sl a6;clear a8 a6 bh bz;obtain ⟨ae,af,ah,qr,R,br,bv⟩:=kD.at3 Z.out.kAz am rfl;obtain ⟨bd,ac,ag,ak,ao,ax⟩:=jJ qr;simp only [Ar,and_true] at ac;obtain ⟨rfl,rfl,rfl⟩:=ac;obtain ⟨ad,aw,rfl,bf⟩:=kD.sl ak;clear ag ak ao ax;generalize cu[j]=x at *;generalize cu[k]=y at *;go_upto_region 4 with fail;have FX:=yD (λ(W:Ai) (hW:Qb wr W)=>kGx hW G bt bp R br bv);refine kM (λW=>Qb wr W) [Tt,Tt,Tt,Tt,Tt,Tt,Tt,Tt,Tt,Tt,Tt,Tt,Tt,Tt,Ff,Tt,Tt] bC5 bC5 pY (bR.drew) ?_;intro wS E;iterate 3
      all_goals refine kX ?_
     all_goals (refine jd λb a1=>?_;cases b <;> try simp only [jc] at a1)
     iterate 10
      all_goals refine kX ?_
     all_goals first|(refine kG rfl E ?_)|(refine kY rfl (λK H=>?_);go_simp;refine (av.out _ (F.out.trans (Touch.of_below E)) _ _ _ _ (kD.raw.below pr E) (kD.raw.below qr E)).mono ?_;rintro e wS1 ⟨kk,rfl,bo,X⟩;replace E:=(tQ E X);refine H _ _ E ?_;clear H K X)
     all_goals refine jD ?_
     all_goals refine kX ?_
     all_goals (refine jd λb V=>?_;cases b <;> try simp only [jc] at V)
     all_goals refine kR ?_
     all_goals have ar:=yD (F.out.trans (Touch.of_below E))
     all_goals replace Z:=yD (Z.out.below E)
     all_goals first
       | (have Y:=yD (show decide (key x < key y)=false by first|(exact V)|(simpa using V)|(rw [<- bo];simpa using V));have I:Hid (cu=Srt.inner key a i cur):=yD (a5.out Y.out);clear a5 HY bo V;have bx:=Z;have b4:Hid (Srt.outer key a (z - (i + 1)) (i + 1) cu=Srt.kBs key a z xs):=yD qQ;go_wp2;go_roundw;(case rel=>exact ⟨i + 1,cu,by go_num,by omega,.inl bD1,b4,aa,bx,ar⟩);(case measure=>simp [Bb];omega))
       | have Y:=yD (show decide (key x < key y)=true by first|(exact V)|(simpa using V)|(rw [<- bo];simpa using V))
     have ce:=yD (HY.out Y.out);clear HY a5 bo V Y;obtain ⟨G,bt,bp,R,br,bv⟩:=I9;clear E;generalize wS1=ca at *;go_upto_region 6 with fail;have FX:=yD (λ(W:Ai) (hW:Qb ca W)=>kGx hW G bt bp R br bv);refine yf (λW=>Qb ca W) [2,3,4] [(0,true),(1,true),(5,true),(6,true),(7,true),(8,true),(9,true),(10,true),(11,true),(12,true),(13,true),(14,true)] bC5 bC5 pY (bR.drew) ?_;intro wS E;simp only [jB,zK,Al,Ap,Ad,Ae,Az,Ba,Am,Aq,Ak,Av,Nat.reduceAdd,Nat.zero_add];iterate 3
      refine kFd (v:=?_) rfl (λW=>?_) ?_;rotate_left;(· go_simp;try with_reducible rfl)
      refine jD ?_
     refine pre_nil ?_;iterate 12
      refine kX ?_
     refine jy ?_;replace ar:=yD (ar.out.trans (Touch.of_below E));replace Z:=yD (Z.out.below E);obtain ⟨G,bt,bp,R,br,bv⟩:=I9;have BK:=kD.kCq Z.out a4;have bc:j * kS.n=j * 3:=rfl;have a9:k * kS.n=k * 3:=rfl;have b2:wS.there b (j * 3) 3:=nP;have b3:wS.there b (k * 3) 3:=nQ;obtain ⟨bm,bw⟩:=D5;obtain ⟨s1,s2⟩:=kD.kDo (ci:=[.slice a2 (x.1).length be,.int .i64 x.2.1,.int .i64 x.2.2]) (cj:=[.slice ad (y.1).length aw,.int .i64 y.2.1,.int .i64 y.2.2]) Z.out a4 am bD1 rfl rfl bm bw (pi:=j * 3) (pj:=k * 3) bc.symm a9.symm;have bb:=yD s1;have bj:=yD s2;clear s1 s2 bm bw bc a9;obtain ⟨az,aj,N⟩:=DV;refine yC rfl 131 _ _ rfl b (j * 3) (.agg #[.slice ad (y.1).length aw,Qn y.2.1,Qn y.2.2]) [.slice ad (y.1).length aw,.int .i64 y.2.1,.int .i64 y.2.2] rfl bD3 bD3 b2 az N ?_;intro w5 bi;have bg:w5.there b (k * 3) 3:=tL;have b5:=yD bi;clear bi;go_wp2_with (refine yC rfl 131 _ _ rfl b (k * 3) (.agg #[.slice a2 (x.1).length be,Qn x.2.1,Qn x.2.2]) [.slice a2 (x.1).length be,.int .i64 x.2.1,.int .i64 x.2.2] rfl bD3 bD3 bg az aj ?_);rw [<- b5.out] at bb bj;generalize cc:kD.setCells w5 b (k * 3) [.slice a2 (x.1).length be,.int .i64 x.2.1,.int .i64 x.2.2]=w6 at *;exact oJ
   obtain ⟨c1,hp,cf,I⟩:=IB;go_upto_region 4 with fail;refine kM (λW=>Qb wr W) [Tt,Tt,Tt,Tt,Tt,Tt,Tt,Tt,Tt,Tt,Tt,Tt,Tt,Tt,Ff,Tt,Tt] bC5 bC5 pY (bR.drew) ?_;intro wS E;iterate 3
    all_goals refine kX ?_
   all_goals (refine jd λb a1=>?_;cases b <;> try simp only [jc] at a1)
   iterate 10
    all_goals refine kX ?_
   all_goals first|(refine kG rfl E ?_)|(fail)
   all_goals refine jD ?_
   all_goals refine kX ?_
   all_goals (refine jd λb V=>?_;cases b <;> try simp only [jc] at V)
   all_goals refine kR ?_
   all_goals have ar:=yD (F.out.trans (Touch.of_below E))
   all_goals have bx:=yD (Z.out.below E)
   exact oK
 exact oL
def rot_eq {α:Type} {m p q:Nat} {cu:List α} (h:p=q):Srt.rot m p q cu=Srt.swr p (m - p) m cu:=by rw [Srt.rot,if_pos h]
def rot_gt {α:Type} {m p q:Nat} {cu:Ah α} (h:q < p) (hq:0 < q):Srt.rot m p q cu=Srt.rot m (p - q) q (Srt.swr q (m - p) m cu):=by
 rw [Srt.rot,if_neg bD1,dif_pos ⟨by omega,hq⟩,if_pos h]
def rot_lt {α:Type} {m p q:Nat} {cu:Ah α} (h:p < q) (hp:0 < p):Srt.rot m p q cu=Srt.rot m p (q - p) (Srt.swr p (m - p) (m + q - p) cu):=by
 rw [Srt.rot,if_neg bD1,dif_pos ⟨hp,by omega⟩,if_neg bD1]
def kKj {w:Ai} {b n cap a z c:Nat} {xs:Ah Int} {S:Nat->Prop} {g:Bd} {cp:Bf Ag} (h:kD.kU 3 kD.int w (.slice (some ⟨b,0,none⟩) n cap) xs S) (hn:n=xs.length) (hlen:xs.length<=16777216) (co:a + c<=z) (hz:z + c<=xs.length) :
    Bh prog 234 #[.slice (some ⟨b,0,none⟩) n cap,.int .i64 (a:Nat),.int .i64 (z:Nat),.int .i64 (c:Nat),.func (.func g) #[] cp] w λe w'=>e=.returned (.tuple #[])/\kD.kU 3 kD.int w' (.slice (some ⟨b,0,none⟩) n cap) (Srt.swr c a z xs) S/\Touch S w w':=by
 have D:=yD h
 have bl:=yD hn
 clear h
 have a3:z + c<=16777216:=bD1
 have a7:z + c<=n:=bD1
 clear hlen hz hn
 obtain ⟨cl,b1⟩:=J8
 have hc0:=Aa c
 have ay:(a:Int)<=z:=bD1
 have cq:(z:Int) + c<=16777216:=bD1
 go_enter func234,ntmps234
 go_wp2
 go_loopw [10] (λi wr=>∃ (m:Nat) (cu:Ah Int),i=.int .i64 m/\m<=c/\Hid (Srt.swr (c - m) (a + m) (z + m) cu=Srt.swr c a z xs)/\Hid (cu.length=n)/\Hid (kD.kU 3 kD.int wr (.slice (some ⟨b,0,none⟩) n cap) cu S)/\Hid (Touch S w wr)) (λi _=>c - (Bb i).toNat)
 case atStart=>exact ⟨0,xs,rfl,Nat.zero_le _,yD rfl,yD bl.out.symm,D,yD (Touch.refl _ _)⟩
 obtain ⟨i,cu,rfl,aq,HF,HL,L,U⟩:=hrel
 have cw:=Aa i
 by_cases hlt:i < c
 · have cv:(i:Int) < c:=bD1;have ce:=yD ((swr_next (a:=a) (b:=z) (cu:=cu) hlt).symm.trans HF.out);have J:a + i < cu.length:=vQ;have F:z + i < cu.length:=vQ;obtain ⟨j,I⟩:∃ j,a + i=j:=⟨_,rfl⟩;obtain ⟨k,hk⟩:∃ k,z + i=k:=⟨_,rfl⟩;have a4:j < cu.length:=bD1;have am:k < cu.length:=bD1;have hjk:j≠k:=bD1;rw [I,hk] at ce;obtain ⟨b0,bk,dq,cz,cm,bo,O,V,Y,H⟩:=EL;clear J F;obtain ⟨ba,pr,G⟩:=kD.at1 L.out.kAz a4 rfl;obtain ⟨an,af⟩:=kD.jb pr;obtain rfl:ba=_:=by simpa using an
   clear an af;obtain ⟨ae,qr,R⟩:=kD.at1 L.out.kAz am rfl;obtain ⟨ac,ad⟩:=kD.jb qr;obtain rfl:ae=_:=by simpa using ac
   clear ac ad;generalize cu[j]=x at *;generalize cu[k]=y at *;go_upto_region 3 with fail;have FX:=yD (λ(W:Ai) (hW:Qb wr W)=>kHv hW G R);refine yf (λW=>Qb wr W) [4,5,6,7] [(0,true),(1,true),(2,true),(3,true),(8,true),(9,true),(10,true),(11,true),(12,true),(13,true),(14,true),(15,true),(16,true),(17,true),(18,true),(19,true),(20,true)] bC5 bC5 pY (bR.drew) ?_;intro wS E;simp only [jB,zK,Al,Ap,Ad,Ae,Az,Ba,Am,Aq,Ak,Av,Nat.reduceAdd,Nat.zero_add];iterate 4
    refine kFd (v:=?_) rfl (λW=>?_) ?_;rotate_left;(· go_simp;try with_reducible rfl)
    refine jD ?_
   refine pre_nil ?_;iterate 17
    refine kX ?_
   refine jy ?_;have ar:=yD (U.out.trans (Touch.of_below E));replace L:=yD (L.out.below E);replace G:=cL E G;replace R:=cL E R;have BK:=kD.kCq L.out a4;have bc:j * kD.int.n=j:=Nat.mul_one _;have a9:k * kD.int.n=k:=Nat.mul_one _;have b2:wS.there b (j) 1:=nR;have b3:wS.there b (k) 1:=nS;obtain ⟨bm,bw⟩:=FE;obtain ⟨s1,s2⟩:=kD.kDo (ci:=[.int .i64 x]) (cj:=[.int .i64 y]) L.out a4 am hjk rfl rfl bm bw (pi:=j) (pj:=k) bc.symm a9.symm;have bb:=yD s1;have bj:=yD s2;clear s1 s2 bm bw bc a9;obtain ⟨az,aj,N⟩:=GZ;refine yC rfl 3 _ _ rfl b (j) (.int .i64 y) [.int .i64 y] rfl bD3 bD3 b2 az N ?_;intro w5 bi;have bg:w5.there b (k) 1:=tL;have b5:=yD bi;clear bi;go_wp2_with (refine yC rfl 3 _ _ rfl b (k) (.int .i64 x) [.int .i64 x] rfl bD3 bD3 bg az aj ?_);rw [<- b5.out] at bb bj;generalize cc:kD.setCells w5 b (k) [.int .i64 x]=w6 at *;exact oM
 exact oN
def rot_int_c {w:Ai} {b n cap a m z:Nat} {xs:Ah Int} {S:Nat->Prop} {g:Bd} {cp:Bf Ag} (h:kD.kU 3 kD.int w (.slice (some ⟨b,0,none⟩) n cap) xs S) (hn:n=xs.length) (hlen:xs.length<=16777216) (ca:a < m) (b6:m < z) (hz:z<=xs.length) :
    Bh prog 225 #[.slice (some ⟨b,0,none⟩) n cap,.int .i64 (a:Nat),.int .i64 (m:Nat),.int .i64 (z:Nat),.func (.func g) #[] cp] w λe w'=>e=.returned (.tuple #[])/\kD.kU 3 kD.int w' (.slice (some ⟨b,0,none⟩) n cap) (Srt.rot m (m - a) (z - m) xs) S/\Touch S w w':=by
 have D:=yD h
 have bl:=yD hn
 clear h
 have a3:z<=16777216:=bD1
 have a7:z<=n:=bD1
 have c0:n<=16777216:=bD1
 clear hlen hz hn
 obtain ⟨cl,c4,c3,cq,cm,bo⟩:=IK
 generalize cw:m - a=J at *
 generalize b0:z - m=E at *
 obtain ⟨aq,bq,bu,bn,Y,H⟩:=GG
 go_enter func225,ntmps225
 go_wp2
 go_loopw [10,11] (λi j wr=>∃ (p q:Nat) (cu:Ah Int),i=.int .i64 p/\j=.int .i64 q/\0 < p/\0 < q/\p<=m/\m + q<=n/\Hid (Srt.rot m p q cu=Srt.rot m J E xs)/\Hid (cu.length=n)/\Hid (kD.kU 3 kD.int wr (.slice (some ⟨b,0,none⟩) n cap) cu S)/\Hid (Touch S w wr)) (λi j _=>(Bb i).toNat + (Bb j).toNat)
 case atStart=>exact ⟨J,E,xs,rfl,rfl,by omega,by omega,by omega,by omega,yD rfl,yD bl.out.symm,D,yD (Touch.refl _ _)⟩
 clear cm bo Y H
 obtain ⟨p,q,cu,rfl,rfl,hp,hq,R,X,HF,HL,L,U⟩:=hrel
 have ay:=Aa p
 have cd:=Aa q
 have ae:(p:Int)<=m:=bD1
 have ag:(m:Int) + q<=16777216:=bD1
 obtain ⟨o,ck⟩:∃ o,m - p=o:=⟨_,rfl⟩
 have dl:(m:Int) - (p:Int)=(o:Int):=bD1
 have a2:Ac.wrap (o:Int)=o:=Ab _ bD1
 have ac:=Aa o
 by_cases cv:p=q
 · subst cv;have HE:=yD ((rot_eq (m:=m) (cu:=cu) rfl).symm.trans HF.out);rw [ck] at HE;have hb:((p:Int) != (p:Int))=false:=bD2;go_wp2_with fail;refine (kKj (n:=n) (b:=b) L.out HL.out.symm vQ (a:=o) (z:=m) (c:=p) bD1 vQ).mono ?_;exact oO
 have hb:((p:Int) != (q:Int))=true:=bC6
 have ab:(p != q)=true:=by simpa using cv
 have ap:¬ (p:Int)=q:=bD1
 by_cases en:q < p
 · have HE:=yD ((rot_gt (m:=m) (cu:=cu) en hq).symm.trans HF.out);rw [ck] at HE;have au:(q:Int) < p:=bD1;have a1:decide ((p:Int) > q)=true:=bC6;have de:(p:Int) - (q:Int)=((p - q:Nat):Int):=bD1;generalize O:p - q=I at *;have W:Ac.wrap (I:Int)=I:=Ab _ bD1;go_wp2_with fail;refine (kKj (n:=n) (b:=b) L.out HL.out.symm vQ (a:=o) (z:=m) (c:=q) bD1 vQ).mono ?_;exact oP
 have hlt:p < q:=bD1
 have HE:=yD ((rot_lt (m:=m) (cu:=cu) hlt hp).symm.trans HF.out)
 rw [ck] at HE
 have au:¬ (q:Int) < p:=bD1
 have a1:decide ((p:Int) > q)=false:=bC6
 have de:(q:Int) - (p:Int)=((q - p:Nat):Int):=bD1
 generalize O:q - p=I at *
 have W:Ac.wrap (I:Int)=I:=Ab _ bD1
 have a5:(m:Int) + (q:Int)=((m + q:Nat):Int):=bD1
 generalize af:m + q=N at *
 have bi:Ac.wrap (N:Int)=N:=Ab _ bD1
 have ah:(N:Int) - (p:Int)=((N - p:Nat):Int):=bD1
 generalize ad:N - p=G at *
 have cc:Ac.wrap (G:Int)=G:=Ab _ bD1
 go_wp2_with fail
 refine (kKj (n:=n) (b:=b) L.out HL.out.symm vQ (a:=o) (z:=G) (c:=p) bD1 vQ).mono ?_
 exact oQ
def kHl {w:Ai} {b n cap a z c:Nat} {xs:Ah kz} {S:Nat->Prop} {g:Bd} {cp:Bf Ag} (h:kD.kU 131 kS w (.slice (some ⟨b,0,none⟩) n cap) xs S) (hn:n=xs.length) (hlen:xs.length<=16777216) (co:a + c<=z) (hz:z + c<=xs.length) :
    Bh prog 233 #[.slice (some ⟨b,0,none⟩) n cap,.int .i64 (a:Nat),.int .i64 (z:Nat),.int .i64 (c:Nat),.func (.func g) #[] cp] w λe w'=>e=.returned (.tuple #[])/\kD.kU 131 kS w' (.slice (some ⟨b,0,none⟩) n cap) (Srt.swr c a z xs) S/\Touch S w w':=by
 have D:=yD h
 have bl:=yD hn
 clear h
 have a3:z + c<=16777216:=bD1
 have a7:z + c<=n:=bD1
 clear hlen hz hn
 obtain ⟨cl,b1⟩:=J8
 have hc0:=Aa c
 have ay:(a:Int)<=z:=bD1
 have cq:(z:Int) + c<=16777216:=bD1
 go_enter func233,ntmps233
 go_wp2
 go_loopw [10] (λi wr=>∃ (m:Nat) (cu:Ah kz),i=.int .i64 m/\m<=c/\Hid (Srt.swr (c - m) (a + m) (z + m) cu=Srt.swr c a z xs)/\Hid (cu.length=n)/\Hid (kD.kU 131 kS wr (.slice (some ⟨b,0,none⟩) n cap) cu S)/\Hid (Touch S w wr)) (λi _=>c - (Bb i).toNat)
 case atStart=>exact ⟨0,xs,rfl,Nat.zero_le _,yD rfl,yD bl.out.symm,D,yD (Touch.refl _ _)⟩
 obtain ⟨i,cu,rfl,aq,HF,HL,L,U⟩:=hrel
 have cw:=Aa i
 by_cases hlt:i < c
 · have cv:(i:Int) < c:=bD1;have ce:=yD ((swr_next (a:=a) (b:=z) (cu:=cu) hlt).symm.trans HF.out);have J:a + i < cu.length:=vQ;have F:z + i < cu.length:=vQ;obtain ⟨j,I⟩:∃ j,a + i=j:=⟨_,rfl⟩;obtain ⟨k,hk⟩:∃ k,z + i=k:=⟨_,rfl⟩;have a4:j < cu.length:=bD1;have am:k < cu.length:=bD1;have hjk:j≠k:=bD1;rw [I,hk] at ce;obtain ⟨b0,bk,dq,cz,cm,bo,O,V,Y,H⟩:=EL;clear J F;obtain ⟨ba,b9,ch,pr,G,bt,bp⟩:=kD.at3 L.out.kAz a4 rfl;obtain ⟨b7,an,a8,a6,bh,bz⟩:=jJ pr;simp only [Ar,and_true] at an;obtain ⟨rfl,rfl,rfl⟩:=an;obtain ⟨a2,be,rfl,cd⟩:=kD.sl a6;clear a8 a6 bh bz;obtain ⟨ae,af,ah,qr,R,br,bv⟩:=kD.at3 L.out.kAz am rfl;obtain ⟨bd,ac,ag,ak,ao,ax⟩:=jJ qr;simp only [Ar,and_true] at ac;obtain ⟨rfl,rfl,rfl⟩:=ac;obtain ⟨ad,aw,rfl,bf⟩:=kD.sl ak;clear ag ak ao ax;generalize cu[j]=x at *;generalize cu[k]=y at *;go_upto_region 3 with fail;have FX:=yD (λ(W:Ai) (hW:Qb wr W)=>kGx hW G bt bp R br bv);refine yf (λW=>Qb wr W) [4,5,6,7] [(0,true),(1,true),(2,true),(3,true),(8,true),(9,true),(10,true),(11,true),(12,true),(13,true),(14,true),(15,true),(16,true),(17,true),(18,true),(19,true),(20,true)] bC5 bC5 pY (bR.drew) ?_;intro wS E;simp only [jB,zK,Al,Ap,Ad,Ae,Az,Ba,Am,Aq,Ak,Av,Nat.reduceAdd,Nat.zero_add];iterate 4
    refine kFd (v:=?_) rfl (λW=>?_) ?_;rotate_left;(· go_simp;try with_reducible rfl)
    refine jD ?_
   refine pre_nil ?_;iterate 17
    refine kX ?_
   refine jy ?_;have ar:=yD (U.out.trans (Touch.of_below E));replace L:=yD (L.out.below E);obtain ⟨G,bt,bp,R,br,bv⟩:=I9;have BK:=kD.kCq L.out a4;have bc:j * kS.n=j * 3:=rfl;have a9:k * kS.n=k * 3:=rfl;have b2:wS.there b (j * 3) 3:=nR;have b3:wS.there b (k * 3) 3:=nS;obtain ⟨bm,bw⟩:=D5;obtain ⟨s1,s2⟩:=kD.kDo (ci:=[.slice a2 (x.1).length be,.int .i64 x.2.1,.int .i64 x.2.2]) (cj:=[.slice ad (y.1).length aw,.int .i64 y.2.1,.int .i64 y.2.2]) L.out a4 am hjk rfl rfl bm bw (pi:=j * 3) (pj:=k * 3) bc.symm a9.symm;have bb:=yD s1;have bj:=yD s2;clear s1 s2 bm bw bc a9;obtain ⟨az,aj,N⟩:=DV;refine yC rfl 131 _ _ rfl b (j * 3) (.agg #[.slice ad (y.1).length aw,Qn y.2.1,Qn y.2.2]) [.slice ad (y.1).length aw,.int .i64 y.2.1,.int .i64 y.2.2] rfl bD3 bD3 b2 az N ?_;intro w5 bi;have bg:w5.there b (k * 3) 3:=tL;have b5:=yD bi;clear bi;go_wp2_with (refine yC rfl 131 _ _ rfl b (k * 3) (.agg #[.slice a2 (x.1).length be,Qn x.2.1,Qn x.2.2]) [.slice a2 (x.1).length be,.int .i64 x.2.1,.int .i64 x.2.2] rfl bD3 bD3 bg az aj ?_);rw [<- b5.out] at bb bj;generalize cc:kD.setCells w5 b (k * 3) [.slice a2 (x.1).length be,.int .i64 x.2.1,.int .i64 x.2.2]=w6 at *;exact oM
 exact oN
def rot_Route_c {w:Ai} {b n cap a m z:Nat} {xs:Ah kz} {S:Nat->Prop} {g:Bd} {cp:Bf Ag} (h:kD.kU 131 kS w (.slice (some ⟨b,0,none⟩) n cap) xs S) (hn:n=xs.length) (hlen:xs.length<=16777216) (ca:a < m) (b6:m < z) (hz:z<=xs.length) :
    Bh prog 224 #[.slice (some ⟨b,0,none⟩) n cap,.int .i64 (a:Nat),.int .i64 (m:Nat),.int .i64 (z:Nat),.func (.func g) #[] cp] w λe w'=>e=.returned (.tuple #[])/\kD.kU 131 kS w' (.slice (some ⟨b,0,none⟩) n cap) (Srt.rot m (m - a) (z - m) xs) S/\Touch S w w':=by
 have D:=yD h
 have bl:=yD hn
 clear h
 have a3:z<=16777216:=bD1
 have a7:z<=n:=bD1
 have c0:n<=16777216:=bD1
 clear hlen hz hn
 obtain ⟨cl,c4,c3,cq,cm,bo⟩:=IK
 generalize cw:m - a=J at *
 generalize b0:z - m=E at *
 obtain ⟨aq,bq,bu,bn,Y,H⟩:=GG
 go_enter func224,ntmps224
 go_wp2
 go_loopw [10,11] (λi j wr=>∃ (p q:Nat) (cu:Ah kz),i=.int .i64 p/\j=.int .i64 q/\0 < p/\0 < q/\p<=m/\m + q<=n/\Hid (Srt.rot m p q cu=Srt.rot m J E xs)/\Hid (cu.length=n)/\Hid (kD.kU 131 kS wr (.slice (some ⟨b,0,none⟩) n cap) cu S)/\Hid (Touch S w wr)) (λi j _=>(Bb i).toNat + (Bb j).toNat)
 case atStart=>exact ⟨J,E,xs,rfl,rfl,by omega,by omega,by omega,by omega,yD rfl,yD bl.out.symm,D,yD (Touch.refl _ _)⟩
 clear cm bo Y H
 obtain ⟨p,q,cu,rfl,rfl,hp,hq,R,X,HF,HL,L,U⟩:=hrel
 have ay:=Aa p
 have cd:=Aa q
 have ae:(p:Int)<=m:=bD1
 have ag:(m:Int) + q<=16777216:=bD1
 obtain ⟨o,ck⟩:∃ o,m - p=o:=⟨_,rfl⟩
 have dl:(m:Int) - (p:Int)=(o:Int):=bD1
 have a2:Ac.wrap (o:Int)=o:=Ab _ bD1
 have ac:=Aa o
 by_cases cv:p=q
 · subst cv;have HE:=yD ((rot_eq (m:=m) (cu:=cu) rfl).symm.trans HF.out);rw [ck] at HE;have hb:((p:Int) != (p:Int))=false:=bD2;go_wp2_with fail;refine (kHl (n:=n) (b:=b) L.out HL.out.symm vQ (a:=o) (z:=m) (c:=p) bD1 vQ).mono ?_;exact oO
 have hb:((p:Int) != (q:Int))=true:=bC6
 have ab:(p != q)=true:=by simpa using cv
 have ap:¬ (p:Int)=q:=bD1
 by_cases en:q < p
 · have HE:=yD ((rot_gt (m:=m) (cu:=cu) en hq).symm.trans HF.out);rw [ck] at HE;have au:(q:Int) < p:=bD1;have a1:decide ((p:Int) > q)=true:=bC6;have de:(p:Int) - (q:Int)=((p - q:Nat):Int):=bD1;generalize O:p - q=I at *;have W:Ac.wrap (I:Int)=I:=Ab _ bD1;go_wp2_with fail;refine (kHl (n:=n) (b:=b) L.out HL.out.symm vQ (a:=o) (z:=m) (c:=q) bD1 vQ).mono ?_;exact oP
 have hlt:p < q:=bD1
 have HE:=yD ((rot_lt (m:=m) (cu:=cu) hlt hp).symm.trans HF.out)
 rw [ck] at HE
 have au:¬ (q:Int) < p:=bD1
 have a1:decide ((p:Int) > q)=false:=bC6
 have de:(q:Int) - (p:Int)=((q - p:Nat):Int):=bD1
 generalize O:q - p=I at *
 have W:Ac.wrap (I:Int)=I:=Ab _ bD1
 have a5:(m:Int) + (q:Int)=((m + q:Nat):Int):=bD1
 generalize af:m + q=N at *
 have bi:Ac.wrap (N:Int)=N:=Ab _ bD1
 have ah:(N:Int) - (p:Int)=((N - p:Nat):Int):=bD1
 generalize ad:N - p=G at *
 have cc:Ac.wrap (G:Int)=G:=Ab _ bD1
 go_wp2_with fail
 refine (kHl (n:=n) (b:=b) L.out HL.out.symm vQ (a:=o) (z:=G) (c:=p) bD1 vQ).mono ?_
 exact oQ
end Go.Proofs.YtjhfdpopkkmigaaGreat

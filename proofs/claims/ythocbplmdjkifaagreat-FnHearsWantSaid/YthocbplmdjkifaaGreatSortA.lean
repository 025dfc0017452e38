/-
  The stable sort, its small parts.
-/
import Derived.Test.YthocbplmdjkifaaGreatSrt
set_option linter.unusedVariables false
set_option linter.defProp false
set_option linter.unusedSimpArgs false
set_option linter.unnecessarySimpa false
set_option maxRecDepth 100000
set_option maxHeartbeats 4000000
open Bool renaming true->Tt,false->Ff
open Go renaming Value->Aa,World->Ad,TypeId->Au
open Go.Value.slice renaming injEq->Ab
open _root_ renaming List->Ac
open List renaming length_append->Ae,mem_or_eq_of_mem_set->Ag,getElem?_cons_succ->Ai,getElem?_cons_zero->Aj,drop_succ_cons->Ak,getElem_mem->Ap,length_cons->Aq,cons_append->Ar
open Option.some renaming injEq->Ah
open Go.Addr.mk renaming injEq->Al
open Int renaming natCast_nonneg->Am
namespace Go.Proofs.YthocbplmdjkifaaGreat
open Go.RowKit _root_.Go.Proofs.Tryz
namespace kD
section
variable {α:Type} {r:kD α} {e:Au} {w w' u:Ad} {v:Aa} {b cap len n i j:Nat} {xs:Ac α} {x y:α} {S T:Nat->Prop}
def row_swap {cells:Ac Aa} {X D F:Ac α} (h:row r true w cells (X++x :: (D++y :: F)) S) :
    ∃ d1 cx d2 cy d3,cells=d1++(cx++(d2++(cy++d3)))/\d1.length=X.length * r.n/\cx.length=r.n/\d2.length=D.length * r.n/\cy.length=r.n /\
      row r true w (d1++(cy++(d2++(cx++d3)))) (X++y :: (D++x :: F)) S:=by
 obtain ⟨d1,e1,A1,B1,rfl,r1,⟨cx,e2,N,B2,rfl,V,q2,J,E,O⟩,hA1,H,D1⟩:=kHz X h
 obtain ⟨d2,e3,A2,B3,rfl,r2,⟨cy,d3,R,A3,rfl,U,L,o,W,Y⟩,hA2,I,D2⟩:=kHz D q2
 refine ⟨d1,cx,d2,cy,d3,rfl,zR r1,r.len V,zR r2,r.len U,?_⟩
 have t3:row r true w (cx++d3) (x :: F) (λk=>N k\/A3 k):=⟨cx,d3,N,A3,rfl,V,L,λ_=>.inl,λ_=>.inr,λ_ k h1 h2=>O rfl k h1 (I k (W k h2))⟩
 have t2:row r true w (d2++(cx++d3)) (D++x :: F) (λk=>A2 k\/(N k\/A3 k)):=kAh r2 t3 (λ_=>.inl) (λ_=>.inr) (λ_ k h1 h2=>h2.elim (λq=>O rfl k q (hA2 k h1)) (λq=>D2 rfl k h1 (W k q)))
 have t1:row r true w (cy++(d2++(cx++d3))) (y :: (D++x :: F)) (λk=>R k\/(A2 k\/(N k\/A3 k))):=⟨cy,_,R,_,rfl,U,t2,λ_=>.inl,λ_=>.inr,λ_ k h1 h2=>h2.elim (λq=>D2 rfl k q (o k h1)) (λh2=>h2.elim (λq=>O rfl k q (I k (o k h1))) (λq=>Y rfl k h1 q))⟩
 refine kAh r1 t1 hA1 ?_ ?_
 · rintro k (q | q | q | q)
   · exact H k (E k (I k (o k q)))
   · exact H k (E k (hA2 k q))
   · exact H k (J k q)
   exact H k (E k (I k (W k q)))
 rintro _ k h1 (q | q | q | q)
 · exact D1 rfl k h1 (E k (I k (o k q)))
 · exact D1 rfl k h1 (E k (hA2 k q))
 · exact D1 rfl k h1 (J k q)
 exact D1 rfl k h1 (E k (I k (W k q)))
def jDi {l:Ac α} {i j:Nat} (E:i < j) (I:j < l.length):∃ X x D y F,l=X++x :: (D++y :: F)/\X.length=i/\D.length=j - i - 1:=by
 refine ⟨l.take i,l[i],(l.drop (i + 1)).take (j - i - 1),l[j],l.drop (j + 1),?_,by simp;omega,by simp;omega⟩;have e1:l=l.take i++l[i] :: l.drop (i + 1):=bF3;have e2:l.drop (i + 1)=(l.drop (i + 1)).take (j - i - 1)++l[j] :: l.drop (j + 1):=by
  have h1:(l.drop (i + 1)).drop (j - i - 1)=l.drop j:=by rw [List.drop_drop];congr 1;omega
  have h2:l.drop j=l[j] :: l.drop (j + 1):=bF3;rw [<- h2,<- h1,List.take_append_drop]
 rw [<- e2,<- e1]
def kTv {cells mid pre J:Ac Aa} {o:Nat} {cs:Ac Aa} {e:Au} (hc:w.heap[b]?=some (.cells cells.toArray e (0,0))) (he:cells=pre++(mid++J)) (ho:pre.length=o) (hl:cs.length=mid.length)
    (h:∀ q u,cs[q]?=some u->Qc w b (o + q) u):cs=mid:=by
 apply List.ext_getElem hl
 intro q h1 h2
 have:=h q cs[q] (by simp [h1])
 rw [cell_of_row w b _ _ e (0,0) hc] at this
 simp only [List.getElem?_toArray] at this
 rw [he,List.getElem?_append_right bF2,List.getElem?_append_left bF2,show o + q - pre.length=q by omega,List.getElem?_eq_getElem h2] at this
 exact (Option.some.inj this).symm
def jDz (h:kY e r w (.slice (some ⟨b,0,none⟩) len cap) xs S) (hi:i < xs.length) (I:j < xs.length) (E:i≠j) {ci cj:Ac Aa} (Y:ci.length=r.n) (U:cj.length=r.n)
    (bk:∀ q u,ci[q]?=some u->w.cell? ⟨b,i * r.n + q,none⟩=some u) (ar:∀ q u,cj[q]?=some u->w.cell? ⟨b,j * r.n + q,none⟩=some u) {pi pj:Nat} (dd:pi=i * r.n) (L:pj=j * r.n) :
    kY e r (setCells (setCells w b pi cj) b pj ci) (.slice (some ⟨b,0,none⟩) len cap) (Srt.sw xs i j) S/\Touch (λk=>k=b) w (setCells (setCells w b pi cj) b pj ci):=by
 subst dd L
 refine ⟨?_,(ze _ _ _ _).trans (ze _ _ _ _)⟩
 obtain ⟨hb,h⟩:=h
 rcases h with ⟨⟨a,h0⟩,rfl⟩|⟨b',cap',cur,cs,tl,h0,h1,h2,h3,h4,h5,h6,h7⟩
 · simp at hi
 simp only [Ab,Ah,Al,and_true] at h0
 obtain ⟨rfl,rfl,rfl⟩:=h0
 have o:cur=(cs++tl).toArray:=bF0
 subst o
 have N:∀ z∈Srt.sw xs i j,r.bdd Big z:=by
  intro z hz;rw [Srt.jFc hi I] at hz;rcases Ag hz with q | q
  · rcases Ag q with q | q
    · exact hb z q
    rw [q];exact hb _ (Ap I)
  rw [q];exact hb _ (Ap hi)
 have hlen:=Srt.kPf xs i j
 refine ⟨N,.inr ⟨b,cap,?_⟩⟩
 suffices hh:∃ cs',(setCells (setCells w b (i * r.n) cj) b (j * r.n) ci).heap[b]?=some (.cells (cs'++tl).toArray e (0,0))/\cs'.length=cs.length/\row r true w cs' (Srt.sw xs i j) (λk=>S k/\k≠b) by
   obtain ⟨cs',g1,g2,g3⟩:=hh;refine ⟨_,cs',tl,by rw [hlen],by rw [hlen];exact h1,h2,g1,by simp,?_,h6,?_⟩
   · rw [<- h5];simp [g2]
   · exact yV g3 (λk hk=>by rw [kAp _ _ _ _ _ hk.2,kAp _ _ _ _ _ hk.2])
 rcases Nat.lt_or_gt_of_ne E with q | q
 · obtain ⟨X,x,D,y,F,rfl,R,l2⟩:=jDi q I;obtain ⟨d1,cx,d2,cy,d3,rfl,m1,W,m2,V,hr⟩:=row_swap h7;have e1:ci=cx:=kTv h3 (show _=d1++(cx++((d2++(cy++d3))++tl)) by simp) (by rw [m1,R]) bF2 bk;have e2:cj=cy:=kTv h3 (show _=(d1++(cx++d2))++(cy++(d3++tl)) by simp) (by
     simp only [Ae];rw [m1,W,m2,R,l2];have:j=i + 1 + (j - i - 1):=by omega
     generalize j - i - 1=t at *;subst this;simp only [Nat.add_mul];omega) bF2 ar
   subst e1 e2;have O:(d1++(cj++d2)).length=j * r.n:=by
    simp only [Ae];rw [m1,U,m2,R,l2];have:j=i + 1 + (j - i - 1):=by omega
    generalize j - i - 1=t at *;subst this;simp only [Nat.add_mul];omega
   refine ⟨d1++(cj++(d2++(ci++d3))),?_,by simp;omega,?_⟩
   · have g1:=kAl (e:=e) cj ci d1 ((d2++(cj++d3))++tl) w b (i * r.n) (by rw [h3];simp) (by rw [m1,R]) bF2;have g2:=kAl (e:=e) ci cj (d1++(cj++d2)) (d3++tl) _ b (j * r.n) (by rw [g1];simp) O bF2;rw [g2];simp
   have H:=Srt.kZf X D F x y (i:=i) (j:=j) R.symm bF2;rw [show X++x :: (D++y :: F)=X++x :: D++y :: F by simp,H];simpa using hr
 obtain ⟨X,y,D,x,F,rfl,R,l2⟩:=jDi q hi
 obtain ⟨d1,cy,d2,cx,d3,rfl,m1,V,m2,W,hr⟩:=row_swap h7
 have J:∀ z:Ac Aa,z.length=r.n->(d1++(z++d2)).length=i * r.n:=by
  intro z hz;simp only [Ae];rw [m1,hz,m2,R,l2];have:i=j + 1 + (i - j - 1):=by omega
  generalize i - j - 1=t at *;subst this;simp only [Nat.add_mul];omega
 have e1:cj=cy:=kTv h3 (show _=d1++(cy++((d2++(cx++d3))++tl)) by simp) (by rw [m1,R]) bF2 ar
 have e2:ci=cx:=kTv h3 (show _=(d1++(cy++d2))++(cx++(d3++tl)) by simp) (J _ V) bF2 bk
 subst e1 e2
 refine ⟨d1++(ci++(d2++(cj++d3))),?_,by simp;omega,?_⟩
 · have g1:=kAl (e:=e) cj ci (d1++(cj++d2)) (d3++tl) w b (i * r.n) (by rw [h3];simp) (J _ U) bF2;have g2:=kAl (e:=e) ci cj d1 ((d2++(cj++d3))++tl) _ b (j * r.n) (by rw [g1];simp) (by rw [m1,R]) bF2;rw [g2];simp
 have H:=Srt.kZf X D F y x (i:=j) (j:=i) R.symm bF2
 rw [Srt.sw_comm,show X++y :: (D++x :: F)=X++y :: D++x :: F by simp,H]
 simpa using hr
end
end kD
def kUx {P:Program} (w:Ad) (b o:Nat) (ty:Au) (v:Aa) (cs:Ac Aa) (ab:v.cells=cs.toArray) (ht:w.there b o cs.length) (hi:(P.info? ty).map (·.size)=some cs.length) (h1:∀ c∈cs,c.oneCell'=true) :
    (storeVar ty ⟨b,o,none⟩ v).run P w=.ok () (kD.setCells w b o cs):=by
 have:=run_storeCells_cells (P:=P) b o cs 0 w (λj I=>by simpa using (ht j bD7).1) (λj I=>by simpa using (ht j bD7).2) h1
 cases hq:P.info? ty with
 | none=>simp [hq] at hi
 | some i =>
   have hs:cs.length=i.size:=by simp [hq] at hi;omega
   simp only [Nat.add_zero] at this;rw [<- kD.kHt];simp [storeVar,sizeOf,typeInfo,hq,ab,hs,this]
def wp_storeV {P:Program} {E:Oper} {a:Act} {w:Ad} {K:Act->Ad->Prop} {Q:Exit->Act->Ad->Prop} (ty:Au) (x y:Operand) (ho:E.op=.store ty x y)
    (b o:Nat) (v:Aa) (cs:Ac Aa) (ab:v.cells=cs.toArray) (hx:a.eval x=.pointer (some ⟨b,o,none⟩)) (hy:a.eval y=v)
    (ht:w.there b o cs.length) (hi:(P.info? ty).map (·.size)=some cs.length) (h1:∀ c∈cs,c.oneCell'=true)
    (h:∀ w',w'=kD.setCells w b o cs->K (a.put E.dst undef) w'):E.wp P a w K Q:=by
 unfold Oper.wp execOp
 simp only [ho,hx,hy,Instr.storeAt,Instr.sureAddr,Sem.run_bind,Sem.run_pure,Result.andThen_ok,kUx w b o ty v cs ab ht hi h1]
 exact h _ rfl
def kGi {P:Program} {ops:Array Oper} {rest:Ac Oper} {E:Oper} {a:Act} {w:Ad} {Q:Exit->Act->Ad->Prop} (D:E.guard=none) (ty:Au) (x y:Operand) (ho:E.op=.store ty x y)
    (b o:Nat) (v:Aa) (cs:Ac Aa) (ab:v.cells=cs.toArray) (hx:a.eval x=.pointer (some ⟨b,o,none⟩)) (hy:a.eval y=v)
    (ht:w.there b o cs.length) (hi:(P.info? ty).map (·.size)=some cs.length) (h1:∀ c∈cs,c.oneCell'=true)
    (h:∀ w',w'=kD.setCells w b o cs->wpList P ops Q rest (a.put E.dst undef) w'):wpList P ops Q (E :: rest) a w :=
  wpList_plain D λ_ H=>wp_storeV ty x y ho b o v cs ab hx hy ht hi h1 (λw' hw=>H _ _ (h w' hw))
namespace kD
section
variable {α:Type} {r:kD α} {e:Au} {w w' u:Ad} {v:Aa} {b cap len n i j:Nat} {xs:Ac α} {x y:α} {S T:Nat->Prop}
def jDg {m o p:Nat} {cs:Ac Aa} (h:w.there b o m):(setCells w b p cs).there b o m:=by
 rw [<- kHt];exact World.there_setCells h b p cs
def kMh (h:kY e r w (.slice (some ⟨b,0,none⟩) len cap) xs S) (hi:i < xs.length):w.there b (i * r.n) r.n:=by
 obtain ⟨hb,h⟩:=h;rcases h with ⟨⟨a,h0⟩,rfl⟩|⟨b',cap',cur,cs,tl,h0,h1,h2,h3,h4,h5,h6,h7⟩
 · simp at hi
 simp only [Ab,Ah,Al,and_true] at h0;obtain ⟨rfl,rfl,rfl⟩:=h0;intro j I;have hlt:i * r.n + j < cur.size:=by
  rw [h5];have:(i + 1) * r.n<=cap * r.n:=Nat.mul_le_mul_right _ bF2;rw [Nat.add_mul] at this;omega
 refine ⟨?_,frozen_of_row w b _ _ _ h3⟩;rw [cell_of_row w b _ _ e (0,0) h3,Array.getElem?_eq_getElem hlt];rfl
def jAc (h:kY e r w (.slice (some ⟨b,0,none⟩) len cap) xs S) (hi:i < xs.length):S b/\b < w.heap.size:=by
 obtain ⟨b',cap',h0,h1,h2,_⟩:=zm h hi;simp only [Ab,Ah,Al,and_true] at h0;obtain ⟨rfl,_,_⟩:=h0;exact ⟨h1,h2⟩
end
end kD
def jDf {S:Nat->Prop} {b:Nat} {w w':Ad} (h:Touch (λk=>k=b) w w') (hb:S b):Touch S w w':=h.wide (λk hk=>hk ▸ hb)
namespace kD
def cells1 {w:Ad} {b o:Nat} {c0:Aa} (h0:Qc w b o c0):∀ q u,([c0]:Ac Aa)[q]?=some u->Qc w b (o + q) u:=by
 intro q u hq
 match q with
 | 0=>simp at hq;subst hq;exact h0
 | q + 1=>simp at hq
def cells3 {w:Ad} {b o:Nat} {c0 c1 c2:Aa} (h0:Qc w b o c0) (h1:Qc w b (o + 1) c1) (h2:Qc w b (o + 2) c2):∀ q u,([c0,c1,c2]:Ac Aa)[q]?=some u->Qc w b (o + q) u:=by
 intro q u hq
 match q with
 | 0=>simp at hq;subst hq;exact h0
 | 1=>simp at hq;subst hq;exact h1
 | 2=>simp at hq;subst hq;exact h2
 | q + 3=>simp at hq
end kD
def jEj {α:Type} {key:α->Int} {a j k:Nat} {cu:Ac α} (hk:k + 1=j) (ha:a < j) (I:j < cu.length) (hkl:k < cu.length) (h:decide (key cu[j] < key cu[k])=true):Srt.inner key a j cu=Srt.inner key a k (Srt.sw cu j k):=by
 subst hk;have h:=of_decide_eq_true h;rw [Srt.inner,if_pos ⟨ha,by rw [Srt.kDo I,Srt.kDo hkl];exact h⟩]
def inner_no {α:Type} {key:α->Int} {a j k:Nat} {cu:Ac α} (hk:k + 1=j) (I:j < cu.length) (hkl:k < cu.length) (h:decide (key cu[j] < key cu[k])=false):Srt.inner key a j cu=cu:=by
 subst hk;have h:=of_decide_eq_false h;rw [Srt.inner,if_neg (by rintro ⟨_,q⟩;rw [Srt.kDo I,Srt.kDo hkl] at q;exact h q)]
def jAy {α:Type} {key:α->Int} {a j:Nat} {cu:Ac α} (ha:¬ a < j):Srt.inner key a j cu=cu:=by
 cases j with
 | zero=>rfl
 | succ j=>rw [Srt.inner,if_neg (by rintro ⟨q,_⟩;exact ha q)]
def jAe {α:Type} {key:α->Int} {a z i:Nat} {cu:Ac α} (h:i < z):Srt.outer key a (z - i) i cu=Srt.outer key a (z - (i + 1)) (i + 1) (Srt.inner key a i cu):=by
 rw [show z - i=(z - (i + 1)) + 1 by omega,Srt.outer]
def jEb {α:Type} {key:α->Int} {a z i:Nat} {cu:Ac α} (h:¬ i < z):Srt.outer key a (z - i) i cu=cu:=by
 rw [show z - i=0 by omega,Srt.outer]
def jGp (key:Int->Int) (g:FuncId) (cp:Array Aa) (S:Nat->Prop) (w0:Ad):Prop :=
  ∀ wr,Touch S w0 wr->∀ x y c d,kD.int.raw wr [c] x->kD.int.raw wr [d] y->Calls prog g (#[c,d]++cp) wr (λe w'=>∃ k:Int,e=.returned (.int .i64 k)/\decide (k < 0)=decide (key x < key y)/\Qb wr w')
def jGb {w:Ad} {b n cap a z:Nat} {xs:Ac Int} {S:Nat->Prop} {g:FuncId} {cp:Array Aa} (key:Int->Int) (hg:jL prog g) (an:jGp key g cp S w) (h:kD.kY 3 kD.int w (.slice (some ⟨b,0,none⟩) n cap) xs S) (hn:n=xs.length) (hlen:xs.length<=16777216) (cg:a<=z) (hz:z<=xs.length) :
    Calls prog 268 #[.slice (some ⟨b,0,none⟩) n cap,.int .i64 (a:Nat),.int .i64 (z:Nat),.func (.func g) #[] cp] w λe w'=>e=.returned (.tuple #[])/\kD.kY 3 kD.int w' (.slice (some ⟨b,0,none⟩) n cap) (Srt.kFm key a z xs) S/\Touch S w w':=by
 have a5:=yD an
 unfold jL at hg
 have F:=yD h
 have br:=yD hn
 clear h an
 have b8:z<=16777216:=bF2
 have ax:z<=n:=bF2
 clear hlen hz hn
 have bc:n<=cap\/xs=[]:=by
  rcases F.out.2 with ⟨_,q⟩|⟨_,_,_,_,_,q,q2,_⟩
  · exact .inr q
  simp only [Ab] at q;left;omega
 clear bc
 go_enter func268,ntmps268
 go_wp2
 go_loopw [8] (λi wr=>∃ (m:Nat) (cur:Ac Int),i=.int .i64 m/\a + 1<=m/\(m<=z\/m=a + 1)/\Hid (Srt.outer key a (z - m) m cur=Srt.kFm key a z xs)/\Hid (cur.length=n)/\Hid (kD.kY 3 kD.int wr (.slice (some ⟨b,0,none⟩) n cap) cur S)/\Hid (Touch S w wr)) (λi _=>z - (intOf i).toNat)
 case atStart=>exact ⟨a + 1,xs,by go_num,Nat.le_refl _,.inr rfl,yD rfl,yD br.out.symm,F,yD (Touch.refl _ _)⟩
 obtain ⟨i,cur,rfl,bx,hi2,HF,b4,J,L⟩:=hrel
 by_cases hlt:i < z
 · have cd:(i:Int) < z:=bF2;have R:=yD (jAe (key:=key) (a:=a) (cu:=cur) hlt);go_wp2;go_loopw [9] (λj wr=>∃ (m:Nat) (cu:Ac Int),j=.int .i64 m/\a<=m/\m<=i/\Hid (Srt.inner key a m cu=Srt.inner key a i cur)/\Hid (cu.length=n)/\Hid (kD.kY 3 kD.int wr (.slice (some ⟨b,0,none⟩) n cap) cu S)/\Hid (Touch S w wr)) (λj _=>(intOf j).toNat);case atStart=>exact ⟨i,cur,rfl,by omega,Nat.le_refl _,yD rfl,b4,J,L⟩
   obtain ⟨j,cu,rfl,ce,bb,bj,Z,ab,Y⟩:=hrel;have bi:=Am j;have cf:(j:Int) < z:=bF2;by_cases bq:a < j
   · obtain ⟨k,hk⟩:∃ k,k + 1=j:=⟨j - 1,by omega⟩;have av:j < cu.length:=by have:=Z.out;omega
     have hkl:k < cu.length:=bF2;obtain ⟨aa,ef,b3,b9,bv,hw,hp,bz,HY,a7⟩:=AU;obtain ⟨bg,pr,ai⟩:=kD.at1 ab.out.kKg av rfl;obtain ⟨ae,ah⟩:=kD.yX pr;obtain rfl:bg=_:=by simpa using ae
     clear ae ah;obtain ⟨ac,qr,D⟩:=kD.at1 ab.out.kKg hkl rfl;obtain ⟨ad,af⟩:=kD.yX qr;obtain rfl:ac=_:=by simpa using ad
     clear ad af;generalize cu[j]=x at *;generalize cu[k]=y at *;go_upto_region 4 with fail;have FX:=yD (λ(W:Ad) (hW:Qb wr W)=>kQm hW ai D);refine kK (λW=>Qb wr W) [Tt,Tt,Tt,Tt,Tt,Tt,Tt,Tt,Tt,Tt,Tt,Tt,Tt,Tt,Ff,Tt,Tt] bE5 bE5 qW (bR.drew) ?_;intro wS E;all_goals ((iterate 3 refine kS ?_);refine jT λb bh=>?_;cases b <;> try simp only [jS] at bh)
     all_goals ((iterate 10 refine kS ?_);(first|(refine kI rfl E ?_)|(refine ku rfl (λK H=>?_);go_simp;refine (a5.out _ (Y.out.trans (Touch.of_below E)) _ _ _ _ (kD.raw.below pr E) (kD.raw.below qr E)).mono ?_;rintro e wS1 ⟨kk,rfl,am,V⟩;replace E:=(tQ E V);refine H _ _ E ?_;clear H K V));refine jH ?_;refine kS ?_;refine jT λb ao=>?_;cases b <;> try simp only [jS] at ao)
     all_goals (refine kM ?_;have I:=yD (Y.out.trans (Touch.of_below E));replace ab:=yD (ab.out.below E))
     all_goals first
       | (have X:=yD (show decide (key x < key y)=false by first|(exact ao)|(simpa using ao)|(rw [<- am];simpa using ao));have a3:Hid (cu=Srt.inner key a i cur):=yD (a7.out X.out);clear a7 HY am ao;have bu:=ab;have al:Hid (Srt.outer key a (z - (i + 1)) (i + 1) cu=Srt.kFm key a z xs):=yD rW;refine Qg ?_;exact ⟨i + 1,cu,by go_num,by omega,.inl bF2,al,Z,bu,I⟩)
       | have X:=yD (show decide (key x < key y)=true by first|(exact ao)|(simpa using ao)|(rw [<- am];simpa using ao))
     have b5:=yD (HY.out X.out);clear HY a7 am ao X;replace ai:=cL E ai;replace D:=cL E D;clear E;generalize wS1=bn at *;go_upto_region 6 with fail;have FX:=yD (λ(W:Ad) (hW:Qb bn W)=>kQm hW ai D);refine kHk (λW=>Qb bn W) [2,3,4] [(0,true),(1,true),(5,true),(6,true),(7,true),(8,true),(9,true),(10,true),(11,true),(12,true),(13,true),(14,true)] bE5 bE5 qW (bR.drew) ?_;intro wS E;simp only [jG,kAu,Aq,List.length_nil,Ai,Aj,List.map_cons,List.map_nil,Ar,List.nil_append,Ak,List.drop_zero,Nat.reduceAdd,Nat.zero_add];iterate 3
      refine pre_read (v:=?_) rfl (λW=>?_) ?_;rotate_left;(· go_simp;try with_reducible rfl)
      refine jH ?_
     refine pre_nil ?_;iterate 12
      refine kS ?_
     refine yt ?_;replace I:=yD (I.out.trans (Touch.of_below E));replace ab:=yD (ab.out.below E);replace ai:=cL E ai;replace D:=cL E D;have BK:=kD.jAc ab.out av;have ap:j * kD.int.n=j:=Nat.mul_one _;have U:k * kD.int.n=k:=Nat.mul_one _;have b0:wS.there b (j) 1:=nR;have b1:wS.there b (k) 1:=nS;have bk:∀ q u,([.int .i64 x]:Ac Aa)[q]?=some u->wS.cell? ⟨b,j * kD.int.n + q,none⟩=some u:=by rw [ap];exact kD.cells1 ai
     have ar:∀ q u,([.int .i64 y]:Ac Aa)[q]?=some u->wS.cell? ⟨b,k * kD.int.n + q,none⟩=some u:=by rw [U];exact kD.cells1 D
     obtain ⟨s1,s2⟩:=kD.jDz (ci:=[.int .i64 x]) (cj:=[.int .i64 y]) ab.out av hkl bF2 rfl rfl bk ar (pi:=j) (pj:=k) ap.symm U.symm;have ag:=yD s1;have ba:=yD s2;clear s1 s2 bk ar ap U;have be:(prog.info? 3).map (·.size)=some 1:=by simpa using congrArg (λo=>o.map (λz=>z.2.1)) kBl
     have O:∀ c∈([.int .i64 x]:Ac Aa),c.oneCell'=true:=dC;have N:∀ c∈([.int .i64 y]:Ac Aa),c.oneCell'=true:=dC;refine kGi rfl 3 _ _ rfl b (j) (Qn y) [.int .i64 y] rfl bF4 bF4 b0 be N ?_;intro w5 a1;have aq:w5.there b (k) 1:=by rw [a1];exact kD.jDg b1
     have b2:=yD a1;clear a1;go_wp2_with (refine kGi rfl 3 _ _ rfl b (k) (Qn x) [.int .i64 x] rfl bF4 bF4 aq be O ?_);rw [<- b2.out] at ag ba;generalize bw:kD.setCells w5 b (k) [.int .i64 x]=w6 at *;exact oZ
   obtain ⟨cc,hp,a3⟩:=FN;go_upto_region 4 with fail;refine kK (λW=>Qb wr W) [Tt,Tt,Tt,Tt,Tt,Tt,Tt,Tt,Tt,Tt,Tt,Tt,Tt,Tt,Ff,Tt,Tt] bE5 bE5 qW (bR.drew) ?_;intro wS E;all_goals ((iterate 3 refine kS ?_);refine jT λb bh=>?_;cases b <;> try simp only [jS] at bh)
   all_goals ((iterate 10 refine kS ?_);(first|(refine kI rfl E ?_)|(fail));refine jH ?_;refine kS ?_;refine jT λb ao=>?_;cases b <;> try simp only [jS] at ao)
   all_goals (refine kM ?_;have I:=yD (Y.out.trans (Touch.of_below E));have bu:=yD (ab.out.below E))
   exact p8
 exact q8
def kVx (key:jI->Int) (g:FuncId) (cp:Array Aa) (S:Nat->Prop) (w0:Ad):Prop :=
  ∀ wr,Touch S w0 wr->∀ x y cs ds,jA.raw wr cs x->jA.raw wr ds y->Calls prog g (#[.agg cs.toArray,.agg ds.toArray]++cp) wr (λe w'=>∃ k:Int,e=.returned (.int .i64 k)/\decide (k < 0)=decide (key x < key y)/\Qb wr w')
def jAx {w:Ad} {b n cap a z:Nat} {xs:Ac jI} {S:Nat->Prop} {g:FuncId} {cp:Array Aa} (key:jI->Int) (hg:jL prog g) (an:kVx key g cp S w) (h:kD.kY 176 jA w (.slice (some ⟨b,0,none⟩) n cap) xs S) (hn:n=xs.length) (hlen:xs.length<=16777216) (cg:a<=z) (hz:z<=xs.length) :
    Calls prog 266 #[.slice (some ⟨b,0,none⟩) n cap,.int .i64 (a:Nat),.int .i64 (z:Nat),.func (.func g) #[] cp] w λe w'=>e=.returned (.tuple #[])/\kD.kY 176 jA w' (.slice (some ⟨b,0,none⟩) n cap) (Srt.kFm key a z xs) S/\Touch S w w':=by
 have a5:=yD an
 unfold jL at hg
 have F:=yD h
 have br:=yD hn
 clear h an
 have b8:z<=16777216:=bF2
 have ax:z<=n:=bF2
 clear hlen hz hn
 have bc:n<=cap\/xs=[]:=by
  rcases F.out.2 with ⟨_,q⟩|⟨_,_,_,_,_,q,q2,_⟩
  · exact .inr q
  simp only [Ab] at q;left;omega
 clear bc
 go_enter func266,ntmps266
 go_wp2
 go_loopw [8] (λi wr=>∃ (m:Nat) (cur:Ac jI),i=.int .i64 m/\a + 1<=m/\(m<=z\/m=a + 1)/\Hid (Srt.outer key a (z - m) m cur=Srt.kFm key a z xs)/\Hid (cur.length=n)/\Hid (kD.kY 176 jA wr (.slice (some ⟨b,0,none⟩) n cap) cur S)/\Hid (Touch S w wr)) (λi _=>z - (intOf i).toNat)
 case atStart=>exact ⟨a + 1,xs,by go_num,Nat.le_refl _,.inr rfl,yD rfl,yD br.out.symm,F,yD (Touch.refl _ _)⟩
 obtain ⟨i,cur,rfl,bx,hi2,HF,b4,J,L⟩:=hrel
 by_cases hlt:i < z
 · have cd:(i:Int) < z:=bF2;have R:=yD (jAe (key:=key) (a:=a) (cu:=cur) hlt);go_wp2;go_loopw [9] (λj wr=>∃ (m:Nat) (cu:Ac jI),j=.int .i64 m/\a<=m/\m<=i/\Hid (Srt.inner key a m cu=Srt.inner key a i cur)/\Hid (cu.length=n)/\Hid (kD.kY 176 jA wr (.slice (some ⟨b,0,none⟩) n cap) cu S)/\Hid (Touch S w wr)) (λj _=>(intOf j).toNat);case atStart=>exact ⟨i,cur,rfl,by omega,Nat.le_refl _,yD rfl,b4,J,L⟩
   obtain ⟨j,cu,rfl,ce,bb,bj,Z,ab,Y⟩:=hrel;have bi:=Am j;have cf:(j:Int) < z:=bF2;by_cases bq:a < j
   · obtain ⟨k,hk⟩:∃ k,k + 1=j:=⟨j - 1,by omega⟩;have av:j < cu.length:=by have:=Z.out;omega
     have hkl:k < cu.length:=bF2;obtain ⟨aa,ef,b3,b9,bv,hw,hp,bz,HY,a7⟩:=AU;obtain ⟨bg,bl,bm,pr,ai,bd,au⟩:=kD.at3 ab.out.kKg av rfl;obtain ⟨rfl,rfl,a2,az,a9,ay⟩:=yI pr;obtain ⟨a8,bf,rfl,bo⟩:=kD.sl az;clear a2 az a9 ay;obtain ⟨ac,ae,af,qr,D,bp,bt⟩:=kD.at3 ab.out.kKg hkl rfl;obtain ⟨rfl,rfl,ah,aj,ak,aw⟩:=yI qr;obtain ⟨ad,a4,rfl,a6⟩:=kD.sl aj;clear ah aj ak aw;generalize cu[j]=x at *;generalize cu[k]=y at *;go_upto_region 4 with fail;have FX:=yD (λ(W:Ad) (hW:Qb wr W)=>kJf hW ai bd au D bp bt);refine kK (λW=>Qb wr W) [Tt,Tt,Tt,Tt,Tt,Tt,Tt,Tt,Tt,Tt,Tt,Tt,Tt,Tt,Ff,Tt,Tt] bE5 bE5 qW (bR.drew) ?_;intro wS E;all_goals ((iterate 3 refine kS ?_);refine jT λb bh=>?_;cases b <;> try simp only [jS] at bh)
     all_goals ((iterate 10 refine kS ?_);(first|(refine kI rfl E ?_)|(refine ku rfl (λK H=>?_);go_simp;refine (a5.out _ (Y.out.trans (Touch.of_below E)) _ _ _ _ (kD.raw.below pr E) (kD.raw.below qr E)).mono ?_;rintro e wS1 ⟨kk,rfl,am,V⟩;replace E:=(tQ E V);refine H _ _ E ?_;clear H K V));refine jH ?_;refine kS ?_;refine jT λb ao=>?_;cases b <;> try simp only [jS] at ao)
     all_goals (refine kM ?_;have I:=yD (Y.out.trans (Touch.of_below E));replace ab:=yD (ab.out.below E))
     all_goals first
       | (have X:=yD (show decide (key x < key y)=false by first|(exact ao)|(simpa using ao)|(rw [<- am];simpa using ao));have a3:Hid (cu=Srt.inner key a i cur):=yD (a7.out X.out);clear a7 HY am ao;have bu:=ab;have al:Hid (Srt.outer key a (z - (i + 1)) (i + 1) cu=Srt.kFm key a z xs):=yD rW;refine Qg ?_;exact ⟨i + 1,cu,by go_num,by omega,.inl bF2,al,Z,bu,I⟩)
       | have X:=yD (show decide (key x < key y)=true by first|(exact ao)|(simpa using ao)|(rw [<- am];simpa using ao))
     have b5:=yD (HY.out X.out);clear HY a7 am ao X;replace ai:=cL E ai;replace bd:=cL E bd;replace au:=cL E au;replace D:=cL E D;replace bp:=cL E bp;replace bt:=cL E bt;clear E;generalize wS1=bn at *;go_upto_region 6 with fail;have FX:=yD (λ(W:Ad) (hW:Qb bn W)=>kJf hW ai bd au D bp bt);refine kHk (λW=>Qb bn W) [2,3,4] [(0,true),(1,true),(5,true),(6,true),(7,true),(8,true),(9,true),(10,true),(11,true),(12,true),(13,true),(14,true)] bE5 bE5 qW (bR.drew) ?_;intro wS E;simp only [jG,kAu,Aq,List.length_nil,Ai,Aj,List.map_cons,List.map_nil,Ar,List.nil_append,Ak,List.drop_zero,Nat.reduceAdd,Nat.zero_add];iterate 3
      refine pre_read (v:=?_) rfl (λW=>?_) ?_;rotate_left;(· go_simp;try with_reducible rfl)
      refine jH ?_
     refine pre_nil ?_;iterate 12
      refine kS ?_
     refine yt ?_;replace I:=yD (I.out.trans (Touch.of_below E));replace ab:=yD (ab.out.below E);replace ai:=cL E ai;replace bd:=cL E bd;replace au:=cL E au;replace D:=cL E D;replace bp:=cL E bp;replace bt:=cL E bt;have BK:=kD.jAc ab.out av;have ap:j * jA.n=j * 3:=rfl;have U:k * jA.n=k * 3:=rfl;have b0:wS.there b (j * 3) 3:=nR;have b1:wS.there b (k * 3) 3:=nS;have bk:∀ q u,([.slice a8 x.1.length bf,.int .i64 x.2.1,.int .i64 x.2.2]:Ac Aa)[q]?=some u->wS.cell? ⟨b,j * jA.n + q,none⟩=some u:=by rw [ap];exact kD.cells3 ai bd au
     have ar:∀ q u,([.slice ad y.1.length a4,.int .i64 y.2.1,.int .i64 y.2.2]:Ac Aa)[q]?=some u->wS.cell? ⟨b,k * jA.n + q,none⟩=some u:=by rw [U];exact kD.cells3 D bp bt
     obtain ⟨s1,s2⟩:=kD.jDz (ci:=[.slice a8 x.1.length bf,.int .i64 x.2.1,.int .i64 x.2.2]) (cj:=[.slice ad y.1.length a4,.int .i64 y.2.1,.int .i64 y.2.2]) ab.out av hkl bF2 rfl rfl bk ar (pi:=j * 3) (pj:=k * 3) ap.symm U.symm;have ag:=yD s1;have ba:=yD s2;clear s1 s2 bk ar ap U;have be:(prog.info? 176).map (·.size)=some 3:=by simpa using congrArg (λo=>o.map (λz=>z.2.1)) kGx
     have O:∀ c∈([.slice a8 x.1.length bf,.int .i64 x.2.1,.int .i64 x.2.2]:Ac Aa),c.oneCell'=true:=bZ;have N:∀ c∈([.slice ad y.1.length a4,.int .i64 y.2.1,.int .i64 y.2.2]:Ac Aa),c.oneCell'=true:=bZ;refine kGi rfl 176 _ _ rfl b (j * 3) (.agg #[Qs ad y.1 a4,Qn y.2.1,Qn y.2.2]) [.slice ad y.1.length a4,.int .i64 y.2.1,.int .i64 y.2.2] rfl bF4 bF4 b0 be N ?_;intro w5 a1;have aq:w5.there b (k * 3) 3:=by rw [a1];exact kD.jDg b1
     have b2:=yD a1;clear a1;go_wp2_with (refine kGi rfl 176 _ _ rfl b (k * 3) (.agg #[Qs a8 x.1 bf,Qn x.2.1,Qn x.2.2]) [.slice a8 x.1.length bf,.int .i64 x.2.1,.int .i64 x.2.2] rfl bF4 bF4 aq be O ?_);rw [<- b2.out] at ag ba;generalize bw:kD.setCells w5 b (k * 3) [.slice a8 x.1.length bf,.int .i64 x.2.1,.int .i64 x.2.2]=w6 at *;exact oZ
   obtain ⟨cc,hp,a3⟩:=FN;go_upto_region 4 with fail;refine kK (λW=>Qb wr W) [Tt,Tt,Tt,Tt,Tt,Tt,Tt,Tt,Tt,Tt,Tt,Tt,Tt,Tt,Ff,Tt,Tt] bE5 bE5 qW (bR.drew) ?_;intro wS E;all_goals ((iterate 3 refine kS ?_);refine jT λb bh=>?_;cases b <;> try simp only [jS] at bh)
   all_goals ((iterate 10 refine kS ?_);(first|(refine kI rfl E ?_)|(fail));refine jH ?_;refine kS ?_;refine jT λb ao=>?_;cases b <;> try simp only [jS] at ao)
   all_goals (refine kM ?_;have I:=yD (Y.out.trans (Touch.of_below E));have bu:=yD (ab.out.below E))
   exact p8
 exact q8
end Go.Proofs.YthocbplmdjkifaaGreat

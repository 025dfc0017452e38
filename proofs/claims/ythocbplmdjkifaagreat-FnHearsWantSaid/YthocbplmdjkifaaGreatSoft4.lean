/-
  Regions in two phases: a head under one condition on the world, then the rest under another. No program in sight.
-/
import Derived.Test.YthocbplmdjkifaaGreatDrawN
set_option linter.unusedVariables false
set_option linter.defProp false
set_option linter.unusedSimpArgs false
set_option linter.unnecessarySimpa false
open Bool renaming and_eq_true->Aa,not_eq_true'->Av
open Go renaming World->Ab,Value->Ad,Oper->Al,Program->Ar,TypeId->Au,HeadInv->Bc,mem_ready->Bj,wpList_plain->Bl,wpList->Bq,Addr->Bz
open _root_ renaming List->Ac,decide_eq_true_eq->Ae,Array->Am,Option->Bo
open Go.Region renaming ready->Ag,Mode->Ap,noSelect->Ay,chainB->Bg,wanted->Bh,noSelect_spec->Br,free_spec->Bv,waitsFor->Ca
open Go.Builtin renaming append_->Ah
open Array renaming getElem?_eq_getElem->Ai,replicate->Aj,getElem?_eq_some_iff->Ak
open List renaming eq_nil_of_length_eq_zero->Aq,all_eq_true->Aw,length_append->Az,all_cons->Bb,getElem?_append_left->Bd,getElem?_eq_some_iff->Be,length_drop->Bi,mem_of_mem_drop->Bn,range->Bt
open Option.some renaming injEq->Ba
open Go.Value.slice renaming injEq->Bf
open Go.Value renaming string->Bu,int->Ce
open List.cons renaming injEq->Bw
open Go.Act renaming put->Cb
open Go.Addr.mk renaming injEq->Cc
namespace Go.Proofs.YthocbplmdjkifaaGreat
open Go.RowKit
namespace kD
section
variable {α β:Type} {r:kD α} {q:kD β} {e:Au} {w w' W W':Ab} {v:Ad} {cs ds:Ac Ad} {x:α} {xs:Ac α} {S T F G:Nat->Prop}
def jr (r:kD α) (w:Ab) (cs:Ac Ad) (x:α) (S:Nat->Prop):Prop:=r.is false w cs x S/\r.bdd Big x
def jr.rd (h:r.jr w cs x S):r.rd w cs x:=⟨r.wide h.1 (λ_ _=>trivial),h.2⟩
def jr.wide (h:r.jr w cs x S) (k:∀ k,S k->T k):r.jr w cs x T:=⟨r.wide h.1 k,h.2⟩
def jr.keep (h:r.jr w cs x S) (k:∀ k,S k->k < w.heap.size->w'.heap[k]?=w.heap[k]?):r.jr w' cs x S :=
  ⟨r.wide (r.mono (r.live h.1) (λj I=>k j I.1 I.2)) (λj I=>I.1),h.2⟩
def jr.below (h:r.jr w cs x S) (b:Qb w w'):r.jr w' cs x S:=h.keep (λk _ hk=>b.block k hk)
def jr.touch (h:r.jr w cs x S) (b:Touch T w w') (hd:∀ k,S k->¬ T k):r.jr w' cs x S:=h.keep (λk hk hl=>b.block k hl (hd k hk))
def own.jr (h:r.own w cs x S):r.jr w cs x S:=⟨r.weak h.1,h.2⟩
def kY.jr (h:kY e r w v xs S) (hl:xs.length<=Big):(slice e r).jr w [v] xs S:=(h.own hl).jr
def flat.jr (h:r.flat cs x):r.jr w cs x S:=(flat.own h).jr
def kBa {z:α × β} (h:r.jr w cs z.1 S) (k:q.jr w ds z.2 S):(pair r q).jr w (cs++ds) z S :=
  ⟨⟨cs,ds,S,S,rfl,h.1,k.1,λ_ h=>h,λ_ h=>h,λh=>by cases h⟩,h.2,k.2⟩
def kDx {z:α × β} (h:(pair r q).jr w cs z S):∃ c d,cs=c++d/\r.jr w c z.1 S/\q.jr w d z.2 S:=by
 obtain ⟨⟨c,d,A,B,rfl,h1,h2,hA,hB,_⟩,h3,h4⟩:=h;exact ⟨c,d,rfl,⟨r.wide h1 hA,h3⟩,⟨q.wide h2 hB,h4⟩⟩
def kTt {b off len cap:Nat} (h:(slice e r).own w [.slice (some ⟨b,off,none⟩) len cap] xs S) {k:Nat} (hk:k < xs.length):(slice e r).own w [.slice (some ⟨b,off + k * r.n,none⟩) (len - k) (cap - k)] (xs.drop k) S:=by
 obtain ⟨⟨a',E,cap',h0,h1,h2,h3,h4⟩,cv,N⟩:=h;simp only [Bw,Bf,and_true] at h0;obtain ⟨rfl,rfl,rfl⟩:=h0;refine ⟨⟨_,_,_,rfl,by simp;omega,by omega,by omega,?_⟩,by rw [Bi];omega,λx hx=>N x (Bn hx)⟩;rcases h4 with ⟨rfl,_⟩|⟨b',off',ha,cur,e',fr,p,c,q,hb,hc,hp,hl,hf,hS,hx⟩
 · simp at hk
 simp only [Ba,Cc,and_true] at ha;obtain ⟨rfl,rfl⟩:=ha;obtain ⟨c1,c2,rfl,an,r1,r2⟩:=jFq hx (Nat.le_of_lt hk);refine .inr ⟨b,off + k * r.n,rfl,cur,e',fr,p++c1,c2,q,hb,by rw [hc];simp,by simp [hp,an],?_,hf,hS,r2⟩;have:k * r.n<=cap * r.n:=Nat.mul_le_mul_right _ bF2;rw [Nat.sub_mul];omega
def fix (W:Ab) (F:Nat->Prop) (r:kD α):kD α :=
  { r with
    is:=λ_ _ cs x _=>r.is false W cs x F
    len:=λh=>r.len h
    one:=λh=>r.one h
    mono:=λh _=>h
    wide:=λh _=>h
    weak:=λh=>h
    live:=λh=>h
    is_zero:=r.is_zero }
def fix_flat:(fix W F r).kCz:=λh=>h
def jr.fix (h:r.jr W cs x F):(fix W F r).own w cs x S:=⟨h.1,h.2⟩
def row_to' {r q:kD α} {o R:Bool} (hn:∀ {cs:Ac Ad} {x:α} {S:Nat->Prop},r.is o w cs x S->q.is R w' cs x S) (ho:R=true->o=true):∀ {cells:Ac Ad} {ys:Ac α} {S:Nat->Prop},row r o w cells ys S->row q R w' cells ys S
  | _,[],_,h=>h
  | _,y :: ys,_,⟨c,d,A,B,h,h1,h2,hA,hB,hd⟩=>⟨c,d,A,B,h,hn h1,row_to' hn ho h2,hA,hB,λq=>hd (ho q)⟩
def kY.fix (h:kY e r w v xs S):kY e (fix w S r) w v xs S:=by
 obtain ⟨hb,h⟩:=h;refine ⟨hb,?_⟩;rcases h with h|⟨b,cap,cur,cs,tl,hv,h1,h2,h3,h4,h5,h6,h7⟩
 · exact .inl h
 refine .inr ⟨b,cap,cur,cs,tl,hv,h1,h2,h3,h4,h5,h6,?_⟩;have go:∀ {cells:Ac Ad} {ys:Ac α} {T:Nat->Prop},(∀ k,T k->S k)->row r true w cells ys T->row (kD.fix w S r) true w cells ys T:=by
  intro cells ys;induction ys generalizing cells with
  | nil=>intro T _ h;exact h
  | cons y ys ih =>
    rintro T hT ⟨c,d,A,B,g,g1,g2,hA,hB,hd⟩;exact ⟨c,d,A,B,g,r.wide (r.weak g1) (λk hk=>hT k (hA k hk)),ih (λk hk=>hT k (hB k hk)) g2,hA,hB,hd⟩
 exact go (λk hk=>hk.1) h7
def kY.refix (h:kY e (kD.fix W F r) w v xs S) (hF:∀ k,F k->G k) (k:∀ k,F k->k < W.heap.size->W'.heap[k]?=W.heap[k]?):kY e (kD.fix W' G r) w v xs S:=by
 obtain ⟨hb,h⟩:=h;refine ⟨hb,?_⟩;rcases h with h|⟨b,cap,cur,cs,tl,hv,h1,h2,h3,h4,h5,h6,h7⟩
 · exact .inl h
 refine .inr ⟨b,cap,cur,cs,tl,hv,h1,h2,h3,h4,h5,h6,?_⟩;exact row_to' (r:=kD.fix W F r) (q:=kD.fix W' G r) (λ{cs x S} (g:r.is false W cs x F)=>(r.wide (r.mono (r.live g) (λj I=>k j I.1 I.2)) (λj I=>hF j I.1):r.is false W' cs x G)) (λh=>h) h7
def kY.unfix (h:kY e (kD.fix W F r) w v xs S) (hl:xs.length<=Big) (k:∀ k,F k->k < W.heap.size->w.heap[k]?=W.heap[k]?) (hS:∀ k,S k->T k) (hF:∀ k,F k->T k):(slice e r).jr w [v] xs T:=by
 have h:=h.refix (W':=w) (G:=F) (λ_ h=>h) k;obtain ⟨hb,h⟩:=h;refine ⟨?_,hl,hb⟩;rcases h with ⟨⟨a,rfl⟩,rfl⟩|⟨b,cap,cur,cs,tl,rfl,h1,h2,h3,h4,h5,h6,h7⟩
 · exact ⟨a,0,0,rfl,rfl,Nat.le_refl _,Nat.zero_le _,.inl ⟨rfl,λ_=>rfl⟩⟩
 refine ⟨_,_,cap,rfl,rfl,h1,h2,.inr ⟨b,0,rfl,cur,e,(0,0),[],cs,tl,h3,by simpa using h4,rfl,?_,bD0,hS b h6,?_⟩⟩
 · show 0 + cap * r.n<=cur.size;have o:cur.size=cap * r.n:=h5;omega
 have go:∀ {cells:Ac Ad} {ys:Ac α} {A:Nat->Prop},row (kD.fix w F r) true w cells ys A->row r false w cells ys (λk=>T k/\(false=true->k≠b)):=by
  intro cells ys;induction ys generalizing cells with
  | nil=>intro A h;exact h
  | cons y ys ih =>
    rintro A ⟨c,d,A1,B1,g,g1,g2,hA,hB,hd⟩;exact ⟨c,d,F,_,g,g1,ih g2,λk hk=>⟨hF k hk,λq=>by cases q⟩,λk hk=>hk,λq=>by cases q⟩
 exact go h7
end
end kD
def Touch.jJ {p b:Nat} {w w1 w2:Ab} (h:Touch (λk=>k=p) w w1) (t:Touch (λk=>k=b) w1 w2) (hb:w.heap.size<=b):Touch (λk=>k=p) w w2:=by
 refine ⟨t.os.trans h.os,t.tape.trans h.tape,t.output.trans h.output,Nat.le_trans h.size t.size,λk hk hn=>?_⟩;exact (t.block k (Nat.lt_of_lt_of_le hk h.size) bE2).trans (h.block k hk hn)
def Touch.kBr {p:Nat} {S:Nat->Prop} {w w1 w2:Ab} (h:Touch (λk=>k=p) w w1) (t:Touch S w1 w2) (hb:∀ k,S k->w.heap.size<=k):Touch (λk=>k=p) w w2:=by
 refine ⟨t.os.trans h.os,t.tape.trans h.tape,t.output.trans h.output,Nat.le_trans h.size t.size,λk hk hn=>?_⟩;exact (t.block k (Nat.lt_of_lt_of_le hk h.size) (λq=>by have:=hb k q;omega)).trans (h.block k hk hn)
namespace kD
def row_strs {w:Ab} {S:Nat->Prop}:∀ xs:Ac ByteArray,(∀ x∈xs,x.size<=Big)->row str true w (xs.map Bu) xs S
  | [],_=>rfl
  | x :: xs,h=>⟨[.string x],xs.map Bu,S,λ_=>False,rfl,((kGz (h x bF3)) w).1.elim (λa b=>⟨a,b⟩),row_strs xs vJ,λ_ h=>h,λ_ h=>h.elim,λ_ _ _ h=>h⟩
def row_ints {w:Ab} {S:Nat->Prop}:∀ xs:Ac Int,(∀ x∈xs,Qi x)->row int true w (xs.map (Ce .i64)) xs S
  | [],_=>rfl
  | x :: xs,h=>⟨[Qn x],xs.map (Ce .i64),S,λ_=>False,rfl,⟨rfl,h x bF3⟩,row_ints xs vJ,λ_ h=>h,λ_ h=>h.elim,λ_ _ _ h=>h⟩
def kBs {e:Au} (w:Ab) (xs:Ac ByteArray) (h:(xs.all λx=>decide (x.size<=64))=true) (hl:xs.length<=64):(slice e str).own (w.alloc (.cells (xs.map Bu).toArray e)) [.slice (some ⟨w,0,none⟩) xs.length xs.length] xs (λk=>k=w.heap.size):=by
 have hb:∀ x∈xs,x.size<=Big:=λx hx=>by have:=Aw.1 h x hx;simp at this;unfold Big;omega
 exact (yR (S:=λk=>k=w.heap.size) (T:=λ_=>False) hb wR (row_strs xs hb) (λ_ h=>h.elim) rfl).own bB1
def kEh {e:Au} (w:Ab) (xs:Ac Int) (h:(xs.all λx=>decide (-9223372036854775808<=x) && decide (x<=9223372036854775807))=true) (hl:xs.length<=64):(slice e int).own (w.alloc (.cells (xs.map (Ce .i64)).toArray e)) [.slice (some ⟨w,0,none⟩) xs.length xs.length] xs (λk=>k=w.heap.size):=by
 have hb:∀ x∈xs,Qi x:=λx hx=>by have:=Aw.1 h x hx;simpa using this
 exact (yR (S:=λk=>k=w.heap.size) (T:=λ_=>False) (λ_ _=>trivial) wR (row_ints xs hb) (λ_ h=>h.elim) rfl).own bB1
def kPm {α:Type} {r:kD α} {e:Au} {cs:Ac Ad} {x:α} (w:Ab) (h:r.flat cs x):kY e r (w.alloc (.cells cs.toArray e)) (.slice (some ⟨w,0,none⟩) 1 1) [x] (λk=>k=w.heap.size):=by
 have:=yR (e:=e) (r:=r) (w:=w) (cs:=cs) (xs:=[x]) (T:=λ_=>False) (S:=λk=>k=w.heap.size) (λy hy=>by rw [List.mem_singleton.1 hy];exact (h w).2) (by unfold maxLen;simp) (kDh (flat.own (w:=w) (S:=λ_=>False) h).1) (λ_ h=>h.elim) rfl;exact this
def kDd {xs:List ByteArray} {y:ByteArray} (h:(xs.all λx=>decide (x.size<=64))=true) (hy:y∈xs):y.size<=64:=by have:=List.all_eq_true.1 h y hy;simpa using this
def kJo {xs:List Int} {y lo hi:Int} (h:(xs.all λx=>decide (lo<=x) && decide (x<=hi))=true) (hy:y∈xs):lo<=y/\y<=hi:=by have:=List.all_eq_true.1 h y hy;simpa using this
end kD
namespace kD
section
variable {α β:Type} {r:kD α} {q:kD β} {w:World} {c c' d d':List Value} {x x':α} {y y':β} {S T:Nat->Prop}
def set_left (h:(pair r q).own w (c++d) (x,y) S) (hc:c.length=r.n) (hx:r.own w c' x' T) (hd:∀ k,S k->T k->False):(pair r q).own w (c'++d) (x',y) (λk=>S k\/T k):=by
 obtain ⟨⟨c1,d1,A,B,he,h1,h2,hA,hB,o⟩,hb⟩:=h;obtain ⟨rfl,rfl⟩:=List.append_inj he (by rw [hc,r.len h1]);exact ⟨⟨c',d,T,B,rfl,hx.1,h2,λk=>.inr,λk hk=>.inl (hB k hk),λ_ k a b=>hd k (hB k b) a⟩,hx.2,hb.2⟩
def set_right (h:(pair r q).own w (c++d) (x,y) S) (hc:c.length=r.n) (f:∀ B:Nat->Prop,(∀ k,B k->S k)->q.own w d y B->q.own w d' y' (λk=>B k\/T k)) (hd:∀ k,S k->T k->False):(pair r q).own w (c++d') (x,y') (λk=>S k\/T k):=by
 obtain ⟨⟨c1,d1,A,B,he,h1,h2,hA,hB,o⟩,hb⟩:=h;obtain ⟨rfl,rfl⟩:=List.append_inj he (by rw [hc,r.len h1]);have hf:=f B hB ⟨h2,hb.2⟩;exact ⟨⟨c,d',A,_,rfl,h1,hf.1,λk hk=>.inl (hA k hk),λk hk=>hk.imp (hB k) id,λ_ k a b=>b.elim (o rfl k a) (λq=>hd k (hA k a) q)⟩,hb.1,hf.2⟩
end
section
variable {α:Type} {r:kD α} {e:Au} {w:Ab} {v:Ad} {xs ys:Ac α} {S T:Nat->Prop}
def jDn {P:Ar} {t ty:Au} {z:Ad} {bytes:Nat} (ht:P.underlying t=some (.slice e)) (hinf:(P.info? e).map (λi=>(i.zero,i.size,i.bytes))=some (some z,r.n,bytes)) (hzs:z.cells.size=r.n) (hn:0 < r.n) (hby:bytes<=1000) (hf:r.kCz)
    (hown:kY e r w v xs S) {av:Bo Bz} {len cap:Nat} (hy:(slice e r).rd w [.slice av len cap] ys) (hlen:xs.length + ys.length<=1000000000) :
    ∃ v' w',(Ah #[t,t] ty #[v,.slice av len cap]).run P w=.ok v' w'/\kY e r w' v' (xs++ys) (λk=>S k\/(w.heap.size<=k/\k < w'.heap.size))/\Touch S w w':=by
 obtain ⟨i,hi,hz,hsize,L⟩:=info_parts hinf
 obtain ⟨cells,hsrc,hrow⟩:=jFr hy.1
 have o:row r true w cells ys (λ_=>False):=kLb hf hrow
 obtain ⟨v',w',hr,h2,h3⟩:=kFg (P:=P) (ty:=ty) ht hi hz hsize hzs hn bF2 hown hsrc (zR hrow) (row_one hrow) hlen
 refine ⟨v',w',hr,(h3 o (λ_ _ h=>h) hy.2.2).wide ?_,h2.wide (λk hk=>hk.2)⟩
 rintro k (hk | hk | hk)
 · exact .inl hk
 · exact hk.elim
 exact .inr hk
def jEz {P:Ar} {ops:Am Al} {rest:Ac Al} {o:Al} {a:Act} {Q:Exit->Act->Ab->Prop} (D:o.guard=none) (s x:Operand) (t:Au)
    (ho:o.op=.call { callee:=.builtin .append,args:=#[s,x],argTypes:=#[t,t] })
    {z:Ad} {bytes:Nat} (ht:P.underlying t=some (.slice e)) (hinf:(P.info? e).map (λi=>(i.zero,i.size,i.bytes))=some (some z,r.n,bytes)) (hzs:z.cells.size=r.n) (hn:0 < r.n) (hby:bytes<=1000) (hf:r.kCz)
    (hown:kY e r w v xs S) (hs:a.eval s=v) {av:Bo Bz} {len cap:Nat} (hx:a.eval x=.slice av len cap) (hy:(slice e r).rd w [.slice av len cap] ys) (hlen:xs.length + ys.length<=1000000000)
    (h:∀ v' w',kY e r w' v' (xs++ys) (λk=>S k\/(w.heap.size<=k/\k < w'.heap.size))->Touch S w w'->Bq P ops Q rest (a.put o.dst v') w'):Bq P ops Q (o :: rest) a w:=by
 refine Bl D λ_ H=>?_
 obtain ⟨v',w',hr,h1,h2⟩:=jDn (ty:=o.type) ht hinf hzs hn hby hf hown hy hlen
 exact kX s x t ho hs hx hr (H _ _ (h v' w' h1 h2))
end
end kD
namespace kD
def kKe:∀ (cs:Ac Ad) (w:Ab) (b p:Nat),w.setCells b p cs=setCells w b p cs
  | [],_,_,_=>rfl
  | v :: cs,w,b,p=>by unfold World.setCells setCells;exact kKe cs _ b (p + 1)
section
variable {α:Type} {r:kD α} {e:Au} {w:Ab} {xs ys:Ac α} {S T:Nat->Prop}
def jDm {P:Ar} {t ty:Au} {z:Ad} {bytes:Nat} (ht:P.underlying t=some (.slice e)) (hinf:(P.info? e).map (λi=>(i.zero,i.size,i.bytes))=some (some z,r.n,bytes)) (hzs:z.cells.size=r.n) (hn:0 < r.n) (hby:bytes<=1000)
    {a:Bo Bz} {len cap:Nat} (hown:(slice e r).own w [.slice a len cap] xs S) {sv:Ad} {m:Nat} {cells:Ac Ad} (hsrc:Src w sv m cells) (hrow:row r true w cells ys T) (hm:ys.length=m) (hb:∀ y∈ys,r.bdd Big y) (hd:∀ k,S k->T k->False) (hlen:xs.length + ys.length<=16777216) :
    ∃ v' w',(Ah #[t,t] ty #[.slice a len cap,sv]).run P w=.ok v' w'/\(slice e r).own w' [v'] (xs++ys) (λk=>S k\/T k\/(w.heap.size<=k/\k < w'.heap.size))/\Touch S w w':=by
 obtain ⟨i,hi,hz,hsize,L⟩:=info_parts hinf
 have X:∀ n,n<=16777216->n<=Big:=λn h=>by unfold Big;omega
 obtain ⟨⟨a',E,cap',h0,h1,h2,h3,h4⟩,bl,cd⟩:=hown
 simp only [Bw,Bf,and_true] at h0
 obtain ⟨rfl,rfl,rfl⟩:=h0
 subst h1
 have bm:∀ y∈xs++ys,r.bdd Big y:=by
  intro y hy;rcases List.mem_append.1 hy with q | q
  · exact cd y q
  exact hb y q
 rcases h4 with ⟨rfl,hc0⟩|⟨b,off,rfl,cur,e',fr,p,cs,tl,g1,g2,g3,g4,g5,g6,g7⟩
 · obtain rfl:=hc0 rfl;obtain ⟨v',w',hr,aa,ho⟩:=kFg (P:=P) (ty:=ty) (r:=r) ht hi hz hsize hzs hn bF2 (kY.void (a:=a) (S:=S)) hsrc (by rw [zR hrow,hm]) (row_one hrow) (by simp at hlen ⊢;omega);exact ⟨v',w',hr,(ho hrow hd hb).own (X _ bB3),aa.wide (λk hk=>hk.2)⟩
 obtain ⟨he,o⟩:=g5 rfl
 rw [he,o] at g1
 have an:=zR g7
 have W:=zR hrow
 by_cases bc:m=0
 · have ao:ys=[]:=Aq bF2;subst ao;have hc:cells=[]:=hrow;subst hc;obtain ⟨a1,c1,rfl⟩:∃ a c,sv=.slice a 0 c:=by
    rcases hsrc with ⟨_,h⟩|⟨ad,c,h,_⟩
    · exact h
    exact ⟨_,_,by rw [h,bc]⟩
   refine ⟨.slice (some ⟨b,off,none⟩) xs.length cap,w,?_,?_,Touch.refl _ _⟩
   · cases a1 <;> simp [Ah,run_underlying ht,sizeOf,typeInfo,hi,Builtin.lenOf,h2,Builtin.firstCells,loadCells,loadCellsFrom,storeCells]
   rw [List.append_nil];refine ⟨⟨_,_,cap,rfl,rfl,h2,h3,.inr ⟨b,off,rfl,cur,e,(0,0),p,cs,tl,g1,g2,g3,g4,λ_=>⟨rfl,rfl⟩,.inl g6,yU g7 (λk hk=>⟨.inl hk.1,hk.2⟩)⟩⟩,bl,cd⟩
 obtain ⟨ad,c,rfl,U⟩:∃ ad c,sv=.slice (some ad) m c/\∀ j u,cells[j]?=some u->w.cell? (ad.add j)=some u:=by
  rcases hsrc with ⟨h,_⟩ | h
  · exact absurd h bc
  exact h
 obtain ⟨J,R,ab⟩:=CW
 by_cases D:xs.length + m<=cap
 · have Y:(xs.length + m) * r.n<=cap * r.n:=Nat.mul_le_mul_right _ D;rw [Nat.add_mul] at Y;obtain ⟨ej,O⟩:=FO
   have hr:=run_append_room_cells (P:=P) (w:=w) t ty e i ht hi b off xs.length cap ad m c cells J U (row_one hrow) D
     (λj I=>by
       rw [cell_of_row w b _ cur e (0,0) g1];have:off + xs.length * i.size + j < cur.size:=by rw [O,Az];omega
       simp [this])
     (λj _=>frozen_of_row w b _ _ _ g1)
   rw [kKe] at hr;have V:=kAl (e:=e) cells (tl.take cells.length) (p++cs) (tl.drop cells.length) w b (off + xs.length * i.size) mH O.symm tV;refine ⟨_,_,hr,?_,(ze cells w b _).wide (λk hk=>by rw [hk];exact g6)⟩;have Z:∀ k,k≠b->(setCells w b (off + xs.length * i.size) cells).heap[k]?=w.heap[k]?:=λk hk=>kAp cells w b _ k hk;refine ⟨⟨_,_,cap,rfl,by rw [Az,hm],D,h3,.inr ⟨b,off,rfl,_,e,(0,0),p,cs++cells,tl.drop cells.length,V,by simp,g3,?_,λ_=>⟨rfl,rfl⟩,.inl g6,?_⟩⟩,X _ rJ,bm⟩
   · simp only [List.size_toArray,Az,Bi];omega
   have a1:=yV (w':=setCells w b (off + xs.length * i.size) cells) g7 (λk hk=>Z k (hk.2 rfl));have a2:=yV (w':=setCells w b (off + xs.length * i.size) cells) hrow (λk hk=>Z k (λq=>hd b g6 (q ▸ hk)));exact kAh a1 a2 (λk hk=>⟨.inl hk.1,hk.2⟩) (λk hk=>⟨.inr (.inl hk),λ_ q=>hd b g6 (q ▸ hk)⟩) (λ_ k q1 q2=>hd k q1.1 q2)
 have H:∀ j u,cs[j]?=some u->w.cell? ((⟨b,off,none⟩:Bz).add j)=some u:=by
  exact aZ
 have N:(xs.length + m) * i.bytes<=140737488355328:=by
  have:(xs.length + m) * i.bytes<=16777216 * 1000:=Nat.mul_le_mul bF2 bF2;omega
 have hr:=run_append_grow (P:=P) w t ty e i z ht hi hz ⟨b,off,none⟩ xs.length cap cs (by rw [hsize];exact an) H ad m c cells J U bF2 bF2 (growslice_fits bF2 N)
 refine ⟨_,_,hr,?_,⟨rfl,rfl,rfl,by simp,λk hk _=>heap_alloc_old w.drew _ hk⟩⟩
 have az:=grownCap_ge w (xs.length + m) cap e
 have af:=grownCap_le_maxLen w (xs.length + m) cap e wR
 refine ⟨⟨_,_,_,rfl,by rw [Az,hm],az,af,.inr ⟨w.heap.size,0,rfl,_,e,(0,0),[],cs++cells,(Builtin.zeroCells z.cells (grownCap w (xs.length + m) cap e - (xs.length + m))).toList,heap_alloc_new w.drew _,by simp,rfl,?_,λ_=>⟨rfl,rfl⟩,.inr (.inr ⟨Nat.le_refl _,by simp⟩),?_⟩⟩,X _ rJ,bm⟩
 · exact bB
 obtain ⟨a1,a2⟩:=xD
 exact kAh a1 a2 (λk hk=>⟨.inl hk.1,λ_=>by omega⟩) (λk hk=>⟨.inr (.inl hk.1),λ_=>by omega⟩) (λ_ k q1 q2=>hd k q1.1 q2.1)
def kIn {P:Ar} {t ty:Au} {z:Ad} {bytes:Nat} (ht:P.underlying t=some (.slice e)) (hinf:(P.info? e).map (λi=>(i.zero,i.size,i.bytes))=some (some z,r.n,bytes)) (hzs:z.cells.size=r.n) (hn:0 < r.n) (hby:bytes<=1000)
    {a:Bo Bz} {len cap:Nat} (hown:(slice e r).own w [.slice a len cap] xs S) {u:Ab} (hu:Qb w u) {cx:Ac Ad} {x:α} (hx:r.own u cx x T) (hd:∀ k,S k->T k->False) (hlen:xs.length < 16777216) {c:Nat} :
    ∃ v' w',(Ah #[t,t] ty #[.slice a len cap,.slice (some ⟨u,0,none⟩) 1 c]).run P (u.alloc (.cells cx.toArray e))=.ok v' w'/\(slice e r).own w' [v'] (xs++[x]) (λk=>S k\/T k\/(u.heap.size<=k/\k < w'.heap.size))/\Touch (λk=>S k/\k < w.heap.size) u w':=by
 obtain ⟨E,hS⟩:=BZ
 have hrow:row r true (u.alloc (.cells cx.toArray e)) cx [x] (λk=>T k/\k < u.heap.size):=kDh (r.mono (r.live hx.1) (λk hk=>E.block k hk.2))
 have hsrc:Src (u.alloc (.cells cx.toArray e)) (.slice (some ⟨u,0,none⟩) 1 c) 1 cx:=by
  exact bC
 obtain ⟨v',w',hr,ho,o⟩:=jDm (ty:=ty) ht hinf hzs hn hby (hS.below E) hsrc hrow rfl mQ (λk h1 h2=>hd k h1.1 h2.1) bE6
 exact bF
def zQ {P:Ar} {ops:Am Al} {rest:Ac Al} {o:Al} {E:Act} {Q:Exit->Act->Ab->Prop} (D:o.guard=none) (s x:Operand) (t:Au)
    (ho:o.op=.call { callee:=.builtin .append,args:=#[s,x],argTypes:=#[t,t] })
    {z:Ad} {bytes:Nat} (ht:P.underlying t=some (.slice e)) (hinf:(P.info? e).map (λi=>(i.zero,i.size,i.bytes))=some (some z,r.n,bytes)) (hzs:z.cells.size=r.n) (hn:0 < r.n) (hby:bytes<=1000)
    {a:Bo Bz} {len cap:Nat} (hown:(slice e r).own w [.slice a len cap] xs S) {u:Ab} (hu:Qb w u) {cx:Ac Ad} {y:α} (hy:r.own u cx y T) {c:Nat} (hs:E.eval s=.slice a len cap) (hx:E.eval x=.slice (some ⟨u,0,none⟩) 1 c) (hd:∀ k,S k->T k->False) (hlen:xs.length < 16777216)
    (h:∀ v' w',(slice e r).own w' [v'] (xs++[y]) (λk=>S k\/T k\/(u.heap.size<=k/\k < w'.heap.size))->Touch (λk=>S k/\k < w.heap.size) u w'->Bq P ops Q rest (E.put o.dst v') w'):Bq P ops Q (o :: rest) E (u.alloc (.cells cx.toArray e)):=by
 refine Bl D λ_ H=>?_
 obtain ⟨v',w',hr,h1,h2⟩:=kIn (ty:=o.type) (c:=c) ht hinf hzs hn hby hown hu hy hd hlen
 exact kX s x t ho hs hx hr (H _ _ (h v' w' h1 h2))
def run_pushGO {P:Ar} {t ty:Au} {z:Ad} {bytes:Nat} (ht:P.underlying t=some (.slice e)) (hinf:(P.info? e).map (λi=>(i.zero,i.size,i.bytes))=some (some z,r.n,bytes)) (hzs:z.cells.size=r.n) (hn:0 < r.n) (hby:bytes<=1000)
    {a:Bo Bz} {len cap:Nat} (hown:(slice e r).own w [.slice a len cap] xs S) {sv:Ad} (hy:kY e r w sv ys T) (hd:∀ k,S k->T k->False) (hlen:xs.length + ys.length<=16777216) :
    ∃ v' w',(Ah #[t,t] ty #[.slice a len cap,sv]).run P w=.ok v' w'/\(slice e r).own w' [v'] (xs++ys) (λk=>S k\/T k\/(w.heap.size<=k/\k < w'.heap.size))/\Touch S w w':=by
 obtain ⟨o,h⟩:=hy
 obtain ⟨cells,hsrc,hrow⟩:∃ cells,Src w sv ys.length cells/\row r true w cells ys T:=by
  rcases h with ⟨⟨a,rfl⟩,rfl⟩|⟨b,cap',cur,cs,tl,rfl,h1,h2,h3,h4,h5,h6,h7⟩
  · exact ⟨[],.inl ⟨rfl,_,_,rfl⟩,rfl⟩
  refine ⟨cs,.inr ⟨_,_,rfl,?_⟩,yU h7 (λk hk=>hk.1)⟩;intro j u I;have F:(⟨b,0,none⟩:Bz).add j=⟨b,j,none⟩:=rF;rw [F,cell_of_row w b j cur e (0,0) h3,<- Array.getElem?_toList,h4,Bd (Be.1 I).1];exact I
 exact jDm ht hinf hzs hn hby hown hsrc hrow rfl o hd hlen
def kQo {P:Ar} {ops:Am Al} {rest:Ac Al} {o:Al} {E:Act} {Q:Exit->Act->Ab->Prop} (D:o.guard=none) (s x:Operand) (t:Au)
    (ho:o.op=.call { callee:=.builtin .append,args:=#[s,x],argTypes:=#[t,t] })
    {z:Ad} {bytes:Nat} (ht:P.underlying t=some (.slice e)) (hinf:(P.info? e).map (λi=>(i.zero,i.size,i.bytes))=some (some z,r.n,bytes)) (hzs:z.cells.size=r.n) (hn:0 < r.n) (hby:bytes<=1000)
    {a:Bo Bz} {len cap:Nat} (hown:(slice e r).own w [.slice a len cap] xs S) {sv:Ad} (hy:kY e r w sv ys T) (hs:E.eval s=.slice a len cap) (hx:E.eval x=sv) (hd:∀ k,S k->T k->False) (hlen:xs.length + ys.length<=16777216)
    (h:∀ v' w',(slice e r).own w' [v'] (xs++ys) (λk=>S k\/T k\/(w.heap.size<=k/\k < w'.heap.size))->Touch S w w'->Bq P ops Q rest (E.put o.dst v') w'):Bq P ops Q (o :: rest) E w:=by
 refine Bl D λ_ H=>?_
 obtain ⟨v',w',hr,h1,h2⟩:=run_pushGO (ty:=o.type) ht hinf hzs hn hby hown hy hd hlen
 exact kX s x t ho hs hx hr (H _ _ (h v' w' h1 h2))
end
end kD
def Touch.kJr {S:Nat->Prop} {W W':Ab} (d:Touch S W W') {b j:Nat} {v:Ad} (h:Qc W b j v) (hb:¬ S b):Qc W' b j v:=by
 have e1:W'.heap[b]?=W.heap[b]?:=d.block _ (World.block_lt_of_cell? _ _ h) hb;rw [<- h];unfold World.cell?;simp only [e1]
def kG {w:Ab} {b:Nat} {a:Am Ad} {t:Au} {v:Ad} (h:w.heap[b]?=some (.cells a t (0,0))) (j:Nat):(w.setCell ⟨b,j,none⟩ v).heap[b]?=some (.cells (a.setIfInBounds j v) t (0,0)):=heap_setCell_same w b j a t v h
def jm (w:Ab) (b j:Nat) (v:Ad):Touch (λk=>k=b) w (w.setCell ⟨b,j,none⟩ v):=kD.ze [v] w b j
def sT1 {w:Ab} {b j:Nat} {v:Ad}:Touch (λk=>k=b) w (w.setCell ⟨b,j,none⟩ v):=jm w b j v
def sT2 {w:Ab} {b o D:Nat} {v0 v1:Ad}:Touch (λk=>k=b) w ((w.setCell ⟨b,o,none⟩ v0).setCell ⟨b,D,none⟩ v1):=sT1.trans sT1
def sT3 {w:Ab} {b o D E:Nat} {v0 v1 v2:Ad}:Touch (λk=>k=b) w (((w.setCell ⟨b,o,none⟩ v0).setCell ⟨b,D,none⟩ v1).setCell ⟨b,E,none⟩ v2):=sT2.trans sT1
def sT4 {w:Ab} {b o D E F:Nat} {v0 v1 v2 v3:Ad}:Touch (λk=>k=b) w ((((w.setCell ⟨b,o,none⟩ v0).setCell ⟨b,D,none⟩ v1).setCell ⟨b,E,none⟩ v2).setCell ⟨b,F,none⟩ v3):=sT3.trans sT1
def sT5 {w:Ab} {b o D E F H:Nat} {v0 v1 v2 v3 v4:Ad}:Touch (λk=>k=b) w (((((w.setCell ⟨b,o,none⟩ v0).setCell ⟨b,D,none⟩ v1).setCell ⟨b,E,none⟩ v2).setCell ⟨b,F,none⟩ v3).setCell ⟨b,H,none⟩ v4):=sT4.trans sT1
def sT6 {w:Ab} {b o D E F H J:Nat} {v0 v1 v2 v3 v4 v5:Ad}:Touch (λk=>k=b) w ((((((w.setCell ⟨b,o,none⟩ v0).setCell ⟨b,D,none⟩ v1).setCell ⟨b,E,none⟩ v2).setCell ⟨b,F,none⟩ v3).setCell ⟨b,H,none⟩ v4).setCell ⟨b,J,none⟩ v5):=sT5.trans sT1
def sT7 {w:Ab} {b o D E F H J L:Nat} {v0 v1 v2 v3 v4 v5 v6:Ad}:Touch (λk=>k=b) w (((((((w.setCell ⟨b,o,none⟩ v0).setCell ⟨b,D,none⟩ v1).setCell ⟨b,E,none⟩ v2).setCell ⟨b,F,none⟩ v3).setCell ⟨b,H,none⟩ v4).setCell ⟨b,J,none⟩ v5).setCell ⟨b,L,none⟩ v6):=sT6.trans sT1
def sT8 {w:Ab} {b o D E F H J L N:Nat} {v0 v1 v2 v3 v4 v5 v6 I:Ad}:Touch (λk=>k=b) w ((((((((w.setCell ⟨b,o,none⟩ v0).setCell ⟨b,D,none⟩ v1).setCell ⟨b,E,none⟩ v2).setCell ⟨b,F,none⟩ v3).setCell ⟨b,H,none⟩ v4).setCell ⟨b,J,none⟩ v5).setCell ⟨b,L,none⟩ v6).setCell ⟨b,N,none⟩ I):=sT7.trans sT1
def sT9 {w:Ab} {b o D E F H J L N O:Nat} {v0 v1 v2 v3 v4 v5 v6 I v8:Ad}:Touch (λk=>k=b) w (((((((((w.setCell ⟨b,o,none⟩ v0).setCell ⟨b,D,none⟩ v1).setCell ⟨b,E,none⟩ v2).setCell ⟨b,F,none⟩ v3).setCell ⟨b,H,none⟩ v4).setCell ⟨b,J,none⟩ v5).setCell ⟨b,L,none⟩ v6).setCell ⟨b,N,none⟩ I).setCell ⟨b,O,none⟩ v8):=sT8.trans sT1
namespace kD
section
variable {α:Type} {r:kD α} {e:Au} {w w' u:Ab} {v:Ad} {b cap len n:Nat} {kept rest xs:Ac α} {j i:Nat} {x:α} {S T:Nat->Prop}
def zm (h:kY e r w v xs S) (hi:i < xs.length):∃ b cap,v=.slice (some ⟨b,0,none⟩) xs.length cap/\S b/\b < w.heap.size/\xs.length<=cap/\cap<=9223372036854775807:=by
 obtain ⟨hb,h⟩:=h;rcases h with ⟨⟨a,rfl⟩,rfl⟩|⟨b,cap,cur,cs,tl,rfl,h1,h2,h3,h4,h5,h6,h7⟩
 · simp at hi
 exact ⟨b,cap,rfl,h6,(Ak.1 h3).1,h1,by unfold maxLen at h2;omega⟩
def jEa (h:kY e r w (.slice (some ⟨b,0,none⟩) len cap) xs S) (hi:0 < xs.length):∃ cur,w.heap[b]?=some (.cells cur e (0,0))/\cur.size=cap * r.n:=by
 obtain ⟨hb,h⟩:=h;rcases h with ⟨⟨a,h0⟩,rfl⟩|⟨b,cap,cur,cs,tl,h0,h1,h2,h3,h4,h5,h6,h7⟩
 · simp at hi
 simp only [Bf,Ba,Cc,and_true] at h0;obtain ⟨rfl,rfl,rfl⟩:=h0;exact ⟨cur,h3,h5⟩
def own_own0 (h:(slice e r).own w [.slice (some ⟨b,0,none⟩) len cap] xs S) (hne:0 < xs.length) {cur:Am Ad} (hc:w.heap[b]?=some (.cells cur e (0,0))) (hs:cur.size=cap * r.n) :
    kY e r w (.slice (some ⟨b,0,none⟩) len cap) xs S:=by
 obtain ⟨h1,h2,h3,h4,h5,hd,cs,tl,h6,h7,h8,h9,D⟩:=kTg h hne
 obtain rfl:hd=[]:=Aq h7
 rw [hc] at h6
 simp only [Ba,Obj.cells.injEq,and_true] at h6
 subst h6
 exact ⟨h5,.inr ⟨b,cap,_,cs,tl,by rw [h1],by omega,h3,hc,by simp,hs,h9,D⟩⟩
def kY.kKg (h:kY e r w v xs S):(slice e r).raw w [v] xs:=by
 obtain ⟨hb,h⟩:=h;have k:(slice e r).is true w [v] xs S:=by
  rcases h with ⟨⟨a,rfl⟩,rfl⟩|⟨b,cap,cur,cs,tl,rfl,h1,h2,h3,h4,h5,h6,h7⟩
  · exact ⟨a,0,0,rfl,rfl,Nat.le_refl _,Nat.zero_le _,.inl ⟨rfl,λ_=>rfl⟩⟩
  exact ⟨_,_,cap,rfl,rfl,h1,h2,.inr ⟨b,0,rfl,cur,e,(0,0),[],cs,tl,h3,by simpa using h4,rfl,by omega,λ_=>⟨rfl,rfl⟩,h6,yU h7 (λk hk=>⟨hk.1,λ_=>hk.2⟩)⟩⟩
 exact (slice e r).wide ((slice e r).weak k) (λ_ _=>trivial)
def kFi {j p:Nat} {y:α} {u:Ad} (h:kY e r w (.slice (some ⟨b,0,none⟩) len cap) xs S) (hl:xs.length<=Big) (hi:i < xs.length) (I:j < r.n)
    (hy:∀ {w:Ab} {cs:Ac Ad} {S:Nat->Prop},r.is true w cs xs[i] S->r.is true w (cs.set j u) y S) (hby:r.bdd Big y) (hp:p=i * r.n + j) :
    kY e r (w.setCell ⟨b,p,none⟩ u) (.slice (some ⟨b,0,none⟩) len cap) (xs.set i y) S/\Touch (λk=>k=b) w (w.setCell ⟨b,p,none⟩ u):=by
 obtain ⟨cur,hc,hs⟩:=jEa h bF2
 obtain ⟨h1,h2⟩:=kOf (h.own hl) hi I hy hby
 rw [Nat.zero_add,<- hp] at h1 h2
 have h3:=heap_setCell_same w b p cur e u hc
 exact ⟨own_own0 h1 (by simpa using (by omega:0 < xs.length)) h3 (by simpa using hs),h2⟩
def kGv (h:kY e r w (.slice (some ⟨b,0,none⟩) len cap) xs S) (hi:0 < xs.length) (q:Nat):w.frozen? ⟨b,q,none⟩=false:=by
 obtain ⟨cur,hc,_⟩:=jEa h hi;exact frozen_of_row w b q _ _ hc
def blank (n:Nat):kD Unit where
  n:=n
  is _ _ cs _ _:=cs.length=n/\∀ c∈cs,c.oneCell'=true
  bdd _ _:=True
  zero:=()
  zc:=List.replicate n (Qn 0)
  mark _ _ k:=((),k)
  held _ _ k:=some k
  cnt:=0
  len h:=h.1
  one h:=h.2
  mono h _:=h
  wide h _:=h
  weak h:=h
  live h:=h
  bdd_mono _ _:=trivial
  bdd_zero:=trivial
  is_zero:=by intro o w S;exact ⟨by simp,λc hc=>by rw [List.eq_of_mem_replicate hc];rfl⟩
  mark_held:=by intros;rfl
  held_ge:=by intro e x k k' h;simp at h;omega
  mark_ge:=by intros;simp
  mark_le:=by intros;simp
  mark_bdd _ _:=trivial
def jDr {n:Nat}:∀ (m:Nat) (cs:Ac Ad),cs.length=m * n->(∀ c∈cs,c.oneCell'=true)->row (blank n) true w cs (List.replicate m ()) (λ_=>False)
  | 0,cs,h,_=>by simpa [row] using Aq bD5
  | m + 1,cs,h,h1=>by
    have hl:n<=cs.length:=by rw [h,Nat.add_mul];omega
    refine ⟨cs.take n,cs.drop n,λ_=>False,λ_=>False,by simp,⟨by simp;omega,λc hc=>h1 c (List.mem_of_mem_take hc)⟩,jDr m _ (by rw [Bi,h,Nat.add_mul];omega) (λc hc=>h1 c (Bn hc)),λ_ h=>h,λ_ h=>h,λ_ _ h _=>h⟩
def run_first {P:Ar} {t ty:Au} {i:TypeInfo} {z:Ad} (ht:P.underlying t=some (.slice e)) (hi:P.info? e=some i) (hz:i.zero=some z) (hsize:i.size=r.n) (hzs:z.cells.size=r.n) (hn:0 < r.n) (hby:i.bytes<=1000)
    {a0:Bo Bz} {sv:Ad} {m:Nat} {cells:Ac Ad} (hsrc:Src u sv m cells) (hl:cells.length=m * r.n) (h1:∀ c∈cells,c.oneCell'=true) (hlen:m<=1000000000) :
    ∃ v' o,(Ah #[t,t] ty #[.slice a0 0 0,sv]).run P u=.ok v' o/\Qb u o /\
      ∀ {ys:Ac α} {T:Nat->Prop},row r true u cells ys T->(∀ y∈ys,r.bdd Big y)->kY e r o v' ys (λk=>T k\/(u.heap.size<=k/\k < o.heap.size))/\(ys≠[]->∀ k,some k=v'.ownBlock->u.heap.size<=k):=by
 obtain ⟨v',o,hr,aa,ho⟩:=kFg (P:=P) (ty:=ty) (r:=r) ht hi hz hsize hzs hn hby (kY.void (a:=a0) (S:=λ_=>False)) hsrc hl h1 bB3
 refine ⟨v',o,hr,aa.below nL (λk hk=>hk.2.elim),?_⟩
 intro ys T hrow hb
 have h2:=ho hrow (λ_ h=>h.elim) hb
 rw [List.nil_append] at h2
 refine ⟨h2.wide (λk hk=>hk.elim (λq=>q.elim) id),?_⟩
 intro hne k hk
 obtain ⟨v2,u2,I,_,H⟩:=kFg (P:=P) (ty:=ty) (r:=blank r.n) ht hi hz hsize hzs hn hby (kY.void (a:=a0) (S:=λ_=>False)) hsrc hl h1 bB3
 rw [hr] at I
 simp only [Result.ok.injEq] at I
 obtain ⟨rfl,rfl⟩:=I
 have h3:=H (jDr m cells hl h1) (λ_ h=>h.elim) (λ_ _=>trivial)
 have hm:ys.length=m:=by
  have:=zR hrow;rw [hl] at this;exact (Nat.eq_of_mul_eq_mul_right hn this).symm
 have O:0 < ys.length:=List.length_pos_iff.2 hne
 obtain ⟨b1,E,e1,D,_⟩:=zm (i:=0) h3 bE6
 rw [e1] at hk
 simp only [Value.ownBlock,Option.map_some,Ba] at hk
 subst hk
 rcases D with q | q | q
 · exact q.elim
 · exact q.elim
 exact q.1
def wpList_append_run {P:Ar} {ops:Am Al} {E:Ac Al} {o:Al} {a:Act} {Q:Exit->Act->Ab->Prop} (D:o.guard=none) (s x:Operand) (t:Au)
    (ho:o.op=.call { callee:=.builtin .append,args:=#[s,x],argTypes:=#[t,t] }) {v sv v':Ad} (hs:a.eval s=v) (hx:a.eval x=sv)
    (hr:(Ah #[t,t] o.type #[v,sv]).run P w=.ok v' w') (h:Bq P ops Q E (a.put o.dst v') w'):Bq P ops Q (o :: E) a w :=
  Bl D λ_ H=>kX s x t ho hs hx hr (H _ _ h)
def kJl {P:Ar} {t:Au} {z:Ad} {bytes:Nat} (ht:P.underlying t=some (.slice e)) (hinf:(P.info? e).map (λi=>(i.zero,i.size,i.bytes))=some (some z,r.n,bytes)) (hzs:z.cells.size=r.n) (hn:0 < r.n) (hby:bytes<=1000)
    (h:gap e r w b cap n kept j rest S) (hu:Qb w u) {a0:Bo Bz} (hlen:n<=16777216) (c1 c2:Nat) (ad ae:Au) {q kl rl:Nat} (hq:rest≠[]->q=(kept.length + j) * r.n) (hkl:kl=kept.length) (fz:rl=rest.length) :
    ∃ v1 u1,(Ah #[t,t] ad #[.slice a0 0 0,.slice (some ⟨b,0,none⟩) kl c1]).run P u=.ok v1 u1/\Qb u u1 /\
      ∃ v2 u2,(Ah #[t,t] ae #[v1,.slice (some ⟨b,q,none⟩) rl c2]).run P u1=.ok v2 u2/\kY e r u2 v2 (kept++rest) (λk=>S k\/(u.heap.size<=k/\k < u2.heap.size))/\Qb u u2:=by
 subst hkl fz
 obtain ⟨i,hi,hz,hsize,L⟩:=info_parts hinf
 obtain ⟨a1,a2,a3,a4,a5,a6,c,D,d,tl,A,B,h1,h2,h3,h4,h5,h6,h7,h8⟩:=h
 have an:=zR h4
 have bb:=zR h5
 have O:b < w.heap.size:=(Ak.1 h1).1
 have E:u.heap[b]?=_:=(hu.block b O).trans h1
 have be:=hu.size
 have live:∀ {X:Ab},Qb w X->∀ {cells:Ac Ad} {ys:Ac α} {C:Nat->Prop},row r true w cells ys C->row r true X cells ys (λk=>C k/\k < w.heap.size) :=
   by intro X hX cells ys C hr;exact yV (zl hr) (λk hk=>hX.block k hk.2)
 have cellAt:∀ {X:Ab},X.heap[b]?=some (.cells (c++(D++(d++tl))).toArray e (0,0))->∀ (o:Nat) (pre mid J:Ac Ad),c++(D++(d++tl))=pre++(mid++J)->pre.length=o->∀ q uu,mid[q]?=some uu->X.cell? ((⟨b,o,none⟩:Bz).add q)=some uu:=by
  intro X hX o pre mid J he ho q uu hq;have F:(⟨b,o,none⟩:Bz).add q=⟨b,o + q,none⟩:=rF;have b8:=(Be.1 hq).1;rw [F,cell_of_row X b _ _ e (0,0) hX];simp only [List.getElem?_toArray];rw [he,List.getElem?_append_right bF2,Bd bF2];rw [<- hq];congr 1;omega
 have ab:Src u (.slice (some ⟨b,0,none⟩) kept.length c1) kept.length c:=.inr ⟨_,_,rfl,cellAt E 0 [] c (D++(d++tl)) bF3 rfl⟩
 obtain ⟨v1,u1,a7,N,aa⟩:=run_first (P:=P) (ty:=ad) (a0:=a0) ht hi hz hsize hzs hn bF2 ab an (row_one h4) bF2
 have U:Qb w u1:=hu.trans (N.mono be)
 have af:=N.size
 refine ⟨v1,u1,a7,N,?_⟩
 have Y:u1.heap[b]?=_:=(U.block b O).trans h1
 have Z:Src u1 (.slice (some ⟨b,q,none⟩) rest.length c2) rest.length d:=by
  by_cases bv:rest=[]
  · subst bv;exact .inl ⟨rfl,_,_,rfl⟩
  rw [hq bv];exact .inr ⟨_,_,rfl,cellAt Y _ (c++D) d tl bF3 (by simp [an,h3,Nat.add_mul])⟩
 obtain ⟨R,W,V,au⟩:∃ R:Nat->Prop,(∀ k,R k->A k/\k < w.heap.size)/\kY e r u1 v1 kept (λk=>R k\/(u.heap.size<=k/\k < u1.heap.size))/\∀ k,some k=v1.ownBlock->(R k\/(u.heap.size<=k/\k < u1.heap.size))->u.heap.size<=k:=by
  by_cases b9:kept=[]
  · subst b9;obtain rfl:c=[]:=h4;obtain ⟨o1,_⟩:=aa (ys:=[]) (T:=λ_=>False) rfl bF3;exact ⟨λ_=>False,λ_ h=>h.elim,o1,λk _ h=>h.elim (λq=>q.elim) (λq=>q.1)⟩
  obtain ⟨o1,o2⟩:=aa (live hu h4) a1;exact ⟨_,λk hk=>hk,o1,λk hk _=>o2 b9 k hk⟩
 obtain ⟨v2,u2,I,ar,H⟩:=kFg (P:=P) (ty:=ae) ht hi hz hsize hzs hn bF2 V Z bb (row_one h5) bF2
 have ac:=H (live U h5) (by
   rintro k (q1 | q1) q2
   · exact h8 k (W k q1).1 q2.1
   · have:=q2.2;omega) a2
 refine ⟨v2,u2,I,ac.wide ?_,N.trans (ar.below af (λk hk=>au k hk.1 hk.2))⟩
 have c4:=ar.size
 rintro k ((q | q) | q | q)
 · exact .inl (h6 k (W k q).1).1
 · exact .inr ⟨q.1,by omega⟩
 · exact .inl (h7 k q.1).1
 exact .inr ⟨by omega,q.2⟩
end
end kD
end Go.Proofs.YthocbplmdjkifaaGreat
namespace Go.Proofs.YthocbplmdjkifaaGreat
open Go
section
variable {P:Ar} {ops:Am Al} {S:Ab->Prop} {Q:Exit->Act->Ab->Prop}
def kJi (md:Ap) (ops:Am Al) (n:Nat) (D:Ac Nat):Bool :=
  (Bt n).all λi=>D.contains i || (Bt (n + 1)).any λj=>decide (i < j) && (!D.contains j && Ca md ops j i)
def kWj {md:Ap} {n:Nat} {D:Ac Nat} {listed:Am Bool} (hs:kJi md ops n D=true) (hc:Bg md ops n=true) (hn:n < ops.size) (inv:Bc md ops n listed) :
    ∀ (d i:Nat),n - i=d->i < n->D.contains i=false->listed.getD i true=false->∀ t,n<=t->t ∉ Ag md ops listed:=by
 intro d
 induction d using Nat.strongRecOn with
 | _ d ih =>
   intro i hd hi Z F t ht hr;obtain ⟨_,U,o,O⟩:=Bj.1 hr;have E:t < ops.size:=(Ak.1 o).1;by_cases af:t=n
   · exact oU
   · have h1:=Aw.1 hc t (List.mem_range.2 E);simp only [Bool.or_eq_true,Ae] at h1;rcases h1 with h1 | h1
     · omega
     · obtain ⟨R,J,e,he,hb,ab⟩:=Region.waitsFor_spec h1;have:R=U:=Option.some.inj (J.symm.trans o);subst this;have h2:=O e he hb;rw [ab,getD_both (inv.tail (t - 1) bF2 bF2)] at h2;cases h2
def kYn {md:Ap} {n i:Nat} {D:Ac Nat} {W:Al} {v:Ad} {L:Am Bool->Act->Ab->Prop} (hi:ops[i]?=some W) (E:∀ (j:Nat) (o:Al) cs b,ops[j]?=some o->o.op≠.select cs b)
    (hQ:∀ c a w,Q (.panic c) (a.put W.dst v) w->Q (.panic c) a w) (hs:kJi md ops n D=true) (hc:Bg md ops n=true) (hn:n < ops.size) (U:i < n) (Z:D.contains i=false)
    (Y:∀ listed a w,L listed a w->∀ j∈Ag md ops listed,n<=j) :
    ∀ (f:Nat) (listed:Am Bool) (a:Act) (w:Ab),Bc md ops n listed ->
      (∀ j oj,ops[j]?=some oj->j≠i->listed.getD j true=false->(∀ e∈oj.after,Region.binds md e=true->e.on≠i)->W.apart ops oj=true) ->
      i∈Ag md ops listed->YieldsIf P ops S W v a->S w ->
      kBv P md ops Q S n L f (listed.setIfInBounds i true) (a.put W.dst v) w->kBv P md ops Q S n L (f + 1) listed a w:=by
 intro f
 induction f with
 | zero =>
   intro listed a w inv _ hr hy hS H;have F:=(Bj.1 hr).1;refine ⟨λh=>wB,λj I=>?_⟩;have aa:j < n:=by
     rcases Nat.lt_or_ge j n with h | h
     · exact h
     · exact absurd I (kWj hs hc hn inv _ i rfl U Z F j h)
   exact oM
 | succ f ih =>
   intro listed a w inv R hr hy hS H;have F:=(Bj.1 hr).1;refine ⟨λh=>wB,λj I=>?_⟩;have aa:j < n:=by
     rcases Nat.lt_or_ge j n with h | h
     · exact h
     · exact absurd I (kWj hs hc hn inv _ i rfl U Z F j h)
   exact oN
def kJv {l:Ac Al} {n g:Nat} {D:Ac Nat} (E:Ay l.toArray=true) (hQ:∀ c a d v w,Q (.panic c) (Cb a d v) w->Q (.panic c) a w)
    (hs:kJi .any l.toArray n D=true) (hc:Bg .any l.toArray n=true) (hn:n < l.toArray.size) (hg:n + g=l.length):∀ (q:Ac (Nat × Bool)) (k:Nat) (listed:Am Bool) (a:Act) (w:Ab),
    q.all (λx=>decide (x.1 < n) && !D.contains x.1)=true->Bc .any l.toArray n listed->kEe .any l.toArray n g q listed=true->S w->kDc P l.toArray S Q k (jG l q++l.drop n) (q.map (·.2)) a w ->
    kBv P .any l.toArray Q S n (λlisted a w=>Region.seqB .any l.toArray g n listed=true/\∃ r,(∀ j,r[j]?=l.toArray[n + j]?)/\r.length=g/\Bq P l.toArray Q r a w) q.length listed a w
  | [],k,listed,a,w,_,inv,hB,hS,h=>by
    exact oP
  | (i,true) :: q,k,listed,a,w,hi,inv,hB,hS,h=>by
    simp only [Bb,Aa,Ae,Av] at hi;have hil:i < l.toArray.size:=Nat.lt_trans hi.1.1 hn;have h0:l.toArray[i]?=some l.toArray[i]:=Ai hil;have hp:jG l ((i,true) :: q)=l.toArray[i] :: jG l q:=by
      exact oO
    rw [hp] at h;obtain ⟨v,hy,h⟩:=h;simp only [kEe,Aa] at hB;obtain ⟨hr,hi2⟩:=CO
    exact kYn h0 (Br E) (λc a w=>hQ c a _ _ w) hs hc hn hi.1.1 hi.1.2 (λH a' w' hL=>seqB_ready hL.1) q.length listed a w inv (Bv h0 hB.1.2) hr hy hS
      (kJv E hQ hs hc hn hg q (k + 1) _ _ _ hi2 (inv.set hr hi.1.1) hB.2 hS h)
  | (i,false) :: q,k,listed,a,w,hi,inv,hB,hS,h=>by
    simp only [Bb,Aa,Ae,Av] at hi;obtain ⟨hi2,hil⟩:=CP;have h0:l.toArray[i]?=some l.toArray[i]:=Ai hil;have hp:jG l ((i,false) :: q)=l.toArray[i] :: jG l q:=by
      exact oO
    rw [hp] at h;simp only [kEe,Aa,beq_iff_eq] at hB;have hr:i∈Ag .any l.toArray listed:=bC9;refine ⟨by rw [hB.1];simp,λj I=>?_⟩;rw [hB.1] at I;obtain rfl:j=i:=bD7;refine ⟨hi.1.1,?_⟩;refine wpOp_mono (λa' w' F=>⟨F.1,kJv E hQ hs hc hn hg q (k + 1) _ _ _ hi2 (inv.set hr hi.1.1) hB.2 F.1 F.2⟩) (K:=λa' w'=>S w'/\kDc P l.toArray S Q (k + 1) (jG l q++l.drop n) (q.map (·.2)) a' w') ?_;exact oQ
def preB (md:Ap) (ops:Am Al):Ac Nat->Am Bool->Bool
  | [],_=>true
  | k :: p,listed=>(Ag md ops listed).contains k && Region.free md ops listed k && preB md ops p (listed.setIfInBounds k true)
def kLd:Ac Nat->Am Bool->Am Bool
  | [],b=>b
  | k :: p,b=>kLd p (b.setIfInBounds k true)
def kAu (l:Ac Al):Ac Nat->Ac Al
  | []=>[]
  | k :: q=>match l[k]? with
    | some o=>o :: kAu l q
    | none=>[]
def preR (P:Ar) (ops:Am Al) (K:Act->Prop):Ac Al->Act->Prop
  | [],a=>K a
  | o :: l,a=>∃ v,Yields P ops o v a/\preR P ops K l (a.put o.dst v)
@[irreducible] def pre (P:Ar) (ops:Am Al) (K:Act->Prop) (l:Ac Al) (a:Act):Prop:=preR P ops K l a
def kPb {l:Ac Al} {n f:Nat} (E:Ay l.toArray=true) (hQ:∀ c a d v w,Q (.panic c) (Cb a d v) w->Q (.panic c) a w) {w:Ab} (hn:n < l.toArray.size):∀ (D:Ac Nat) (listed:Am Bool) (a:Act),
    D.all (λx=>decide (x < n))=true->Bc .any l.toArray n listed->preB .any l.toArray D listed=true->preR P l.toArray (λa'=>Bc .any l.toArray n (kLd D listed)->wpAny P .any l.toArray Q f (kLd D listed) a' w) (kAu l D) a->wpAny P .any l.toArray Q (D.length + f) listed a w
  | [],listed,a,_,inv,_,h=>by
    simp only [List.length_nil,Nat.zero_add];exact h inv
  | i :: D,listed,a,hi,inv,hB,h=>by
    simp only [Bb,Aa,Ae] at hi;have hil:i < l.toArray.size:=Nat.lt_trans hi.1 hn;have h0:l.toArray[i]?=some l.toArray[i]:=Ai hil;have hp:kAu l (i :: D)=l.toArray[i] :: kAu l D:=by
      have:l[i]?=some l.toArray[i]:=by simp
      simp only [kAu,this]
    rw [hp] at h;obtain ⟨v,hy,h⟩:=h;simp only [preB,Aa] at hB;have hr:i∈Ag .any l.toArray listed:=bA4;rw [show (i :: D).length + f=(D.length + f) + 1 by simp;omega];exact wpAny_take h0 E hB.1.2 hB.1.1 (λc a w=>hQ c a _ _ w) hy (kPb E hQ hn D _ _ (by simpa using hi.2) (inv.set hr hi.1) hB.2 h)
def skipOk (md:Ap) (ops:Am Al) (D:Ac Nat) (q:Ac (Nat × Bool)):Bool :=
  Ay ops && (decide (D.length + q.length < ops.size) && (D.all (λx=>decide (x < D.length + q.length)) && (q.all (λx=>decide (x.1 < D.length + q.length) && !D.contains x.1) && (kJi md ops (D.length + q.length) D && (Bg md ops (D.length + q.length) &&
    (preB md ops D (Aj ops.size false) && kEe md ops (D.length + q.length) (ops.size - (D.length + q.length)) q (kLd D (Aj ops.size false))))))))
def kPj {K D:Act->Prop} (h:∀ a,K a->D a):∀ (l:Ac Al) (a:Act),preR P ops K l a->preR P ops D l a
  | [],a,q=>h a q
  | o :: l,a,⟨v,hy,q⟩=>⟨v,hy,kPj h l _ q⟩
def kHk {id:Nat} {a:Act} {w:Ab} {l:Ac Al} (S:Ab->Prop) (D:Ac Nat) (q:Ac (Nat × Bool)) (hm:P.follows .mixedOrders=true) (hB:skipOk .any l.toArray D q=true)
    (hQ:∀ c a d v w,Q (.panic c) (Cb a d v) w->Q (.panic c) a w) (hS:S { w with drawn:=w.drawn + 1 })
    (h:∀ w',S w'->pre P l.toArray (λa'=>soft P l.toArray S Q 0 (jG l q++l.drop (D.length + q.length)) (q.map (·.2)) a' w') (kAu l D) a):(Code.region id l.toArray true).wp P Q a w:=by
 simp only [skipOk,Aa,Ae] at hB
 have h:=h _ hS
 unfold pre at h
 unfold soft at h
 have be:l.toArray.size=l.length:=bF3
 have E:Bc .any l.toArray (D.length + q.length) (Aj l.toArray.size false) :=
   ⟨by simp,λj oj _ hl=>qE,λt _ ht=>getD_in bC7 (getD_replicate_false _ _)⟩
 refine wp_region_any hm ?_
 have hn:=hB.2.1
 have R:q.all (λx=>decide (x.1 < D.length + q.length) && !D.contains x.1)=true:=by simpa only [Aa,Ae,Av] using hB.2.2.2.1
 rw [show l.toArray.size=D.length + (q.length + (l.toArray.size - (D.length + q.length))) by omega]
 rw [show D.length + (q.length + (l.toArray.size - (D.length + q.length)))=l.toArray.size by omega] 
 have key:=kPb (f:=q.length + (l.toArray.size - (D.length + q.length))) hB.1 hQ hn D (Aj l.toArray.size false) a (by simpa using hB.2.2.1) E hB.2.2.2.2.2.2.1 (kPj (λa' hk=>by
   intro F;have H:=kJv (g:=l.toArray.size - (D.length + q.length)) hB.1 hQ hB.2.2.2.2.1 hB.2.2.2.2.2.1 hn bF2 q 0 _ a' _ R F hB.2.2.2.2.2.2.2 hS hk;exact kBy (Q:=Q) (g:=l.toArray.size - (D.length + q.length)) (λlisted a' w' hL=>by
     obtain ⟨hq,o,ho,J,hw⟩:=hL;have:=wpAny_of_seq (md:=.any) (Q':=Q) o (D.length + q.length) listed a' w' ho (by rw [J];exact hq) hw;rwa [J] at this) _ _ _ _ H) _ _ h)
 rw [show D.length + (q.length + (l.toArray.size - (D.length + q.length)))=l.toArray.size by omega] at key
 exact key
def pre_nil {K:Act->Prop} {a:Act} (h:K a):pre P ops K [] a:=by unfold pre;exact h
def pre_read {K:Act->Prop} {o:Al} {l:Ac Al} {a:Act} {v:Ad} (hg:Bh o (yielded ops a.tmps)=true) (hv:∀ w,(execOp a.eval o).run P w=.ok (.value v) w) (h:pre P ops K l (a.put o.dst v)):pre P ops K (o :: l) a:=by
 unfold pre at h ⊢;exact ⟨v,.inl ⟨hg,hv⟩,h⟩
end
section
variable {P:Ar} {ops:Am Al} {S S2:Ab->Prop} {Q:Exit->Act->Ab->Prop}
def treeB (md:Ap) (ops:Am Al) (n:Nat):Bool :=
  (Bt ops.size).all λt=>decide (t<=n) || (Bt t).any λj=>decide (n<=j) && Ca md ops t j
def kWi {md:Ap} {n:Nat} {D:Ac Nat} {listed:Am Bool} (hs:kJi md ops n D=true) (hc:treeB md ops n=true) (hn:n < ops.size) (inv:Bc md ops n listed) :
    ∀ (d i:Nat),n - i=d->i < n->D.contains i=false->listed.getD i true=false->∀ t,n<=t->t ∉ Ag md ops listed:=by
 intro d
 induction d using Nat.strongRecOn with
 | _ d ih =>
   intro i hd hi Z F t ht hr;obtain ⟨_,U,o,O⟩:=Bj.1 hr;have E:t < ops.size:=(Ak.1 o).1;by_cases af:t=n
   · exact oU
   · have h1:=Aw.1 hc t (List.mem_range.2 E);simp only [Bool.or_eq_true,Ae] at h1;rcases h1 with h1 | h1
     · omega
     · exact oV
def kYm {md:Ap} {n i:Nat} {D:Ac Nat} {W:Al} {v:Ad} {L:Am Bool->Act->Ab->Prop} (hi:ops[i]?=some W) (E:∀ (j:Nat) (o:Al) cs b,ops[j]?=some o->o.op≠.select cs b)
    (hQ:∀ c a w,Q (.panic c) (a.put W.dst v) w->Q (.panic c) a w) (hs:kJi md ops n D=true) (hc:treeB md ops n=true) (hn:n < ops.size) (U:i < n) (Z:D.contains i=false)
    (Y:∀ listed a w,L listed a w->∀ j∈Ag md ops listed,n<=j) :
    ∀ (f:Nat) (listed:Am Bool) (a:Act) (w:Ab),Bc md ops n listed ->
      (∀ j oj,ops[j]?=some oj->j≠i->listed.getD j true=false->(∀ e∈oj.after,Region.binds md e=true->e.on≠i)->W.apart ops oj=true) ->
      i∈Ag md ops listed->YieldsIf P ops S W v a->S w ->
      kBv P md ops Q S n L f (listed.setIfInBounds i true) (a.put W.dst v) w->kBv P md ops Q S n L (f + 1) listed a w:=by
 intro f
 induction f with
 | zero =>
   intro listed a w inv _ hr hy hS H;have F:=(Bj.1 hr).1;refine ⟨λh=>wB,λj I=>?_⟩;have aa:j < n:=by
     rcases Nat.lt_or_ge j n with h | h
     · exact h
     · exact absurd I (kWi hs hc hn inv _ i rfl U Z F j h)
   exact oM
 | succ f ih =>
   intro listed a w inv R hr hy hS H;have F:=(Bj.1 hr).1;refine ⟨λh=>wB,λj I=>?_⟩;have aa:j < n:=by
     rcases Nat.lt_or_ge j n with h | h
     · exact h
     · exact absurd I (kWi hs hc hn inv _ i rfl U Z F j h)
   exact oN
def kEf (md:Ap) (ops:Am Al) (n:Nat) (q2:Ac (Nat × Bool)):Ac (Nat × Bool)->Am Bool->Bool
  | [],listed=>(Ag md ops listed).all (λj=>decide (n<=j)) && kFf md ops q2 listed
  | (k,true) :: p,listed=>(Ag md ops listed).contains k && Region.free md ops listed k && kEf md ops n q2 p (listed.setIfInBounds k true)
  | (k,false) :: p,listed=>(Ag md ops listed==[k]) && kEf md ops n q2 p (listed.setIfInBounds k true)
def soft2Ok (md:Ap) (ops:Am Al) (D:Ac Nat) (q q2:Ac (Nat × Bool)):Bool :=
  Ay ops && (decide (D.length + q.length < ops.size) && (D.all (λx=>decide (x < D.length + q.length)) && (q.all (λx=>decide (x.1 < D.length + q.length) && !D.contains x.1) && (kJi md ops (D.length + q.length) D && (treeB md ops (D.length + q.length) &&
    (preB md ops D (Aj ops.size false) && (q2.all (λx=>decide (x.1 < ops.size)) && (decide (D.length + q.length + q2.length=ops.size) && kEf md ops (D.length + q.length) q2 q (kLd D (Aj ops.size false))))))))))
def kOb (P:Ar) (ops:Am Al) (S S2:Ab->Prop) (Q:Exit->Act->Ab->Prop) (l0:Ac Al) (p2:Ac Bool):Nat->Ac Al->Ac Bool->Act->Ab->Prop
  | k,o :: l,true :: p,a,w=>∃ v,YieldsIf P ops S o v a/\kOb P ops S S2 Q l0 p2 (k + 1) l p (a.put o.dst v) w
  | k,o :: l,false :: p,a,w=>if Bh o (yielded ops a.tmps) then o.wp P a w (λa' w'=>S w'/\kOb P ops S S2 Q l0 p2 (k + 1) l p a' w') Q\/(o.asks P a w/\LetsOut Q) else S w/\kOb P ops S S2 Q l0 p2 (k + 1) l p (a.put o.dst undef) w
  | k,_,_,a,w=>S2 w/\kDc P ops S2 Q k l0 p2 a w
@[irreducible] def kKy (P:Ar) (ops:Am Al) (S S2:Ab->Prop) (Q:Exit->Act->Ab->Prop) (l0:Ac Al) (p2:Ac Bool) (k:Nat) (l:Ac Al) (p:Ac Bool) (a:Act) (w:Ab):Prop:=kOb P ops S S2 Q l0 p2 k l p a w
def kJx {l:Ac Al} {n:Nat} {D:Ac Nat} {q2:Ac (Nat × Bool)} (E:Ay l.toArray=true) (hQ:∀ c a d v w,Q (.panic c) (Cb a d v) w->Q (.panic c) a w)
    (hs:kJi .any l.toArray n D=true) (hc:treeB .any l.toArray n=true) (hn:n < l.toArray.size):∀ (q:Ac (Nat × Bool)) (k:Nat) (listed:Am Bool) (a:Act) (w:Ab),
    q.all (λx=>decide (x.1 < n) && !D.contains x.1)=true->Bc .any l.toArray n listed->kEf .any l.toArray n q2 q listed=true->S w->kOb P l.toArray S S2 Q (jG l q2) (q2.map (·.2)) k (jG l q) (q.map (·.2)) a w ->
    kBv P .any l.toArray Q S n (λlisted a w=>(Ag .any l.toArray listed).all (λj=>decide (n<=j))=true/\kFf .any l.toArray q2 listed=true/\S2 w/\∃ k,kDc P l.toArray S2 Q k (jG l q2) (q2.map (·.2)) a w) q.length listed a w
  | [],k,listed,a,w,_,inv,hB,hS,h=>by
    exact oW
  | (i,true) :: q,k,listed,a,w,hi,inv,hB,hS,h=>by
    simp only [Bb,Aa,Ae,Av] at hi;have hil:i < l.toArray.size:=Nat.lt_trans hi.1.1 hn;have h0:l.toArray[i]?=some l.toArray[i]:=Ai hil;have hp:jG l ((i,true) :: q)=l.toArray[i] :: jG l q:=by
      exact oO
    rw [hp] at h;obtain ⟨v,hy,h⟩:=h;simp only [kEf,Aa] at hB;obtain ⟨hr,hi2⟩:=CO
    exact kYm h0 (Br E) (λc a w=>hQ c a _ _ w) hs hc hn hi.1.1 hi.1.2 (λH a' w' hL j I=>by simpa using Aw.1 hL.1 j I) q.length listed a w inv (Bv h0 hB.1.2) hr hy hS
      (kJx E hQ hs hc hn q (k + 1) _ _ _ hi2 (inv.set hr hi.1.1) hB.2 hS h)
  | (i,false) :: q,k,listed,a,w,hi,inv,hB,hS,h=>by
    simp only [Bb,Aa,Ae,Av] at hi;obtain ⟨hi2,hil⟩:=CP;have h0:l.toArray[i]?=some l.toArray[i]:=Ai hil;have hp:jG l ((i,false) :: q)=l.toArray[i] :: jG l q:=by
      exact oO
    rw [hp] at h;simp only [kEf,Aa,beq_iff_eq] at hB;have hr:i∈Ag .any l.toArray listed:=bC9;refine ⟨by rw [hB.1];simp,λj I=>?_⟩;rw [hB.1] at I;obtain rfl:j=i:=bD7;refine ⟨hi.1.1,?_⟩;refine wpOp_mono (λa' w' F=>⟨F.1,kJx E hQ hs hc hn q (k + 1) _ _ _ hi2 (inv.set hr hi.1.1) hB.2 F.1 F.2⟩) (K:=λa' w'=>S w'/\kOb P l.toArray S S2 Q (jG l q2) (q2.map (·.2)) (k + 1) (jG l q) (q.map (·.2)) a' w') ?_;exact oQ
def kAc {id:Nat} {a:Act} {w:Ab} {l:Ac Al} (S S2:Ab->Prop) (D:Ac Nat) (q q2:Ac (Nat × Bool)) (hm:P.follows .mixedOrders=true) (hB:soft2Ok .any l.toArray D q q2=true)
    (hQ:∀ c a d v w,Q (.panic c) (Cb a d v) w->Q (.panic c) a w) (hS:S { w with drawn:=w.drawn + 1 })
    (h:∀ w',S w'->pre P l.toArray (λa'=>kKy P l.toArray S S2 Q (jG l q2) (q2.map (·.2)) 0 (jG l q) (q.map (·.2)) a' w') (kAu l D) a):(Code.region id l.toArray true).wp P Q a w:=by
 simp only [soft2Ok,Aa,Ae] at hB
 have h:=h _ hS
 unfold pre at h
 unfold kKy at h
 have E:Bc .any l.toArray (D.length + q.length) (Aj l.toArray.size false) :=
   ⟨by simp,λj oj _ hl=>qE,λt _ ht=>getD_in bC7 (getD_replicate_false _ _)⟩
 refine wp_region_any hm ?_
 obtain ⟨b1,b2,L,N,O,U,V,J,W,I⟩:=hB
 have R:q.all (λx=>decide (x.1 < D.length + q.length) && !D.contains x.1)=true:=fB
 have key:=kPb (f:=q.length + q2.length) b1 hQ b2 D (Aj l.toArray.size false) a (by simpa using L) E V (kPj (λa' hk=>by
   intro F;have H:=kJx (S2:=S2) b1 hQ O U b2 q 0 _ a' _ R F I hS hk;exact kBy (Q:=Q) (g:=q2.length) (λlisted a' w' hL=>by
     obtain ⟨_,hb,bq,k,hw⟩:=hL;exact wpAny_of_held (S:=S2) _ _ _ _ (kEy b1 hQ q2 k _ listed a' w' J nL hb bq hw)) _ _ _ _ H) _ _ h)
 rw [show D.length + (q.length + q2.length)=l.toArray.size by omega] at key
 exact key
variable {l0:Ac Al} {p2:Ac Bool} {k:Nat} {l:Ac Al} {p:Ac Bool} {a:Act} {w:Ab} {o:Al}
def kAk (hS:S2 w) (h:soft P ops S2 Q k l0 p2 a w):kKy P ops S S2 Q l0 p2 k [] [] a w:=by
 unfold soft at h;unfold kKy;exact ⟨hS,h⟩
def yA {v:Ad} (hg:Bh o (yielded ops a.tmps)=true)
    (hv:∀ w,S w->(execOp a.eval o).run P w=.ok (.value v) w) (h:kKy P ops S S2 Q l0 p2 (k + 1) l p (a.put o.dst v) w):kKy P ops S S2 Q l0 p2 k (o :: l) (true :: p) a w:=by
 unfold kKy at h ⊢
 exact ⟨v,.inl ⟨hg,hv⟩,h⟩
def zY (hg:Bh o (yielded ops a.tmps)=true)
    (h:∀ K:Act->Ab->Prop,(∀ a' w',S w'->kKy P ops S S2 Q l0 p2 (k + 1) l p a' w'->K a' w')->o.wp P a w K Q):kKy P ops S S2 Q l0 p2 k (o :: l) (false :: p) a w:=by
 unfold kKy
 show if _ then _ else _
 rw [if_pos hg]
 exact .inl (h _ (λa' w' h1 h2=>by unfold kKy at h2;exact ⟨h1,h2⟩))
end
end Go.Proofs.YthocbplmdjkifaaGreat

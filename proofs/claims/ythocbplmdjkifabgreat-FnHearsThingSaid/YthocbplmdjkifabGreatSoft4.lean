/-
  Regions in two phases: a head under one condition on the world, then the rest under another. No program in sight.
-/
import Derived.Test.YthocbplmdjkifabGreatDrawN
set_option linter.unusedVariables false
set_option linter.defProp false
set_option linter.unusedSimpArgs false
set_option linter.unnecessarySimpa false
set_option maxRecDepth 100000
open Bool renaming and_eq_true->Aa,not_eq_true'->Av
open Go renaming World->Ab,Value->Ad,Oper->Ak,Program->Aq,TypeId->Au,HeadInv->Be,mem_ready->Bi,wpList_plain->Bj,wpList->Bp,Addr->Bz
open _root_ renaming decide_eq_true_eq->Ac,List->Ae,Array->Al,Option->Bo
open Go.Region renaming ready->Ag,Mode->Ap,noSelect->Ay,chainB->Bf,wanted->Bg,noSelect_spec->Bq,free_spec->Bu,waitsFor->Bv
open Go.Builtin renaming append_->Ah
open Array renaming getElem?_eq_getElem->Ai,getElem?_eq_some_iff->Aj,replicate->Am
open List renaming eq_nil_of_length_eq_zero->Ar,all_eq_true->Aw,all_cons->Ba,length_append->Bb,getElem?_append_left->Bc,getElem?_eq_some_iff->Bd,length_drop->Bh,mem_of_mem_drop->Bl,range->Br
open Option.some renaming injEq->Az
open Go.Value renaming string->Bt,int->Cb
open Go.Act renaming put->Bw
open Go.Addr.mk renaming injEq->Ca
namespace Go.Proofs.YthocbplmdjkifabGreat
open Go.RowKit
variable {bytes b len cap m c D E F p H:Nat} {Q:Exit->Act->Ab->Prop} {P:Aq} {w u:Ab} {z sv v0 v1 v v2 v3 v4 v5:Ad} {a av a0:Bo Bz} {ops:Al Ak} {rest:Ae Ak} {S:Nat->Prop} {o:Ak} {cells cx:Ae Ad} {t e ty:Au} {ac:Act}
namespace kD
section
variable {α β:Type} {r:kD α} {q:kD β} {e:Au} {w w' W W':Ab} {v:Ad} {cs ds:Ae Ad} {x:α} {xs:Ae α} {S T F G:Nat->Prop}
def jv (r:kD α) (w:Ab) (cs:Ae Ad) (x:α) (S:Nat->Prop):Prop:=r.is false w cs x S/\r.bdd Big x
def jv.rd (h:r.jv w cs x S):r.rd w cs x:=⟨r.wide h.1 (λ_ _=>trivial),h.2⟩
def jv.wide (h:r.jv w cs x S) (k:∀ k,S k->T k):r.jv w cs x T:=⟨r.wide h.1 k,h.2⟩
def jv.keep (h:r.jv w cs x S) (k:∀ k,S k->k < w.heap.size->w'.heap[k]?=w.heap[k]?):r.jv w' cs x S :=
  ⟨r.wide (r.mono (r.live h.1) (λj J=>k j J.1 J.2)) (λj J=>J.1),h.2⟩
def jv.below (h:r.jv w cs x S) (b:Qb w w'):r.jv w' cs x S:=h.keep (λk _ hk=>b.block k hk)
def jv.touch (h:r.jv w cs x S) (b:Touch T w w') (hd:∀ k,S k->¬ T k):r.jv w' cs x S:=h.keep (λk hk hl=>b.block k hl (hd k hk))
def own.jv (h:r.own w cs x S):r.jv w cs x S:=⟨r.weak h.1,h.2⟩
def ko.jv (h:ko e r w v xs S) (hl:xs.length<=Big):(slice e r).jv w [v] xs S:=(h.own hl).jv
def flat.jv (h:r.flat cs x):r.jv w cs x S:=(flat.own h).jv
def kCc {z:α × β} (h:r.jv w cs z.1 S) (k:q.jv w ds z.2 S):(pair r q).jv w (cs++ds) z S :=
  ⟨⟨cs,ds,S,S,rfl,h.1,k.1,λ_ h=>h,λ_ h=>h,λh=>by cases h⟩,h.2,k.2⟩
def kFo {z:α × β} (h:(pair r q).jv w cs z S):∃ c d,cs=c++d/\r.jv w c z.1 S/\q.jv w d z.2 S:=by
 obtain ⟨⟨c,d,A,B,rfl,h1,h2,hA,hB,_⟩,h3,h4⟩:=h;exact ⟨c,d,rfl,⟨r.wide h1 hA,h3⟩,⟨q.wide h2 hB,h4⟩⟩
def kVe {off:Nat} (h:(slice e r).own w [.slice (some ⟨b,off,none⟩) len cap] xs S) {k:Nat} (hk:k < xs.length):(slice e r).own w [.slice (some ⟨b,off + k * r.n,none⟩) (len - k) (cap - k)] (xs.drop k) S:=by
 refine xZ h λgf O h1 h3 h4 h2=>?_;clear h;refine ⟨⟨_,_,_,rfl,by simp;omega,by omega,by omega,?_⟩,by rw [Bh];omega,λx hx=>O x (Bl hx)⟩;rcases h4 with ⟨rfl,_⟩|⟨b',off',ha,cur,e',fr,p,c,q,hb,hc,hp,hl,hf,hS,hx⟩;simp at hk;simp only [Az,Ca,and_true] at ha;obtain ⟨rfl,rfl⟩:=ha;obtain ⟨c1,c2,rfl,ag,r1,r2⟩:=jIg hx (Nat.le_of_lt hk);refine .inr ⟨b,off + k * r.n,rfl,cur,e',fr,p++c1,c2,q,hb,by rw [hc];simp,by simp [hp,ag],?_,hf,hS,r2⟩;have:k * r.n<=cap * r.n:=Nat.mul_le_mul_right _ bJ5;rw [Nat.sub_mul];omega
end
end kD
def Touch.jO {w1 w2:Ab} (h:Touch (λk=>k=p) w w1) (t:Touch (λk=>k=b) w1 w2) (hb:w.heap.size<=b):Touch (λk=>k=p) w w2:=by
 refine G6 λk hk hn=>?_;exact (t.block k (Nat.lt_of_lt_of_le hk h.size) bI6).trans (h.block k hk hn)
def Touch.kCk {w1 w2:Ab} (h:Touch (λk=>k=p) w w1) (t:Touch S w1 w2) (hb:∀ k,S k->w.heap.size<=k):Touch (λk=>k=p) w w2:=by
 refine G6 λk hk hn=>?_;exact (t.block k (Nat.lt_of_lt_of_le hk h.size) (λq=>by have:=hb k q;omega)).trans (h.block k hk hn)
namespace kD
def row_strs {w:Ab} {S:Nat->Prop}:∀ xs:Ae ByteArray,(∀ x∈xs,x.size<=Big)->row str true w (xs.map Bt) xs S
  | [],_=>rfl
  | x :: xs,h=>⟨[.string x],xs.map Bt,S,λ_=>False,rfl,((kFr (h x bJ6)) w).1.elim (λa b=>⟨a,b⟩),row_strs xs wX,λ_ h=>h,λ_ h=>h.elim,λ_ _ _ h=>h⟩
def row_ints {w:Ab} {S:Nat->Prop}:∀ xs:Ae Int,(∀ x∈xs,Qi x)->row int true w (xs.map (Cb .i64)) xs S
  | [],_=>rfl
  | x :: xs,h=>⟨[Qn x],xs.map (Cb .i64),S,λ_=>False,rfl,⟨rfl,h x bJ6⟩,row_ints xs wX,λ_ h=>h,λ_ h=>h.elim,λ_ _ _ h=>h⟩
def kCn (w:Ab) (xs:Ae ByteArray) (h:(xs.all λx=>decide (x.size<=64))=true) (hl:xs.length<=64):(slice e str).own (w.alloc (.cells (xs.map Bt).toArray e)) [.slice (Qa w) xs.length xs.length] xs (λk=>k=w.heap.size):=by
 have hb:∀ x∈xs,x.size<=Big:=λx hx=>by have:=Aw.1 h x hx;simp at this;unfold Big;omega
 exact (yf (S:=λk=>k=w.heap.size) (T:=λ_=>False) hb bC7 (row_strs xs hb) (λ_ h=>h.elim) rfl).own bE7
def kKv (w:Ab) (xs:Ae Int) (h:(xs.all λx=>decide (-9223372036854775808<=x) && decide (x<=9223372036854775807))=true) (hl:xs.length<=64):(slice e int).own (w.alloc (.cells (xs.map (Cb .i64)).toArray e)) [.slice (Qa w) xs.length xs.length] xs (λk=>k=w.heap.size):=by
 have hb:∀ x∈xs,Qi x:=λx hx=>by have:=Aw.1 h x hx;simpa using this
 exact (yf (S:=λk=>k=w.heap.size) (T:=λ_=>False) (λ_ _=>trivial) bC7 (row_ints xs hb) (λ_ h=>h.elim) rfl).own bE7
def kKu {α:Type} {r:kD α} {cs:Ae Ad} {x:α} (w:Ab) (h:r.flat cs x):ko e r (w.alloc (.cells cs.toArray e)) (.slice (Qa w) 1 1) [x] (λk=>k=w.heap.size):=by
 have:=yf (e:=e) (r:=r) (w:=w) (cs:=cs) (xs:=[x]) (T:=λ_=>False) (S:=λk=>k=w.heap.size) (λy hy=>by rw [List.mem_singleton.1 hy];exact (h w).2) (by unfold maxLen;simp) (kGc (flat.own (w:=w) (S:=λ_=>False) h).1) (λ_ h=>h.elim) rfl;exact this
def kEl {xs:List ByteArray} {y:ByteArray} (h:(xs.all λx=>decide (x.size<=64))=true) (hy:y∈xs):y.size<=64:=by have:=List.all_eq_true.1 h y hy;simpa using this
def kKt {xs:List Int} {y lo hi:Int} (h:(xs.all λx=>decide (lo<=x) && decide (x<=hi))=true) (hy:y∈xs):lo<=y/\y<=hi:=by have:=List.all_eq_true.1 h y hy;simpa using this
end kD
namespace kD
section
variable {α β:Type} {r:kD α} {q:kD β} {w:World} {c c' d d':List Value} {x x':α} {y y':β} {S T:Nat->Prop}
def set_left (h:(pair r q).own w (c++d) (x,y) S) (hc:c.length=r.n) (hx:r.own w c' x' T) (hd:∀ k,S k->T k->False):(pair r q).own w (c'++d) (x',y) (λk=>S k\/T k):=by
 obtain ⟨⟨c1,I,A,B,he,h1,h2,hA,hB,H⟩,hb⟩:=h;obtain ⟨rfl,rfl⟩:=List.append_inj he (by rw [hc,r.len h1]);exact ⟨⟨c',d,T,B,rfl,hx.1,h2,λk=>.inr,λk hk=>.inl (hB k hk),λ_ k a b=>hd k (hB k b) a⟩,hx.2,hb.2⟩
def set_right (h:(pair r q).own w (c++d) (x,y) S) (hc:c.length=r.n) (f:∀ B:Nat->Prop,(∀ k,B k->S k)->q.own w d y B->q.own w d' y' (λk=>B k\/T k)) (hd:∀ k,S k->T k->False):(pair r q).own w (c++d') (x,y') (λk=>S k\/T k):=by
 obtain ⟨⟨c1,I,A,B,he,h1,h2,hA,hB,H⟩,hb⟩:=h;obtain ⟨rfl,rfl⟩:=List.append_inj he (by rw [hc,r.len h1]);have hf:=f B hB ⟨h2,hb.2⟩;exact ⟨⟨c,d',A,_,rfl,h1,hf.1,λk hk=>.inl (hA k hk),λk hk=>hk.imp (hB k) id,λ_ k a b=>b.elim (H rfl k a) (λq=>hd k (hA k a) q)⟩,hb.1,hf.2⟩
end
section
variable {α:Type} {r:kD α} {e:Au} {w:Ab} {v:Ad} {xs ys:Ae α} {S T:Nat->Prop}
def jFw (ht:P.underlying t=some (.slice e)) (hinf:(P.info? e).map (λi=>(i.zero,i.size,i.bytes))=some (some z,r.n,bytes)) (hzs:z.cells.size=r.n) (hn:0 < r.n) (hby:bytes<=1000) (hf:r.kEy)
    (hown:ko e r w v xs S) (hy:(slice e r).rd w [.slice av len cap] ys) (hlen:xs.length + ys.length<=1000000000) :
    ∃ v' w',(Ah #[t,t] ty #[v,.slice av len cap]).run P w=.ok v' w'/\ko e r w' v' (xs++ys) (λk=>S k\/(w.heap.size<=k/\k < w'.heap.size))/\Touch S w w':=by
 refine vF λi hi hz hsize E cells hsrc hrow D v' w' hr h2 h3=>?_;refine ⟨v',w',hr,(h3 D (λ_ _ h=>h) hy.2.2).wide ?_,h2.wide (λk hk=>hk.2)⟩;rintro k (hk | hk | hk);exact .inl hk;exact hk.elim;exact .inr hk
def jHk {a:Act} (D:o.guard=none) (s x:Operand) (t:Au)
    (ho:o.op=.call { callee:=.builtin .append,args:=#[s,x],argTypes:=#[t,t] })
    (ht:P.underlying t=some (.slice e)) (hinf:(P.info? e).map (λi=>(i.zero,i.size,i.bytes))=some (some z,r.n,bytes)) (hzs:z.cells.size=r.n) (hn:0 < r.n) (hby:bytes<=1000) (hf:r.kEy)
    (hown:ko e r w v xs S) (hs:a.eval s=v) (hx:a.eval x=.slice av len cap) (hy:(slice e r).rd w [.slice av len cap] ys) (hlen:xs.length + ys.length<=1000000000)
    (h:∀ v' w',ko e r w' v' (xs++ys) (λk=>S k\/(w.heap.size<=k/\k < w'.heap.size))->Touch S w w'->Bp P ops Q rest (a.put o.dst v') w'):Bp P ops Q (o :: rest) a w:=by
 refine Bj D λ_ E=>?_;obtain ⟨v',w',hr,h1,h2⟩:=jFw (ty:=o.type) ht hinf hzs hn hby hf hown hy hlen;exact kV s x t ho hs hx hr (E _ _ (h v' w' h1 h2))
end
end kD
namespace kD
def kLl:∀ (cs:Ae Ad) (w:Ab) (b p:Nat),w.setCells b p cs=setCells w b p cs
  | [],_,_,_=>rfl
  | v :: cs,w,b,p=>by unfold World.setCells setCells;exact kLl cs _ b (p + 1)
section
variable {α:Type} {r:kD α} {e:Au} {w:Ab} {xs ys:Ae α} {S T:Nat->Prop}
def jFv (ht:P.underlying t=some (.slice e)) (hinf:(P.info? e).map (λi=>(i.zero,i.size,i.bytes))=some (some z,r.n,bytes)) (hzs:z.cells.size=r.n) (hn:0 < r.n) (hby:bytes<=1000)
    (hown:(slice e r).own w [.slice a len cap] xs S) (hsrc:Src w sv m cells) (hrow:row r true w cells ys T) (hm:ys.length=m) (hb:∀ y∈ys,r.bdd Big y) (hd:∀ k,S k->T k->False) (hlen:xs.length + ys.length<=16777216) :
    ∃ v' w',(Ah #[t,t] ty #[.slice a len cap,sv]).run P w=.ok v' w'/\(slice e r).own w' [v'] (xs++ys) (λk=>S k\/T k\/(w.heap.size<=k/\k < w'.heap.size))/\Touch S w w':=by
 obtain ⟨i,hi,hz,hsize,E⟩:=info_parts hinf;have U:∀ n,n<=16777216->n<=Big:=λn h=>by unfold Big;omega
 refine xZ hown λdc ck h1 h3 h4 h2=>?_;clear hown;subst h1;have b3:∀ y∈xs++ys,r.bdd Big y:=by
  intro y hy;rcases List.mem_append.1 hy with q | q;exact ck y q;exact hb y q
 rcases h4 with ⟨rfl,hc0⟩|⟨b,off,rfl,cur,e',fr,p,cs,tl,g1,g2,g3,g4,g5,g6,g7⟩
 · obtain rfl:=hc0 rfl;obtain ⟨v',w',hr,X,ho⟩:=kIf (P:=P) (ty:=ty) (r:=r) ht hi hz hsize hzs hn bJ5 (ko.void (a:=a) (S:=S)) hsrc (by rw [zu hrow,hm]) (row_one hrow) (by simp at hlen ⊢;omega);exact ⟨v',w',hr,(ho hrow hd hb).own (U _ bF0),X.wide (λk hk=>hk.2)⟩
 obtain ⟨he,ai⟩:=g5 rfl;rw [he,ai] at g1;have ag:=zu g7;have e5:=zu hrow;by_cases b1:m=0
 · have cw:ys=[]:=Ar bJ5;subst cw;have hc:cells=[]:=hrow;subst hc;obtain ⟨a1,c1,rfl⟩:∃ a c,sv=.slice a 0 c:=by
    rcases hsrc with ⟨_,h⟩|⟨ad,c,h,_⟩;exact h;exact ⟨_,_,by rw [h,b1]⟩
   refine ⟨.slice (some ⟨b,off,none⟩) xs.length cap,w,?_,?_,Touch.refl _ _⟩
   · cases a1 <;> simp [Ah,run_underlying ht,sizeOf,typeInfo,hi,Builtin.lenOf,h2,Builtin.firstCells,loadCells,loadCellsFrom,storeCells]
   rw [List.append_nil];refine ⟨⟨_,_,cap,rfl,rfl,h2,h3,.inr ⟨b,off,rfl,cur,e,(0,0),p,cs,tl,g1,g2,g3,g4,λ_=>⟨rfl,rfl⟩,.inl g6,yx g7 (λk hk=>⟨.inl hk.1,hk.2⟩)⟩⟩,dc,ck⟩
 obtain ⟨ad,c,rfl,ac⟩:∃ ad c,sv=.slice (some ad) m c/\∀ j u,cells[j]?=some u->w.cell? (ad.add j)=some u:=by
  exact KZ
 refine GZ λG N O=>?_;by_cases D:xs.length + m<=cap
 · refine nX λV eo Z hr R W=>?_;refine ⟨⟨_,_,cap,rfl,by rw [Bb,hm],D,h3,.inr ⟨b,off,rfl,_,e,(0,0),p,cs++cells,tl.drop cells.length,R,by simp,g3,?_,λ_=>⟨rfl,rfl⟩,.inl g6,?_⟩⟩,U _ sS,b3⟩;simp only [List.size_toArray,Bb,Bh];omega;have a1:=yu (w':=setCells w b (off + xs.length * i.size) cells) g7 (λk hk=>W k (hk.2 rfl));have a2:=yu (w':=setCells w b (off + xs.length * i.size) cells) hrow (λk hk=>W k (λq=>hd b g6 (q ▸ hk)));exact kAy a1 a2 (λk hk=>⟨.inl hk.1,hk.2⟩) (λk hk=>⟨.inr (.inl hk),λ_ q=>hd b g6 (q ▸ hk)⟩) (λ_ k q1 q2=>hd k q1.1 q2)
 refine oN λI L hr bp aa=>?_;refine ⟨⟨_,_,_,rfl,by rw [Bb,hm],bp,aa,.inr ⟨w.heap.size,0,rfl,_,e,(0,0),[],cs++cells,(Builtin.zeroCells z.cells (grownCap w (xs.length + m) cap e - (xs.length + m))).toList,heap_alloc_new w.drew _,by simp,rfl,?_,λ_=>⟨rfl,rfl⟩,.inr (.inr ⟨Nat.le_refl _,by simp⟩),?_⟩⟩,U _ sS,b3⟩;exact IM;refine xG λa1 a2=>?_;exact kAy a1 a2 (λk hk=>⟨.inl hk.1,λ_=>by omega⟩) (λk hk=>⟨.inr (.inl hk.1),λ_=>by omega⟩) (λ_ k q1 q2=>hd k q1.1 q2.1)
def kJt (ht:P.underlying t=some (.slice e)) (hinf:(P.info? e).map (λi=>(i.zero,i.size,i.bytes))=some (some z,r.n,bytes)) (hzs:z.cells.size=r.n) (hn:0 < r.n) (hby:bytes<=1000)
    (hown:(slice e r).own w [.slice a len cap] xs S) (hu:Qb w u) {x:α} (hx:r.own u cx x T) (hd:∀ k,S k->T k->False) (hlen:xs.length < 16777216) :
    ∃ v' w',(Ah #[t,t] ty #[.slice a len cap,.slice (Qa u) 1 c]).run P (u.alloc (.cells cx.toArray e))=.ok v' w'/\(slice e r).own w' [v'] (xs++[x]) (λk=>S k\/T k\/(u.heap.size<=k/\k < w'.heap.size))/\Touch (λk=>S k/\k < w.heap.size) u w':=by
 refine FW λG hS=>?_;have hrow:row r true (u.alloc (.cells cx.toArray e)) cx [x] (λk=>T k/\k < u.heap.size):=kGc (r.mono (r.live hx.1) (λk hk=>G.block k hk.2));refine FC λhsrc=>?_;obtain ⟨v',w',hr,ho,D⟩:=jFv (ty:=ty) ht hinf hzs hn hby (hS.below G) hsrc hrow rfl nJ (λk h1 h2=>hd k h1.1 h2.1) bJ0;exact EM
def zG (D:o.guard=none) (s x:Operand) (t:Au)
    (ho:o.op=.call { callee:=.builtin .append,args:=#[s,x],argTypes:=#[t,t] })
    (ht:P.underlying t=some (.slice e)) (hinf:(P.info? e).map (λi=>(i.zero,i.size,i.bytes))=some (some z,r.n,bytes)) (hzs:z.cells.size=r.n) (hn:0 < r.n) (hby:bytes<=1000)
    (hown:(slice e r).own w [.slice a len cap] xs S) (hu:Qb w u) {y:α} (hy:r.own u cx y T) (hs:ac.eval s=.slice a len cap) (hx:ac.eval x=.slice (Qa u) 1 c) (hd:∀ k,S k->T k->False) (hlen:xs.length < 16777216)
    (h:∀ v' w',(slice e r).own w' [v'] (xs++[y]) (λk=>S k\/T k\/(u.heap.size<=k/\k < w'.heap.size))->Touch (λk=>S k/\k < w.heap.size) u w'->Bp P ops Q rest (ac.put o.dst v') w'):Bp P ops Q (o :: rest) ac (u.alloc (.cells cx.toArray e)):=by
 refine Bj D λ_ E=>?_;obtain ⟨v',w',hr,h1,h2⟩:=kJt (ty:=o.type) (c:=c) ht hinf hzs hn hby hown hu hy hd hlen;exact kV s x t ho hs hx hr (E _ _ (h v' w' h1 h2))
def run_pushGO (ht:P.underlying t=some (.slice e)) (hinf:(P.info? e).map (λi=>(i.zero,i.size,i.bytes))=some (some z,r.n,bytes)) (hzs:z.cells.size=r.n) (hn:0 < r.n) (hby:bytes<=1000)
    (hown:(slice e r).own w [.slice a len cap] xs S) (hy:ko e r w sv ys T) (hd:∀ k,S k->T k->False) (hlen:xs.length + ys.length<=16777216) :
    ∃ v' w',(Ah #[t,t] ty #[.slice a len cap,sv]).run P w=.ok v' w'/\(slice e r).own w' [v'] (xs++ys) (λk=>S k\/T k\/(w.heap.size<=k/\k < w'.heap.size))/\Touch S w w':=by
 obtain ⟨D,h⟩:=hy;obtain ⟨cells,hsrc,hrow⟩:∃ cells,Src w sv ys.length cells/\row r true w cells ys T:=by
  rcases h with ⟨⟨a,rfl⟩,rfl⟩|⟨b,cap',cur,cs,tl,rfl,h1,h2,h3,h4,h5,h6,h7⟩;exact ⟨[],.inl ⟨rfl,_,_,rfl⟩,rfl⟩;refine ⟨cs,.inr ⟨_,_,rfl,?_⟩,yx h7 (λk hk=>hk.1)⟩;intro j u J;have F:(⟨b,0,none⟩:Bz).add j=⟨b,j,none⟩:=sP;rw [F,cell_of_row w b j cur e (0,0) h3,<- Array.getElem?_toList,h4,Bc (Bd.1 J).1];exact J
 exact jFv ht hinf hzs hn hby hown hsrc hrow rfl D hd hlen
def kRj (D:o.guard=none) (s x:Operand) (t:Au)
    (ho:o.op=.call { callee:=.builtin .append,args:=#[s,x],argTypes:=#[t,t] })
    (ht:P.underlying t=some (.slice e)) (hinf:(P.info? e).map (λi=>(i.zero,i.size,i.bytes))=some (some z,r.n,bytes)) (hzs:z.cells.size=r.n) (hn:0 < r.n) (hby:bytes<=1000)
    (hown:(slice e r).own w [.slice a len cap] xs S) (hy:ko e r w sv ys T) (hs:ac.eval s=.slice a len cap) (hx:ac.eval x=sv) (hd:∀ k,S k->T k->False) (hlen:xs.length + ys.length<=16777216)
    (h:∀ v' w',(slice e r).own w' [v'] (xs++ys) (λk=>S k\/T k\/(w.heap.size<=k/\k < w'.heap.size))->Touch S w w'->Bp P ops Q rest (ac.put o.dst v') w'):Bp P ops Q (o :: rest) ac w:=by
 refine Bj D λ_ E=>?_;obtain ⟨v',w',hr,h1,h2⟩:=run_pushGO (ty:=o.type) ht hinf hzs hn hby hown hy hd hlen;exact kV s x t ho hs hx hr (E _ _ (h v' w' h1 h2))
end
end kD
def Touch.kEm {W W':Ab} (d:Touch S W W') {j:Nat} (h:Qc W b j v) (hb:¬ S b):Qc W' b j v:=by
 have e1:W'.heap[b]?=W.heap[b]?:=d.block _ (World.block_lt_of_cell? _ _ h) hb;rw [<- h];unfold World.cell?;simp only [e1]
def kG {a:Al Ad} (h:w.heap[b]?=some (.cells a t (0,0))) (j:Nat):(w.setCell ⟨b,j,none⟩ v).heap[b]?=some (.cells (a.setIfInBounds j v) t (0,0)):=heap_setCell_same w b j a t v h
def yG (w:Ab) (b j:Nat) (v:Ad):Touch (λk=>k=b) w (w.setCell ⟨b,j,none⟩ v):=kD.kAc [v] w b j
def sT1 {j:Nat} :Touch (λk=>k=b) w (w.setCell ⟨b,j,none⟩ v):=yG w b j v
def sT2:Touch (λk=>k=b) w ((w.setCell ⟨b,D,none⟩ v0).setCell ⟨b,E,none⟩ v1):=sT1.trans sT1
def sT3:Touch (λk=>k=b) w (((w.setCell ⟨b,D,none⟩ v0).setCell ⟨b,E,none⟩ v1).setCell ⟨b,F,none⟩ v2):=sT2.trans sT1
def sT4:Touch (λk=>k=b) w ((((w.setCell ⟨b,D,none⟩ v0).setCell ⟨b,E,none⟩ v1).setCell ⟨b,F,none⟩ v2).setCell ⟨b,H,none⟩ v3):=sT3.trans sT1
def sT5 {I:Nat} :Touch (λk=>k=b) w (((((w.setCell ⟨b,D,none⟩ v0).setCell ⟨b,E,none⟩ v1).setCell ⟨b,F,none⟩ v2).setCell ⟨b,H,none⟩ v3).setCell ⟨b,I,none⟩ v4):=sT4.trans sT1
def sT6 {I J:Nat} :Touch (λk=>k=b) w ((((((w.setCell ⟨b,D,none⟩ v0).setCell ⟨b,E,none⟩ v1).setCell ⟨b,F,none⟩ v2).setCell ⟨b,H,none⟩ v3).setCell ⟨b,I,none⟩ v4).setCell ⟨b,J,none⟩ v5):=sT5.trans sT1
def sT7 {I J L:Nat} {v6:Ad}:Touch (λk=>k=b) w (((((((w.setCell ⟨b,D,none⟩ v0).setCell ⟨b,E,none⟩ v1).setCell ⟨b,F,none⟩ v2).setCell ⟨b,H,none⟩ v3).setCell ⟨b,I,none⟩ v4).setCell ⟨b,J,none⟩ v5).setCell ⟨b,L,none⟩ v6):=sT6.trans sT1
def sT8 {I J L N:Nat} {v6 G:Ad}:Touch (λk=>k=b) w ((((((((w.setCell ⟨b,D,none⟩ v0).setCell ⟨b,E,none⟩ v1).setCell ⟨b,F,none⟩ v2).setCell ⟨b,H,none⟩ v3).setCell ⟨b,I,none⟩ v4).setCell ⟨b,J,none⟩ v5).setCell ⟨b,L,none⟩ v6).setCell ⟨b,N,none⟩ G):=sT7.trans sT1
def sT9 {I J L N O:Nat} {v6 G v8:Ad}:Touch (λk=>k=b) w (((((((((w.setCell ⟨b,D,none⟩ v0).setCell ⟨b,E,none⟩ v1).setCell ⟨b,F,none⟩ v2).setCell ⟨b,H,none⟩ v3).setCell ⟨b,I,none⟩ v4).setCell ⟨b,J,none⟩ v5).setCell ⟨b,L,none⟩ v6).setCell ⟨b,N,none⟩ G).setCell ⟨b,O,none⟩ v8):=sT8.trans sT1
namespace kD
section
variable {α:Type} {r:kD α} {e:Au} {w w' u:Ab} {v:Ad} {b cap len n:Nat} {kept rest xs:Ae α} {j i:Nat} {x:α} {S T:Nat->Prop}
def kAp (h:ko e r w v xs S) (hi:i < xs.length):∃ b cap,v=.slice (Qa b) xs.length cap/\S b/\b < w.heap.size/\xs.length<=cap/\cap<=9223372036854775807:=by
 obtain ⟨hb,h⟩:=h;rcases h with ⟨⟨a,rfl⟩,rfl⟩|⟨b,cap,cur,cs,tl,rfl,h1,h2,h3,h4,h5,h6,h7⟩;simp at hi;exact ⟨b,cap,rfl,h6,(Aj.1 h3).1,h1,by unfold maxLen at h2;omega⟩
def jGh (h:ko e r w (.slice (Qa b) len cap) xs S) (hi:0 < xs.length):∃ cur,w.heap[b]?=some (.cells cur e (0,0))/\cur.size=cap * r.n:=by
 obtain ⟨hb,h⟩:=h;rcases h with ⟨⟨a,h0⟩,rfl⟩|⟨b,cap,cur,cs,tl,h0,h1,h2,h3,h4,h5,h6,h7⟩;simp at hi;simp only [Value.slice.injEq,Az,Ca,and_true] at h0;obtain ⟨rfl,rfl,rfl⟩:=h0;exact ⟨cur,h3,h5⟩
def own_own0 (h:(slice e r).own w [.slice (Qa b) len cap] xs S) (hne:0 < xs.length) {cur:Al Ad} (hc:w.heap[b]?=some (.cells cur e (0,0))) (hs:cur.size=cap * r.n) :
    ko e r w (.slice (Qa b) len cap) xs S:=by
 obtain ⟨h1,h2,h3,h4,h5,hd,cs,tl,h6,h7,h8,h9,E⟩:=kUj h hne;obtain rfl:hd=[]:=Ar h7;rw [hc] at h6;simp only [Az,Obj.cells.injEq,and_true] at h6;subst h6;exact ⟨h5,.inr ⟨b,cap,_,cs,tl,by rw [h1],by omega,h3,hc,by simp,hs,h9,E⟩⟩
def ko.kMm (h:ko e r w v xs S):(slice e r).raw w [v] xs:=by
 obtain ⟨hb,h⟩:=h;have k:(slice e r).is true w [v] xs S:=by
  exact BZ
 exact (slice e r).wide ((slice e r).weak k) (λ_ _=>trivial)
def kFb {j:Nat} {y:α} {u:Ad} (h:ko e r w (.slice (Qa b) len cap) xs S) (hl:xs.length<=Big) (hi:i < xs.length) (J:j < r.n)
    (hy:∀ {w:Ab} {cs:Ae Ad} {S:Nat->Prop},r.is true w cs xs[i] S->r.is true w (cs.set j u) y S) (hby:r.bdd Big y) (hp:p=i * r.n + j) :
    ko e r (w.setCell ⟨b,p,none⟩ u) (.slice (Qa b) len cap) (xs.set i y) S/\Touch (λk=>k=b) w (w.setCell ⟨b,p,none⟩ u):=by
 obtain ⟨cur,hc,hs⟩:=jGh h bJ5;obtain ⟨h1,h2⟩:=kYg (h.own hl) hi J hy hby
 rw [Nat.zero_add,<- hp] at h1 h2;have h3:=heap_setCell_same w b p cur e u hc;exact ⟨own_own0 h1 (by simpa using (by omega:0 < xs.length)) h3 (by simpa using hs),h2⟩
def kIi (h:ko e r w (.slice (Qa b) len cap) xs S) (hi:0 < xs.length) (q:Nat):w.frozen? ⟨b,q,none⟩=false:=by
 obtain ⟨cur,hc,_⟩:=jGh h hi;exact frozen_of_row w b q _ _ hc
def blank (n:Nat):kD Unit where
  n:=n
  is _ _ cs _ _:=cs.length=n/\∀ c∈cs,c.oneCell'=true
  bdd _ _:=True
  zero:=()
  zc:=List.replicate n (Qn 0)
  mark _ _ k:=((),k)
  held _ _ k:=some k
  cnt:=0
  len h:=h.1
  one h:=h.2
  mono h _:=h
  wide h _:=h
  weak h:=h
  live h:=h
  bdd_mono _ _:=trivial
  bdd_zero:=trivial
  is_zero:=by intro o w S;exact ⟨by simp,λc hc=>by rw [List.eq_of_mem_replicate hc];rfl⟩
  mark_held:=by intros;rfl
  held_ge:=by intro e x k k' h;simp at h;omega
  mark_ge:=by intros;simp
  mark_le:=by intros;simp
  mark_bdd _ _:=trivial
def jFz {n:Nat}:∀ (m:Nat) (cs:Ae Ad),cs.length=m * n->(∀ c∈cs,c.oneCell'=true)->row (blank n) true w cs (List.replicate m ()) (λ_=>False)
  | 0,cs,h,_=>by simpa [row] using Ar bH8
  | m + 1,cs,h,h1=>by
    have hl:n<=cs.length:=by rw [h,Nat.add_mul];omega
    refine ⟨cs.take n,cs.drop n,λ_=>False,λ_=>False,by simp,⟨by simp;omega,λc hc=>h1 c (List.mem_of_mem_take hc)⟩,jFz m _ (by rw [Bh,h,Nat.add_mul];omega) (λc hc=>h1 c (Bl hc)),λ_ h=>h,λ_ h=>h,λ_ _ h _=>h⟩
def run_first {i:TypeInfo} (ht:P.underlying t=some (.slice e)) (hi:P.info? e=some i) (hz:i.zero=some z) (hsize:i.size=r.n) (hzs:z.cells.size=r.n) (hn:0 < r.n) (hby:i.bytes<=1000)
    (hsrc:Src u sv m cells) (hl:cells.length=m * r.n) (h1:∀ c∈cells,c.oneCell'=true) (hlen:m<=1000000000) :
    ∃ v' D,(Ah #[t,t] ty #[.slice a0 0 0,sv]).run P u=.ok v' D/\Qb u D /\
      ∀ {ys:Ae α} {T:Nat->Prop},row r true u cells ys T->(∀ y∈ys,r.bdd Big y)->ko e r D v' ys (λk=>T k\/(u.heap.size<=k/\k < D.heap.size))/\(ys≠[]->∀ k,some k=v'.ownBlock->u.heap.size<=k):=by
 obtain ⟨v',D,hr,X,ho⟩:=kIf (P:=P) (ty:=ty) (r:=r) ht hi hz hsize hzs hn hby (ko.void (a:=a0) (S:=λ_=>False)) hsrc hl h1 bF0;refine ⟨v',D,hr,X.below nL (λk hk=>hk.2.elim),?_⟩;intro ys T hrow hb;have h2:=ho hrow (λ_ h=>h.elim) hb;rw [List.nil_append] at h2;refine ⟨h2.wide (λk hk=>hk.elim (λq=>q.elim) id),?_⟩;intro hne k hk;obtain ⟨v2,u2,an,_,Y⟩:=kIf (P:=P) (ty:=ty) (r:=blank r.n) ht hi hz hsize hzs hn hby (ko.void (a:=a0) (S:=λ_=>False)) hsrc hl h1 bF0;rw [hr] at an;simp only [Result.ok.injEq] at an;obtain ⟨rfl,rfl⟩:=an;have h3:=Y (jFz m cells hl h1) (λ_ h=>h.elim) (λ_ _=>trivial);have hm:ys.length=m:=by
  have:=zu hrow;rw [hl] at this;exact (Nat.eq_of_mul_eq_mul_right hn this).symm
 have Z:0 < ys.length:=List.length_pos_iff.2 hne;obtain ⟨b1,F,e1,E,_⟩:=kAp (i:=0) h3 bJ0;rw [e1] at hk;simp only [Value.ownBlock,Option.map_some,Az] at hk;subst hk;rcases E with q | q | q;exact q.elim;exact q.elim;exact q.1
def kHq (ht:P.underlying t=some (.slice e)) (hinf:(P.info? e).map (λi=>(i.zero,i.size,i.bytes))=some (some z,r.n,bytes))
    (h:gap e r w b cap n kept j rest S) (hn:0 < r.n) {q k:Nat} (hq:rest≠[]->q=(kept.length + j) * r.n) (hk:k=kept.length) (hm:m=rest.length) :
    ∃ w',(Ah #[t,t] ty #[.slice (Qa b) k cap,.slice (some ⟨b,q,none⟩) m c]).run P w=.ok (.slice (Qa b) (k + m) cap) w' /\
      gap e r w' b cap n (kept++rest) j [] S/\Touch (λk=>k=b) w w':=by
 subst hk hm;obtain ⟨i,hi,_,hsize,_⟩:=info_parts hinf;exact run_shift ht hi hsize h (ad:=⟨b,q,none⟩) (λhne=>by rw [hq hne]) hn
def wpList_append_run {F:Ae Ak} {a:Act} (D:o.guard=none) (s x:Operand) (t:Au)
    (ho:o.op=.call { callee:=.builtin .append,args:=#[s,x],argTypes:=#[t,t] }) {v v':Ad} (hs:a.eval s=v) (hx:a.eval x=sv)
    (hr:(Ah #[t,t] o.type #[v,sv]).run P w=.ok v' w') (h:Bp P ops Q F (a.put o.dst v') w'):Bp P ops Q (o :: F) a w :=
  Bj D λ_ E=>kV s x t ho hs hx hr (E _ _ h)
def kGk (ht:P.underlying t=some (.slice e)) (hinf:(P.info? e).map (λi=>(i.zero,i.size,i.bytes))=some (some z,r.n,bytes)) (hzs:z.cells.size=r.n) (hn:0 < r.n) (hby:bytes<=1000)
    (h:gap e r w b cap n kept j rest S) (hu:Qb w u) (hlen:n<=16777216) (c1 c2:Nat) (ae af:Au) {q kl rl:Nat} (hq:rest≠[]->q=(kept.length + j) * r.n) (Z:kl=kept.length) (du:rl=rest.length) :
    ∃ v1 u1,(Ah #[t,t] ae #[.slice a0 0 0,.slice (Qa b) kl c1]).run P u=.ok v1 u1/\Qb u u1 /\
      ∃ v2 u2,(Ah #[t,t] af #[v1,.slice (some ⟨b,q,none⟩) rl c2]).run P u1=.ok v2 u2/\ko e r u2 v2 (kept++rest) (λk=>S k\/(u.heap.size<=k/\k < u2.heap.size))/\Qb u u2:=by
 subst Z du;obtain ⟨i,hi,hz,hsize,E⟩:=info_parts hinf;obtain ⟨a1,a2,a3,a4,a5,U,c,D,d,tl,A,B,h1,h2,h3,h4,h5,h6,h7,h8⟩:=h;have ag:=zu h4;have ba:=zu h5;have I:b < w.heap.size:=(Aj.1 h1).1;have G:u.heap[b]?=_:=(hu.block b I).trans h1;have bn:=hu.size;have live:∀ {X:Ab},Qb w X->∀ {cells:Ae Ad} {ys:Ae α} {C:Nat->Prop},row r true w cells ys C->row r true X cells ys (λk=>C k/\k < w.heap.size) :=
   by intro X hX cells ys C hr;exact yu (kAh hr) (λk hk=>hX.block k hk.2)
 have cellAt:∀ {X:Ab},X.heap[b]?=some (.cells (c++(D++(d++tl))).toArray e (0,0))->∀ (o:Nat) (pre mid H:Ae Ad),c++(D++(d++tl))=pre++(mid++H)->pre.length=o->∀ q uu,mid[q]?=some uu->X.cell? ((⟨b,o,none⟩:Bz).add q)=some uu:=by
  intro X hX o pre mid H he ho q uu hq;have F:(⟨b,o,none⟩:Bz).add q=⟨b,o + q,none⟩:=sP;have cl:=(Bd.1 hq).1;rw [F,cell_of_row X b _ _ e (0,0) hX];simp only [List.getElem?_toArray];rw [he,List.getElem?_append_right bJ5,Bc bJ5];rw [<- hq];congr 1;omega
 have ab:Src u (.slice (Qa b) kept.length c1) kept.length c:=.inr ⟨_,_,rfl,cellAt G 0 [] c (D++(d++tl)) bJ6 rfl⟩;obtain ⟨v1,u1,b1,O,aa⟩:=run_first (P:=P) (ty:=ae) (a0:=a0) ht hi hz hsize hzs hn bJ5 ab ag (row_one h4) bJ5;have J:Qb w u1:=hu.trans (O.mono bn);have ai:=O.size;refine ⟨v1,u1,b1,O,?_⟩;have V:u1.heap[b]?=_:=(J.block b I).trans h1;have W:Src u1 (.slice (some ⟨b,q,none⟩) rest.length c2) rest.length d:=by
  by_cases cw:rest=[]
  · subst cw;exact .inl ⟨rfl,_,_,rfl⟩
  rw [hq cw];exact .inr ⟨_,_,rfl,cellAt V _ (c++D) d tl bJ6 (by simp [ag,h3,Nat.add_mul])⟩
 obtain ⟨L,R,N,bk⟩:∃ L:Nat->Prop,(∀ k,L k->A k/\k < w.heap.size)/\ko e r u1 v1 kept (λk=>L k\/(u.heap.size<=k/\k < u1.heap.size))/\∀ k,some k=v1.ownBlock->(L k\/(u.heap.size<=k/\k < u1.heap.size))->u.heap.size<=k:=by
  by_cases dt:kept=[]
  · subst dt;obtain rfl:c=[]:=h4;obtain ⟨o1,_⟩:=aa (ys:=[]) (T:=λ_=>False) rfl bJ6;exact ⟨λ_=>False,λ_ h=>h.elim,o1,λk _ h=>h.elim (λq=>q.elim) (λq=>q.1)⟩
  obtain ⟨o1,o2⟩:=aa (live hu h4) a1;exact ⟨_,λk hk=>hk,o1,λk hk _=>o2 dt k hk⟩
 obtain ⟨v2,u2,an,ah,Y⟩:=kIf (P:=P) (ty:=af) ht hi hz hsize hzs hn bJ5 N W ba (row_one h5) bJ5;have ac:=Y (live J h5) (by
   rintro k (q1 | q1) q2;exact h8 k (R k q1).1 q2.1
   · have:=q2.2;omega) a2
 refine ⟨v2,u2,an,ac.wide ?_,O.trans (ah.below ai (λk hk=>bk k hk.1 hk.2))⟩;have ec:=ah.size;rintro k ((q | q) | q | q);exact .inl (h6 k (R k q).1).1;exact .inr ⟨q.1,by omega⟩;exact .inl (h7 k q.1).1;exact .inr ⟨by omega,q.2⟩
end
end kD
end Go.Proofs.YthocbplmdjkifabGreat
namespace Go.Proofs.YthocbplmdjkifabGreat
open Go
variable {L:Al Bool->Act->Ab->Prop} {D:Ae Nat} {listed:Al Bool} {md:Ap} {a:Act} {l:Ae Ak} {v:Ad} {K:Act->Prop} {n:Nat} {U:Ak} {w:Ab}
section
variable {P:Aq} {ops:Al Ak} {S:Ab->Prop} {Q:Exit->Act->Ab->Prop}
def kKr (md:Ap) (ops:Al Ak) (n:Nat) (D:Ae Nat):Bool :=
  (Br n).all λi=>D.contains i || (Br (n + 1)).any λj=>decide (i < j) && (!D.contains j && Bv md ops j i)
def kXz (hs:kKr md ops n D=true) (hc:Bf md ops n=true) (hn:n < ops.size) (inv:Be md ops n listed) :
    ∀ (d i:Nat),n - i=d->i < n->D.contains i=false->listed.getD i true=false->∀ t,n<=t->t ∉ Ag md ops listed:=by
 intro d;induction d using Nat.strongRecOn with
 | _ d ih =>
   intro i hd hi Y R t ht hr;obtain ⟨_,O,E,G⟩:=Bi.1 hr;have H:t < ops.size:=(Aj.1 E).1;by_cases N:t=n;exact VM
   · have h1:=Aw.1 hc t (List.mem_range.2 H);simp only [Bool.or_eq_true,Ac] at h1;rcases h1 with h1 | h1;omega
     · obtain ⟨W,L,e,he,hb,ai⟩:=Region.waitsFor_spec h1;have:W=O:=Option.some.inj (L.symm.trans E);subst this;have h2:=G e he hb;rw [ai,getD_both (inv.tail (t - 1) bJ5 bJ5)] at h2;cases h2
def jAi {i:Nat} (hi:ops[i]?=some U) (E:∀ (j:Nat) (o:Ak) cs b,ops[j]?=some o->o.op≠.select cs b)
    (hQ:∀ c a w,Q (.panic c) (a.put U.dst v) w->Q (.panic c) a w) (hs:kKr md ops n D=true) (hc:Bf md ops n=true) (hn:n < ops.size) (O:i < n) (Y:D.contains i=false)
    (W:∀ listed a w,L listed a w->∀ j∈Ag md ops listed,n<=j) :
    ∀ (f:Nat) (listed:Al Bool) (a:Act) (w:Ab),Be md ops n listed ->
      (∀ j oj,ops[j]?=some oj->j≠i->listed.getD j true=false->(∀ e∈oj.after,Region.binds md e=true->e.on≠i)->U.apart ops oj=true) ->
      i∈Ag md ops listed->YieldsIf P ops S U v a->S w ->
      kCs P md ops Q S n L f (listed.setIfInBounds i true) (a.put U.dst v) w->kCs P md ops Q S n L (f + 1) listed a w:=by
 intro f;induction f with
 | zero =>
   intro listed a w inv _ hr hy hS H;have R:=(Bi.1 hr).1;refine ⟨λh=>bB8,λj J=>?_⟩;have X:j < n:=by
     rcases Nat.lt_or_ge j n with h | h;exact h
     · exact absurd J (kXz hs hc hn inv _ i rfl O Y R j h)
   exact VH
 | succ f ih =>
   intro listed a w inv I hr hy hS H;have R:=(Bi.1 hr).1;refine ⟨λh=>bB8,λj J=>?_⟩;have X:j < n:=by
     rcases Nat.lt_or_ge j n with h | h;exact h
     · exact absurd J (kXz hs hc hn inv _ i rfl O Y R j h)
   exact VI
def kLg {l:Ae Ak} {n g:Nat} {D:Ae Nat} (E:Ay l.toArray=true) (hQ:∀ c a d v w,Q (.panic c) (Bw a d v) w->Q (.panic c) a w)
    (hs:kKr .any l.toArray n D=true) (hc:Bf .any l.toArray n=true) (hn:n < l.toArray.size) (hg:n + g=l.length):∀ (q:Ae (Nat × Bool)) (k:Nat) (listed:Al Bool) (a:Act) (w:Ab),
    q.all (λx=>decide (x.1 < n) && !D.contains x.1)=true->Be .any l.toArray n listed->kFu .any l.toArray n g q listed=true->S w->kEk P l.toArray S Q k (jE l q++l.drop n) (q.map (·.2)) a w ->
    kCs P .any l.toArray Q S n (λlisted a w=>Region.seqB .any l.toArray g n listed=true/\∃ r,(∀ j,r[j]?=l.toArray[n + j]?)/\r.length=g/\Bp P l.toArray Q r a w) q.length listed a w
  | [],k,listed,a,w,_,inv,hB,hS,h=>by
    exact VK
  | (i,true) :: q,k,listed,a,w,hi,inv,hB,hS,h=>by
    simp only [Ba,Aa,Ac,Av] at hi;have hil:i < l.toArray.size:=Nat.lt_trans hi.1.1 hn;have h0:l.toArray[i]?=some l.toArray[i]:=Ai hil;have hp:jE l ((i,true) :: q)=l.toArray[i] :: jE l q:=by
      exact VJ
    rw [hp] at h;obtain ⟨v,hy,h⟩:=h;simp only [kFu,Aa] at hB;obtain ⟨hr,Y⟩:=WC
    exact jAi h0 (Bq E) (λc a w=>hQ c a _ _ w) hs hc hn hi.1.1 hi.1.2 (λF a' w' V=>seqB_ready V.1) q.length listed a w inv (Bu h0 hB.1.2) hr hy hS
      (kLg E hQ hs hc hn hg q (k + 1) _ _ _ Y (inv.set hr hi.1.1) hB.2 hS h)
  | (i,false) :: q,k,listed,a,w,hi,inv,hB,hS,h=>by
    simp only [Ba,Aa,Ac,Av] at hi;obtain ⟨Y,hil⟩:=WF;have h0:l.toArray[i]?=some l.toArray[i]:=Ai hil;have hp:jE l ((i,false) :: q)=l.toArray[i] :: jE l q:=by
      exact VJ
    rw [hp] at h;simp only [kFu,Aa,beq_iff_eq] at hB;have hr:i∈Ag .any l.toArray listed:=bH0;refine ⟨by rw [hB.1];simp,λj J=>?_⟩;rw [hB.1] at J;obtain rfl:j=i:=bH9;refine ⟨hi.1.1,?_⟩;refine wpOp_mono (λa' w' G=>⟨G.1,kLg E hQ hs hc hn hg q (k + 1) _ _ _ Y (inv.set hr hi.1.1) hB.2 G.1 G.2⟩) (K:=λa' w'=>S w'/\kEk P l.toArray S Q (k + 1) (jE l q++l.drop n) (q.map (·.2)) a' w') ?_;exact VL
def preB (md:Ap) (ops:Al Ak):Ae Nat->Al Bool->Bool
  | [],_=>true
  | k :: p,listed=>(Ag md ops listed).contains k && Region.free md ops listed k && preB md ops p (listed.setIfInBounds k true)
def kMn:Ae Nat->Al Bool->Al Bool
  | [],b=>b
  | k :: p,b=>kMn p (b.setIfInBounds k true)
def kBo (l:Ae Ak):Ae Nat->Ae Ak
  | []=>[]
  | k :: q=>match l[k]? with
    | some o=>o :: kBo l q
    | none=>[]
def preR (P:Aq) (ops:Al Ak) (K:Act->Prop):Ae Ak->Act->Prop
  | [],a=>K a
  | o :: l,a=>∃ v,Yields P ops o v a/\preR P ops K l (a.put o.dst v)
@[irreducible] def pre (P:Aq) (ops:Al Ak) (K:Act->Prop) (l:Ae Ak) (a:Act):Prop:=preR P ops K l a
def kQe {l:Ae Ak} {n f:Nat} (E:Ay l.toArray=true) (hQ:∀ c a d v w,Q (.panic c) (Bw a d v) w->Q (.panic c) a w) {w:Ab} (hn:n < l.toArray.size):∀ (D:Ae Nat) (listed:Al Bool) (a:Act),
    D.all (λx=>decide (x < n))=true->Be .any l.toArray n listed->preB .any l.toArray D listed=true->preR P l.toArray (λa'=>Be .any l.toArray n (kMn D listed)->wpAny P .any l.toArray Q f (kMn D listed) a' w) (kBo l D) a->wpAny P .any l.toArray Q (D.length + f) listed a w
  | [],listed,a,_,inv,_,h=>by
    simp only [List.length_nil,Nat.zero_add];exact h inv
  | i :: D,listed,a,hi,inv,hB,h=>by
    simp only [Ba,Aa,Ac] at hi;have hil:i < l.toArray.size:=Nat.lt_trans hi.1 hn;have h0:l.toArray[i]?=some l.toArray[i]:=Ai hil;have hp:kBo l (i :: D)=l.toArray[i] :: kBo l D:=by
      refine EH λthis=>?_;simp only [kBo,this]
    rw [hp] at h;obtain ⟨v,hy,h⟩:=h;simp only [preB,Aa] at hB;have hr:i∈Ag .any l.toArray listed:=bD8;rw [show (i :: D).length + f=(D.length + f) + 1 by simp;omega];exact wpAny_take h0 E hB.1.2 hB.1.1 (λc a w=>hQ c a _ _ w) hy (kQe E hQ hn D _ _ (by simpa using hi.2) (inv.set hr hi.1) hB.2 h)
def skipOk (md:Ap) (ops:Al Ak) (D:Ae Nat) (q:Ae (Nat × Bool)):Bool :=
  Ay ops && (decide (D.length + q.length < ops.size) && (D.all (λx=>decide (x < D.length + q.length)) && (q.all (λx=>decide (x.1 < D.length + q.length) && !D.contains x.1) && (kKr md ops (D.length + q.length) D && (Bf md ops (D.length + q.length) &&
    (preB md ops D (Am ops.size false) && kFu md ops (D.length + q.length) (ops.size - (D.length + q.length)) q (kMn D (Am ops.size false))))))))
def kQm {K D:Act->Prop} (h:∀ a,K a->D a):∀ (l:Ae Ak) (a:Act),preR P ops K l a->preR P ops D l a
  | [],a,q=>h a q
  | o :: l,a,⟨v,hy,q⟩=>⟨v,hy,kQm h l _ q⟩
def kIu {id:Nat} (S:Ab->Prop) (D:Ae Nat) (q:Ae (Nat × Bool)) (hm:P.follows .mixedOrders=true) (hB:skipOk .any l.toArray D q=true)
    (hQ:∀ c a d v w,Q (.panic c) (Bw a d v) w->Q (.panic c) a w) (hS:S { w with drawn:=w.drawn + 1 })
    (h:∀ w',S w'->pre P l.toArray (λa'=>soft P l.toArray S Q 0 (jE l q++l.drop (D.length + q.length)) (q.map (·.2)) a' w') (kBo l D) a):(Code.region id l.toArray true).wp P Q a w:=by
 simp only [skipOk,Aa,Ac] at hB;have h:=h _ hS;unfold pre at h;unfold soft at h;have bn:l.toArray.size=l.length:=bJ6;have F:Be .any l.toArray (D.length + q.length) (Am l.toArray.size false) :=
   ⟨by simp,λj oj _ hl=>rF,λt _ ht=>getD_in bG8 (getD_replicate_false _ _)⟩
 refine wp_region_any hm ?_;have hn:=hB.2.1;have E:q.all (λx=>decide (x.1 < D.length + q.length) && !D.contains x.1)=true:=by simpa only [Aa,Ac,Av] using hB.2.2.2.1
 rw [show l.toArray.size=D.length + (q.length + (l.toArray.size - (D.length + q.length))) by omega];rw [show D.length + (q.length + (l.toArray.size - (D.length + q.length)))=l.toArray.size by omega] ;have key:=kQe (f:=q.length + (l.toArray.size - (D.length + q.length))) hB.1 hQ hn D (Am l.toArray.size false) a (by simpa using hB.2.2.1) F hB.2.2.2.2.2.2.1 (kQm (λa' hk=>by
   intro J;have H:=kLg (g:=l.toArray.size - (D.length + q.length)) hB.1 hQ hB.2.2.2.2.1 hB.2.2.2.2.2.1 hn bJ5 q 0 _ a' _ E J hB.2.2.2.2.2.2.2 hS hk;exact kCu (Q:=Q) (g:=l.toArray.size - (D.length + q.length)) (λlisted a' w' V=>by
     obtain ⟨hq,I,ho,G,hw⟩:=V;have:=wpAny_of_seq (md:=.any) (Q':=Q) I (D.length + q.length) listed a' w' ho (by rw [G];exact hq) hw;rwa [G] at this) _ _ _ _ H) _ _ h)
 rw [show D.length + (q.length + (l.toArray.size - (D.length + q.length)))=l.toArray.size by omega] at key;exact key
def pre_nil (h:K a):pre P ops K [] a:=by unfold pre;exact h
def pre_read {o:Ak} (hg:Bg o (yielded ops a.tmps)=true) (hv:∀ w,(execOp a.eval o).run P w=.ok (.value v) w) (h:pre P ops K l (a.put o.dst v)):pre P ops K (o :: l) a:=by
 unfold pre at h ⊢;exact ⟨v,.inl ⟨hg,hv⟩,h⟩
end
section
variable {P:Aq} {ops:Al Ak} {S S2:Ab->Prop} {Q:Exit->Act->Ab->Prop}
def treeB (md:Ap) (ops:Al Ak) (n:Nat):Bool :=
  (Br ops.size).all λt=>decide (t<=n) || (Br t).any λj=>decide (n<=j) && Bv md ops t j
def kXy (hs:kKr md ops n D=true) (hc:treeB md ops n=true) (hn:n < ops.size) (inv:Be md ops n listed) :
    ∀ (d i:Nat),n - i=d->i < n->D.contains i=false->listed.getD i true=false->∀ t,n<=t->t ∉ Ag md ops listed:=by
 intro d;induction d using Nat.strongRecOn with
 | _ d ih =>
   intro i hd hi Y R t ht hr;obtain ⟨_,O,E,G⟩:=Bi.1 hr;have H:t < ops.size:=(Aj.1 E).1;by_cases N:t=n;exact VM
   · have h1:=Aw.1 hc t (List.mem_range.2 H);simp only [Bool.or_eq_true,Ac] at h1;rcases h1 with h1 | h1;omega
     · exact VN
def jAh {i:Nat} (hi:ops[i]?=some U) (E:∀ (j:Nat) (o:Ak) cs b,ops[j]?=some o->o.op≠.select cs b)
    (hQ:∀ c a w,Q (.panic c) (a.put U.dst v) w->Q (.panic c) a w) (hs:kKr md ops n D=true) (hc:treeB md ops n=true) (hn:n < ops.size) (O:i < n) (Y:D.contains i=false)
    (W:∀ listed a w,L listed a w->∀ j∈Ag md ops listed,n<=j) :
    ∀ (f:Nat) (listed:Al Bool) (a:Act) (w:Ab),Be md ops n listed ->
      (∀ j oj,ops[j]?=some oj->j≠i->listed.getD j true=false->(∀ e∈oj.after,Region.binds md e=true->e.on≠i)->U.apart ops oj=true) ->
      i∈Ag md ops listed->YieldsIf P ops S U v a->S w ->
      kCs P md ops Q S n L f (listed.setIfInBounds i true) (a.put U.dst v) w->kCs P md ops Q S n L (f + 1) listed a w:=by
 intro f;induction f with
 | zero =>
   intro listed a w inv _ hr hy hS H;have R:=(Bi.1 hr).1;refine ⟨λh=>bB8,λj J=>?_⟩;have X:j < n:=by
     rcases Nat.lt_or_ge j n with h | h;exact h
     · exact absurd J (kXy hs hc hn inv _ i rfl O Y R j h)
   exact VH
 | succ f ih =>
   intro listed a w inv I hr hy hS H;have R:=(Bi.1 hr).1;refine ⟨λh=>bB8,λj J=>?_⟩;have X:j < n:=by
     rcases Nat.lt_or_ge j n with h | h;exact h
     · exact absurd J (kXy hs hc hn inv _ i rfl O Y R j h)
   exact VI
def kFv (md:Ap) (ops:Al Ak) (n:Nat) (q2:Ae (Nat × Bool)):Ae (Nat × Bool)->Al Bool->Bool
  | [],listed=>(Ag md ops listed).all (λj=>decide (n<=j)) && kGx md ops q2 listed
  | (k,true) :: p,listed=>(Ag md ops listed).contains k && Region.free md ops listed k && kFv md ops n q2 p (listed.setIfInBounds k true)
  | (k,false) :: p,listed=>(Ag md ops listed==[k]) && kFv md ops n q2 p (listed.setIfInBounds k true)
def soft2Ok (md:Ap) (ops:Al Ak) (D:Ae Nat) (q q2:Ae (Nat × Bool)):Bool :=
  Ay ops && (decide (D.length + q.length < ops.size) && (D.all (λx=>decide (x < D.length + q.length)) && (q.all (λx=>decide (x.1 < D.length + q.length) && !D.contains x.1) && (kKr md ops (D.length + q.length) D && (treeB md ops (D.length + q.length) &&
    (preB md ops D (Am ops.size false) && (q2.all (λx=>decide (x.1 < ops.size)) && (decide (D.length + q.length + q2.length=ops.size) && kFv md ops (D.length + q.length) q2 q (kMn D (Am ops.size false))))))))))
def kPi (P:Aq) (ops:Al Ak) (S S2:Ab->Prop) (Q:Exit->Act->Ab->Prop) (l0:Ae Ak) (p2:Ae Bool):Nat->Ae Ak->Ae Bool->Act->Ab->Prop
  | k,o :: l,true :: p,a,w=>∃ v,YieldsIf P ops S o v a/\kPi P ops S S2 Q l0 p2 (k + 1) l p (a.put o.dst v) w
  | k,o :: l,false :: p,a,w=>if Bg o (yielded ops a.tmps) then o.wp P a w (λa' w'=>S w'/\kPi P ops S S2 Q l0 p2 (k + 1) l p a' w') Q\/(o.asks P a w/\LetsOut Q) else S w/\kPi P ops S S2 Q l0 p2 (k + 1) l p (a.put o.dst undef) w
  | k,_,_,a,w=>S2 w/\kEk P ops S2 Q k l0 p2 a w
@[irreducible] def kMk (P:Aq) (ops:Al Ak) (S S2:Ab->Prop) (Q:Exit->Act->Ab->Prop) (l0:Ae Ak) (p2:Ae Bool) (k:Nat) (l:Ae Ak) (p:Ae Bool) (a:Act) (w:Ab):Prop:=kPi P ops S S2 Q l0 p2 k l p a w
def kLi {l:Ae Ak} {n:Nat} {D:Ae Nat} {q2:Ae (Nat × Bool)} (E:Ay l.toArray=true) (hQ:∀ c a d v w,Q (.panic c) (Bw a d v) w->Q (.panic c) a w)
    (hs:kKr .any l.toArray n D=true) (hc:treeB .any l.toArray n=true) (hn:n < l.toArray.size):∀ (q:Ae (Nat × Bool)) (k:Nat) (listed:Al Bool) (a:Act) (w:Ab),
    q.all (λx=>decide (x.1 < n) && !D.contains x.1)=true->Be .any l.toArray n listed->kFv .any l.toArray n q2 q listed=true->S w->kPi P l.toArray S S2 Q (jE l q2) (q2.map (·.2)) k (jE l q) (q.map (·.2)) a w ->
    kCs P .any l.toArray Q S n (λlisted a w=>(Ag .any l.toArray listed).all (λj=>decide (n<=j))=true/\kGx .any l.toArray q2 listed=true/\S2 w/\∃ k,kEk P l.toArray S2 Q k (jE l q2) (q2.map (·.2)) a w) q.length listed a w
  | [],k,listed,a,w,_,inv,hB,hS,h=>by
    exact VP
  | (i,true) :: q,k,listed,a,w,hi,inv,hB,hS,h=>by
    simp only [Ba,Aa,Ac,Av] at hi;have hil:i < l.toArray.size:=Nat.lt_trans hi.1.1 hn;have h0:l.toArray[i]?=some l.toArray[i]:=Ai hil;have hp:jE l ((i,true) :: q)=l.toArray[i] :: jE l q:=by
      exact VJ
    rw [hp] at h;obtain ⟨v,hy,h⟩:=h;simp only [kFv,Aa] at hB;obtain ⟨hr,Y⟩:=WC
    exact jAh h0 (Bq E) (λc a w=>hQ c a _ _ w) hs hc hn hi.1.1 hi.1.2 (λF a' w' V j J=>by simpa using Aw.1 V.1 j J) q.length listed a w inv (Bu h0 hB.1.2) hr hy hS
      (kLi E hQ hs hc hn q (k + 1) _ _ _ Y (inv.set hr hi.1.1) hB.2 hS h)
  | (i,false) :: q,k,listed,a,w,hi,inv,hB,hS,h=>by
    simp only [Ba,Aa,Ac,Av] at hi;obtain ⟨Y,hil⟩:=WF;have h0:l.toArray[i]?=some l.toArray[i]:=Ai hil;have hp:jE l ((i,false) :: q)=l.toArray[i] :: jE l q:=by
      exact VJ
    rw [hp] at h;simp only [kFv,Aa,beq_iff_eq] at hB;have hr:i∈Ag .any l.toArray listed:=bH0;refine ⟨by rw [hB.1];simp,λj J=>?_⟩;rw [hB.1] at J;obtain rfl:j=i:=bH9;refine ⟨hi.1.1,?_⟩;refine wpOp_mono (λa' w' G=>⟨G.1,kLi E hQ hs hc hn q (k + 1) _ _ _ Y (inv.set hr hi.1.1) hB.2 G.1 G.2⟩) (K:=λa' w'=>S w'/\kPi P l.toArray S S2 Q (jE l q2) (q2.map (·.2)) (k + 1) (jE l q) (q.map (·.2)) a' w') ?_;exact VL
def kAr {id:Nat} (S S2:Ab->Prop) (D:Ae Nat) (q q2:Ae (Nat × Bool)) (hm:P.follows .mixedOrders=true) (hB:soft2Ok .any l.toArray D q q2=true)
    (hQ:∀ c a d v w,Q (.panic c) (Bw a d v) w->Q (.panic c) a w) (hS:S { w with drawn:=w.drawn + 1 })
    (h:∀ w',S w'->pre P l.toArray (λa'=>kMk P l.toArray S S2 Q (jE l q2) (q2.map (·.2)) 0 (jE l q) (q.map (·.2)) a' w') (kBo l D) a):(Code.region id l.toArray true).wp P Q a w:=by
 simp only [soft2Ok,Aa,Ac] at hB;refine CR λh F b1 b2 O L R b6 N I U G E=>?_;clear hB;have key:=kQe (f:=q.length + q2.length) b1 hQ b2 D (Am l.toArray.size false) a (by simpa using O) F N (kQm (λa' hk=>by
   intro J;have H:=kLi (S2:=S2) b1 hQ R b6 b2 q 0 _ a' _ E J G hS hk;exact kCu (Q:=Q) (g:=q2.length) (λlisted a' w' V=>by
     obtain ⟨_,hb,d2,k,hw⟩:=V;exact wpAny_of_held (S:=S2) _ _ _ _ (kGr b1 hQ q2 k _ listed a' w' I nL hb d2 hw)) _ _ _ _ H) _ _ h)
 rw [show D.length + (q.length + q2.length)=l.toArray.size by omega] at key;exact key
variable {l0:Ae Ak} {p2:Ae Bool} {k:Nat} {l:Ae Ak} {p:Ae Bool} {a:Act} {w:Ab} {o:Ak}
def kBe (hS:S2 w) (h:soft P ops S2 Q k l0 p2 a w):kMk P ops S S2 Q l0 p2 k [] [] a w:=by
 unfold soft at h;unfold kMk;exact ⟨hS,h⟩
def yB (hg:Bg o (yielded ops a.tmps)=true)
    (hv:∀ w,S w->(execOp a.eval o).run P w=.ok (.value v) w) (h:kMk P ops S S2 Q l0 p2 (k + 1) l p (a.put o.dst v) w):kMk P ops S S2 Q l0 p2 k (o :: l) (true :: p) a w:=by
 unfold kMk at h ⊢;exact ⟨v,.inl ⟨hg,hv⟩,h⟩
def zy (hg:Bg o (yielded ops a.tmps)=true)
    (h:∀ K:Act->Ab->Prop,(∀ a' w',S w'->kMk P ops S S2 Q l0 p2 (k + 1) l p a' w'->K a' w')->o.wp P a w K Q):kMk P ops S S2 Q l0 p2 k (o :: l) (false :: p) a w:=by
 unfold kMk;show if _ then _ else _
 rw [if_pos hg];exact .inl (h _ (λa' w' h1 h2=>by unfold kMk at h2;exact ⟨h1,h2⟩))
end
end Go.Proofs.YthocbplmdjkifabGreat

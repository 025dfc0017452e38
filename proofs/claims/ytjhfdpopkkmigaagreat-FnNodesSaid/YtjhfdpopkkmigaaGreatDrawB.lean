/-
  Reading with a known footprint, and lists under construction whose elements are read in an elder world. No program in sight.
-/
import Derived.Test.YtjhfdpopkkmigaaGreatDrawN
set_option linter.unusedVariables false
set_option linter.defProp false
set_option linter.unusedSimpArgs false
set_option linter.unnecessarySimpa false
open Go renaming Value->Aa,World->Ab,TypeId->Ae,Program->Ag,wpList_plain->Ak,wpList->Ar
open Go.Builtin renaming append_->Ac
open List renaming length_append->Ad,length_drop->Al,all_eq_true->Am
open _root_ renaming List->Ah,Option->Ap
open Go.Value.slice renaming injEq->Ai
open Go.Value renaming string->Aj,int->Au
open List.cons renaming injEq->Aq
namespace Go.Proofs.YtjhfdpopkkmigaaGreat
open Go.RowKit
namespace kD
section
variable {α β:Type} {r:kD α} {q:kD β} {e:Ae} {w w' W W':Ab} {v:Aa} {cs ds:Ah Aa} {x:α} {xs:Ah α} {S T F G:Nat->Prop}
def ji (r:kD α) (w:Ab) (cs:Ah Aa) (x:α) (S:Nat->Prop):Prop:=r.is false w cs x S/\r.bdd Big x
def ji.rd (h:r.ji w cs x S):r.rd w cs x:=⟨r.wide h.1 (λ_ _=>trivial),h.2⟩
def ji.wide (h:r.ji w cs x S) (k:∀ k,S k->T k):r.ji w cs x T:=⟨r.wide h.1 k,h.2⟩
def ji.keep (h:r.ji w cs x S) (k:∀ k,S k->k < w.heap.size->w'.heap[k]?=w.heap[k]?):r.ji w' cs x S :=
  ⟨r.wide (r.mono (r.live h.1) (λj I=>k j I.1 I.2)) (λj I=>I.1),h.2⟩
def ji.below (h:r.ji w cs x S) (b:Qb w w'):r.ji w' cs x S:=h.keep (λk _ hk=>b.block k hk)
def ji.touch (h:r.ji w cs x S) (b:Touch T w w') (hd:∀ k,S k->¬ T k):r.ji w' cs x S:=h.keep (λk hk hl=>b.block k hl (hd k hk))
def own.ji (h:r.own w cs x S):r.ji w cs x S:=⟨r.weak h.1,h.2⟩
def kU.ji (h:kU e r w v xs S) (hl:xs.length<=Big):(slice e r).ji w [v] xs S:=(h.own hl).ji
def flat.ji (h:r.flat cs x):r.ji w cs x S:=(flat.own h).ji
def kAn {z:α × β} (h:r.ji w cs z.1 S) (k:q.ji w ds z.2 S):(pair r q).ji w (cs++ds) z S :=
  ⟨⟨cs,ds,S,S,rfl,h.1,k.1,λ_ h=>h,λ_ h=>h,λh=>by cases h⟩,h.2,k.2⟩
def kFe {z:α × β} (h:(pair r q).ji w cs z S):∃ c d,cs=c++d/\r.ji w c z.1 S/\q.ji w d z.2 S:=by
 obtain ⟨⟨c,d,A,B,rfl,h1,h2,hA,hB,_⟩,h3,h4⟩:=h;exact ⟨c,d,rfl,⟨r.wide h1 hA,h3⟩,⟨q.wide h2 hB,h4⟩⟩
def kWl {b off len cap:Nat} (h:(slice e r).own w [.slice (some ⟨b,off,none⟩) len cap] xs S) {k:Nat} (hk:k < xs.length):(slice e r).own w [.slice (some ⟨b,off + k * r.n,none⟩) (len - k) (cap - k)] (xs.drop k) S:=by
 obtain ⟨⟨a',E,cap',h0,h1,h2,h3,h4⟩,cz,O⟩:=h;simp only [Aq,Ai,and_true] at h0;obtain ⟨rfl,rfl,rfl⟩:=h0;refine ⟨⟨_,_,_,rfl,by simp;omega,by omega,by omega,?_⟩,by rw [Al];omega,λx hx=>O x (List.mem_of_mem_drop hx)⟩;rcases h4 with ⟨rfl,_⟩|⟨b',off',ha,cur,e',fr,p,c,q,hb,hc,hp,hl,hf,hS,hx⟩
 · simp at hk
 simp only [Option.some.injEq,Addr.mk.injEq,and_true] at ha;obtain ⟨rfl,rfl⟩:=ha;obtain ⟨c1,c2,rfl,J,W,r2⟩:=jAc hx (Nat.le_of_lt hk);refine .inr ⟨b,off + k * r.n,rfl,cur,e',fr,p++c1,c2,q,hb,by rw [hc];simp,by simp [hp,J],?_,hf,hS,r2⟩;have:k * r.n<=cap * r.n:=Nat.mul_le_mul_right _ bD1;rw [Nat.sub_mul];omega
end
end kD
def Touch.jP {p b:Nat} {w w1 V:Ab} (h:Touch (λk=>k=p) w w1) (t:Touch (λk=>k=b) w1 V) (hb:w.heap.size<=b):Touch (λk=>k=p) w V:=by
 refine ⟨t.os.trans h.os,t.tape.trans h.tape,t.output.trans h.output,Nat.le_trans h.size t.size,λk hk hn=>?_⟩;exact (t.block k (Nat.lt_of_lt_of_le hk h.size) bC2).trans (h.block k hk hn)
def Touch.kBq {p:Nat} {S:Nat->Prop} {w w1 V:Ab} (h:Touch (λk=>k=p) w w1) (t:Touch S w1 V) (hb:∀ k,S k->w.heap.size<=k):Touch (λk=>k=p) w V:=by
 refine ⟨t.os.trans h.os,t.tape.trans h.tape,t.output.trans h.output,Nat.le_trans h.size t.size,λk hk hn=>?_⟩;exact (t.block k (Nat.lt_of_lt_of_le hk h.size) (λq=>by have:=hb k q;omega)).trans (h.block k hk hn)
namespace kD
def row_strs {w:Ab} {S:Nat->Prop}:∀ xs:Ah ByteArray,(∀ x∈xs,x.size<=Big)->row str true w (xs.map Aj) xs S
  | [],_=>rfl
  | x :: xs,h=>⟨[.string x],xs.map Aj,S,λ_=>False,rfl,((kFi (h x bD2)) w).1.elim (λa b=>⟨a,b⟩),row_strs xs sV,λ_ h=>h,λ_ h=>h.elim,λ_ _ _ h=>h⟩
def row_ints {w:Ab} {S:Nat->Prop}:∀ xs:Ah Int,(∀ x∈xs,Qi x)->row int true w (xs.map (Au .i64)) xs S
  | [],_=>rfl
  | x :: xs,h=>⟨[Qn x],xs.map (Au .i64),S,λ_=>False,rfl,⟨rfl,h x bD2⟩,row_ints xs sV,λ_ h=>h,λ_ h=>h.elim,λ_ _ _ h=>h⟩
def kAw {e:Ae} (w:Ab) (xs:Ah ByteArray) (h:(xs.all λx=>decide (x.size<=64))=true) (hl:xs.length<=64):(slice e str).own (w.alloc (.cells (xs.map Aj).toArray e)) [.slice (some ⟨w.heap.size,0,none⟩) xs.length xs.length] xs (λk=>k=w.heap.size):=by
 have hb:∀ x∈xs,x.size<=Big:=λx hx=>by have:=Am.1 h x hx;simp at this;unfold Big;omega
 exact (yO (S:=λk=>k=w.heap.size) (T:=λ_=>False) hb vN (row_strs xs hb) (λ_ h=>h.elim) rfl).own wM
def kEf {e:Ae} (w:Ab) (xs:Ah Int) (h:(xs.all λx=>decide (-9223372036854775808<=x) && decide (x<=9223372036854775807))=true) (hl:xs.length<=64):(slice e int).own (w.alloc (.cells (xs.map (Au .i64)).toArray e)) [.slice (some ⟨w.heap.size,0,none⟩) xs.length xs.length] xs (λk=>k=w.heap.size):=by
 have hb:∀ x∈xs,Qi x:=λx hx=>by have:=Am.1 h x hx;simpa using this
 exact (yO (S:=λk=>k=w.heap.size) (T:=λ_=>False) (λ_ _=>trivial) vN (row_ints xs hb) (λ_ h=>h.elim) rfl).own wM
def kLp {α:Type} {r:kD α} {e:Ae} {cs:Ah Aa} {x:α} (w:Ab) (h:r.flat cs x):kU e r (w.alloc (.cells cs.toArray e)) (.slice (some ⟨w.heap.size,0,none⟩) 1 1) [x] (λk=>k=w.heap.size):=by
 have:=yO (e:=e) (r:=r) (w:=w) (cs:=cs) (xs:=[x]) (T:=λ_=>False) (S:=λk=>k=w.heap.size) (λy hy=>by rw [List.mem_singleton.1 hy];exact (h w).2) (by unfold maxLen;simp) (kDi (flat.own (w:=w) (S:=λ_=>False) h).1) (λ_ h=>h.elim) rfl;exact this
def kCk {xs:List ByteArray} {y:ByteArray} (h:(xs.all λx=>decide (x.size<=64))=true) (hy:y∈xs):y.size<=64:=by have:=List.all_eq_true.1 h y hy;simpa using this
def kHd {xs:List Int} {y lo hi:Int} (h:(xs.all λx=>decide (lo<=x) && decide (x<=hi))=true) (hy:y∈xs):lo<=y/\y<=hi:=by have:=List.all_eq_true.1 h y hy;simpa using this
end kD
namespace kD
section
variable {α β:Type} {r:kD α} {q:kD β} {w:World} {c c' d d':List Value} {x x':α} {y y':β} {S T:Nat->Prop}
def set_left (h:(pair r q).own w (c++d) (x,y) S) (hc:c.length=r.n) (hx:r.own w c' x' T) (hd:∀ k,S k->T k->False):(pair r q).own w (c'++d) (x',y) (λk=>S k\/T k):=by
 obtain ⟨⟨c1,H,A,B,he,h1,h2,hA,hB,o⟩,hb⟩:=h;obtain ⟨rfl,rfl⟩:=List.append_inj he (by rw [hc,r.len h1]);exact ⟨⟨c',d,T,B,rfl,hx.1,h2,λk=>.inr,λk hk=>.inl (hB k hk),λ_ k a b=>hd k (hB k b) a⟩,hx.2,hb.2⟩
def set_right (h:(pair r q).own w (c++d) (x,y) S) (hc:c.length=r.n) (f:∀ B:Nat->Prop,(∀ k,B k->S k)->q.own w d y B->q.own w d' y' (λk=>B k\/T k)) (hd:∀ k,S k->T k->False):(pair r q).own w (c++d') (x,y') (λk=>S k\/T k):=by
 obtain ⟨⟨c1,H,A,B,he,h1,h2,hA,hB,o⟩,hb⟩:=h;obtain ⟨rfl,rfl⟩:=List.append_inj he (by rw [hc,r.len h1]);have hf:=f B hB ⟨h2,hb.2⟩;exact ⟨⟨c,d',A,_,rfl,h1,hf.1,λk hk=>.inl (hA k hk),λk hk=>hk.imp (hB k) id,λ_ k a b=>b.elim (o rfl k a) (λq=>hd k (hA k a) q)⟩,hb.1,hf.2⟩
end
section
variable {α:Type} {r:kD α} {e:Ae} {w:Ab} {v:Aa} {xs ys:Ah α} {S T:Nat->Prop}
def kYf {P:Ag} {t ty:Ae} {z:Aa} {bytes:Nat} (ht:P.underlying t=some (.slice e)) (hinf:(P.info? e).map (λi=>(i.zero,i.size,i.bytes))=some (some z,r.n,bytes)) (hzs:z.cells.size=r.n) (hn:0 < r.n) (hby:bytes<=1000) (hf:r.kCy)
    (hown:kU e r w v xs S) {av:Ap Addr} {len cap:Nat} (hy:(slice e r).rd w [.slice av len cap] ys) (hlen:xs.length + ys.length<=1000000000) :
    ∃ v' w',(Ac #[t,t] ty #[v,.slice av len cap]).run P w=.ok v' w'/\kU e r w' v' (xs++ys) (λk=>S k\/(w.heap.size<=k/\k < w'.heap.size))/\Touch S w w':=by
 obtain ⟨i,hi,hz,hsize,D⟩:=info_parts hinf
 obtain ⟨cells,hsrc,hrow⟩:=jAd hy.1
 have o:row r true w cells ys (λ_=>False):=kOu hf hrow
 obtain ⟨v',w',hr,h2,h3⟩:=kFc (P:=P) (ty:=ty) ht hi hz hsize hzs hn bD1 hown hsrc (zQ hrow) (row_one hrow) hlen
 refine ⟨v',w',hr,(h3 o (λ_ _ h=>h) hy.2.2).wide ?_,h2.wide (λk hk=>hk.2)⟩
 rintro k (hk | hk | hk)
 · exact .inl hk
 · exact hk.elim
 exact .inr hk
def kZi {P:Ag} {ops:Array Oper} {rest:Ah Oper} {o:Oper} {a:Act} {Q:Exit->Act->Ab->Prop} (E:o.guard=none) (s x:Operand) (t:Ae)
    (ho:o.op=.call { callee:=.builtin .append,args:=#[s,x],argTypes:=#[t,t] })
    {z:Aa} {bytes:Nat} (ht:P.underlying t=some (.slice e)) (hinf:(P.info? e).map (λi=>(i.zero,i.size,i.bytes))=some (some z,r.n,bytes)) (hzs:z.cells.size=r.n) (hn:0 < r.n) (hby:bytes<=1000) (hf:r.kCy)
    (hown:kU e r w v xs S) (hs:a.eval s=v) {av:Ap Addr} {len cap:Nat} (hx:a.eval x=.slice av len cap) (hy:(slice e r).rd w [.slice av len cap] ys) (hlen:xs.length + ys.length<=1000000000)
    (h:∀ v' w',kU e r w' v' (xs++ys) (λk=>S k\/(w.heap.size<=k/\k < w'.heap.size))->Touch S w w'->Ar P ops Q rest (a.put o.dst v') w'):Ar P ops Q (o :: rest) a w:=by
 refine Ak E λ_ H=>?_
 obtain ⟨v',w',hr,h1,h2⟩:=kYf (ty:=o.type) ht hinf hzs hn hby hf hown hy hlen
 exact kV s x t ho hs hx hr (H _ _ (h v' w' h1 h2))
end
end kD
namespace kD
def kHo:∀ (cs:Ah Aa) (w:Ab) (b p:Nat),w.setCells b p cs=setCells w b p cs
  | [],_,_,_=>rfl
  | v :: cs,w,b,p=>by unfold World.setCells setCells;exact kHo cs _ b (p + 1)
section
variable {α:Type} {r:kD α} {e:Ae} {w:Ab} {xs ys:Ah α} {S T:Nat->Prop}
def kYe {P:Ag} {t ty:Ae} {z:Aa} {bytes:Nat} (ht:P.underlying t=some (.slice e)) (hinf:(P.info? e).map (λi=>(i.zero,i.size,i.bytes))=some (some z,r.n,bytes)) (hzs:z.cells.size=r.n) (hn:0 < r.n) (hby:bytes<=1000)
    {a:Ap Addr} {len cap:Nat} (hown:(slice e r).own w [.slice a len cap] xs S) {sv:Aa} {m:Nat} {cells:Ah Aa} (hsrc:Src w sv m cells) (hrow:row r true w cells ys T) (hm:ys.length=m) (hb:∀ y∈ys,r.bdd Big y) (hd:∀ k,S k->T k->False) (hlen:xs.length + ys.length<=16777216) :
    ∃ v' w',(Ac #[t,t] ty #[.slice a len cap,sv]).run P w=.ok v' w'/\(slice e r).own w' [v'] (xs++ys) (λk=>S k\/T k\/(w.heap.size<=k/\k < w'.heap.size))/\Touch S w w':=by
 obtain ⟨i,hi,hz,hsize,D⟩:=info_parts hinf
 have X:∀ n,n<=16777216->n<=Big:=λn h=>by unfold Big;omega
 obtain ⟨⟨a',E,cap',h0,h1,h2,h3,h4⟩,bp,cf⟩:=hown
 simp only [Aq,Ai,and_true] at h0
 obtain ⟨rfl,rfl,rfl⟩:=h0
 subst h1
 have R:∀ y∈xs++ys,r.bdd Big y:=by
  intro y hy;rcases List.mem_append.1 hy with q | q
  · exact cf y q
  exact hb y q
 rcases h4 with ⟨rfl,hc0⟩|⟨b,off,rfl,cur,e',fr,p,cs,tl,g1,g2,g3,g4,g5,g6,g7⟩
 · obtain rfl:=hc0 rfl;obtain ⟨v',w',hr,ac,ho⟩:=kFc (P:=P) (ty:=ty) (r:=r) ht hi hz hsize hzs hn bD1 (kU.void (a:=a) (S:=S)) hsrc (by rw [zQ hrow,hm]) (row_one hrow) (by simp at hlen ⊢;omega);exact ⟨v',w',hr,(ho hrow hd hb).own (X _ wP),ac.wide (λk hk=>hk.2)⟩
 obtain ⟨he,L⟩:=g5 rfl
 rw [he,L] at g1
 have J:=zQ g7
 have ah:=zQ hrow
 by_cases bc:m=0
 · have db:ys=[]:=List.eq_nil_of_length_eq_zero bD1;subst db;have hc:cells=[]:=hrow;subst hc;obtain ⟨a1,c1,rfl⟩:∃ a c,sv=.slice a 0 c:=by
    rcases hsrc with ⟨_,h⟩|⟨ad,c,h,_⟩
    · exact h
    exact ⟨_,_,by rw [h,bc]⟩
   refine ⟨.slice (some ⟨b,off,none⟩) xs.length cap,w,?_,?_,Touch.refl _ _⟩
   · cases a1 <;> simp [Ac,run_underlying ht,sizeOf,typeInfo,hi,Builtin.lenOf,h2,Builtin.firstCells,loadCells,loadCellsFrom,storeCells]
   rw [List.append_nil];refine ⟨⟨_,_,cap,rfl,rfl,h2,h3,.inr ⟨b,off,rfl,cur,e,(0,0),p,cs,tl,g1,g2,g3,g4,λ_=>⟨rfl,rfl⟩,.inl g6,yK g7 (λk hk=>⟨.inl hk.1,hk.2⟩)⟩⟩,bp,cf⟩
 obtain ⟨ad,c,rfl,Y⟩:∃ ad c,sv=.slice (some ad) m c/\∀ j u,cells[j]?=some u->w.cell? (ad.add j)=some u:=by
  rcases hsrc with ⟨h,_⟩ | h
  · exact absurd h bc
  exact h
 obtain ⟨O,U,V⟩:=FI
 by_cases o:xs.length + m<=cap
 · have Z:(xs.length + m) * r.n<=cap * r.n:=Nat.mul_le_mul_right _ o;rw [Nat.add_mul] at Z;obtain ⟨eb,G⟩:=JC;have hr:=run_append_room_cells (P:=P) (w:=w) t ty e i ht hi b off xs.length cap ad m c cells O Y (row_one hrow) o
     (λj I=>by
       rw [cell_of_row w b _ cur e (0,0) g1];have:off + xs.length * i.size + j < cur.size:=by rw [G,Ad];omega
       simp [this])
     (λj _=>frozen_of_row w b _ _ _ g1)
   rw [kHo] at hr;have W:=zn (e:=e) cells (tl.take cells.length) (p++cs) (tl.drop cells.length) w b (off + xs.length * i.size) gP G.symm sI;refine ⟨_,_,hr,?_,(yt cells w b _).wide (λk hk=>by rw [hk];exact g6)⟩;have aa:∀ k,k≠b->(setCells w b (off + xs.length * i.size) cells).heap[k]?=w.heap[k]?:=λk hk=>zz cells w b _ k hk;refine ⟨⟨_,_,cap,rfl,by rw [Ad,hm],o,h3,.inr ⟨b,off,rfl,_,e,(0,0),p,cs++cells,tl.drop cells.length,W,by simp,g3,?_,λ_=>⟨rfl,rfl⟩,.inl g6,?_⟩⟩,X _ qI,R⟩
   · simp only [List.size_toArray,Ad,Al];omega
   have a1:=yG (w':=setCells w b (off + xs.length * i.size) cells) g7 (λk hk=>aa k (hk.2 rfl));have a2:=yG (w':=setCells w b (off + xs.length * i.size) cells) hrow (λk hk=>aa k (λq=>hd b g6 (q ▸ hk)));exact kAg a1 a2 (λk hk=>⟨.inl hk.1,hk.2⟩) (λk hk=>⟨.inr (.inl hk),λ_ q=>hd b g6 (q ▸ hk)⟩) (λ_ k q1 q2=>hd k q1.1 q2)
 have H:∀ j u,cs[j]?=some u->w.cell? ((⟨b,off,none⟩:Addr).add j)=some u:=by
  exact aT
 have N:(xs.length + m) * i.bytes<=140737488355328:=by
  have:(xs.length + m) * i.bytes<=16777216 * 1000:=Nat.mul_le_mul bD1 bD1;omega
 have hr:=run_append_grow (P:=P) w t ty e i z ht hi hz ⟨b,off,none⟩ xs.length cap cs wG H ad m c cells O Y bD1 bD1 (growslice_fits bD1 N)
 refine ⟨_,_,hr,?_,⟨rfl,rfl,rfl,by simp,λk hk _=>heap_alloc_old w.drew _ hk⟩⟩
 have ab:=grownCap_ge w (xs.length + m) cap e
 have bq:=grownCap_le_maxLen w (xs.length + m) cap e vN
 refine ⟨⟨_,_,_,rfl,by rw [Ad,hm],ab,bq,.inr ⟨w.heap.size,0,rfl,_,e,(0,0),[],cs++cells,(Builtin.zeroCells z.cells (grownCap w (xs.length + m) cap e - (xs.length + m))).toList,heap_alloc_new w.drew _,by simp,rfl,?_,λ_=>⟨rfl,rfl⟩,.inr (.inr ⟨Nat.le_refl _,by simp⟩),?_⟩⟩,X _ qI,R⟩
 · exact aU
 obtain ⟨a1,a2⟩:=AA
 exact kAg a1 a2 (λk hk=>⟨.inl hk.1,λ_=>by omega⟩) (λk hk=>⟨.inr (.inl hk.1),λ_=>by omega⟩) (λ_ k q1 q2=>hd k q1.1 q2.1)
def kJb {P:Ag} {t ty:Ae} {z:Aa} {bytes:Nat} (ht:P.underlying t=some (.slice e)) (hinf:(P.info? e).map (λi=>(i.zero,i.size,i.bytes))=some (some z,r.n,bytes)) (hzs:z.cells.size=r.n) (hn:0 < r.n) (hby:bytes<=1000)
    {a:Ap Addr} {len cap:Nat} (hown:(slice e r).own w [.slice a len cap] xs S) {u:Ab} (hu:Qb w u) {cx:Ah Aa} {x:α} (hx:r.own u cx x T) (hd:∀ k,S k->T k->False) (hlen:xs.length < 16777216) {c:Nat} :
    ∃ v' w',(Ac #[t,t] ty #[.slice a len cap,.slice (some ⟨u.heap.size,0,none⟩) 1 c]).run P (u.alloc (.cells cx.toArray e))=.ok v' w'/\(slice e r).own w' [v'] (xs++[x]) (λk=>S k\/T k\/(u.heap.size<=k/\k < w'.heap.size))/\Touch (λk=>S k/\k < w.heap.size) u w':=by
 obtain ⟨E,hS⟩:=EI
 have hrow:row r true (u.alloc (.cells cx.toArray e)) cx [x] (λk=>T k/\k < u.heap.size):=kDi (r.mono (r.live hx.1) (λk hk=>E.block k hk.2))
 have hsrc:Src (u.alloc (.cells cx.toArray e)) (.slice (some ⟨u.heap.size,0,none⟩) 1 c) 1 cx:=by
  exact aV
 obtain ⟨v',w',hr,ho,o⟩:=kYe (ty:=ty) ht hinf hzs hn hby (hS.below E) hsrc hrow rfl mD (λk h1 h2=>hd k h1.1 h2.1) bC6
 exact aW
def zR {P:Ag} {ops:Array Oper} {rest:Ah Oper} {o:Oper} {D:Act} {Q:Exit->Act->Ab->Prop} (E:o.guard=none) (s x:Operand) (t:Ae)
    (ho:o.op=.call { callee:=.builtin .append,args:=#[s,x],argTypes:=#[t,t] })
    {z:Aa} {bytes:Nat} (ht:P.underlying t=some (.slice e)) (hinf:(P.info? e).map (λi=>(i.zero,i.size,i.bytes))=some (some z,r.n,bytes)) (hzs:z.cells.size=r.n) (hn:0 < r.n) (hby:bytes<=1000)
    {a:Ap Addr} {len cap:Nat} (hown:(slice e r).own w [.slice a len cap] xs S) {u:Ab} (hu:Qb w u) {cx:Ah Aa} {y:α} (hy:r.own u cx y T) {c:Nat} (hs:D.eval s=.slice a len cap) (hx:D.eval x=.slice (some ⟨u.heap.size,0,none⟩) 1 c) (hd:∀ k,S k->T k->False) (hlen:xs.length < 16777216)
    (h:∀ v' w',(slice e r).own w' [v'] (xs++[y]) (λk=>S k\/T k\/(u.heap.size<=k/\k < w'.heap.size))->Touch (λk=>S k/\k < w.heap.size) u w'->Ar P ops Q rest (D.put o.dst v') w'):Ar P ops Q (o :: rest) D (u.alloc (.cells cx.toArray e)):=by
 refine Ak E λ_ H=>?_
 obtain ⟨v',w',hr,h1,h2⟩:=kJb (ty:=o.type) (c:=c) ht hinf hzs hn hby hown hu hy hd hlen
 exact kV s x t ho hs hx hr (H _ _ (h v' w' h1 h2))
def run_pushGO {P:Ag} {t ty:Ae} {z:Aa} {bytes:Nat} (ht:P.underlying t=some (.slice e)) (hinf:(P.info? e).map (λi=>(i.zero,i.size,i.bytes))=some (some z,r.n,bytes)) (hzs:z.cells.size=r.n) (hn:0 < r.n) (hby:bytes<=1000)
    {a:Ap Addr} {len cap:Nat} (hown:(slice e r).own w [.slice a len cap] xs S) {sv:Aa} (hy:kU e r w sv ys T) (hd:∀ k,S k->T k->False) (hlen:xs.length + ys.length<=16777216) :
    ∃ v' w',(Ac #[t,t] ty #[.slice a len cap,sv]).run P w=.ok v' w'/\(slice e r).own w' [v'] (xs++ys) (λk=>S k\/T k\/(w.heap.size<=k/\k < w'.heap.size))/\Touch S w w':=by
 obtain ⟨o,h⟩:=hy
 obtain ⟨cells,hsrc,hrow⟩:∃ cells,Src w sv ys.length cells/\row r true w cells ys T:=by
  rcases h with ⟨⟨a,rfl⟩,rfl⟩|⟨b,cap',cur,cs,tl,rfl,h1,h2,h3,h4,h5,h6,h7⟩
  · exact ⟨[],.inl ⟨rfl,_,_,rfl⟩,rfl⟩
  refine ⟨cs,.inr ⟨_,_,rfl,?_⟩,yK h7 (λk hk=>hk.1)⟩;intro j u I;have F:(⟨b,0,none⟩:Addr).add j=⟨b,j,none⟩:=qG;rw [F,cell_of_row w b j cur e (0,0) h3,<- Array.getElem?_toList,h4,List.getElem?_append_left (List.getElem?_eq_some_iff.1 I).1];exact I
 exact kYe ht hinf hzs hn hby hown hsrc hrow rfl o hd hlen
def kMg {P:Ag} {ops:Array Oper} {rest:Ah Oper} {o:Oper} {D:Act} {Q:Exit->Act->Ab->Prop} (E:o.guard=none) (s x:Operand) (t:Ae)
    (ho:o.op=.call { callee:=.builtin .append,args:=#[s,x],argTypes:=#[t,t] })
    {z:Aa} {bytes:Nat} (ht:P.underlying t=some (.slice e)) (hinf:(P.info? e).map (λi=>(i.zero,i.size,i.bytes))=some (some z,r.n,bytes)) (hzs:z.cells.size=r.n) (hn:0 < r.n) (hby:bytes<=1000)
    {a:Ap Addr} {len cap:Nat} (hown:(slice e r).own w [.slice a len cap] xs S) {sv:Aa} (hy:kU e r w sv ys T) (hs:D.eval s=.slice a len cap) (hx:D.eval x=sv) (hd:∀ k,S k->T k->False) (hlen:xs.length + ys.length<=16777216)
    (h:∀ v' w',(slice e r).own w' [v'] (xs++ys) (λk=>S k\/T k\/(w.heap.size<=k/\k < w'.heap.size))->Touch S w w'->Ar P ops Q rest (D.put o.dst v') w'):Ar P ops Q (o :: rest) D w:=by
 refine Ak E λ_ H=>?_
 obtain ⟨v',w',hr,h1,h2⟩:=run_pushGO (ty:=o.type) ht hinf hzs hn hby hown hy hd hlen
 exact kV s x t ho hs hx hr (H _ _ (h v' w' h1 h2))
end
end kD
def Touch.cellT {S:Nat->Prop} {W W':Ab} (d:Touch S W W') {b j:Nat} {v:Aa} (h:Qc W b j v) (hb:¬ S b):Qc W' b j v:=by
 have e1:W'.heap[b]?=W.heap[b]?:=d.block _ (World.block_lt_of_cell? _ _ h) hb;rw [<- h];unfold World.cell?;simp only [e1]
def kF {w:Ab} {b:Nat} {a:Array Aa} {t:Ae} {v:Aa} (h:w.heap[b]?=some (.cells a t (0,0))) (j:Nat):(w.setCell ⟨b,j,none⟩ v).heap[b]?=some (.cells (a.setIfInBounds j v) t (0,0)):=heap_setCell_same w b j a t v h
def jg (w:Ab) (b j:Nat) (v:Aa):Touch (λk=>k=b) w (w.setCell ⟨b,j,none⟩ v):=kD.yt [v] w b j
def sT1 {w:Ab} {b j:Nat} {v:Aa}:Touch (λk=>k=b) w (w.setCell ⟨b,j,none⟩ v):=jg w b j v
def sT2 {w:Ab} {b E o:Nat} {v0 v1:Aa}:Touch (λk=>k=b) w ((w.setCell ⟨b,E,none⟩ v0).setCell ⟨b,o,none⟩ v1):=sT1.trans sT1
def sT3 {w:Ab} {b E o D:Nat} {v0 v1 v2:Aa}:Touch (λk=>k=b) w (((w.setCell ⟨b,E,none⟩ v0).setCell ⟨b,o,none⟩ v1).setCell ⟨b,D,none⟩ v2):=sT2.trans sT1
def sT4 {w:Ab} {b E o D F:Nat} {v0 v1 v2 v3:Aa}:Touch (λk=>k=b) w ((((w.setCell ⟨b,E,none⟩ v0).setCell ⟨b,o,none⟩ v1).setCell ⟨b,D,none⟩ v2).setCell ⟨b,F,none⟩ v3):=sT3.trans sT1
def sT5 {w:Ab} {b E o D F G:Nat} {v0 v1 v2 v3 v4:Aa}:Touch (λk=>k=b) w (((((w.setCell ⟨b,E,none⟩ v0).setCell ⟨b,o,none⟩ v1).setCell ⟨b,D,none⟩ v2).setCell ⟨b,F,none⟩ v3).setCell ⟨b,G,none⟩ v4):=sT4.trans sT1
def sT6 {w:Ab} {b E o D F G H:Nat} {v0 v1 v2 v3 v4 v5:Aa}:Touch (λk=>k=b) w ((((((w.setCell ⟨b,E,none⟩ v0).setCell ⟨b,o,none⟩ v1).setCell ⟨b,D,none⟩ v2).setCell ⟨b,F,none⟩ v3).setCell ⟨b,G,none⟩ v4).setCell ⟨b,H,none⟩ v5):=sT5.trans sT1
def sT7 {w:Ab} {b E o D F G H J:Nat} {v0 v1 v2 v3 v4 v5 v6:Aa}:Touch (λk=>k=b) w (((((((w.setCell ⟨b,E,none⟩ v0).setCell ⟨b,o,none⟩ v1).setCell ⟨b,D,none⟩ v2).setCell ⟨b,F,none⟩ v3).setCell ⟨b,G,none⟩ v4).setCell ⟨b,H,none⟩ v5).setCell ⟨b,J,none⟩ v6):=sT6.trans sT1
def sT8 {w:Ab} {b E o D F G H J L:Nat} {v0 v1 v2 v3 v4 v5 v6 I:Aa}:Touch (λk=>k=b) w ((((((((w.setCell ⟨b,E,none⟩ v0).setCell ⟨b,o,none⟩ v1).setCell ⟨b,D,none⟩ v2).setCell ⟨b,F,none⟩ v3).setCell ⟨b,G,none⟩ v4).setCell ⟨b,H,none⟩ v5).setCell ⟨b,J,none⟩ v6).setCell ⟨b,L,none⟩ I):=sT7.trans sT1
end Go.Proofs.YtjhfdpopkkmigaaGreat

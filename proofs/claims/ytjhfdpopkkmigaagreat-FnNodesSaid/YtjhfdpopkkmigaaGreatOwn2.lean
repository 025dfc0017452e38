/-
  Slices that are owned: an element's cells, a store into a cell, a store of a whole element, a change behind an element. No program in sight.
-/
import Derived.Test.YtjhfdpopkkmigaaGreatBase
set_option linter.unusedVariables false
set_option linter.defProp false
set_option linter.unusedSimpArgs false
set_option linter.unnecessarySimpa false
open Go renaming frozen_of_row->Aa,Value->Ab,World->Ad,heap_alloc_old->Ah,TypeId->Aj,heap_setCell_other->Am,grownCap->Ay,Addr->Bb,heap_alloc_new->Bc,maxLen->Be,setRow_other->Bh,madeCells->Bj
open Array renaming getElem?_eq_some_iff->Ac
open List renaming replicate->Ae,length_append->Ag,eq_nil_of_length_eq_zero->Ai,getElem?_append_right->Ak,getElem?_append_left->Al,append_assoc->Au,getElem?_eq_some_iff->Av,set_append_right->Ba,replicate_succ->Bd,flatten_cons->Bf,size_toArray->Bg,length_drop->Bl
open _root_ renaming List->Ap,Array->Bn
open Go.Builtin renaming zeroCells->Aq,append_->Az
open Option.some renaming injEq->Ar
open Go.Addr.mk renaming injEq->Aw
open Go.Value.slice renaming injEq->Bi
open List.cons renaming injEq->Bo
namespace Go.Proofs.YtjhfdpopkkmigaaGreat
open Go.RowKit
namespace kD
def kU {α:Type} (e:Aj) (r:kD α) (w:Ad) (v:Ab) (xs:Ap α) (S:Nat->Prop):Prop :=
  (∀ x∈xs,r.bdd Big x)/\(((∃ a,v=.slice a 0 0)/\xs=[]) \/
    ∃ (b cap:Nat) (cur:Bn Ab) (cs tl:Ap Ab),v=.slice (some ⟨b,0,none⟩) xs.length cap/\xs.length<=cap/\cap<=Be/\w.heap[b]?=some (.cells cur e (0,0))/\cur.toList=cs++tl/\cur.size=cap * r.n/\S b /\
      row r true w cs xs (λk=>S k/\k≠b))
def Src (w:Ad) (sv:Ab) (m:Nat) (cells:Ap Ab):Prop :=
  (m=0/\∃ a c,sv=.slice a 0 c)\/∃ ad c,sv=.slice (some ad) m c/\∀ j u,cells[j]?=some u->w.cell? (ad.add j)=some u
section
variable {α:Type} {r:kD α} {e:Aj} {w w':Ad} {v:Ab} {xs ys:Ap α} {S T:Nat->Prop}
def kU.own (h:kU e r w v xs S) (hl:xs.length<=Big):(slice e r).own w [v] xs S:=by
 obtain ⟨hb,h⟩:=h;refine ⟨?_,hl,hb⟩;rcases h with ⟨⟨a,rfl⟩,rfl⟩|⟨b,cap,cur,cs,tl,rfl,h1,h2,h3,h4,h5,h6,h7⟩
 · exact ⟨a,0,0,rfl,rfl,Nat.le_refl _,Nat.zero_le _,.inl ⟨rfl,λ_=>rfl⟩⟩
 exact ⟨_,_,cap,rfl,rfl,h1,h2,.inr ⟨b,0,rfl,cur,e,(0,0),[],cs,tl,h3,by simpa using h4,rfl,by omega,λ_=>⟨rfl,rfl⟩,h6,yK h7 (λk hk=>⟨hk.1,λ_=>hk.2⟩)⟩⟩
def kU.keep (h:kU e r w v xs S) (k:∀ k,S k->k < w.heap.size->w'.heap[k]?=w.heap[k]?):kU e r w' v xs S:=by
 obtain ⟨hb,h⟩:=h;refine ⟨hb,?_⟩;rcases h with h|⟨b,cap,cur,cs,tl,hv,h1,h2,h3,h4,h5,h6,h7⟩
 · exact .inl h
 exact .inr ⟨b,cap,cur,cs,tl,hv,h1,h2,(k b h6 (Ac.1 h3).1).trans h3,h4,h5,h6,yK (yG (zO h7) (λj I=>k j I.1.1 I.2)) (λj I=>I.1)⟩
def kU.wide (h:kU e r w v xs S) (k:∀ k,S k->T k):kU e r w v xs T:=by
 obtain ⟨hb,h⟩:=h;refine ⟨hb,?_⟩;rcases h with h|⟨b,cap,cur,cs,tl,hv,h1,h2,h3,h4,h5,h6,h7⟩
 · exact .inl h
 exact .inr ⟨b,cap,cur,cs,tl,hv,h1,h2,h3,h4,h5,k b h6,yK h7 (λj I=>⟨k j I.1,I.2⟩)⟩
def kU.below (h:kU e r w v xs S) (b:Qb w w'):kU e r w' v xs S:=h.keep (λk _ hk=>b.block k hk)
def kU.touch (h:kU e r w v xs S) (b:Touch T w w') (hd:∀ k,S k->¬ T k):kU e r w' v xs S:=h.keep (λk hk hl=>b.block k hl (hd k hk))
def kU.live (h:kU e r w v xs S):kU e r w v xs (λk=>S k/\k < w.heap.size):=by
 obtain ⟨hb,h⟩:=h;refine ⟨hb,?_⟩;rcases h with h|⟨b,cap,cur,cs,tl,hv,h1,h2,h3,h4,h5,h6,h7⟩
 · exact .inl h
 exact .inr ⟨b,cap,cur,cs,tl,hv,h1,h2,h3,h4,h5,⟨h6,(Ac.1 h3).1⟩,yK (zO h7) (λj I=>⟨⟨I.1.1,I.2⟩,I.1.2⟩)⟩
def kU.nil:kU e r w (.slice none 0 0) [] S:=⟨by simp,.inl ⟨⟨_,rfl⟩,rfl⟩⟩
def kU.void {a:Option Bb}:kU e r w (.slice a 0 0) [] S:=⟨by simp,.inl ⟨⟨_,rfl⟩,rfl⟩⟩
def kU.zW (h:kU e r w v xs S):∃ a cap,v=.slice a xs.length cap:=by
 rcases h.2 with ⟨⟨a,rfl⟩,rfl⟩|⟨b,cap,cur,cs,tl,rfl,_⟩
 · exact ⟨a,0,rfl⟩
 exact ⟨_,cap,rfl⟩
def yO {cs:Ap Ab} (hb:∀ x∈xs,r.bdd Big x) (hl:xs.length<=Be) (h:row r true w cs xs T) (N:∀ k,T k->S k) (hS:S w.heap.size) :
    kU e r (w.alloc (.cells cs.toArray e)) (.slice (some ⟨w.heap.size,0,none⟩) xs.length xs.length) xs S:=by
 refine ⟨hb,.inr ⟨w.heap.size,xs.length,cs.toArray,cs,[],rfl,Nat.le_refl _,hl,Bc w _,by simp,by simpa using zQ h,hS,?_⟩⟩
 exact yK (yG (zO h) (λk hk=>Ah w _ hk.2)) (λk hk=>⟨N k hk.1,by omega⟩)
def kYg:∀ (n:Nat),row r true w (Ae n r.zc).flatten (Ae n r.zero) S
  | 0=>by simp [row]
  | n + 1=>by
    simp only [Bd,Bf];exact ⟨r.zc,_,λ_=>False,S,rfl,r.is_zero,kYg n,λ_ h=>h.elim,λ_ h=>h,λ_ _ h=>h.elim⟩
def jAl (zc:Ap Ab) (hz:0 < zc.length):∀ n,(Bj zc.toArray (n * zc.length)).toList=(Ae n zc).flatten:=by
 intro n;apply List.ext_getElem?;intro j;simp only [Bj,Array.toList_map,Array.toList_range,List.getElem?_map];have key:∀ (n j:Nat),(Ae n zc).flatten[j]?=if j < n * zc.length then zc[j % zc.length]? else none:=by
  intro n;induction n with
  | zero=>intro j;simp
  | succ n ih =>
    intro j;simp only [Bd,Bf];by_cases h:j < zc.length
    · rw [Al h,Nat.mod_eq_of_lt h,if_pos (by rw [Nat.add_mul];omega)]
    · rw [Ak bD1,ih,Nat.add_mul,Nat.one_mul];have e1:(j - zc.length < n * zc.length)↔(j < n * zc.length + zc.length):=bD1;simp only [e1];split
      · congr 1
        conv=>rhs;rw [show j=(j - zc.length) + zc.length by omega]
        rw [Nat.add_mod_right]
      · rfl
 rw [key];by_cases h:j < n * zc.length
 · rw [if_pos h,List.getElem?_range h];have hm:=Nat.mod_lt j hz;simp [hm]
 rw [if_neg h,List.getElem?_eq_none bB5];rfl
def own0_make {zs:Bn Ab} {n:Nat} (hz:zs=r.zc.toArray) (hl:r.zc.length=r.n) (hn:0 < r.n) (hm:n<=Be) (hS:S w.heap.size) :
    kU e r (w.alloc (.cells (Bj zs (n * r.n)) e)) (.slice (some ⟨w.heap.size,0,none⟩) n n) (Ae n r.zero) S:=by
 subst hz
 have h:=yO (e:=e) (w:=w) (S:=S) (T:=λ_=>False) (cs:=(Ae n r.zc).flatten) (xs:=Ae n r.zero) (r:=r) (λx hx=>by rw [(List.mem_replicate.1 hx).2];exact r.bdd_zero) (by simpa using hm) (kYg n) (λ_ h=>h.elim) hS
 rw [<- hl,show Bj r.zc.toArray (n * r.zc.length)=(Ae n r.zc).flatten.toArray from by rw [<- jAl _ bD1],]
 simpa using h
def kFc {P:Program} {t ty:Aj} {i:TypeInfo} {z:Ab} (ht:P.underlying t=some (.slice e)) (hi:P.info? e=some i) (hz:i.zero=some z) (hsize:i.size=r.n) (hzs:z.cells.size=r.n) (hn:0 < r.n) (hby:i.bytes<=1000)
    (h:kU e r w v xs S) {sv:Ab} {m:Nat} {cells:Ap Ab} (hsrc:Src w sv m cells) (hl:cells.length=m * r.n) (h1:∀ u∈cells,u.oneCell'=true) (hlen:xs.length + m<=1000000000) :
    ∃ v' w',(Az #[t,t] ty #[v,sv]).run P w=.ok v' w'/\Touch (λk=>some k=v.ownBlock/\S k) w w' /\
      ∀ {ys:Ap α} {T:Nat->Prop},row r true w cells ys T->(∀ k,S k->T k->False)->(∀ y∈ys,r.bdd Big y) ->
        kU e r w' v' (xs++ys) (λk=>S k\/T k\/(w.heap.size<=k/\k < w'.heap.size)):=by
 obtain ⟨V,h⟩:=h
 have R:∀ {ys:Ap α},(∀ y∈ys,r.bdd Big y)->∀ y∈xs++ys,r.bdd Big y:=by
  intro ys hy y hm;rcases List.mem_append.1 hm with hm | hm
  · exact V y hm
  exact hy y hm
 have eb:∀ {ys:Ap α} {T:Nat->Prop},row r true w cells ys T->ys.length=m:=by
  intro ys T hr;have:=zQ hr;rw [hl] at this;exact (Nat.eq_of_mul_eq_mul_right hn this).symm
 by_cases bc:m=0
 · subst bc;have hc:cells=[]:=Ai wY;subst hc;have aa:∃ a c,sv=.slice a 0 c:=by
    rcases hsrc with ⟨_,h⟩|⟨ad,c,h,_⟩
    · exact h
    exact ⟨_,_,h⟩
   obtain ⟨a,c,rfl⟩:=aa;have ac:∀ (bs:Option Bb) (l cap:Nat),l<=cap->(bs=none->l=0)->(Az #[t,t] ty #[.slice bs l cap,.slice a 0 c]).run P w=.ok (.slice bs l cap) w:=by
    intro bs l cap ae hb;cases a <;> cases bs <;> simp [Az,run_underlying ht,sizeOf,typeInfo,hi,Builtin.lenOf,ae,Builtin.firstCells,loadCells,loadCellsFrom,storeCells]
   refine ⟨v,w,?_,Touch.refl _ _,?_⟩
   · rcases h with ⟨⟨a0,rfl⟩,rfl⟩|⟨b,cap,cur,cs,tl,rfl,h2,h3,h4,h5,h6,h7,h8⟩
     · exact ac a0 0 0 nL (λ_=>rfl)
     exact ac _ _ _ h2 bD2
   intro ys T hr _ hy;have:ys=[]:=Ai (eb hr);subst this;rw [List.append_nil];exact kU.wide ⟨V,h⟩ (λk hk=>.inl hk)
 obtain ⟨ad,c,rfl,Y⟩:∃ ad c,sv=.slice (some ad) m c/\∀ j u,cells[j]?=some u->w.cell? (ad.add j)=some u:=by
  rcases hsrc with ⟨h,_⟩ | h
  · exact absurd h bc
  exact h
 have O:cells.length=m * i.size:=by rw [hsize];exact hl
 have N:(xs.length + m) * i.bytes<=140737488355328:=by
  have:(xs.length + m) * i.bytes<=1000000000 * 1000:=Nat.mul_le_mul hlen hby
  omega
 have bq:∀ D,Ay w (xs.length + m) D e<=Be:=λD=>grownCap_le_maxLen w (xs.length + m) D e vN
 have G:∀ (D:Nat) (cs:Ap Ab),row r true w cs xs S->∀ {ys:Ap α} {T:Nat->Prop},row r true w cells ys T->(∀ k,S k->T k->False)->(∀ y∈ys,r.bdd Big y) ->
     kU e r (w.drew.alloc (.cells (cs.toArray++cells.toArray++Aq z.cells (Ay w (xs.length + m) D e - (xs.length + m))) e)) (.slice (some ⟨w.heap.size,0,none⟩) (xs.length + m) (Ay w (xs.length + m) D e)) (xs++ys)
       (λk=>S k\/T k\/(w.heap.size<=k/\k < w.heap.size + 1)):=by
   intro D cs U ys T hr hST hy
   have ab:=grownCap_ge w (xs.length + m) D e
   have L:=eb hr
   refine ⟨R hy,.inr ⟨w.heap.size,Ay w (xs.length + m) D e,_,cs++cells,(Aq z.cells (Ay w (xs.length + m) D e - (xs.length + m))).toList,by rw [Ag,L],by rw [Ag,L];exact ab,bq D,Bc w.drew _,by simp,?_,by simp,?_⟩⟩
   · have:=zQ U;simp only [Array.size_append,Bg,size_zeroCells,hzs,hl,this,<- Nat.add_mul];congr 1;omega
   · have a1:=yK (T:=λk=>S k/\k < w.heap.size) (yG (w':=w.drew.alloc (.cells (cs.toArray++cells.toArray++Aq z.cells (Ay w (xs.length + m) D e - (xs.length + m))) e)) (zO U) (λk hk=>Ah w.drew _ hk.2)) (λk hk=>hk);have a2:=yK (T:=λk=>T k/\k < w.heap.size) (yG (w':=w.drew.alloc (.cells (cs.toArray++cells.toArray++Aq z.cells (Ay w (xs.length + m) D e - (xs.length + m))) e)) (zO hr) (λk hk=>Ah w.drew _ hk.2)) (λk hk=>hk);exact kAg a1 a2 (λk hk=>⟨.inl hk.1,by omega⟩) (λk hk=>⟨.inr (.inl hk.1),by omega⟩) (λ_ k h1 h2=>hST k h1.1 h2.1)
 rcases h with ⟨⟨a0,rfl⟩,rfl⟩|⟨b,cap,cur,cs,tl,rfl,h2,h3,h4,h5,h6,h7,h8⟩
 · cases a0 with
   | none =>
     have hr:=run_append_nil (P:=P) w t ty e i z ht hi hz ad m c cells O Y bD1 (by simp at hlen;omega) (by simp only [List.length_nil,Nat.zero_add] at N;omega);refine ⟨_,_,hr,⟨rfl,rfl,rfl,by simp,λk hk _=>Ah w.drew _ hk⟩,?_⟩;intro ys T E hST hy;have:=G 0 [] rfl E hST hy;simp only [List.length_nil,Nat.zero_add,Array.empty_append,List.nil_append] at this ⊢;simpa using this
   | some a1 =>
     have hr:=run_append_grow (P:=P) w t ty e i z ht hi hz a1 0 0 [] bD2 bD2 ad m c cells O Y bD1 bD1 (growslice_fits bD1 (by simpa using N));refine ⟨_,_,hr,⟨rfl,rfl,rfl,by simp,λk hk _=>Ah w.drew _ hk⟩,?_⟩;intro ys T E hST hy;have:=G 0 [] rfl E hST hy;simpa using this
 have J:=zQ h8
 by_cases o:xs.length + m<=cap
 · have X:xs.length * i.size + cells.length<=cur.size:=by rw [hsize,hl,h6,<- Nat.add_mul];exact Nat.mul_le_mul_right _ o
   have hr:=run_append_room (P:=P) w t ty e i ht hi b xs.length cap cur h4 ad m c cells O Y h1 o X;refine ⟨_,_,hr,⟨rfl,rfl,rfl,by simp,λk _ hk=>Bh w b k _ (λq=>hk ⟨by simp [Value.ownBlock,q],q ▸ h7⟩)⟩,?_⟩;intro ys T E hST hy;have L:=eb E;have W:cur.toList.take (xs.length * i.size)=cs:=by rw [h5,hsize,<- J];simp
   have Z:cur.toList.drop (xs.length * i.size + cells.length)=tl.drop cells.length:=by rw [h5,hsize,<- J,List.drop_append];simp
   have az:cur.size=cs.length + tl.length:=by rw [<- Array.length_toList,h5,Ag]
   refine ⟨R hy,.inr ⟨b,cap,_,cs++cells,tl.drop cells.length,by rw [Ag,L],by rw [Ag,L];exact o,h3,setRow_heap w b cur _ e _ h4,?_,?_,.inl h7,?_⟩⟩
   · rw [W,Z]
   · rw [W,Z,<- h6,az];rw [hsize,<- J] at X;simp only [Bg,Ag,Bl];omega
   have a1:=yG (w':=w.setRow b (cur.toList.take (xs.length * i.size)++cells++cur.toList.drop (xs.length * i.size + cells.length)).toArray) h8 (λk hk=>Bh w b k _ hk.2);have a2:=yG (w':=w.setRow b (cur.toList.take (xs.length * i.size)++cells++cur.toList.drop (xs.length * i.size + cells.length)).toArray) E (λk hk=>Bh w b k _ (λq=>hST b h7 (q ▸ hk)));exact kAg a1 a2 (λk hk=>⟨.inl hk.1,hk.2⟩) (λk hk=>⟨.inr (.inl hk),λq=>hST b h7 (q ▸ hk)⟩) (λ_ k h1 h2=>hST k h1.1 h2)
 have H:∀ j u,cs[j]?=some u->w.cell? ((⟨b,0,none⟩:Bb).add j)=some u:=by
  intro j u I;have F:(⟨b,0,none⟩:Bb).add j=⟨b,j,none⟩:=qG;rw [F,cell_of_row w b j cur e (0,0) h4,<- Array.getElem?_toList,h5,Al (Av.1 I).1];exact I
 have hr:=run_append_grow (P:=P) w t ty e i z ht hi hz ⟨b,0,none⟩ xs.length cap cs wG H ad m c cells O Y bD1 bD1 (growslice_fits bD1 N)
 refine ⟨_,_,hr,⟨rfl,rfl,rfl,by simp,λk hk _=>Ah w.drew _ hk⟩,?_⟩
 intro ys T E hST hy
 have:=G cap cs (yK h8 (λk hk=>hk.1)) E hST hy
 simpa using this
def wpList_push {P:Program} {ops:Bn Oper} {rest:Ap Oper} {o:Oper} {a:Act} {Q:Exit->Act->Ad->Prop} (E:o.guard=none) (s x:Operand) (t:Aj)
    (ho:o.op=.call { callee:=.builtin .append,args:=#[s,x],argTypes:=#[t,t] })
    {i:TypeInfo} {z:Ab} (ht:P.underlying t=some (.slice e)) (hi:P.info? e=some i) (hz:i.zero=some z) (hsize:i.size=r.n) (hzs:z.cells.size=r.n) (hn:0 < r.n) (hby:i.bytes<=1000)
    (hown:kU e r w v xs S) (hs:a.eval s=v) {sv:Ab} {m:Nat} {cells:Ap Ab} (hx:a.eval x=sv) (hsrc:Src w sv m cells) (hrow:row r true w cells ys T) (hl:ys.length=m)
    (hST:∀ k,S k->T k->False) (hy:∀ y∈ys,r.bdd Big y) (hlen:xs.length + ys.length<=1000000000)
    (h:∀ v' w',kU e r w' v' (xs++ys) (λk=>S k\/T k\/(w.heap.size<=k/\k < w'.heap.size))->Touch (λk=>some k=v.ownBlock/\S k) w w'->wpList P ops Q rest (a.put o.dst v') w'):wpList P ops Q (o :: rest) a w:=by
 refine wpList_plain E λ_ H=>?_
 obtain ⟨v',w',hr,h2,h3⟩:=kFc (P:=P) (ty:=o.type) ht hi hz hsize hzs hn hby hown hsrc (by rw [<- hl];exact zQ hrow) (row_one hrow) bD1
 unfold Oper.wp execOp
 simp only [ho,resolve,invoke,builtin,Sem.run_bind,Sem.run_pure,Result.andThen_ok,List.map_toArray,List.map_cons,List.map_nil,hs,hx,hr]
 exact H _ _ (h v' w' (h3 hrow hST hy) h2)
end
end kD
def kH {w:Ad} {o:Obj} {b:Nat} (h:b=w.heap.size):(w.alloc o).heap[b]?=some o:=h ▸ Bc w o
def jR {w:Ad} {o A:Obj} {b:Nat} (h:w.heap[b]?=some o):(w.alloc A).heap[b]?=some o:=(Ah w A (Ac.1 h).1).trans h
def kC {W W':Ad} {b:Nat} {o:Obj} (h:W.heap[b]?=some o) (d:Qb W W'):W'.heap[b]?=some o:=(d.block b (Ac.1 h).1).trans h
def Touch.kC {S:Nat->Prop} {W W':Ad} (d:Touch S W W') {b:Nat} {o:Obj} (h:W.heap[b]?=some o) (hb:¬ S b):W'.heap[b]?=some o:=(d.block b (Ac.1 h).1 hb).trans h
def kE {W:Ad} {b:Nat} {cs:Bn Ab} {t:Aj} {fr:Nat × Nat} (h:W.heap[b]?=some (.cells cs t fr)) {j:Nat} {v:Ab} (hv:cs[j]?=some v):Qc W b j v:=(cell_of_row W b j cs t fr h).trans hv
namespace kD
def setCells (w:Ad) (b p:Nat):Ap Ab->Ad
  | []=>w
  | c :: cs=>setCells (w.setCell ⟨b,p,none⟩ c) b (p + 1) cs
def zz:∀ (cs:Ap Ab) (w:Ad) (b p k:Nat),k≠b->(setCells w b p cs).heap[k]?=w.heap[k]?
  | [],_,_,_,_,_=>rfl
  | c :: cs,w,b,p,k,h=>by
    rw [setCells,zz cs _ b (p + 1) k h];exact Am w ⟨b,p,none⟩ k c h
def setCells_size:∀ (cs:Ap Ab) (w:Ad) (b p:Nat),(setCells w b p cs).heap.size=w.heap.size
  | [],_,_,_=>rfl
  | c :: cs,w,b,p=>by rw [setCells,setCells_size cs];simp [World.setCell]
def kEw:∀ (cs:Ap Ab) (w:Ad) (b p:Nat),(setCells w b p cs).os=w.os/\(setCells w b p cs).tape=w.tape/\(setCells w b p cs).output=w.output
  | [],_,_,_=>⟨rfl,rfl,rfl⟩
  | c :: cs,w,b,p=>by rw [setCells];exact kEw cs _ b (p + 1)
def yt (cs:Ap Ab) (w:Ad) (b p:Nat):Touch (λk=>k=b) w (setCells w b p cs) :=
  ⟨(kEw cs w b p).1,(kEw cs w b p).2.1,(kEw cs w b p).2.2,by rw [setCells_size];exact Nat.le_refl _,λk _ hk=>zz cs w b p k hk⟩
def zn {e:Aj}:∀ (cs c hd tl:Ap Ab) (w:Ad) (b p:Nat),w.heap[b]?=some (.cells (hd++(c++tl)).toArray e (0,0))->hd.length=p->c.length=cs.length ->
    (setCells w b p cs).heap[b]?=some (.cells (hd++(cs++tl)).toArray e (0,0))
  | [],c,hd,tl,w,b,p,h,hp,hc=>by
    have:c=[]:=Ai bA1;subst this;exact h
  | v :: cs,[],hd,tl,w,b,p,h,hp,hc=>by simp at hc
  | v :: cs,u :: c,hd,tl,w,b,p,h,hp,hc=>by
    rw [setCells];have h1:=heap_setCell_same w b p _ e v h;have h2:((hd++(u :: c++tl)).toArray.setIfInBounds p v)=((hd++[v])++(c++tl)).toArray:=by
      subst hp;simp
    rw [h2] at h1;have:=zn cs c (hd++[v]) tl _ b (p + 1) h1 bC9 bA1;simpa using this
section
variable {α:Type} {r:kD α} {e:Aj} {w w':Ad} {b off len cap:Nat} {xs:Ap α} {S T:Nat->Prop}
def kOw (h:(slice e r).own w [.slice (some ⟨b,off,none⟩) len cap] xs S) (hne:0 < xs.length) :
    len=xs.length/\len<=cap/\cap<=Be/\xs.length<=Big/\(∀ x∈xs,r.bdd Big x)/\∃ (hd cs tl:Ap Ab),w.heap[b]?=some (.cells (hd++(cs++tl)).toArray e (0,0))/\hd.length=off/\off + cap * r.n<=(hd++(cs++tl)).length/\S b /\
      row r true w cs xs (λk=>S k/\k≠b):=by
 obtain ⟨⟨a',E,cap',h0,h1,h2,h3,h4⟩,hb⟩:=h
 simp only [Bo,Bi,and_true] at h0
 obtain ⟨rfl,rfl,rfl⟩:=h0
 rcases h4 with ⟨rfl,_⟩|⟨b',off',ha,cur,e',fr,p,c,q,hb',hc,hp,hl,hf,hS,hx⟩
 · simp at hne
 simp only [Ar,Aw,and_true] at ha
 obtain ⟨rfl,rfl⟩:=ha
 obtain ⟨rfl,rfl⟩:=hf rfl
 have o:cur=(p++(c++q)).toArray:=by rw [<- hc]
 subst o
 exact ⟨h1,h2,h3,hb.1,hb.2,p,c,q,hb',hp,by simpa using hl,hS,yK hx (λk hk=>⟨hk.1,hk.2 rfl⟩)⟩
def own_shut {hd cs tl:Ap Ab} (h1:len=xs.length) (h2:len<=cap) (h3:cap<=Be) (h4:xs.length<=Big) (h5:∀ x∈xs,r.bdd Big x) (h6:w.heap[b]?=some (.cells (hd++(cs++tl)).toArray e (0,0))) (h7:hd.length=off)
    (h8:off + cap * r.n<=(hd++(cs++tl)).length) (h9:S b) (E:row r true w cs xs (λk=>S k/\k≠b)):(slice e r).own w [.slice (some ⟨b,off,none⟩) len cap] xs S :=
  ⟨⟨_,_,_,rfl,h1,h2,h3,.inr ⟨b,off,rfl,_,e,(0,0),hd,cs,tl,h6,rfl,h7,by simpa using h8,λ_=>⟨rfl,rfl⟩,h9,yK E (λk hk=>⟨hk.1,λ_=>hk.2⟩)⟩⟩,h4,h5⟩
def bdd_set {i:Nat} {y:α} (h5:∀ x∈xs,r.bdd Big x) (hy:r.bdd Big y):∀ x∈xs.set i y,r.bdd Big x:=by
 intro x hx;rcases List.mem_or_eq_of_mem_set hx with h | h
 · exact h5 x h
 exact h ▸ hy
def own_get (h:(slice e r).own w [.slice (some ⟨b,off,none⟩) len cap] xs S) {i:Nat} (hi:i < xs.length) :
    ∃ c B,r.own w c xs[i] B/\(∀ k,B k->S k/\k≠b)/\S b/\(∀ j v,c[j]?=some v->w.cell? ⟨b,off + i * r.n + j,none⟩=some v)/\(∀ j,w.frozen? ⟨b,j,none⟩=false) /\
      (∀ {w':Ad} {y:α},r.own w' c y B->Touch B w w'->(slice e r).own w' [.slice (some ⟨b,off,none⟩) len cap] (xs.set i y) S):=by
 have F:=h.raw
 obtain ⟨h1,h2,h3,h4,h5,hd,cs,tl,h6,h7,h8,h9,E⟩:=kOw h bD1
 obtain ⟨p,c,q,A,B,C,rfl,hp,ra,G,rc,hA,hB,hC,D⟩:=kVe E hi
 have hlt:b < w.heap.size:=(Ac.1 h6).1
 refine ⟨c,λk=>B k/\k < w.heap.size,⟨r.live G,h5 _ (List.getElem_mem hi)⟩,λk hk=>hB k hk.1,h9,?_,λj=>Aa w b j _ e h6,?_⟩
 · intro j v I;have a4:=(Av.1 I).1;rw [cell_of_row w b _ _ e (0,0) h6];simp only [List.getElem?_toArray];rw [Ak bD1,Au,Ak bD1,Au,Al bD1];rw [<- I];congr 1;omega
 intro w' y hy ht
 have hb':w'.heap[b]?=w.heap[b]?:=ht.block b hlt (λq=>(hB b q.1).2 rfl)
 refine own_shut bA6 h2 h3 (by simpa using h4) (bdd_set h5 hy.2) (hb'.trans h6) h7 h8 h9 ?_
 have H:=yG (w':=w') (zO ra) (λk hk=>ht.block k hk.2 (λq=>(D rfl k).1 hk.1 q.1))
 have o:=yG (w':=w') (zO rc) (λk hk=>ht.block k hk.2 (λq=>(D rfl k).2.2 q.1 hk.1))
 exact jAb hi H hy.1 o (λk hk=>hA k hk.1) (λk hk=>hB k hk.1) (λk hk=>hC k hk.1) (λ_ k=>⟨λa b=>(D rfl k).1 a.1 b.1,λa c=>(D rfl k).2.1 a.1 c.1,λb c=>(D rfl k).2.2 b.1 c.1⟩)
def kRs (h:(slice e r).own w [.slice (some ⟨b,off,none⟩) len cap] xs S) {i j:Nat} {v:Ab} {y:α} (hi:i < xs.length) (I:j < r.n)
    (hy:∀ {w:Ad} {cs:Ap Ab} {S:Nat->Prop},r.is true w cs xs[i] S->r.is true w (cs.set j v) y S) (hby:r.bdd Big y) :
    (slice e r).own (w.setCell ⟨b,off + i * r.n + j,none⟩ v) [.slice (some ⟨b,off,none⟩) len cap] (xs.set i y) S/\Touch (λk=>k=b) w (w.setCell ⟨b,off + i * r.n + j,none⟩ v):=by
 obtain ⟨h1,h2,h3,h4,h5,hd,cs,tl,h6,h7,h8,h9,E⟩:=kOw h bD1
 obtain ⟨p,c,q,A,B,C,rfl,hp,ra,G,rc,hA,hB,hC,D⟩:=kVe E hi
 have ho:∀ k,k≠b->(w.setCell ⟨b,off + i * r.n + j,none⟩ v).heap[k]?=w.heap[k]?:=λk hk=>Am w ⟨b,_,none⟩ k v hk
 have hc:=r.len G
 refine ⟨?_,⟨rfl,rfl,rfl,by simp [World.setCell],λk _ hk=>ho k hk⟩⟩
 have F:=heap_setCell_same w b (off + i * r.n + j) _ e v h6
 have o:((hd++((p++(c++q))++tl)).toArray.setIfInBounds (off + i * r.n + j) v)=(hd++((p++(c.set j v++q))++tl)).toArray:=by
  apply Array.ext';simp only [Array.toList_setIfInBounds];rw [Ba _ _ bD1,Au,Ba _ _ bD1,Au,List.set_append_left _ _ bD1];rw [show off + i * r.n + j - hd.length - p.length=j by omega];simp
 rw [o] at F
 refine own_shut bA6 h2 h3 (by simpa using h4) (bdd_set h5 hby) F h7 (by simpa using h8) h9 ?_
 exact jAb hi (yG ra (λk hk=>ho k (hA k hk).2)) (r.mono (hy G) (λk hk=>ho k (hB k hk).2)) (yG rc (λk hk=>ho k (hC k hk).2)) hA hB hC D
def own_frozen (h:(slice e r).own w [.slice (some ⟨b,off,none⟩) len cap] xs S) (hne:0 < xs.length) (j:Nat):w.frozen? ⟨b,j,none⟩=false:=by
 obtain ⟨_,_,_,_,_,hd,cs,tl,h6,_⟩:=kOw h hne;exact Aa w b j _ e h6
def kOx {a:Option Bb} (h:(slice e r).own w [.slice a len cap] xs S) (hne:0 < xs.length):len=xs.length/\∃ b off,a=some ⟨b,off,none⟩/\S b/\b < w.heap.size:=by
 obtain ⟨⟨a',E,cap',h0,h1,h2,h3,h4⟩,hb⟩:=h;simp only [Bo,Bi,and_true] at h0;obtain ⟨rfl,rfl,rfl⟩:=h0;rcases h4 with ⟨rfl,_⟩|⟨b',off',ha,cur,e',fr,p,c,q,hb',hc,hp,hl,hf,hS,hx⟩
 · simp at hne
 exact ⟨h1,b',off',ha,hS,(Ac.1 hb').1⟩
variable {β:Type} {q:kD β} {cs ds:Ap Ab} {x:α} {y:β} {A B:Nat->Prop}
def own.setCell (h:r.own w cs x S) {p:Bb} {v:Ab} (hp:¬ S p.block):r.own (w.setCell p v) cs x S :=
  h.keep (λk hk _=>Am w p k v (λq=>hp (q ▸ hk)))
def own.alloc (h:r.own w cs x S) (o:Obj):r.own (w.alloc o) cs x S:=h.below (zL w o)
def own.drew (h:r.own w cs x S):r.own w.drew cs x S:=h.below (kNx w)
def kU.setCell {v:Ab} (h:kU e r w v xs S) {p:Bb} {u:Ab} (hp:¬ S p.block):kU e r (w.setCell p u) v xs S :=
  h.keep (λk hk _=>Am w p k u (λq=>hp (q ▸ hk)))
def kU.alloc {v:Ab} (h:kU e r w v xs S) (o:Obj):kU e r (w.alloc o) v xs S:=h.below (zL w o)
def kU.drew {v:Ab} (h:kU e r w v xs S):kU e r w.drew v xs S:=h.below (kNx w)
def own.out {lo hi:Nat} (h:r.own w cs x (jU lo hi)) (k:∀ j,lo<=j->j < hi->w'.heap[j]?=w.heap[j]?):r.own w' cs x (jU lo hi):=h.keep (λj I _=>k j I.1 I.2)
def flat (r:kD α) (cs:Ap Ab) (x:α):Prop:=∀ w,r.own w cs x (λ_=>False)
def jG {n:Int} (h:Qi n):int.flat [.int .i64 n] n:=λ_=>⟨⟨rfl,h⟩,trivial⟩
def kFi {s:ByteArray} (h:s.size<=Big):str.flat [.string s] s:=λ_=>⟨⟨rfl,by unfold Be;unfold Big at h;omega⟩,h⟩
def yJ (h:r.flat cs x) (k:q.flat ds y):(pair r q).flat (cs++ds) (x,y):=λw =>
  ⟨⟨cs,ds,_,_,rfl,(h w).1,(k w).1,λ_ h=>h,λ_ h=>h,λ_ _ h _=>h⟩,(h w).2,(k w).2⟩
def flat.own (h:r.flat cs x):r.own w cs x S:=(h w).wide (λ_ h=>h.elim)
def flat.raw (h:r.flat cs x):r.raw w cs x:=(h w).raw
def flat.rd (h:r.flat cs x):r.rd w cs x:=(h w).rd
def jY (h:r.own w cs x A) (k:q.own w ds y B) (hA:∀ k,A k->S k) (hB:∀ k,B k->S k) (hd:∀ k,A k->B k->False):(pair r q).own w (cs++ds) (x,y) S :=
  ⟨⟨cs,ds,A,B,rfl,h.1,k.1,hA,hB,λ_=>hd⟩,h.2,k.2⟩
def yN (h:r.own w cs x S) (k:q.flat ds y):(pair r q).own w (cs++ds) (x,y) S :=
  jY h (k w) (λ_ h=>h) (λ_ h=>h.elim) (λ_ _ h=>h)
def kKy (h:r.flat cs x) (k:q.own w ds y S):(pair r q).own w (cs++ds) (x,y) S :=
  jY (h w) k (λ_ h=>h.elim) (λ_ h=>h) (λ_ h _=>h)
def kEd {z:α × β} (h:(pair r q).own w cs z S):∃ c d A B,cs=c++d/\r.own w c z.1 A/\q.own w d z.2 B/\(∀ k,A k->S k)/\(∀ k,B k->S k)/\(∀ k,A k->B k->False):=by
 obtain ⟨⟨c,d,A,B,rfl,h1,h2,hA,hB,hd⟩,hb⟩:=h;exact ⟨c,d,A,B,rfl,⟨h1,hb.1⟩,⟨h2,hb.2⟩,hA,hB,hd rfl⟩
def yH {z:α × β} (h:(pair r q).raw w cs z):∃ c d,cs=c++d/\r.raw w c z.1/\q.raw w d z.2:=by
 obtain ⟨c,d,A,B,rfl,h1,h2,hA,hB,hd⟩:=h;exact ⟨c,d,rfl,r.wide h1 (λ_ _=>trivial),q.wide h2 (λ_ _=>trivial)⟩
def jb {n:Int} (h:int.raw w cs n):cs=[.int .i64 n]/\Qi n:=h
def kLb {b:UInt8} (h:byte.raw w cs b):cs=[.int .u8 b.toNat]:=h
def zi {s:ByteArray} (h:str.raw w cs s):cs=[.string s]/\s.size<=Be:=h
def kAd {xs:Ap α} (h:(slice e r).raw w cs xs):∃ v,cs=[v]/\(slice e r).raw w [v] xs:=by
 obtain ⟨a,cap,rfl,_⟩:=kAx h;exact ⟨_,rfl,h⟩
end
def Sub {α β:Type} (r:kD α) (q:kD β) (o:α->β) (put:α->β->α) (i:Nat):Prop :=
  ∀ {w:Ad} {cs:Ap Ab} {x:α} {B:Nat->Prop},r.own w cs x B->∃ A,q.own w ((cs.drop i).take q.n) (o x) A/\(∀ k,A k->B k) /\
    ∀ {w':Ad} {y:β},q.own w' ((cs.drop i).take q.n) y A->Touch A w w'->r.own w' cs (put x y) B
def Sub.refl {α:Type} (r:kD α):Sub r r (λx=>x) (λ_ y=>y) 0:=by
 intro w cs x B h;have e:(cs.drop 0).take r.n=cs:=by rw [List.drop_zero,List.take_of_length_le (by rw [r.len h.1];exact Nat.le_refl _)]
 rw [e];exact ⟨B,h,λ_ h=>h,λh _=>h⟩
def Sub.left {α β γ:Type} {r:kD α} {q:kD β} {p:kD γ} {o:α->γ} {put:α->γ->α} {i:Nat} (s:Sub r p o put i) (hi:i + p.n<=r.n):Sub (pair r q) p (λz=>o z.1) (λz y=>(put z.1 y,z.2)) i:=by
 intro w cs z B h;obtain ⟨c,d,A,D,rfl,h1,h2,hA,E,hd⟩:=kEd h;obtain ⟨N,h3,h4,h5⟩:=s h1;have hc:=r.len h1.1;have e:((c++d).drop i).take p.n=(c.drop i).take p.n:=by
  rw [List.drop_append_of_le_length bD1,List.take_append_of_le_length (by rw [Bl];omega)]
 rw [e];exact ⟨N,h3,λk hk=>hA k (h4 k hk),λh6 t=>jY (h5 h6 t) (h2.touch t (λk hk q=>hd k (h4 k q) hk)) hA E hd⟩
def Sub.right {α β γ:Type} {r:kD α} {q:kD β} {p:kD γ} {o:β->γ} {put:β->γ->β} {i j:Nat} (s:Sub q p o put i) (I:j=r.n + i):Sub (pair r q) p (λz=>o z.2) (λz y=>(z.1,put z.2 y)) j:=by
 subst I;intro w cs z B h;obtain ⟨c,d,A,D,rfl,h1,h2,hA,E,hd⟩:=kEd h;obtain ⟨N,h3,h4,h5⟩:=s h2;have hc:=r.len h1.1;have e:((c++d).drop (r.n + i)).take p.n=(d.drop i).take p.n:=by
  rw [<- hc,<- List.drop_drop,List.drop_left]
 rw [e];exact ⟨N,h3,λk hk=>E k (h4 k hk),λh6 t=>jY (h1.touch t (λk hk q=>hd k hk (h4 k q))) (h5 h6 t) hA E hd⟩
def at1 {α:Type} {r:kD α} {w:Ad} {e:Aj} {b len cap:Nat} {xs:Ap α} (h:(slice e r).raw w [.slice (some ⟨b,0,none⟩) len cap] xs) {i:Nat} (hi:i < xs.length) (hn:r.n=1) :
    ∃ c0,r.raw w [c0] xs[i]/\Qc w b i c0:=by
 obtain ⟨b',off',ha,c0,hr,h0⟩:=kCa h hi hn
 simp only [Ar,Aw,and_true] at ha
 obtain ⟨rfl,rfl⟩:=ha
 simp only [Nat.zero_add] at h0
 exact ⟨c0,hr,h0⟩
def at3 {α:Type} {r:kD α} {w:Ad} {e:Aj} {b len cap:Nat} {xs:Ap α} (h:(slice e r).raw w [.slice (some ⟨b,0,none⟩) len cap] xs) {i:Nat} (hi:i < xs.length) (hn:r.n=3) :
    ∃ c0 c1 c2,r.raw w [c0,c1,c2] xs[i]/\Qc w b (i * 3) c0/\Qc w b (i * 3 + 1) c1/\Qc w b (i * 3 + 2) c2:=by
 obtain ⟨b',off',ha,c0,c1,c2,hr,h0,h1,h2⟩:=zt h hi hn
 simp only [Ar,Aw,and_true] at ha
 obtain ⟨rfl,rfl⟩:=ha
 simp only [Nat.zero_add] at h0 h1 h2
 exact ⟨c0,c1,c2,hr,h0,h1,h2⟩
def at6 {α:Type} {r:kD α} {w:Ad} {e:Aj} {b len cap:Nat} {xs:Ap α} (h:(slice e r).raw w [.slice (some ⟨b,0,none⟩) len cap] xs) {i:Nat} (hi:i < xs.length) (hn:r.n=6) :
    ∃ c0 c1 c2 c3 c4 c5,r.raw w [c0,c1,c2,c3,c4,c5] xs[i]/\Qc w b (i * 6) c0/\Qc w b (i * 6 + 1) c1/\Qc w b (i * 6 + 2) c2/\Qc w b (i * 6 + 3) c3/\Qc w b (i * 6 + 4) c4/\Qc w b (i * 6 + 5) c5:=by
 obtain ⟨b',off',ha,c0,c1,c2,c3,c4,c5,hr,h0,h1,h2,h3,h4,h5⟩:=kPk h hi hn
 simp only [Ar,Aw,and_true] at ha
 obtain ⟨rfl,rfl⟩:=ha
 simp only [Nat.zero_add] at h0 h1 h2 h3 h4 h5
 exact ⟨c0,c1,c2,c3,c4,c5,hr,h0,h1,h2,h3,h4,h5⟩
end kD
def kBm {α:Type} (r:kD α) (x:α) (w:Ad) (e:Ending) (w':Ad):Prop:=∃ v,e=.returned v/\r.own w' [v] x (jU w.heap.size w'.heap.size)/\Qb w w'
def kAe {α:Type} (r:kD α) (x:α) (w:Ad) (e:Ending) (w':Ad):Prop:=∃ cs,e=.returned (.agg cs.toArray)/\r.own w' cs x (jU w.heap.size w'.heap.size)/\Qb w w'
def yQ {W:Ad} {b:Nat} {t:Aj} {fr:Nat × Nat} {c0 c1:Ab} (h:W.heap[b]?=some (.cells #[c0,c1] t fr)):Qc W b 0 c0/\W.cell? ⟨b,1,none⟩=some c1 :=
  ⟨kE h rfl,kE h rfl⟩
def kCj {W:Ad} {b:Nat} {t:Aj} {a:Bn Ab} (h:W.heap[b]?=some (.cells a t (0,0))):W.frozen? ⟨b,0,none⟩=false/\W.frozen? ⟨b,1,none⟩=false :=
  ⟨Aa W b 0 _ _ h,Aa W b 1 _ _ h⟩
def rowC3 {W:Ad} {b:Nat} {t:Aj} {fr:Nat × Nat} {c0 c1 c2:Ab} (h:W.heap[b]?=some (.cells #[c0,c1,c2] t fr)):Qc W b 0 c0/\Qc W b 1 c1/\W.cell? ⟨b,2,none⟩=some c2 :=
  ⟨kE h rfl,kE h rfl,kE h rfl⟩
def rowF3 {W:Ad} {b:Nat} {t:Aj} {a:Bn Ab} (h:W.heap[b]?=some (.cells a t (0,0))):W.frozen? ⟨b,0,none⟩=false/\W.frozen? ⟨b,1,none⟩=false/\W.frozen? ⟨b,2,none⟩=false :=
  ⟨Aa W b 0 _ _ h,Aa W b 1 _ _ h,Aa W b 2 _ _ h⟩
def kKs {W:Ad} {b:Nat} {t:Aj} {fr:Nat × Nat} {c0 c1 c2 c3:Ab} (h:W.heap[b]?=some (.cells #[c0,c1,c2,c3] t fr)):Qc W b 0 c0/\Qc W b 1 c1/\Qc W b 2 c2/\W.cell? ⟨b,3,none⟩=some c3 :=
  ⟨kE h rfl,kE h rfl,kE h rfl,kE h rfl⟩
def kVf {W:Ad} {b:Nat} {t:Aj} {a:Bn Ab} (h:W.heap[b]?=some (.cells a t (0,0))):W.frozen? ⟨b,0,none⟩=false/\W.frozen? ⟨b,1,none⟩=false/\W.frozen? ⟨b,2,none⟩=false/\W.frozen? ⟨b,3,none⟩=false :=
  ⟨Aa W b 0 _ _ h,Aa W b 1 _ _ h,Aa W b 2 _ _ h,Aa W b 3 _ _ h⟩
def yI {W:Ad} {b:Nat} {t:Aj} {fr:Nat × Nat} {c0 c1 c2 c3 c4:Ab} (h:W.heap[b]?=some (.cells #[c0,c1,c2,c3,c4] t fr)):Qc W b 0 c0/\Qc W b 1 c1/\Qc W b 2 c2/\Qc W b 3 c3/\W.cell? ⟨b,4,none⟩=some c4 :=
  ⟨kE h rfl,kE h rfl,kE h rfl,kE h rfl,kE h rfl⟩
def kBh {W:Ad} {b:Nat} {t:Aj} {a:Bn Ab} (h:W.heap[b]?=some (.cells a t (0,0))):W.frozen? ⟨b,0,none⟩=false/\W.frozen? ⟨b,1,none⟩=false/\W.frozen? ⟨b,2,none⟩=false/\W.frozen? ⟨b,3,none⟩=false/\W.frozen? ⟨b,4,none⟩=false :=
  ⟨Aa W b 0 _ _ h,Aa W b 1 _ _ h,Aa W b 2 _ _ h,Aa W b 3 _ _ h,Aa W b 4 _ _ h⟩
def yL {W:Ad} {b:Nat} {t:Aj} {fr:Nat × Nat} {c0 c1 c2 c3 c4 c5 N D:Ab} (h:W.heap[b]?=some (.cells #[c0,c1,c2,c3,c4,c5,N,D] t fr)):Qc W b 0 c0/\Qc W b 1 c1/\Qc W b 2 c2/\Qc W b 3 c3/\Qc W b 4 c4/\Qc W b 5 c5/\Qc W b 6 N/\W.cell? ⟨b,7,none⟩=some D :=
  ⟨kE h rfl,kE h rfl,kE h rfl,kE h rfl,kE h rfl,kE h rfl,kE h rfl,kE h rfl⟩
def kCz {W:Ad} {b:Nat} {t:Aj} {a:Bn Ab} (h:W.heap[b]?=some (.cells a t (0,0))):W.frozen? ⟨b,0,none⟩=false/\W.frozen? ⟨b,1,none⟩=false/\W.frozen? ⟨b,2,none⟩=false/\W.frozen? ⟨b,3,none⟩=false/\W.frozen? ⟨b,4,none⟩=false/\W.frozen? ⟨b,5,none⟩=false/\W.frozen? ⟨b,6,none⟩=false/\W.frozen? ⟨b,7,none⟩=false :=
  ⟨Aa W b 0 _ _ h,Aa W b 1 _ _ h,Aa W b 2 _ _ h,Aa W b 3 _ _ h,Aa W b 4 _ _ h,Aa W b 5 _ _ h,Aa W b 6 _ _ h,Aa W b 7 _ _ h⟩
def kHv {W D:Ad} {p0 p1:Bb} {v0 v1:Ab} (hb:Qb W D) (h0:W.cell? p0=some v0) (h1:W.cell? p1=some v1):D.cell? p0=some v0/\D.cell? p1=some v1 :=
  ⟨cL hb h0,cL hb h1⟩
def kKb {W D:Ad} {p0 p1 p2:Bb} {v0 v1 v2:Ab} (hb:Qb W D) (h0:W.cell? p0=some v0) (h1:W.cell? p1=some v1) (h2:W.cell? p2=some v2):D.cell? p0=some v0/\D.cell? p1=some v1/\D.cell? p2=some v2 :=
  ⟨cL hb h0,cL hb h1,cL hb h2⟩
def kGr {W D:Ad} {p0 p1 p2 J:Bb} {v0 v1 v2 v3:Ab} (hb:Qb W D) (h0:W.cell? p0=some v0) (h1:W.cell? p1=some v1) (h2:W.cell? p2=some v2) (h3:W.cell? J=some v3):D.cell? p0=some v0/\D.cell? p1=some v1/\D.cell? p2=some v2/\D.cell? J=some v3 :=
  ⟨cL hb h0,cL hb h1,cL hb h2,cL hb h3⟩
def cLs5 {W D:Ad} {p0 p1 p2 J F:Bb} {v0 v1 v2 v3 v4:Ab} (hb:Qb W D) (h0:W.cell? p0=some v0) (h1:W.cell? p1=some v1) (h2:W.cell? p2=some v2) (h3:W.cell? J=some v3) (h4:W.cell? F=some v4):D.cell? p0=some v0/\D.cell? p1=some v1/\D.cell? p2=some v2/\D.cell? J=some v3/\D.cell? F=some v4 :=
  ⟨cL hb h0,cL hb h1,cL hb h2,cL hb h3,cL hb h4⟩
def kGx {W D:Ad} {p0 p1 p2 J F G:Bb} {v0 v1 v2 v3 v4 v5:Ab} (hb:Qb W D) (h0:W.cell? p0=some v0) (h1:W.cell? p1=some v1) (h2:W.cell? p2=some v2) (h3:W.cell? J=some v3) (h4:W.cell? F=some v4) (h5:W.cell? G=some v5):D.cell? p0=some v0/\D.cell? p1=some v1/\D.cell? p2=some v2/\D.cell? J=some v3/\D.cell? F=some v4/\D.cell? G=some v5 :=
  ⟨cL hb h0,cL hb h1,cL hb h2,cL hb h3,cL hb h4,cL hb h5⟩
def cLs7 {W D:Ad} {p0 p1 p2 J F G O:Bb} {v0 v1 v2 v3 v4 v5 v6:Ab} (hb:Qb W D) (h0:W.cell? p0=some v0) (h1:W.cell? p1=some v1) (h2:W.cell? p2=some v2) (h3:W.cell? J=some v3) (h4:W.cell? F=some v4) (h5:W.cell? G=some v5) (h6:W.cell? O=some v6):D.cell? p0=some v0/\D.cell? p1=some v1/\D.cell? p2=some v2/\D.cell? J=some v3/\D.cell? F=some v4/\D.cell? G=some v5/\D.cell? O=some v6 :=
  ⟨cL hb h0,cL hb h1,cL hb h2,cL hb h3,cL hb h4,cL hb h5,cL hb h6⟩
def cLs8 {W D:Ad} {p0 p1 p2 J F G O U:Bb} {v0 v1 v2 v3 v4 v5 v6 I:Ab} (hb:Qb W D) (h0:W.cell? p0=some v0) (h1:W.cell? p1=some v1) (h2:W.cell? p2=some v2) (h3:W.cell? J=some v3) (h4:W.cell? F=some v4) (h5:W.cell? G=some v5) (h6:W.cell? O=some v6) (h7:W.cell? U=some I):D.cell? p0=some v0/\D.cell? p1=some v1/\D.cell? p2=some v2/\D.cell? J=some v3/\D.cell? F=some v4/\D.cell? G=some v5/\D.cell? O=some v6/\D.cell? U=some I :=
  ⟨cL hb h0,cL hb h1,cL hb h2,cL hb h3,cL hb h4,cL hb h5,cL hb h6,cL hb h7⟩
def cLs10 {W D:Ad} {p0 p1 p2 J F G O U X Y:Bb} {v0 v1 v2 v3 v4 v5 v6 I v8 v9:Ab} (hb:Qb W D) (h0:W.cell? p0=some v0) (h1:W.cell? p1=some v1) (h2:W.cell? p2=some v2) (h3:W.cell? J=some v3) (h4:W.cell? F=some v4) (h5:W.cell? G=some v5) (h6:W.cell? O=some v6) (h7:W.cell? U=some I) (h8:W.cell? X=some v8) (h9:W.cell? Y=some v9):D.cell? p0=some v0/\D.cell? p1=some v1/\D.cell? p2=some v2/\D.cell? J=some v3/\D.cell? F=some v4/\D.cell? G=some v5/\D.cell? O=some v6/\D.cell? U=some I/\D.cell? X=some v8/\D.cell? Y=some v9 :=
  ⟨cL hb h0,cL hb h1,cL hb h2,cL hb h3,cL hb h4,cL hb h5,cL hb h6,cL hb h7,cL hb h8,cL hb h9⟩
def cLs12 {W D:Ad} {p0 p1 p2 J F G O U X Y H R:Bb} {v0 v1 v2 v3 v4 v5 v6 I v8 v9 N L:Ab} (hb:Qb W D) (h0:W.cell? p0=some v0) (h1:W.cell? p1=some v1) (h2:W.cell? p2=some v2) (h3:W.cell? J=some v3) (h4:W.cell? F=some v4) (h5:W.cell? G=some v5) (h6:W.cell? O=some v6) (h7:W.cell? U=some I) (h8:W.cell? X=some v8) (h9:W.cell? Y=some v9) (E:W.cell? H=some N) (aa:W.cell? R=some L):D.cell? p0=some v0/\D.cell? p1=some v1/\D.cell? p2=some v2/\D.cell? J=some v3/\D.cell? F=some v4/\D.cell? G=some v5/\D.cell? O=some v6/\D.cell? U=some I/\D.cell? X=some v8/\D.cell? Y=some v9/\D.cell? H=some N/\D.cell? R=some L :=
  ⟨cL hb h0,cL hb h1,cL hb h2,cL hb h3,cL hb h4,cL hb h5,cL hb h6,cL hb h7,cL hb h8,cL hb h9,cL hb E,cL hb aa⟩
def cLs14 {W D:Ad} {p0 p1 p2 J F G O U X Y H R Z V:Bb} {v0 v1 v2 v3 v4 v5 v6 I v8 v9 N L a8 a9:Ab} (hb:Qb W D) (h0:W.cell? p0=some v0) (h1:W.cell? p1=some v1) (h2:W.cell? p2=some v2) (h3:W.cell? J=some v3) (h4:W.cell? F=some v4) (h5:W.cell? G=some v5) (h6:W.cell? O=some v6) (h7:W.cell? U=some I) (h8:W.cell? X=some v8) (h9:W.cell? Y=some v9) (E:W.cell? H=some N) (aa:W.cell? R=some L) (be:W.cell? Z=some a8) (o:W.cell? V=some a9):D.cell? p0=some v0/\D.cell? p1=some v1/\D.cell? p2=some v2/\D.cell? J=some v3/\D.cell? F=some v4/\D.cell? G=some v5/\D.cell? O=some v6/\D.cell? U=some I/\D.cell? X=some v8/\D.cell? Y=some v9/\D.cell? H=some N/\D.cell? R=some L/\D.cell? Z=some a8/\D.cell? V=some a9 :=
  ⟨cL hb h0,cL hb h1,cL hb h2,cL hb h3,cL hb h4,cL hb h5,cL hb h6,cL hb h7,cL hb h8,cL hb h9,cL hb E,cL hb aa,cL hb be,cL hb o⟩
def cLs16 {W D:Ad} {p0 p1 p2 J F G O U X Y H R Z V ab ac:Bb} {v0 v1 v2 v3 v4 v5 v6 I v8 v9 N L a8 a9 ae ad:Ab} (hb:Qb W D) (h0:W.cell? p0=some v0) (h1:W.cell? p1=some v1) (h2:W.cell? p2=some v2) (h3:W.cell? J=some v3) (h4:W.cell? F=some v4) (h5:W.cell? G=some v5) (h6:W.cell? O=some v6) (h7:W.cell? U=some I) (h8:W.cell? X=some v8) (h9:W.cell? Y=some v9) (E:W.cell? H=some N) (aa:W.cell? R=some L) (be:W.cell? Z=some a8) (o:W.cell? V=some a9) (ag:W.cell? ab=some ae) (af:W.cell? ac=some ad):D.cell? p0=some v0/\D.cell? p1=some v1/\D.cell? p2=some v2/\D.cell? J=some v3/\D.cell? F=some v4/\D.cell? G=some v5/\D.cell? O=some v6/\D.cell? U=some I/\D.cell? X=some v8/\D.cell? Y=some v9/\D.cell? H=some N/\D.cell? R=some L/\D.cell? Z=some a8/\D.cell? V=some a9/\D.cell? ab=some ae/\D.cell? ac=some ad :=
  ⟨cL hb h0,cL hb h1,cL hb h2,cL hb h3,cL hb h4,cL hb h5,cL hb h6,cL hb h7,cL hb h8,cL hb h9,cL hb E,cL hb aa,cL hb be,cL hb o,cL hb ag,cL hb af⟩
end Go.Proofs.YtjhfdpopkkmigaaGreat

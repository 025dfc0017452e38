/-
  Data that is valid.
-/
import Derived.Test.YthocbplmdjkifaaGreatLoop
import Derived.Test.YthocbplmdjkifaaGreatAddQ
set_option linter.unusedVariables false
set_option linter.defProp false
set_option linter.unusedSimpArgs false
set_option linter.unnecessarySimpa false
set_option maxRecDepth 100000
set_option maxHeartbeats 4000000
open Bool renaming true->Tt,false->Ff
open List renaming pairwise_iff_getElem->Aa,getElem_mem->Ab,mem_singleton->Ac,length_append->Ae,append_assoc->Ag,mem_or_eq_of_mem_set->Ak,mem_append->Al,take_succ_eq_append_getElem->Am,mem_take_iff_getElem->Bb,getElem?_cons_succ->Bi,getElem?_cons_zero->Bj,mem_of_mem_drop->Br,pairwise_append->Bt,getElem_of_mem->Bz,mem_cons->Ca,length_cons->Cf,take_length->Ch
open _root_ renaming List->Ad,ByteArray->Bl,UInt8->Bv
open Go renaming World->Ah,Value->Cb,Calls->Cc,TypeId->Ce
open Bool renaming or_eq_false_iff->Ai,and_eq_true->Aq,true_and->Ar,not_false->Ay,and_false->Az,false_and->Ba,not_true->Bd,and_true->Be,or_false->Bf,false_or->Bg,or_true->Bn,true_or->Bo,not_not->Bq
open Go.IntKind renaming i64->Aj,wrap_u8'->Cg
open Go.Proofs.Tryz renaming underlying22->Ap
open Go.IntWalk renaming i64_in->Au
open Int renaming tmod_eq_emod_of_nonneg->Av,eq_ofNat_of_zero_le->Bh
open UInt8 renaming toNat_ofNat'->Aw,ofNat->Bc
open Go.RowKit renaming intOf->Bu
open Go.Value renaming int->Bw
namespace Go.Proofs.YthocbplmdjkifaaGreat
open Go.RowKit _root_.Go.Proofs.Tryz
def okR (r:kV):Prop:=inR r.1 0 6=true/\inR r.2.1 0 1000000=true
def rising (l:Ad kV):Prop:=l.Pairwise (λa b=>a.1 < b.1)
def kZd {l:Ad kV}:kNn l=true↔0 < l.length/\(∀ r∈l,okR r)/\rising l:=by
 unfold kNn;rw [Aq,decide_eq_true_iff,kUa];constructor
 · rintro ⟨h,h0⟩;have hk:∀ k (hk:k < l.length),okR l[k]/\(0 < k->(l[k - 1]'bF2).1 < l[k].1):=by
    intro k hk;have q:=h k hk;rw [jb hk] at q;by_cases k0:0 < k
    · rw [kPl k0 rfl bF2] at q;unfold okA at q;simp at q;exact ⟨⟨q.1.1,q.1.2⟩,λ_=>by omega⟩
    rw [kMi k0] at q;unfold okA0 at q;simp at q;exact ⟨⟨q.1,q.2⟩,λh=>absurd h k0⟩
   refine ⟨h0,λr hr=>?_,kRg (λa b c h1 h2=>by omega) (λk ce=>?_)⟩
   · obtain ⟨k,hkl,rfl⟩:=Bz hr;exact (hk k hkl).1
   have:=(hk (k + 1) ce).2 bF2;simpa using this
 rintro ⟨h0,h1,h2⟩;refine ⟨λk hk=>?_,h0⟩;rw [jb hk];have a:=h1 _ (Ab hk);by_cases k0:0 < k
 · rw [kPl k0 rfl bF2];have b:=Aa.1 h2 (k - 1) k bF2 hk bF2;unfold okA;simp [a.1,a.2];omega
 rw [kMi k0];unfold okA0;simp [a.1,a.2]
def okP (p:kF):Prop:=zx p.1=true/\p.1≠[]/\kNn p.2.1=true/\inR p.2.2 0 100000=true
def kRy {n:ko} {p:kF}:jV n p=true↔p.1=n:=by unfold jV eqN;simp
def jEi {n:ko} {p:kF}:jV n p=false↔p.1≠n:=by unfold jV eqN;simp
def jAj {l:Ad kF} {k:Nat} {x:kF}:kCx l k x=true↔okP x/\∀ y∈l.take k,y.1≠x.1:=by
 have h:(decide (idxOf (jV x.1) (l.take k) ≥ 0)=false)↔∀ y∈l.take k,y.1≠x.1:=by
  rw [decide_eq_false_iff_not,show (¬ idxOf (jV x.1) (l.take k) ≥ 0)↔idxOf (jV x.1) (l.take k) < 0 by omega,kLk];simp only [jEi]
 have h0:(((x.1.length:Int)==0)=false)↔x.1≠[]:=by
  rw [beq_eq_false_iff_ne];cases x.1 <;> simp;omega
 unfold kCx okP;rw [Bool.not_eq_true',Ai,Ai,Ai,Ai,h,h0];simp only [Bool.not_eq_false'];constructor
 · rintro ⟨⟨⟨⟨a,b⟩,c⟩,d⟩,e⟩;exact ⟨⟨a,b,c,d⟩,e⟩
 rintro ⟨⟨a,b,c,d⟩,e⟩;exact ⟨⟨⟨⟨a,b⟩,c⟩,d⟩,e⟩
def kIf {l:Ad kF}:kDf l=true↔l.length<=12/\(∀ p∈l,okP p)/\l.Pairwise (λa b=>a.1≠b.1):=by
 unfold kDf;rw [Aq,decide_eq_true_iff,kUa];constructor
 · rintro ⟨h,h0⟩;have hk:∀ k (hk:k < l.length),okP l[k]/\∀ y∈l.take k,y.1≠l[k].1:=by
    intro k hk;have q:=h k hk;rw [jb hk] at q;exact jAj.1 q
   refine ⟨h0,λp hp=>?_,Aa.2 (λi j hi I E=>?_)⟩
   · obtain ⟨k,hkl,rfl⟩:=Bz hp;exact (hk k hkl).1
   exact (hk j I).2 _ (Bb.2 ⟨i,by omega,rfl⟩)
 rintro ⟨h0,h1,h2⟩;refine ⟨λk hk=>?_,h0⟩;rw [jb hk];refine jAj.2 ⟨h1 _ (Ab hk),λy hy=>?_⟩;exact o9
def kUy {f:Int} {l:Ad kV} {r:kV} (h:r∈zT f l):r∈l/\r.1≠f:=by
 unfold zT at h;simpa using h
def putR_mem {a r:kV} {l:Ad kV} (h:r∈kLc a l):r=a\/r∈l:=by
 obtain ⟨i,hi,e,_⟩:=kTf a l;rw [e] at h;rcases Al.1 h with h | h
 · exact .inr (kUy (List.mem_of_mem_take h)).1
 rcases Ca.1 h with h | h
 · exact .inl h
 exact .inr (kUy (Br h)).1
def jDw {a:kV} {l:Ad kV}:a∈kLc a l:=by
 obtain ⟨i,hi,e,_⟩:=kTf a l;rw [e];simp
def kWq {a:kV} {l:Ad kV} (h:rising l):rising (kLc a l):=by
 obtain ⟨i,hi,e,D⟩:=kTf a l;have h1:rising (zT a.1 l):=h.sublist List.filter_sublist;have F:∀ r∈(zT a.1 l).take i,r.1 < a.1:=by
  intro r hr;obtain ⟨j,I,rfl⟩:=Bb.1 hr;rcases D with ⟨q,rfl⟩ | q
  · have:=kLk.1 (show idxOf (λr:kV=>decide (a.1<=r.1)) (zT a.1 l) < 0 by omega) _ (Ab (show j < (zT a.1 l).length by omega));simp at this;exact this
  obtain ⟨hk,_,hq⟩:=kEu q;have:=hq j bF2;simp at this;exact this
 have E:∀ r∈(zT a.1 l).drop i,a.1 < r.1:=by
  intro r hr;obtain ⟨j,I,rfl⟩:=List.mem_drop_iff_getElem.1 hr;rcases D with ⟨q,rfl⟩ | q
  · omega
  obtain ⟨hk,hp,_⟩:=kEu q;have hp:a.1<=((zT a.1 l)[i]).1:=bC3;have hne:=(kUy (Ab hk)).2;by_cases o:j=0
  · subst o;simp only [Nat.add_zero] at *;omega
  have:=Aa.1 h1 i (i + j) hk bF2 bF2;omega
 unfold rising;rw [e];refine Bt.2 ⟨h1.sublist (List.take_sublist _ _),List.pairwise_cons.2 ⟨E,h1.sublist (List.drop_sublist _ _)⟩,λx hx y hy=>?_⟩;have h2:=F x hx;rcases Ca.1 hy with rfl | hy
 · exact h2
 have:=E y hy;omega
def putR_good {a:kV} {l:Ad kV} (ha:okR a) (h:kNn l=true):kNn (kLc a l)=true:=by
 obtain ⟨h0,h1,h2⟩:=kZd.1 h;refine kZd.2 ⟨List.length_pos_of_mem jDw,λr hr=>?_,kWq h2⟩;rcases putR_mem hr with rfl | hr
 · exact ha
 exact h1 r hr
def jGm {x:jE} {f:Int} {l:Ad kF} (h:yY x f l=true):kEl x=true/\inR f 0 6=true/\(idxOf (jV x.1) l < 0->l.length < 12):=by
 have hl:=λq=>kSk h q;unfold yY at h;simp at h;exact ⟨h.1.1,h.1.2,hl⟩
def jFw {x:jE} (h:kEl x=true):zx x.1=true/\x.1≠[]/\inR x.2.1 0 1000000=true/\inR x.2.2.1 0 16=true/\inR x.2.2.2 1 20=true:=by
 unfold kEl at h;simp only [Aq,decide_eq_true_eq] at h;obtain ⟨⟨⟨⟨a,b⟩,c⟩,d⟩,e⟩:=h;refine ⟨a,?_,c,d,e⟩;intro q;rw [q] at b;simp at b
def kVr {x:jE} {f t:Int} {l:Ad kF} (h:yY x f l=true) :
    (idxOf (jV x.1) l < 0/\kDv x f t l=l++[(x.1,[kHn x f t],0)])\/∃ k,∃ hk:k < l.length,idxOf (jV x.1) l=k/\l[k].1=x.1/\kDv x f t l=l.set k (l[k].1,kLc (kHn x f t) l[k].2.1,l[k].2.2):=by
 by_cases hi:idxOf (jV x.1) l < 0
 · exact .inl ⟨hi,(kUc h hi).1⟩
 obtain ⟨k,hkl,ad⟩:=zn hi
 obtain ⟨_,hp,_⟩:=kEu ad
 exact .inr ⟨k,hkl,ad,kRy.1 hp,(kUb h ad hkl).1⟩
def jBt {x:jE} {f t:Int} {l:Ad kF} (h:yY x f l=true) (V:kDf l=true):kDf (kDv x f t l)=true:=by
 obtain ⟨hw,hf,hlen⟩:=jGm h;obtain ⟨o,w0,wc,_,_⟩:=jFw hw;obtain ⟨v0,v1,v2⟩:=kIf.1 V;have hr:okR (kHn x f t):=⟨hf,wc⟩;rcases kVr (t:=t) h with ⟨hi,e⟩|⟨k,hk,hi,hn,e⟩
 · rw [e];refine kIf.2 ⟨by have:=hlen hi;simp;omega,λp hp=>?_,?_⟩
   · rcases Al.1 hp with hp | hp
     · exact v1 p hp
     obtain rfl:=Ac.1 hp;refine ⟨o,w0,kZd.2 ⟨by simp,λr q=>?_,?_⟩,by simp [inR]⟩
     · rw [Ac.1 q];exact hr
     unfold rising;simp
   refine Bt.2 ⟨v2,by simp,λa ha b hb=>?_⟩;rw [Ac.1 hb];exact jEi.1 (kLk.1 hi a ha)
 rw [e];refine kIf.2 ⟨by simpa using v0,λp hp=>?_,?_⟩
 · rcases Ak hp with hp | rfl
   · exact v1 p hp
   obtain ⟨a,b,c,d⟩:=v1 _ (Ab hk);exact ⟨a,b,putR_good hr c,d⟩
 refine Aa.2 (λi j hi I E=>?_);have q:=Aa.1 v2 i j (by simpa using hi) bD7 E;rw [List.getElem_set,List.getElem_set];split <;> split <;> simp_all
def addQ_at {x:jE} {f t:Int} {l:Ad kF} (h:yY x f l=true) :
    ∃ k,∃ hk:k < (kDv x f t l).length,idxOf (jV x.1) (kDv x f t l)=k/\(kDv x f t l)[k].1=x.1/\kHn x f t∈(kDv x f t l)[k].2.1:=by
 rcases kVr (t:=t) h with ⟨hi,e⟩|⟨k,hk,hi,hn,e⟩
 · rw [e];refine ⟨l.length,by simp,idxOf_hit bF3 (by simp [kRy]) (λj I bb=>?_),by simp,by simp⟩;rw [List.getElem_append_left I];exact kLk.1 hi _ (Ab I)
 rw [e]
 obtain ⟨_,hp,hq⟩:=kEu hi
 refine ⟨k,by simpa using hk,idxOf_hit bC2 (by simp [kRy,hn]) (λj I bb=>?_),by simp [hn],by simp [jDw]⟩
 rw [List.getElem_set_ne bF2]
 exact hq j I
def jEw {x:jE} {f t:Int} {l:Ad kF} (h:yY x f l=true) (s:Ad jK):kHo x (kDv x f t l) s=true:=by
 obtain ⟨k,hk,e,hn,hm⟩:=addQ_at (t:=t) h;unfold kHo;rw [Bool.or_eq_true];refine .inl (kPq hk ?_);unfold kEt eqN;simp only [hn,decide_true,Ar,List.any_eq_true];exact ⟨_,hm,by simp [kJk,kHn]⟩
def kWv (o:Ad kV):Prop:=rising o/\∀ r∈o,r.2.1 < 100\/1000000 < r.2.1
def goodR_nil:kWv []:=⟨List.Pairwise.nil,λr h=>by simp at h⟩
def kVp {r:kV} (h:r.2.1 < 100\/1000000 < r.2.1):kWv [r]:=⟨List.pairwise_singleton _ _,λq hq=>by rw [Ac.1 hq];exact h⟩
def goodR_put {r:kV} {o:Ad kV} (h:r.2.1 < 100) (hr:kWv o):kWv (kLc r o) :=
  ⟨kWq hr.1,λq hq=>by rcases putR_mem hq with rfl | hq;exact .inl h;exact hr.2 q hq⟩
def kAo (l:Ad kF) (m:Nat):Prop:=l.length<=m/\∀ y∈l,y.2.1.length<=m/\kWv y.2.1/\zO y.1
def kAo.mono {l:Ad kF} {m k:Nat} (h:kAo l m) (hk:m<=k):kAo l k:=⟨Nat.le_trans h.1 hk,λy hy=>⟨Nat.le_trans (h.2 y hy).1 hk,(h.2 y hy).2⟩⟩
def jBu {x:jE} {f t:Int} {l:Ad kF} {m:Nat} (hn:x.2.1 < 100) (hx:zO x.1) (h:kAo l m):kAo (kDv x f t l) (m + 1):=by
 cases hk:yY x f l
 · rw [(kPs hk).1];have:=h.1;exact ⟨by omega,λy hy=>⟨Nat.le_succ_of_le (h.2 y hy).1,(h.2 y hy).2⟩⟩
 by_cases hi:idxOf (jV x.1) l < 0
 · rw [(kUc (t:=t) hk hi).1];refine ⟨by have:=h.1;simp;omega,λy hy=>?_⟩;rcases Al.1 hy with hy | hy
   · exact ⟨Nat.le_succ_of_le (h.2 y hy).1,(h.2 y hy).2⟩
   obtain rfl:=Ac.1 hy;exact ⟨by simp,kVp (.inl hn),hx⟩
 obtain ⟨k,hkl,ad⟩:=zn hi;rw [(kUb (t:=t) hk ad hkl).1];refine ⟨by have:=h.1;simp;omega,λy hy=>?_⟩;rcases Ak hy with hy | rfl
 · exact ⟨Nat.le_succ_of_le (h.2 y hy).1,(h.2 y hy).2⟩
 have h1:=kOd (kHn x f t) l[k].2.1;have h2:=h.2 _ (Ab hkl);refine ⟨?_,goodR_put hn h2.2.1,h2.2.2⟩;show (kLc (kHn x f t) l[k].2.1).length<=m + 1;omega
def kRk {l:Ad jK} {n:ko} {x:Int}:(zX l n x).length<=max l.length 24:=by
 unfold zX;split
 · simp;omega
 simp at *;omega
def kHd (s:Ad jK):Prop:=s.length<=24/\∀ y∈s,y.2 < 100
def smallS_nil:kHd []:=⟨by simp,λy h=>by simp at h⟩
def smallS_snoc {s:Ad jK} {ps:ko} {x:Int} (h:kHd s) (hl:s.length < 24) (hx:x < 100):kHd (s++[(ps,x)]):=by
 refine ⟨by simp;omega,λy hy=>?_⟩;rcases Al.1 hy with hy | hy
 · exact h.2 y hy
 rw [Ac.1 hy];exact hx
def smallS_add {s:Ad jK} {ps:ko} {x:Int} (h:kHd s) (hx:x < 100):kHd (zX s ps x):=by
 refine ⟨by have h1:=kRk (l:=s) (n:=ps) (x:=x);have:=h.1;omega,λy hy=>?_⟩;have:y∈s++[(ps,x)]:=by
  unfold zX at hy;split at hy
  · exact Br hy
  exact hy
 rcases Al.1 this with hy | hy
 · exact h.2 y hy
 rw [Ac.1 hy];exact hx
def sentP_small {n:ko} {t:Int} {l:Ad kF} {m:Nat} (h:kAo l m):kAo (kHm n t l) m:=by
 by_cases hi:idxOf (jV n) l < 0
 · rw [kKz hi];exact h
 obtain ⟨k,hkl,ad⟩:=zn hi;rw [kHy ad hkl];refine ⟨by have:=h.1;simp;omega,λy hy=>?_⟩;rcases Ak hy with hy | rfl
 · exact h.2 y hy
 exact show l[k].2.1.length<=m/\kWv l[k].2.1/\zO l[k].1 from h.2 _ (Ab hkl)
def jCi {w0 w:Ah} {p:Nat} (hc:ym w0 w p) :
    Cc prog 119 #[.pointer (some ⟨p,0,none⟩)] w λe w'=>∃ a n c l,e=.returned (.slice a n c)/\n=l.length/\kAo l 8/\(kD.slice 107 kH).own w' [.slice a n c] l (jg w w')/\ym w0 w' p/\Touch (λk=>k=p) w w':=by
 go_enter func119,ntmps119
 obtain ⟨bh,br⟩:=hc.lt
 go_upto_region 2 with fail
 refine ja ?_
 intro w1 E_ _ bj
 replace hc:=hc.below E_
 have O:Touch (λk=>k=p) w w1:=Touch.of_below E_
 clear E_
 go_wp2_with fail
 refine (kZ (n:=8) hc bF1).mono ?_
 rintro e w2 ⟨x,ai,L,bf,rfl,F,D⟩
 have bw:=D.size
 replace O:=O.trans D
 clear hc D
 have hc:=F
 clear F
 replace L:=L bF1
 clear bf
 obtain ⟨m,rfl⟩:=Bh ai
 go_wp2
 go_loopw [3,4] (λv i wr=>∃ (j k:Nat) (a:Option Addr) (n c:Nat) (l:Ad kF),v=.slice a n c/\i=.int .i64 j/\j + k<=8/\Hid (n=l.length)/\Hid (kAo l k)/\Hid ((kD.slice 107 kH).own wr [.slice a n c] l (jg w wr))/\w2.heap.size<=wr.heap.size/\ym w0 wr p/\Touch (λk=>k=p) w wr) (λ_ i _=>(Bu i).toNat)
 case atStart=>exact ⟨m,0,_,0,0,[],rfl,rfl,by omega,yD rfl,yD ⟨Nat.le_refl _,by simp⟩,yD kD.yF,Nat.le_refl _,hc,O⟩
 clear hc O
 obtain ⟨j,k,a,n,c,l,rfl,rfl,I,Y,ac,J,ch,hc,O⟩:=hrel
 cases j with
 | zero =>
   have ef:¬ (0:Int) < (0:Nat):=bF2;go_wp2;refine bodyPost_ret (v:=.slice a n c) (by simp [results,results119,go_sem]) rfl ⟨a,n,c,rfl,l,Y.out,ac.out.mono bF2,J.out,hc,O⟩
 | succ j =>
   have c9:(0:Int) < (j:Int) + 1:=bF2;replace J:=yD (J.out.wide (T:=λq=>w.heap.size<=q/\q < wr.heap.size) (λ_ h=>h));have hkl:k<=7:=bF2;go_wp2_with fail;refine (kHs hc).mono ?_;rintro e w6 ⟨ia,ic,ps,nn,X,nt,rfl,R,bu,hn,hh,ht,F,D⟩;have df:=D.size;obtain ⟨J,O⟩:=uS;clear hc D;have hc:=F;clear F;have fx:=yD bu;have HI:=yD ((jGa (n:=nn) R bF2 hh ht).wide (T:=λq=>wr.heap.size<=q/\q < w6.heap.size) (λ_ h=>h));have o:=yD (R.wide (T:=λq=>wr.heap.size<=q/\q < w6.heap.size) (λ_ h=>h));clear R;go_upto_region 6 with fail;refine ja ?_;intro w7 aw B eo;replace J:=yD (J.out.below aw);replace HI:=yD (HI.out.below aw);replace o:=yD (o.out.below aw);replace hc:=hc.below aw;replace O:=O.trans (Touch.of_below aw);clear aw;have FX:=yD (λ(W:Ah) (hW:Touch (λk=>k=p) w7 W/\ym w0 W p)=>And.intro (kE (hW.1.kC B bF2) (j:=0) (v:=Qs ia ps ic) rfl) (And.intro (kE (hW.1.kC B bF2) (j:=1) (v:=.int .i64 nn) rfl) (And.intro (kE (hW.1.kC B bF2) (j:=2) (v:=.int .i64 X) rfl) (kE (hW.1.kC B bF2) (j:=3) (v:=.int .i64 nt) rfl))));refine yT (λW=>Touch (λk=>k=p) w7 W/\ym w0 W p) [(0,true),(1,true),(2,true),(4,true),(3,false),(5,false),(6,true),(7,false),(8,true),(9,true),(10,true),(11,true)] bE5 bE5 qW (⟨Touch.of_below bR.drew,hc.below bR.drew⟩) ?_;intro wS E;simp only [jG,Bi,Bj,List.map_cons,List.map_nil];iterate 4
    refine kS ?_
   refine ku rfl (λK H=>?_);go_simp;refine (kZ (n:=4) E.2 bF1).mono ?_;rintro e wS1 ⟨x,ai,L,bf,rfl,av,ap⟩;replace L:=L bF1;clear bf;replace E:=And.intro (E.1.trans ap) av;clear av ap;refine H _ _ E ?_;clear H K;refine jH ?_;refine ku rfl (λK H=>?_);go_simp;refine (kZ (n:=10) E.2 bF1).mono ?_;rintro e wS1 ⟨y,ao,a4,b7,rfl,av,ap⟩;replace a4:=a4 bF1;clear b7;replace E:=And.intro (E.1.trans ap) av;clear av ap;have hw:Aj.wrap (40 + y)=40 + y:=Au _ bF2;refine H _ _ E ?_;clear H K;refine jH ?_;refine kS ?_;refine ku rfl (λK H=>?_);go_simp;refine (kEk ((J.out.touch E.1 qV).rd) (λy hy=>Nat.le_trans (ac.out.2 y hy).1 bF2) (HI.out.touch E.1 qV).rd bF2 bF2).mono ?_;rintro e be ⟨v2,rfl,O2,V⟩;have d1:=E.1.size;have bx:=V.size;replace E:=And.intro (E.1.trans (Touch.of_below V)) (E.2.below V);have ab:=yD O2;refine H _ _ E ?_;clear H K V O2;refine jH ?_;iterate 4
    refine kS ?_
   refine kM ?_;obtain ⟨l2,bg⟩:∃ l2,kDv (ps,nn,X,nt) x (40 + y) l=l2:=⟨_,rfl⟩;rw [bg] at ab;have N:=yD (show kAo l2 (k + 1) from bg ▸ jBu (show nn < 100 by omega) fx.out.2 ac.out);clear bg HI J;obtain ⟨a2,c2,rfl,_⟩:=kD.sl ab.out.raw;rename Ah=>w8;have d9:=E.1.size;have F:=E.2;have D:=E.1;clear E;replace B:=D.kC B bF2;replace o:=yD (o.out.touch D qV);replace O:=O.trans D;clear hc D;have hc:=F;clear F;replace ab:=yD (ab.out.wide (T:=λq=>w.heap.size<=q/\q < w8.heap.size) sO);go_wp2_with fail;refine (yw (n:=2) hc bF1).mono ?_;rintro e w9 ⟨b,rfl,F,D⟩;have et:=D.size;replace B:=D.kC B bF2;replace o:=yD (o.out.touch D qV);replace ab:=yD (ab.out.touch D qV);replace O:=O.trans D;clear hc D;have hc:=F;clear F;cases b
   · go_wp2;go_roundw;case rel=>exact ⟨j,k + 1,a2,l2.length,_,l2,rfl,by go_num,by omega,yD rfl,N,yD (ab.out.wide sS),by omega,hc,O⟩
     case measure=>first|(simp [Bu];done)|(simp [Bu];omega)
   · go_upto_region 8 with fail;have FX:=yD (λ(W:Ah) (hW:Touch (λk=>k=p) w9 W/\ym w0 W p)=>And.intro (kE (hW.1.kC B bF2) (j:=0) (v:=Qs ia ps ic) rfl) (And.intro (kE (hW.1.kC B bF2) (j:=1) (v:=.int .i64 nn) rfl) (And.intro (kE (hW.1.kC B bF2) (j:=2) (v:=.int .i64 X) rfl) (kE (hW.1.kC B bF2) (j:=3) (v:=.int .i64 nt) rfl))));refine kK (λW=>Touch (λk=>k=p) w9 W/\ym w0 W p) [Tt,Tt,Tt,Tt,Ff,Tt,Ff,Tt] bE5 bE5 qW (⟨Touch.of_below bR.drew,hc.below bR.drew⟩) ?_;intro wS E;iterate 4
      refine kS ?_
     refine ku rfl (λK H=>?_);go_simp;refine (kZ (n:=12) E.2 bF1).mono ?_;rintro e wS1 ⟨z,a5,bn,ax,rfl,av,ap⟩;replace bn:=bn bF1;clear ax;replace E:=And.intro (E.1.trans ap) av;clear av ap;have hw:Aj.wrap (40 + z)=40 + z:=Au _ bF2;refine H _ _ E ?_;clear H K;refine jH ?_;refine kS ?_;refine ku rfl (λK H=>?_);go_simp;refine (kNy ((ab.out.touch E.1 qV).rd) (cn:=[.slice ia ps.length ic]) ((o.out.touch E.1 qV).rd) bF2).mono ?_;rintro e be ⟨v3,rfl,O3,V⟩;have d1:=E.1.size;have bx:=V.size;replace E:=And.intro (E.1.trans (Touch.of_below V)) (E.2.below V);have aq:=yD O3;refine H _ _ E ?_;clear H K V O3;refine jH ?_;refine kS ?_;refine kM ?_;obtain ⟨l3,f8⟩:∃ l3,kHm ps (40 + z) l2=l3:=⟨_,rfl⟩;rw [f8] at aq;have ae:=yD (show kAo l3 (k + 1) from f8 ▸ sentP_small N.out);clear f8 ab o;obtain ⟨a3,c3,rfl,_⟩:=kD.sl aq.out.raw;rename Ah=>cw;have d8:=E.1.size;have F:=E.2;have D:=E.1;clear E;replace O:=O.trans D;clear hc D;have hc:=F;clear F;have ab:=yD (aq.out.wide (T:=λq=>w.heap.size<=q/\q < cw.heap.size) sO);go_wp2;go_roundw;case rel=>exact ⟨j,k + 1,a3,l3.length,_,l3,rfl,by go_num,by omega,yD rfl,ae,yD (ab.out.wide sS),by omega,hc,O⟩
     case measure=>first|(simp [Bu];done)|(simp [Bu];omega)
def jCh {w0 w:Ah} {p:Nat} (hc:ym w0 w p) :
    Cc prog 177 #[.pointer (some ⟨p,0,none⟩)] w λe w'=>∃ a n c s,e=.returned (.slice a n c)/\n=s.length/\kHd s/\(kD.slice 140 kz).own w' [.slice a n c] s (λq=>w.heap.size<=q/\q < w'.heap.size)/\ym w0 w' p/\Touch (λk=>k=p) w w':=by
 go_enter func177,ntmps177
 obtain ⟨bh,br⟩:=hc.lt
 go_upto_region 2 with fail
 refine ja ?_
 intro w1 E_ _ bj
 replace hc:=hc.below E_
 have O:Touch (λk=>k=p) w w1:=Touch.of_below E_
 clear E_
 go_wp2_with fail
 refine (kZ (n:=5) hc bF1).mono ?_
 rintro e w2 ⟨x,ai,L,bf,rfl,F,D⟩
 have bw:=D.size
 replace O:=O.trans D
 clear hc D
 have hc:=F
 clear F
 replace L:=L bF1
 clear bf
 obtain ⟨m,rfl⟩:=Bh ai
 go_wp2
 go_loopw [3,4] (λv i wr=>∃ (j:Nat) (a:Option Addr) (n c:Nat) (s:Ad jK),v=.slice a n c/\i=.int .i64 j/\j<=4/\Hid (n=s.length)/\Hid (kHd s)/\Hid ((kD.slice 140 kz).own wr [.slice a n c] s (λq=>w.heap.size<=q/\q < wr.heap.size))/\w2.heap.size<=wr.heap.size/\ym w0 wr p/\Touch (λk=>k=p) w wr) (λ_ i _=>(Bu i).toNat)
 case atStart=>exact ⟨m,_,0,0,[],rfl,rfl,by omega,yD rfl,yD smallS_nil,yD kD.yF,Nat.le_refl _,hc,O⟩
 clear hc O
 obtain ⟨j,a,n,c,s,rfl,rfl,I,Y,HL,J,ch,hc,O⟩:=hrel
 cases j with
 | zero =>
   have ef:¬ (0:Int) < (0:Nat):=bF2;go_wp2_with fail;refine (yw (n:=12) hc bF1).mono ?_;rintro e w6 ⟨b,rfl,F,D⟩;have df:=D.size;obtain ⟨J,O⟩:=uS;clear hc D;have hc:=F;clear F;replace J:=yD (J.out.wide (T:=λq=>w.heap.size<=q/\q < w6.heap.size) sS);cases b
   · exact iA
   · go_wp2;go_loopw [3] (λv E=>∃ (a:Option Addr) (n c:Nat) (s:Ad jK),v=.slice a n c/\Hid (n=s.length)/\Hid (kHd s)/\Hid ((kD.slice 140 kz).own E [.slice a n c] s (λq=>w.heap.size<=q/\q < E.heap.size))/\w6.heap.size<=E.heap.size/\ym w0 E p/\Touch (λk=>k=p) w E) (λv _=>match v with | .slice _ n _=>25 - n | _=>0);case atStart=>exact ⟨a,n,c,s,rfl,Y,HL,J,Nat.le_refl _,hc,O⟩
     case round =>
       clear hc O J Y HL;obtain ⟨a,n,c,s,rfl,Y,HL,J,dp,hc,O⟩:=hrel;go_wp2_with fail;refine (kZ (n:=2) hc bF1).mono ?_;rintro e cw ⟨y,ao,a4,b7,rfl,F,D⟩;have d8:=D.size;obtain ⟨J,O⟩:=uS;clear hc D;have hc:=F;clear F;replace a4:=a4 bF1;clear b7;replace J:=yD (J.out.wide (T:=λq=>w.heap.size<=q/\q < cw.heap.size) sS);have hw:Aj.wrap (23 + y)=23 + y:=Au _ bF2;by_cases hlt:(n:Int) < 23 + y
       · have H:n < 24:=bF2;go_wp2_with fail;refine (kZi (s:={ data:=#[47,115] }) bF1).mono ?_;rintro e c6 ⟨na,nc,ps,rfl,hr,ee,hb⟩;have e5:=hb.size;replace J:=yD (J.out.below hb);obtain ⟨hc,O⟩:=uT;clear hb;have HR:=yD (hr.wide (T:=λq=>cw.heap.size<=q/\q < c6.heap.size) (λ_ h=>h));clear hr;have U:-9223372036854775808<=(n:Int)/\(n:Int)<=9223372036854775807:=bF2;go_wp2_with (at_builtin;refine kD.zQ rfl _ _ 29 rfl (r:=kz) (e:=140) underlying29 kFn rfl bF1 bF1 (w:=c6) J.out bR (c:=1) (kD.yQ (r:=kR) (q:=kD.int) (cs:=[.slice na ps.length nc]) (ds:=[.int .i64 n]) (x:=ps) (y:=(n:Int)) HR.out (kD.ky U)) bF4 bF4 qC bB0 ?_);intro v2 dk hQ db;have hT:Touch (λk=>w.heap.size<=k/\k < cw.heap.size) c6 dk:=db.wide (λj q=>q.1);have fg:=hT.size;clear db;obtain ⟨s2,bq⟩:∃ s2,s++[(ps,(n:Int))]=s2:=⟨_,rfl⟩;rw [bq] at hQ;have Z:=yD (show s2.length=s.length + 1 by rw [<- bq];simp);have bp:=yD (show kHd s2 from bq ▸ smallS_snoc HL.out bB0 (show (n:Int) < 100 by omega));clear bq J;obtain ⟨a2,c2,rfl,_⟩:=kD.sl hQ.raw;have ab:=yD (hQ.wide (T:=λq=>w.heap.size<=q/\q < dk.heap.size) bM);clear hQ;have eh:=hc.touch hT vU vB;have b0:=O.kBr hT vB;clear hT hc O;go_wp2;go_roundw;case rel=>exact ⟨a2,s2.length,_,s2,rfl,yD rfl,bp,ab,by omega,eh,b0⟩
         case measure=>have h1:=Z.out;have h2:=Y.out;first | omega|(simp;omega)
       · exact iA
 | succ j =>
   have c9:(0:Int) < (j:Int) + 1:=bF2;replace J:=yD (J.out.wide (T:=λq=>w.heap.size<=q/\q < wr.heap.size) (λ_ h=>h));go_wp2_with fail;refine (kHs hc).mono ?_;rintro e w6 ⟨ia,ic,ps,nn,X,nt,rfl,R,bu,hn,hh,ht,F,D⟩;have df:=D.size;obtain ⟨J,O⟩:=uS;clear hc D;have hc:=F;clear F;have o:=yD (R.wide (T:=λq=>wr.heap.size<=q/\q < w6.heap.size) (λ_ h=>h));clear R;go_upto_region 6 with fail;refine ja ?_;intro w7 aw B eo;replace J:=yD (J.out.below aw);replace o:=yD (o.out.below aw);replace hc:=hc.below aw;replace O:=O.trans (Touch.of_below aw);clear aw;obtain ⟨aq,av,ag,N⟩:=jW B;go_wp2_with fail;refine (kIl J.out.rd (by have:=HL.out.1;omega) (cn:=[.slice ia ps.length ic]) o.out.rd bF2).mono ?_;rintro e w8 ⟨v2,rfl,O2,hb⟩;have d9:=hb.size;obtain ⟨hc,O⟩:=uT;clear aq av ag N hb;obtain ⟨s2,bq⟩:∃ s2,zX s ps nn=s2:=⟨_,rfl⟩;rw [bq] at O2;have Z:=yD (show kHd s2 from bq ▸ smallS_add HL.out (show nn < 100 by omega));clear bq;obtain ⟨a2,c2,rfl,_⟩:=kD.sl O2.raw;have ab:=yD (O2.wide (T:=λq=>w.heap.size<=q/\q < w8.heap.size) sO);go_wp2;go_roundw;case rel=>exact ⟨j,a2,s2.length,_,s2,rfl,by go_num,by omega,yD rfl,Z,ab,by omega,hc,O⟩
   case measure=>first|(simp [Bu];done)|(simp [Bu];omega)
structure SR (cw w:Ah) (p R:Nat) (t:Ce) (n:Nat) (W:Ah):Prop where
  touch:Touch (λk=>k=p\/k=R) w W
  cur:ym cw W p
  row:∃ l:Ad Cb,l.length=n/\W.heap[R]?=some (.cells l.toArray t (0,0))
section
variable {cw w W W':Ah} {p R n:Nat} {t:Ce}
def SR.go (h:SR cw w p R t n W) (ht:Touch (λk=>k=p) W W') (hc:ym cw W' p) (hne:¬ R=p):SR cw w p R t n W':=by
 obtain ⟨l,hl,hr⟩:=h.row;exact ⟨h.touch.trans (ht.wide (λk q=>.inl q)),hc,l,hl,ht.kC hr hne⟩
def SR.below (h:SR cw w p R t n W) (b:Qb W W'):SR cw w p R t n W':=by
 obtain ⟨l,hl,hr⟩:=h.row;exact ⟨h.touch.trans (Touch.of_below b),h.cur.below b,l,hl,kC hr b⟩
def SR.set (h:SR cw w p R t n W) (hne:¬ R=p) (h0:cw.heap.size<=R) (j:Nat) (v:Cb):SR cw w p R t n (W.setCell ⟨R,j,none⟩ v):=by
 obtain ⟨l,hl,hr⟩:=h.row;refine ⟨h.touch.trans ((jm W R j v).wide (λk q=>.inr q)),h.cur.touch (jm W R j v) (λq=>hne q.symm) (λk q=>q ▸ h0),(l.toArray.setIfInBounds j v).toList,by simpa using hl,?_⟩;have:=kG (v:=v) hr j;simpa using this
end
def DrawnW (w0 w:Ah) (p:Nat) (e:Ending) (w':Ah):Prop:=∃ a c ps n h t,e=.returned (.agg (Qk a ps c n h t))/\kR.own w' [Qs a ps c] ps (jg w w')/\(ps.length<=65/\zO ps)/\(0<=n/\n<=11)/\(0<=h/\h<=4)/\(1<=t/\t<=8)/\ym w0 w' p/\Touch (λk=>k=p) w w'
def kQv {w0 w:Ah} {p:Nat} (hc:ym w0 w p) :
    Cc prog 91 #[.pointer (some ⟨p,0,none⟩)] w λe w'=>DrawnW w0 w p e w':=by
 go_enter func91,ntmps91
 obtain ⟨bh,br⟩:=hc.lt
 go_upto_region 1 with fail
 refine ja ?_
 intro w1 ar R bj
 obtain ⟨hc,O⟩:=uZ
 clear ar
 go_wp2_with fail
 refine (kAn (hc.below (bR.alloc nL _)) (kD.kBs _ [{ data:=#[47,97] },{ data:=#[47,98] }] bF1 bF1) bF2 bF1 bF1).mono ?_
 rintro e w2 ⟨y,bd,bv,rfl,F,D⟩
 replace D:=(Touch.of_below (S:=λk=>k=p) (bR.alloc nL _)).trans D
 obtain ⟨bw,R,O⟩:=y8
 clear hc D
 have hc:=F
 clear F
 go_wp2_with fail
 refine (yz (kD.kDd bF1 bd)).mono ?_
 rintro e w3 ⟨za,zc,zs,rfl,hr,dp,hzs,hb⟩
 have bz:=hb.size
 replace R:=kC R hb
 obtain ⟨hc,O⟩:=uT
 clear hb
 have HZ:=yD (hr)
 clear hr bd bv
 go_wp2_with fail
 refine (kAn (hc.below (bR.alloc nL _)) (kD.kBs _ [{ data:=#[49] },{ data:=#[50] },{ data:=#[120,45,49] }] bF1 bF1) bF2 bF1 bF1).mono ?_
 rintro e w4 ⟨y2,bd,bv,rfl,F,D⟩
 obtain ⟨D,b5⟩:=FB
 replace R:=D.kC R bF2
 replace HZ:=yD (HZ.out.touch D qV)
 replace O:=O.trans D
 clear hc D
 have hc:=F
 clear F
 have b7:=kD.kDd bF1 bd
 clear bd bv
 go_wp2_with fail
 refine (kDm (cn:=[.slice za zs.length zc]) HZ.out.rd (s:=y2) bF2 bB1).mono ?_
 rintro e w5 ⟨a,nn,c,b2,rfl,ag,bu,hb⟩
 have b4:=hb.size
 replace R:=kC R hb
 obtain ⟨hc,O⟩:=uT
 clear hb
 have b8:(if b2 then zs++[y2] else zs).length<=65:=dH
 have o:Hid (zO (if b2 then zs++[y2] else zs)):=yD (by split;exact hzs.snoc b7;exact hzs)
 clear hzs
 generalize (if b2 then zs++[y2] else zs)=ps at *
 obtain ⟨_,_,_,bp,bo⟩:=bu.parts
 simp only [Value.slice.injEq] at bp
 have co:=bp.2.1.trans bo.out
 clear bp bo ag
 subst co
 have ce:=bu.own bB1
 have J:=yD (ce)
 clear HZ bu ce
 go_upto_region 2 with fail
 refine ja ?_
 intro w6 au B df
 replace R:=kC R au
 replace J:=yD (J.out.below au)
 obtain ⟨hc,O⟩:=BP
 clear au
 have FX:=yD (λ(W:Ah) (hW:Touch (λk=>k=p) w6 W/\ym w0 W p)=>kE (hW.1.kC B bF2) (j:=0) (v:=Qs a ps c) rfl)
 refine je (λW=>Touch (λk=>k=p) w6 W/\ym w0 W p) [(0,true),(1,true),(3,true),(5,true),(2,false),(4,false),(6,false),(7,true),(8,true)] bE5 bE5 qW (⟨Touch.of_below bR.drew,hc.below bR.drew⟩) ?_
 intro wS E
 simp only [jG,Cf,List.length_nil,Bi,Bj,List.map_cons,List.map_nil,List.cons_append,List.nil_append,List.drop_succ_cons,List.drop_zero]
 iterate 4
  refine kS ?_
 refine ku rfl (λK H=>?_);go_simp;refine (kZ (n:=12) E.2 bF1).mono ?_;rintro e wS1 ⟨x,ai,L,bf,rfl,av,ap⟩;replace L:=L bF1;clear bf;replace E:=And.intro (E.1.trans ap) av;clear av ap;refine H _ _ E ?_;clear H K
 refine jH ?_
 refine ku rfl (λK H=>?_);go_simp;refine (kZ (n:=5) E.2 bF1).mono ?_;rintro e wS1 ⟨y,ao,a4,b7,rfl,av,ap⟩;replace a4:=a4 bF1;clear b7;replace E:=And.intro (E.1.trans ap) av;clear av ap;refine H _ _ E ?_;clear H K
 refine jH ?_
 refine ku rfl (λK H=>?_);go_simp;refine (kZ (n:=8) E.2 bF1).mono ?_;rintro e wS1 ⟨z,a5,bn,ax,rfl,av,ap⟩;replace bn:=bn bF1;clear ax;replace E:=And.intro (E.1.trans ap) av;clear av ap;have hw:Aj.wrap (1 + z)=1 + z:=Au _ bF2;refine H _ _ E ?_;clear H K
 refine jH ?_
 refine kS ?_
 refine kS ?_
 refine yt ?_
 have N:=E.1.size
 obtain ⟨R5,Z,ac,am,ak,al,ay,a7,aj,an,az,a8⟩:=uW
 go_wp2
 refine bodyPost_ret (v:=.agg #[Qs a ps c,Qn x,Qn y,.int .i64 (1 + z)]) (by simp [results,results91,go_sem,aj,an,az,a8,ak,al,ay,a7]) rfl ⟨a,c,ps,x,y,1 + z,rfl,?_,⟨b8,o.out⟩,by omega,by omega,by omega,ac.touch sT4 bF2 bB6,Z.jJ sT4 bF2⟩
 exact (am.out.touch (T:=λk=>k=w.heap.size) sT4 tZ).wide fT
def modP (x:Int):Int:=(x.tmod 2147483647 + 2147483647).tmod 2147483647
def jBn (d x:Int):Int:=(d * 1000003 + modP x + 13).tmod 2147483647
def digest (l:Ad Int):Int:=l.foldl jBn 11
def kSt {a:Int} (h:0<=a):0<=a.tmod 2147483647/\a.tmod 2147483647 < 2147483647:=by
 rw [Av h];omega
def tmod_pos {a:Int} (h:0<=a):a % 2147483647=a.tmod 2147483647:=(Av h).symm
def tmod_abs (a:Int):-2147483647 < a.tmod 2147483647/\a.tmod 2147483647 < 2147483647:=by
 by_cases h:0<=a
 · have:=kSt h;omega
 have:=kSt (a:=-a) bF2;rw [Int.neg_tmod] at this;omega
def modP_rng (x:Int):0<=modP x/\modP x < 2147483647:=by
 have:=tmod_abs x;exact kSt bF2
def dStep_rng {d:Int} (x:Int) (h:0<=d):0<=jBn d x/\jBn d x < 2147483647:=by
 have:=modP_rng x;exact kSt bF2
def foldl_rng (l:Ad Int):∀ d:Int,0<=d->d < 2147483647->0<=l.foldl jBn d/\l.foldl jBn d < 2147483647:=by
 induction l with
 | nil=>intro d h1 h2;exact ⟨h1,h2⟩
 | cons x l ih=>intro d h1 h2;have:=dStep_rng x h1;exact ih _ this.1 this.2
def jBl (l:Ad Int):0<=digest l/\digest l < 2147483647:=foldl_rng l 11 bF2 bF2
def digest_succ {l:Ad Int} {k:Nat} (h:k < l.length):digest (l.take (k + 1))=jBn (digest (l.take k)) l[k]:=by
 unfold digest;rw [Am h,List.foldl_append];rfl
def digest_end {l:List Int} {k:Nat} (h:¬ k < l.length):digest (l.take k)=digest l:=by rw [List.take_of_length_le bF2]
def specMod_c {w:Ah} {x:Int} (hx:Qi x):Cc prog 282 #[.int .i64 x,.int .i64 2147483647] w λe w'=>e=.returned (.int .i64 (modP x))/\w'=w:=by
 have h1:=tmod_abs x;have HE:=yD (show modP x=(x.tmod 2147483647 + 2147483647).tmod 2147483647 from rfl);go_enter func282,ntmps282;go_wp2_with fail;refine yL.mono ?_;rintro e w1 ⟨rfl,hw⟩;obtain rfl:=hw.symm;have U:inR (2147483647:Int) 1 1000000000000=true:=bF1;rw [U];go_wp2;go_ret;exact ⟨jZ (by rw [HE.out];exact tmod_pos bF2),rfl⟩
def kSz {w:Ah} {vl:Cb} {l:Ad Int} (hl:(kD.slice 3 kD.int).raw w [vl] l) :
    Cc prog 270 #[vl] w λe w'=>e=.returned (.int .i64 (digest l))/\w'=w:=by
 obtain ⟨al,pl,rfl,ll⟩:=kD.sl hl
 go_enter func270,ntmps270
 go_wp2
 go_loop [4,3] (λi d=>∃ k:Nat,k<=l.length/\i=.int .i64 k/\d=.int .i64 (digest (l.take k))) (λi _=>l.length - (Bu i).toNat)
 case atStart=>exact ⟨0,Nat.zero_le _,rfl,rfl⟩
 obtain ⟨k,hk,rfl,rfl⟩:=hrel
 by_cases hlt:k < l.length
 · obtain ⟨ba,X,rfl,c0,hr,A0⟩:=kD.kCk hl hlt rfl;obtain ⟨he,hx⟩:=kD.yX hr;obtain rfl:c0=_:=by simpa using he
   clear he hr;have hd:=jBl (l.take k);have E:=yD (digest_succ hlt);generalize digest (l.take k)=d at *;generalize l[k]=x at *;have hm:=modP_rng x;go_wp2_with fail;refine (specMod_c hx).mono ?_;rintro e w1 ⟨rfl,hw⟩;obtain rfl:=hw.symm;have HD:=yD (show jBn d x=(d * 1000003 + modP x + 13).tmod 2147483647 from rfl);generalize modP x=m at *;go_wp2;go_round;case rel=>exact ⟨k + 1,by omega,by go_num,by rw [E.out,HD.out,<- tmod_pos bF2]⟩
   simp [Bu];omega
 have L:=yD (digest_end hlt)
 go_wp2
 go_ret
 exact ⟨jZ L.out,rfl⟩
def kD.kCa {α:Type} {r:kD α} {e:Ce} {w:Ah} {v:Cb} {xs ys:Ad α} {S:Nat->Prop} {P:Program} {t ty:Ce} {z:Cb} {bytes:Nat} (ht:P.underlying t=some (.slice e)) (hinf:(P.info? e).map (λi=>(i.zero,i.size,i.bytes))=some (some z,r.n,bytes)) (hzs:z.cells.size=r.n) (hn:0 < r.n) (hby:bytes<=1000) (hf:r.kCz)
    {B:Nat} (hown:kY e r w v xs S) {av:Option Addr} {len cap:Nat} (hy:(slice e r).rd w [.slice av len cap] ys) (hSB:∀ k,S k->B<=k/\k < w.heap.size) (hB:B<=w.heap.size) (hlen:xs.length + ys.length<=1000000000) :
    ∃ v' w',(Builtin.append_ #[t,t] ty #[v,.slice av len cap]).run P w=.ok v' w'/\kY e r w' v' (xs++ys) (jg B w')/\Below B w w'/\w.heap.size<=w'.heap.size/\∀ k,k < w.heap.size->¬ S k->w'.heap[k]?=w.heap[k]?:=by
 obtain ⟨i,hi,hz,hsize,L⟩:=info_parts hinf
 obtain ⟨cells,hsrc,hrow⟩:=jFr hy.1
 have o:row r true w cells ys (λ_=>False):=kLb hf hrow
 obtain ⟨v',w',hr,h2,h3⟩:=kFg (P:=P) (ty:=ty) ht hi hz hsize hzs hn bF2 hown hsrc (zR hrow) (row_one hrow) hlen
 refine ⟨v',w',hr,(h3 o (λ_ _ h=>h) hy.2.2).wide ?_,h2.below hB ?_,h2.size,λk hk hs=>h2.block k hk (λq=>hs q.2)⟩
 · exact lD
 intro k hk;exact (hSB k hk.2).1
def I64q (x:Int):Prop:=Qi x
def row_intq {w:Ah} {o:Bool}:∀ (l:Ad Int) (S:Nat->Prop),(∀ x∈l,I64q x)->kD.row kD.int o w (l.map (Bw .i64)) l S
  | [],_,_=>rfl
  | x :: l,S,h=>⟨[Qn x],l.map (Bw .i64),λ_=>False,λ_=>False,rfl,⟨rfl,h x bF3⟩,row_intq l _ vJ,λ_ h=>h.elim,λ_ h=>h.elim,λ_ _ h=>h.elim⟩
def litq {w:Ah} {x:Int} {e:Ce} (hx:I64q x):kD.kY e kD.int (w.alloc (.cells #[.int .i64 x] e)) (.slice (some ⟨w,0,none⟩) 1 1) [x] (λk=>k=w.heap.size) :=
  kD.yR (cs:=[.int .i64 x]) (xs:=[x]) (T:=λ_=>False) (λ_ _=>trivial) tK (row_intq [x] _ (by intro q hq;simp only [Ca,List.not_mem_nil,or_false] at hq;subst hq;assumption)) (λ_ h=>h.elim) rfl
end Go.Proofs.YthocbplmdjkifaaGreat
namespace Go.Proofs.YthocbplmdjkifaaGreat
open _root_.Go.Proofs.Tryz
def vlo (n:Nat):Bv:=Bc (n % 128 + 128)
def vint (n:Nat):Ad Bv:=if h:n < 128 then [Bc n] else vlo n :: vint (n / 128)
termination_by n
decreasing_by omega
def jFa {n:Nat} (h:n < 128):vint n=[UInt8.ofNat n]:=by rw [vint,dif_pos h]
def vint_hi {n:Nat} (h:¬ n < 128):vint n=vlo n :: vint (n / 128):=by rw [vint,dif_neg h]
def vint_len:∀ (k:Nat) {n:Nat},n < 128 ^ (k + 1)->(vint n).length<=k + 1
  | 0,n,h=>by rw [jFa bD5];simp
  | k + 1,n,h=>by
    by_cases c:n < 128
    · rw [jFa c];simp
    · rw [vint_hi c,Cf];have:=vint_len k (n:=n / 128) (Nat.div_lt_of_lt_mul qB);omega
def vint_six {n:Nat} (h:n<=1000000000000):(vint n).length<=6:=vint_len 5 bF2
end Go.Proofs.YthocbplmdjkifaaGreat
namespace Go.Proofs.YthocbplmdjkifaaGreat
open Go.RowKit _root_.Go.Proofs.Tryz
def kGo (n:Int):Ad Bv:=if inR n 0 1000000000000=true then vint n.toNat else []
def vintI_no {n:Int} (h:inR n 0 1000000000000=false):kGo n=[]:=by unfold kGo;rw [h];rfl
def vintI_yes {n:Nat} (h:inR (n:Int) 0 1000000000000=true):kGo n=vint n:=by unfold kGo;rw [if_pos h];simp
def kKr (n:Int):(kGo n).length<=6:=by
 unfold kGo;split
 · rename_i h
   have F:0<=n/\n<=1000000000000:=by simpa [inR] using h
   exact vint_six bF2
 simp
def or128:∀ x:Fin 128,bits BinOp.or Aj (x.val:Int) 128=(x.val:Int) + 128:=by decide +kernel
def vlo_int (m:Nat):((vlo m).toNat:Int)=((m % 128:Nat):Int) + 128:=by
 unfold vlo;rw [Aw];omega
def lo_spec {m:Nat} (h:m<=1000000000000):IntKind.u8.wrap (bits BinOp.or Aj (bits BinOp.and Aj (m:Int) 127) 128)=((vlo m).toNat:Int):=by
 have e:=bits_mask Aj 63 bF1 (λn h0 h1=>by rw [IntKind.wrap_i64];omega) 7 bF1 (m:Int) bF2 bF2;rw [show ((2:Int) ^ 7 - 1)=127 by decide,show ((2:Int) ^ 7)=128 by decide] at e;rw [e,vlo_int];have e2:=or128 ⟨m % 128,by omega⟩;simp only at e2;rw [show (m:Int) % 128=((m % 128:Nat):Int) by omega,e2,Cg];omega
def hi_byte {m:Nat} (h:m < 128):IntKind.u8.wrap (m:Int)=((Bc m).toNat:Int):=by
 rw [Cg,Aw];omega
def hi_byte0 {m:Nat} (h:m < 128):(m:Int)=((Bc m).toNat:Int):=by
 rw [Aw];omega
def kTy {w:Ah} {z:Int} {x:Bv} (h:z=(x.toNat:Int)):kD.byte.own w [.int .u8 z] x (λ_=>False):=⟨by show [_]=[_];rw [h],trivial⟩
def kEj {w:Ah} {va:Cb} {b:Ad Bv} {n:Int} (ha:(kD.slice 5 kD.byte).rd w [va] b) :
    Cc prog 277 #[va,.int .i64 n] w (kBu 5 kD.byte (b++kGo n) w):=by
 obtain ⟨aa,al,rfl,la⟩:=kD.sl ha.1
 have HA:=yD ha
 have hb:b.length<=16777216:=ha.2.1
 clear ha
 go_enter func277,ntmps277
 have O0:kD.kY 5 kD.byte (w.alloc (.cells #[] 5)) (.slice (some ⟨w,0,none⟩) 0 0) [] (λk=>k=w.heap.size):=kD.yR (cs:=[]) (xs:=[]) (T:=λ_=>False) bF3 bF3 rfl (λ_ h=>h.elim) rfl
 go_wp2_with (at_builtin;refine kD.yh rfl _ _ 22 rfl (r:=kD.byte) (e:=5) Ap kFo rfl bF1 bF1 kD.kGw (B:=w.heap.size) O0 bF4 bF4 (HA.out.alloc _) rY bF3 bE6 ?_)
 intro v2 w2 hown o hz
 have J:Hid (kD.kY 5 kD.byte w2 v2 b (jg w w2)):=yD (by simpa using hown)
 have D:Qb w w2:=Below.trans bI o
 clear hown O0 o
 obtain ⟨a2,n2,c2,hv,ba⟩:=J.out.parts
 obtain rfl:=hv
 go_wp2_with fail
 refine yL.mono ?_
 rintro e w1 ⟨rfl,hw⟩
 obtain rfl:=hw.symm
 cases U:inR n 0 1000000000000
 · have L:=yD (vintI_no U);go_wp2;go_ret;exact ⟨_,rfl,J.out.cast (by rw [L.out];simp),D⟩
 obtain ⟨V,E⟩:0<=n/\n<=1000000000000:=by simpa [inR] using U
 obtain ⟨N,rfl⟩:∃ N:Nat,n=N:=⟨n.toNat,by omega⟩
 have L:=yD (vintI_yes U)
 clear U
 go_wp2
 go_loopw [5,1] (λv i wr=>∃ (m:Nat) (pre:Ad Bv),m<=N/\i=.int .i64 m/\Hid (pre++vint m=vint N)/\Hid (kD.kY 5 kD.byte wr v (b++pre) (jg w wr))/\Qb w wr) (λ_ i _=>(Bu i).toNat)
 case atStart=>exact ⟨N,[],Nat.le_refl _,rfl,yD rfl,yD (by simpa using J.out),D⟩
 clear D J ba
 obtain ⟨m,pre,hm,rfl,HP,J,o⟩:=hrel
 obtain ⟨oa,on,oc,ho,ay⟩:=J.out.parts;obtain rfl:=ho
 have ee:pre.length<=6:=by
  have h1:=congrArg List.length HP.out;have h2:=vint_six (n:=N) bF2;simp only [Ae] at h1;omega
 by_cases hlt:m < 128
 · have HB:=yD (hi_byte hlt);have X:=yD (jFa hlt);go_wp2_with (at_builtin;refine kD.jR rfl _ _ 22 rfl (r:=kD.byte) (e:=5) Ap kFo rfl bF1 bF1 (B:=w.heap.size) J.out bF4 bF4 rfl (kTy (x:=Bc m) (by first | exact HB.out | exact hi_byte0 bF2)) rfl (λ_ _ h=>h) sI (λ_ h=>h.elim) bA0 bE6 ?_);intro v3 w3 F R ap;have aq:=yD F;obtain ⟨a3,n3,c3,ao,bb⟩:=F.parts;obtain rfl:=ao;have D:=o.trans R;clear F R;go_wp2;go_ret;exact ⟨_,rfl,aq.out.cast (by rw [L.out,<- HP.out,X.out];try simp only [Ag]),D⟩
 have HB:=yD (lo_spec (show m<=1000000000000 by omega))
 have X:=yD (vint_hi hlt)
 have az:(127:Int) < m:=bF2
 go_wp2_with (at_builtin;refine kD.jR rfl _ _ 22 rfl (r:=kD.byte) (e:=5) Ap kFo rfl bF1 bF1 (B:=w.heap.size) J.out bF4 bF4 rfl (kTy (x:=vlo m) (by first | exact HB.out|(simp only [HB.out]))) rfl (λ_ _ h=>h) sI (λ_ h=>h.elim) bA0 bE6 ?_)
 intro v3 w3 F R ap
 have aq:=yD F
 obtain ⟨a3,n3,c3,ao,bb⟩:=F.parts
 obtain rfl:=ao
 have D:=o.trans R
 clear F R
 refine Qg ?_
 exact ⟨m / 128,pre++[vlo m],by omega,by go_num,yD (by rw [<- HP.out,X.out,Ag];rfl),yD (aq.out.cast (by simp only [Ag])),D⟩
def jDq (w:Ah):∀ (l:Ad Bv) (S:Nat->Prop),kD.row kD.byte false w (l.map (λb=>Bw .u8 b.toNat)) l S
  | [],_=>rfl
  | b :: l,S=>⟨[.int .u8 b.toNat],l.map (λb=>Bw .u8 b.toNat),S,S,rfl,rfl,jDq w l S,λ_ h=>h,λ_ h=>h,λh=>by cases h⟩
def jCu {w:Ah} {e e2:Ce} {s:Bl} (hs:s.size<=16777216):(kD.slice e2 kD.byte).rd (Lib.bytesWorld w e s) [.slice (some ⟨w,0,none⟩) s.size (grownCap w s.size 0 e)] s.data.toList:=by
 have hl:s.data.toList.length=s.size:=bF3;refine ⟨⟨_,_,_,rfl,hl.symm,grownCap_ge _ _ _ _,grownCap_le_maxLen _ _ _ _ wR,.inr ⟨_,_,rfl,_,_,_,[],s.data.toList.map (λb=>Bw .u8 b.toNat),List.replicate (grownCap w s.size 0 e - s.size) (.int .u8 0),Lib.bytesWorld_at_new w e s,?_,rfl,?_,(λh=>Bool.noConfusion h),trivial,?_⟩⟩,by rw [hl];exact hs,λ_ _=>trivial⟩
 · simp [Lib.bytesCells]
 · have:=grownCap_ge w s.size 0 e;have e1:(Lib.bytesCells w e s).size=s.size + (grownCap w s.size 0 e - s.size):=by simp [Lib.bytesCells]
   rw [e1];show 0 + _ * 1<=_;omega
 exact kD.yU (jDq _ _ (λ_=>True)) (λ_ _=>⟨trivial,λh=>by cases h⟩)
def bytesWorld_below' (w:Ah) (e:Ce) (s:Bl):Below w w (Lib.bytesWorld w e s) :=
  ⟨rfl,rfl,rfl,by rw [Lib.bytesWorld_size];omega,λj I=>Lib.bytesWorld_at_old w e s j I⟩
def encS (s:Bl):Ad Bv:=kGo s.data.toList.length++s.data.toList
def kRj (l:Ad Bl):Ad Bv:=(l.map encS).flatten
def jBj {l:Ad Bl} {k:Nat} (h:k < l.length):kRj (l.take (k + 1))=kRj (l.take k)++encS l[k]:=by
 unfold kRj;rw [Am h,List.map_append,List.flatten_append];simp
def encNm (n:ko):Ad Bv:=kGo n.length++kRj n
def kTb {w:Ah} {va vs:Cb} {b s:Ad Bv} (ha:(kD.slice 5 kD.byte).rd w [va] b) (hs:(kD.slice 5 kD.byte).rd w [vs] s) :
    Cc prog 283 #[va,vs] w (kBu 5 kD.byte (b++(kGo s.length++s)) w):=by
 obtain ⟨aa,al,rfl,la,ab,ar,rfl,I⟩:=kD.sx ha.1 (kD.sl hs.1)
 have HA:=yD ha
 have E:=yD hs
 have hb:b.length<=16777216:=ha.2.1
 have W:s.length<=16777216:=hs.2.1
 clear ha hs
 go_enter func283,ntmps283
 go_wp2_with fail
 refine (kEj HA.out).mono ?_
 rintro e w2 ⟨v2,rfl,hown,D⟩
 obtain ⟨a2,n2,c2,hv,ba⟩:=hown.parts
 obtain rfl:=hv
 have J:=yD hown
 have H:(b++kGo s.length).length<=20000000:=by have:=kKr s.length;rw [Ae];omega
 clear hown
 go_wp2_with (at_builtin;refine kD.yh rfl _ _ 22 rfl (r:=kD.byte) (e:=5) Ap kFo rfl bF1 bF1 kD.kGw (B:=w.heap.size) J.out bF4 bF4 (E.out.below D) (λk hk=>⟨hk.1,hk.2⟩) D.size bF2 ?_)
 intro v3 w3 F R ap
 have aq:=yD F
 obtain ⟨a3,n3,c3,ao,bb⟩:=F.parts
 obtain rfl:=ao
 have o:=D.trans R
 clear F R
 go_wp2
 go_ret
 exact ⟨_,rfl,aq.out.cast (by simp only [Ag]),o⟩
def vPart_size {s:ByteArray} (h:kDb s=true):s.size<=8:=by
 unfold kDb at h;simp only [Bool.and_eq_true] at h;have h2:(1:Int)<=s.size/\(s.size:Int)<=8:=by simpa [inR] using h.2
 omega
def jCz {n:ko} (h:zx n=true):n.length<=6:=by
 unfold zx at h;simp only [Aq,decide_eq_true_eq] at h;exact h.2
def kYz {n:ko} (h:zx n=true) {k:Nat} (hk:k < n.length):n[k].size<=8:=by
 by_cases q:kDb n[k]=true
 · exact vPart_size q
 have:=jDa hk bD8;rw [this] at h;cases h
def encS_len {s:Bl} (h:s.size<=8):(encS s).length<=14:=by
 have h1:=kKr s.data.toList.length;have h2:s.data.toList.length=s.size:=bF3;unfold encS;rw [Ae];omega
def kVq {n:ko} (h:zx n=true):∀ {k:Nat},k<=n.length->(kRj (n.take k)).length<=14 * k
  | 0,_=>by simp [kRj]
  | k + 1,hk=>by
    have h1:=kVq h (k:=k) bF2;have h2:=encS_len (kYz h (k:=k) bF2);rw [jBj bF2,Ae];omega
def encNm_len {n:ko} (h:zx n=true):(encNm n).length<=90:=by
 have h1:=kKr n.length;have h2:=kVq h (k:=n.length) nL;have h3:=jCz h;rw [Ch] at h2;unfold encNm;rw [Ae];omega
def kUw {w:Ah} {va:Cb} {b:Ad Bv} {cn:Ad Cb} {n:ko} (ha:(kD.slice 5 kD.byte).rd w [va] b) (hn:kR.raw w cn n) (hv:zx n=true) (hb:b.length<=1000000) :
    Cc prog 272 #[va,.agg cn.toArray] w (kBu 5 kD.byte (b++encNm n) w):=by
 obtain ⟨av,rfl,V⟩:=kw hn
 obtain ⟨an,a8,rfl,ln,aa,al,rfl,la⟩:=kD.sx V (kD.sl ha.1)
 have HA:=yD ha
 have Y:=yD V
 have N:=yD hn
 have X:=yD hv
 have bi:=jCz hv
 clear ha hn V hv
 go_enter func272,ntmps272
 have O0:kD.kY 5 kD.byte ((w.alloc (.cells #[.slice an n.length a8] 36)).alloc (.cells #[] 5)) (.slice (some ⟨w.heap.size + 1,0,none⟩) 0 0) [] (λk=>k=w.heap.size + 1):=by
  exact iP
 go_wp2_with (at_builtin;refine kD.yh rfl _ _ 22 rfl (r:=kD.byte) (e:=5) Ap kFo rfl bF1 bF1 kD.kGw (B:=w.heap.size + 1) O0 bF4 bF4 (HA.out.below bI) rY bF3 bE6 ?_)
 intro v2 w2 hown o hz
 have J:Hid (kD.kY 5 kD.byte w2 v2 b (jg w w2)):=yD ((hown.cast bF3).wide sJ)
 have K0:Qd w2 w 0 (Qs an n a8):=(o.cell (p:=⟨w,0,none⟩) bF3).trans bD9
 have D:Qb w w2:=Below.trans bI (o.mono sK)
 obtain ⟨a2,n2,c2,ar,ba⟩:=J.out.parts
 obtain rfl:=ar
 have ag:w.heap.size < w2.heap.size:=by have:=o.size;simp at this;omega
 clear hown O0 o hz
 go_wp2_with fail
 refine (zF (N.out.below D)).mono ?_
 rintro e w3 ⟨rfl,ac⟩
 rw [X.out]
 replace K0:=cL ac K0
 replace J:=yD (((J.out.below ac).own bB1).rd)
 have R:=(tQ D ac)
 have W:w.heap.size < w3.heap.size:=by have:=ac.size;omega
 clear D ac ag
 go_wp2_with fail
 refine (kEj J.out).mono ?_
 rintro e w4 ⟨v4,rfl,F,L⟩
 obtain ⟨a4,n4,c4,aj,a7⟩:=F.parts
 obtain rfl:=aj
 replace K0:=cL L K0
 have D:=(tQ R L)
 have ao:Hid (kD.kY 5 kD.byte w4 (.slice a4 n4 c4) (b++kGo n.length) (jg (w.heap.size + 1) w4)):=yD (F.wide sJ)
 have am:w.heap.size < w4.heap.size:=by have:=L.size;omega
 have a3:=yD K0
 clear F R L W K0
 have ae:=yD (kKr n.length)
 go_wp2
 go_loopw [5,6] (λv i wr=>∃ k:Nat,k<=n.length/\i=.int .i64 k/\Hid (kD.kY 5 kD.byte wr v (b++kGo n.length++kRj (n.take k)) (jg (w.heap.size + 1) wr))/\Below (w.heap.size + 1) w4 wr) (λ_ i _=>n.length - (Bu i).toNat)
 case atStart=>exact ⟨0,Nat.zero_le _,rfl,yD (by simpa [kRj] using ao.out),bR⟩
 clear ao
 obtain ⟨k,hk,rfl,J,o⟩:=hrel
 obtain ⟨oa,on,oc,ho,ay⟩:=J.out.parts
 obtain rfl:=ho
 have O:Qb w wr:=D.trans (o.mono bF2)
 have ak:w.heap.size < wr.heap.size:=bA0
 have K0:Qd wr w 0 (Qs an n a8):=(o.cell (p:=⟨w,0,none⟩) bF3).trans a3.out
 by_cases hlt:k < n.length
 · obtain ⟨qb,qo,rfl,c0,hr,A0⟩:=kD.kCk (Y.out.below O) hlt rfl;obtain ⟨he,be⟩:=kD.kAj hr;obtain rfl:c0=_:=by simpa using he
   clear he hr;have bm:=yD (jBj hlt);have ap:=kYz X.out hlt;have af:=kVq X.out hk;have a6:Hid ((kD.slice 5 kD.byte).rd wr [.slice oa on oc] (b++kGo n.length++kRj (n.take k))):=yD ((J.out.own (by have:=ae.out;unfold Big;simp only [Ae];omega)).rd);generalize n[k]=s at *;have H:=Lib.run_convert_string_bytes (P:=prog) wr 9 22 5 s (u:=.string) underlying9 Ap underlying5;have E:=yD (jCu (w:=wr) (e:=5) (e2:=5) (s:=s) bF2);have ai:=bytesWorld_below' wr 5 s;obtain ⟨W1,Z⟩:∃ W1,W1=Lib.bytesWorld wr 5 s:=⟨_,rfl⟩;rw [<- Z] at H E ai;clear Z af be;generalize grownCap wr s.size 0 5=gc at *;go_wp2_with fail;refine (kTb (a6.out.below ai) E.out).mono ?_;rintro e w5 ⟨v5,rfl,hown,U⟩;obtain ⟨a5,n5,c5,ah,a1⟩:=hown.parts;obtain rfl:=ah;have ad:=o.trans ((ai.mono bF2).trans (U.mono (by have:=ai.size;omega)));have ab:Hid (kD.kY 5 kD.byte w5 (.slice a5 n5 c5) (b++kGo n.length++kRj (n.take (k + 1))) (jg (w.heap.size + 1) w5)):=yD ((hown.cast (by rw [bm.out];simp only [encS,Ag])).wide (λj I=>⟨by have:=I.1;have:=ai.size;omega,I.2⟩));clear hown U J a6 A0 o H ai K0 O;refine Qg ?_;exact ⟨k + 1,by omega,by go_num,ab,ad⟩
 obtain rfl:k=n.length:=bF2
 go_wp2
 go_ret
 exact ⟨_,rfl,(J.out.cast (by rw [Ch,encNm,Ag])).wide sJ,O⟩
def kBk (x:jQ):Bool:=((((zx x.1 && decide (0 < x.1.length)) && decide ((x.2.1.length:Int)<=60)) && zx x.2.2.1) && inR x.2.2.2.1 0 100000) && inR x.2.2.2.2 0 2147483646
def kEd {w:Ah} {cx:Ad Cb} {x:jQ} (hx:jF.raw w cx x) :
    Cc prog 236 #[.agg cx.toArray] w (bQ w (.bool (kBk x))):=by
 have Hx:=yD hx
 obtain ⟨a4,bl,bd,rfl,Y,N,ae,ag,aj,au,a6⟩:=jf hx
 obtain ⟨a5,a2,rfl,ay,bg,bc,rfl,bk,bj,be,rfl,bi⟩:=kD.sx N (kD.sx ae (kD.sl aj))
 go_enter func236,ntmps236
 go_upto_region 1 with fail
 refine ja ?_
 intro U Z F _
 obtain ⟨O,aa,H,o,I⟩:=yZ F
 clear F
 have FX:=yD (λ(W:Ah) (hW:Qb U W)=>kTx hW O aa H o I)
 refine kL (λW=>Qb U W) [Tt,Tt,Ff,Tt,Tt,Tt,Tt,Tt,Tt,Tt,Tt,Tt,Tt,Tt,Tt,Tt,Tt,Tt,Tt,Ff,Tt,Tt,Tt,Tt,Ff,Tt,Tt,Tt,Tt,Ff,Tt,Tt] bR ?_
 intro wS E
 all_goals (refine kS ?_;refine kS ?_;(first | refine zi (zF (kD.raw.below Y (tQ Z E))) (λwS1 E=>?_) | refine kS ?_);refine jT λb bh=>?_;cases b <;> try simp only [jS] at bh)
 all_goals ((iterate 6 refine kS ?_);refine jT λb ar=>?_;cases b <;> try simp only [jS] at ar)
 all_goals ((iterate 5 refine kS ?_);refine jT λb ao=>?_;cases b <;> try simp only [jS] at ao)
 all_goals (refine kS ?_;refine kS ?_;(first | refine zi (zF (kD.raw.below ag (tQ Z E))) (λwS1 E=>?_) | refine kS ?_);refine kS ?_;refine jT λb V=>?_;cases b <;> try simp only [jS] at V)
 all_goals (refine kS ?_;refine kS ?_;(first | refine wkC (yL) ?_ | refine kS ?_);refine kS ?_;refine jT λb J=>?_;cases b <;> try simp only [jS] at J)
 all_goals (refine kS ?_;refine kS ?_;(first | refine wkC (yL) ?_ | refine kS ?_);refine kS ?_;refine jT λb X=>?_;cases b <;> try simp only [jS] at X)
 all_goals (refine kM ?_;have D:=(tQ Z E))
 all_goals first
   | (have L:=yD (show (kBk x)=false by simp only [kBk,Bd,Ay,Be,Ar,Az,Ba,Bn,Bo,Bf,Bg,Bq,bh,ar,ao,V,J,X]);go_wp2;go_ret;exact ⟨kJ L.out.symm,D⟩)
   | (have L:=yD (show (kBk x)=true by simp only [kBk,Bd,Ay,Be,Ar,Az,Ba,Bn,Bo,Bf,Bg,Bq,bh,ar,ao,V,J,X]);go_wp2;go_ret;exact ⟨kJ L.out.symm,D⟩)
def kNl {w:Ah} {cx:Ad Cb} {x:jQ} (hx:jF.raw w cx x) :
    Cc prog 80 #[.agg cx.toArray] w (bQ w (.bool (kBk x))):=by
 have Hx:=yD hx
 obtain ⟨a4,bl,bd,rfl,Y,N,ae,ag,aj,au,a6⟩:=jf hx
 obtain ⟨a5,a2,rfl,ay,bg,bc,rfl,bk,bj,be,rfl,bi⟩:=kD.sx N (kD.sx ae (kD.sl aj))
 go_enter func80,ntmps80
 go_upto_region 1 with fail
 refine ja ?_
 intro U Z F _
 obtain ⟨O,aa,H,o,I⟩:=yZ F
 clear F
 have FX:=yD (λ(W:Ah) (hW:Qb U W)=>kTx hW O aa H o I)
 refine kL (λW=>Qb U W) [Tt,Tt,Ff,Tt,Tt,Tt,Tt,Tt,Tt,Tt,Tt,Tt,Tt,Tt,Tt,Tt,Tt,Tt,Tt,Ff,Tt,Tt,Tt,Tt,Ff,Tt,Tt,Tt,Tt,Ff,Tt,Tt] bR ?_
 intro wS E
 all_goals (refine kS ?_;refine kS ?_;(first | refine zi (kBo (kD.raw.below Y (tQ Z E))) (λwS1 E=>?_) | refine kS ?_);refine jT λb bh=>?_;cases b <;> try simp only [jS] at bh)
 all_goals ((iterate 6 refine kS ?_);refine jT λb ar=>?_;cases b <;> try simp only [jS] at ar)
 all_goals ((iterate 5 refine kS ?_);refine jT λb ao=>?_;cases b <;> try simp only [jS] at ao)
 all_goals (refine kS ?_;refine kS ?_;(first | refine zi (kBo (kD.raw.below ag (tQ Z E))) (λwS1 E=>?_) | refine kS ?_);refine kS ?_;refine jT λb V=>?_;cases b <;> try simp only [jS] at V)
 all_goals (refine kS ?_;refine kS ?_;(first | refine wkC (yC) ?_ | refine kS ?_);refine kS ?_;refine jT λb J=>?_;cases b <;> try simp only [jS] at J)
 all_goals (refine kS ?_;refine kS ?_;(first | refine wkC (yC) ?_ | refine kS ?_);refine kS ?_;refine jT λb X=>?_;cases b <;> try simp only [jS] at X)
 all_goals (refine kM ?_;have D:=(tQ Z E))
 all_goals first
   | (have L:=yD (show (kBk x)=false by simp only [kBk,Bd,Ay,Be,Ar,Az,Ba,Bn,Bo,Bf,Bg,Bq,bh,ar,ao,V,J,X]);go_wp2;go_ret;exact ⟨kJ L.out.symm,D⟩)
   | (have L:=yD (show (kBk x)=true by simp only [kBk,Bd,Ay,Be,Ar,Az,Ba,Bn,Bo,Bf,Bg,Bq,bh,ar,ao,V,J,X]);go_wp2;go_ret;exact ⟨kJ L.out.symm,D⟩)
end Go.Proofs.YthocbplmdjkifaaGreat

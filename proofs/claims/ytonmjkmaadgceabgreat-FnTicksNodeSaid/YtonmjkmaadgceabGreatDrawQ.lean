/-
  Pending interests drawn.
-/
import Derived.Test.YtonmjkmaadgceabGreatAsk
set_option linter.unusedVariables false
set_option linter.defProp false
set_option linter.unusedSimpArgs false
set_option linter.unnecessarySimpa false
set_option maxRecDepth 100000
set_option maxHeartbeats 4000000
open Bool renaming true->Tt,false->Ff
open List renaming getElem_mem->Aa,pairwise_iff_getElem->Ac,mem_singleton->Ad,mem_append->Ag,mem_take_iff_getElem->Ah,mem_or_eq_of_mem_set->Ai,mem_of_mem_drop->Ak,getElem_of_mem->Am
open Bool renaming or_eq_false_iff->Ab,and_eq_true->Aq
open _root_ renaming List->Ae
open Int renaming eq_ofNat_of_zero_le->Aj
open Go.IntWalk renaming i64_in->Al
open Go.RowKit renaming intOf->Ap
open Go renaming World->Ar
open Go.IntKind renaming i64->Au
namespace Go.Proofs.YtonmjkmaadgceabGreat
open Go.RowKit _root_.Go.Proofs.Tryz
def kCi (l:Ae kF) (k:Nat) (x:kF):Bool:=!((((!zM x.1 || ((x.1.length:Int)==0)) || !kJw x.2.1) || !inR x.2.2 0 100000) || decide (idxOf (ja x.1) (l.take k) ≥ 0))
def kDj (l:Ae kF):Bool:=yh (λj=>kCi l j (l.getD j ([],[],0))) l.length && decide (l.length<=12)
def kTp {l:Ae kF} {k:Nat} (h:k < l.length) (q:kCi l k l[k]=false):kDj l=false:=by
 unfold kDj;rw [kCx h qB];rfl
def kQx {l:Ae kF} {k:Nat} (h:k < l.length) (q:kCi l k l[k]=true) (a:yh (λj=>kCi l j (l.getD j ([],[],0))) k=true):yh (λj=>kCi l j (l.getD j ([],[],0))) (k + 1)=true :=
  kAu a qB
def kQy {l:Ae kF} {k:Nat} (q:yh (λj=>kCi l j (l.getD j ([],[],0))) k=true) (h:¬ k < l.length) (hk:k<=l.length):kDj l=decide (l.length<=12):=by
 obtain rfl:k=l.length:=bC9;unfold kDj;rw [q];rfl
def kNa {w:Ar} {vl:Value} {l:Ae kF} (hl:(kD.slice 43 kH).raw w [vl] l) :
    Calls prog 191 #[vl] w (bQ w (.bool (kDj l))):=by
 obtain ⟨al,pl,rfl,ll⟩:=kD.sl hl
 have R:=kD.kAd hl
 go_enter func191,ntmps191
 go_wp2
 go_loopw [3] (λi wr=>∃ k:Nat,k<=l.length/\i=.int .i64 k/\Hid (yh (λj=>kCi l j (l.getD j ([],[],0))) k=true)/\Qb w wr) (λi _=>l.length - (Ap i).toNat)
 case atStart=>exact ⟨0,Nat.zero_le _,rfl,yD rfl,bR⟩
 obtain ⟨k,hk,rfl,HN,o⟩:=hrel
 by_cases hlt:k < l.length
 · obtain ⟨qb,qo,rfl,ae,af,ah,qr,ar,ax,a2⟩:=kD.zg (hl.below o) (i:=k) bC9 rfl;have ag:=yD (kD.kCb (hl.below o) hk);have hb:=λq=>kTp hlt q;have hx:=λq=>kQx hlt q HN.out;generalize l[k]=x at *;have HB:=yD hb;have HX:=yD hx;clear hb hx;obtain ⟨x0,x1,x2⟩:=x;obtain ⟨bg,dc,Z,aj,ap,ao,au⟩:=jQ qr;simp only [List.cons.injEq,and_true] at Z;obtain ⟨rfl,rfl,rfl⟩:=Z;obtain ⟨ac,ay,rfl,bd⟩:=kD.sl ap;obtain ⟨ai,bc,rfl,bl⟩:=kD.sl ao;obtain ⟨bt,bp,c1,a8⟩:=xS;go_upto_region 4 with fail;have FX:=yD (λ(W:Ar) (hW:Qb wr W)=>kJd hW ar ax a2);refine kM (λW=>Qb wr W) [Tt,Tt,Tt,Tt,Tt,Ff,Tt,Tt,Tt,Tt,Tt,Tt,Tt,Tt,Tt,Tt,Tt,Tt,Tt,Tt,Tt,Tt,Tt,Ff,Tt,Tt,Tt,Tt,Tt,Tt,Tt,Tt,Ff,Tt,Tt,Tt,Tt,Tt,Tt,Tt,Tt,Tt,Tt,Tt,Ff,Tt,Tt] bC3 bC3 pK (bR.drew) ?_;intro wS E;iterate 5
    all_goals refine ku ?_
   all_goals first | refine wkB (yY (kD.raw.below aj E)) (λwS1 E=>?_) | refine ku ?_
   all_goals refine ku ?_
   all_goals (refine jy λb aw=>?_;cases b <;> try simp only [jw] at aw)
   iterate 9
    all_goals refine ku ?_
   all_goals (refine jy λb D=>?_;cases b <;> try simp only [jw] at D)
   iterate 5
    all_goals refine ku ?_
   all_goals first | refine wkB (kRz (kD.raw.below ao E)) (λwS1 E=>?_) | refine ku ?_
   all_goals refine ku ?_
   all_goals refine ku ?_
   all_goals (refine jy λb H=>?_;cases b <;> try simp only [jw] at H)
   iterate 5
    all_goals refine ku ?_
   all_goals first | refine wkC (jo) ?_ | refine ku ?_
   all_goals refine ku ?_
   all_goals refine ku ?_
   all_goals (refine jy λb I=>?_;cases b <;> try simp only [jw] at I)
   iterate 8
    all_goals refine ku ?_
   all_goals first | refine wkB (kEw (kD.raw.below ag.out E) (kD.raw.below aj E)) (λwS1 E=>?_) | refine ku ?_
   all_goals refine ku ?_
   all_goals (refine jy λb G=>?_;cases b <;> try simp only [jw] at G)
   all_goals refine kS ?_
   all_goals have F:=o.trans (Below.mono E o.size)
   all_goals first
     | (have L:=yD (HB.out (show _=false by simp only [kCi,Bool.not_true,Bool.not_false,Bool.and_true,Bool.true_and,Bool.and_false,Bool.false_and,Bool.or_true,Bool.true_or,Bool.or_false,Bool.false_or,Bool.not_not,ge_iff_le,aw,D,H,I,G]));clear HB HX HN ag;go_wp2;go_ret;exact ⟨kX L.out.symm,F⟩)
     | (have L:=yD (HX.out (show _=true by simp only [kCi,Bool.not_true,Bool.not_false,Bool.and_true,Bool.true_and,Bool.and_false,Bool.false_and,Bool.or_true,Bool.true_or,Bool.or_false,Bool.false_or,Bool.not_not,ge_iff_le,aw,D,H,I,G]));clear HB HX HN ag;go_wp2;go_roundw;(case rel=>exact ⟨k + 1,by omega,by go_num,L,F⟩);(case measure=>simp [Ap];omega))
 have L:=yD (kQy HN.out hlt hk)
 exact uN
namespace kD
section
variable {α:Type} {r:kD α} {e:TypeId} {w w':Ar} {v:Value} {b cap n:Nat} {kept rest xs:Ae α} {j:Nat} {x:α} {S T:Nat->Prop}
def gap.skip2 (h:gap e r w b cap n kept j (x :: rest) S):∃ cs C,r.own w cs x C/\(∀ k,C k->S k/\k≠b)/\(∀ q c,cs[q]?=some c->w.cell? ⟨b,(kept.length + j) * r.n + q,none⟩=some c)/\gap e r w b cap n kept (j + 1) rest (λk=>S k/\¬ C k):=by
 have h0:=h;obtain ⟨a1,a2,a3,a4,a5,a6,c,E,d,tl,A,B,h1,h2,h3,h4,⟨c1,N,A1,B1,rfl,q1,q2,hA1,H,hd1⟩,h6,h7,h8⟩:=h;have ag:=zK h4;have G:=r.len q1;refine ⟨c1,A1,⟨q1,a2 x bD0⟩,λk hk=>h7 k (hA1 k hk),?_,?_⟩
 · exact iL
 exact ⟨a1,λy hy=>a2 y bC6,by simp at a3;omega,a4,a5,⟨a6,λhk=>(h7 b (hA1 b hk)).2 rfl⟩,c,E++c1,N,tl,A,B1,by rw [h1];simp,by rw [<- h2];simp,by simp [h3,r.len q1,Nat.add_mul],h4,q2,
   λk hk=>⟨⟨(h6 k hk).1,λhc=>h8 k hk (hA1 k hc)⟩,(h6 k hk).2⟩,λk hk=>⟨⟨(h7 k (H k hk)).1,λhc=>hd1 rfl k hc hk⟩,(h7 k (H k hk)).2⟩,λk h F=>h8 k h (H k F)⟩
end
end kD
def okR (r:kW):Prop:=inR r.1 0 6=true/\inR r.2.1 0 1000000=true
def rising (l:Ae kW):Prop:=l.Pairwise (λa b=>a.1 < b.1)
def vAsk_iff {l:Ae kW}:kJw l=true↔0 < l.length/\(∀ r∈l,okR r)/\rising l:=by
 unfold kJw;rw [Aq,decide_eq_true_iff,kLc];constructor
 · rintro ⟨h,h0⟩;have hk:∀ k (hk:k < l.length),okR l[k]/\(0 < k->(l[k - 1]'bC9).1 < l[k].1):=by
    intro k hk;have q:=h k hk;rw [jS hk] at q;by_cases k0:0 < k
    · rw [kLn k0 rfl bC9] at q;unfold okA at q;simp at q;exact ⟨⟨q.1.1,q.1.2⟩,λ_=>by omega⟩
    rw [kIw k0] at q;unfold okA0 at q;simp at q;exact ⟨⟨q.1,q.2⟩,λh=>absurd h k0⟩
   refine ⟨h0,λr hr=>?_,kMu (λa b c h1 h2=>by omega) (λk c4=>?_)⟩
   · obtain ⟨k,aa,rfl⟩:=Am hr;exact (hk k aa).1
   have:=(hk (k + 1) c4).2 bC9;simpa using this
 rintro ⟨h0,h1,h2⟩;refine ⟨λk hk=>?_,h0⟩;rw [jS hk];have a:=h1 _ (Aa hk);by_cases k0:0 < k
 · rw [kLn k0 rfl bC9];have b:=Ac.1 h2 (k - 1) k bC9 hk bC9;unfold okA;simp [a.1,a.2];omega
 rw [kIw k0];unfold okA0;simp [a.1,a.2]
def okP (p:kF):Prop:=zM p.1=true/\p.1≠[]/\kJw p.2.1=true/\inR p.2.2 0 100000=true
def isPend_no {n:ko} {p:kF}:ja n p=false↔p.1≠n:=by unfold ja eqN;simp
def kUw {l:Ae kF} {k:Nat} {x:kF}:kCi l k x=true↔okP x/\∀ y∈l.take k,y.1≠x.1:=by
 have h:(decide (idxOf (ja x.1) (l.take k) ≥ 0)=false)↔∀ y∈l.take k,y.1≠x.1:=by
  rw [decide_eq_false_iff_not,show (¬ idxOf (ja x.1) (l.take k) ≥ 0)↔idxOf (ja x.1) (l.take k) < 0 by omega,kIe];simp only [isPend_no]
 have h0:(((x.1.length:Int)==0)=false)↔x.1≠[]:=by
  rw [beq_eq_false_iff_ne];cases x.1 <;> simp;omega
 unfold kCi okP;rw [Bool.not_eq_true',Ab,Ab,Ab,Ab,h,h0];simp only [Bool.not_eq_false'];constructor
 · rintro ⟨⟨⟨⟨a,b⟩,c⟩,d⟩,e⟩;exact ⟨⟨a,b,c,d⟩,e⟩
 rintro ⟨⟨a,b,c,d⟩,e⟩;exact ⟨⟨⟨⟨a,b⟩,c⟩,d⟩,e⟩
def kTo {l:Ae kF}:kDj l=true↔l.length<=12/\(∀ p∈l,okP p)/\l.Pairwise (λa b=>a.1≠b.1):=by
 unfold kDj;rw [Aq,decide_eq_true_iff,kLc];constructor
 · rintro ⟨h,h0⟩;have hk:∀ k (hk:k < l.length),okP l[k]/\∀ y∈l.take k,y.1≠l[k].1:=by
    intro k hk;have q:=h k hk;rw [jS hk] at q;exact kUw.1 q
   refine ⟨h0,λp hp=>?_,Ac.2 (λi j hi I D=>?_)⟩
   · obtain ⟨k,aa,rfl⟩:=Am hp;exact (hk k aa).1
   exact (hk j I).2 _ (Ah.2 ⟨i,by omega,rfl⟩)
 rintro ⟨h0,h1,h2⟩;refine ⟨λk hk=>?_,h0⟩;rw [jS hk];refine kUw.2 ⟨h1 _ (Aa hk),λy hy=>?_⟩;exact lH
def kPv {f:Int} {l:Ae kW} {r:kW} (h:r∈yz f l):r∈l/\r.1≠f:=by
 unfold yz at h;simpa using h
def putR_mem {a r:kW} {l:Ae kW} (h:r∈kOp a l):r=a\/r∈l:=by
 obtain ⟨i,hi,e,_⟩:=putR_idx a l;rw [e] at h;rcases Ag.1 h with h | h
 · exact .inr (kPv (List.mem_of_mem_take h)).1
 rcases List.mem_cons.1 h with h | h
 · exact .inl h
 exact .inr (kPv (Ak h)).1
def putR_rising {a:kW} {l:Ae kW} (h:rising l):rising (kOp a l):=by
 obtain ⟨i,hi,e,E⟩:=putR_idx a l;have h1:rising (yz a.1 l):=h.sublist List.filter_sublist;have L:∀ r∈(yz a.1 l).take i,r.1 < a.1:=by
  intro r hr;obtain ⟨j,I,rfl⟩:=Ah.1 hr;rcases E with ⟨q,rfl⟩ | q
  · have:=kIe.1 (show idxOf (λr:kW=>decide (a.1<=r.1)) (yz a.1 l) < 0 by omega) _ (Aa (show j < (yz a.1 l).length by omega));simp at this;exact this
  obtain ⟨hk,_,hq⟩:=kRp q;have:=hq j bC9;simp at this;exact this
 have o:∀ r∈(yz a.1 l).drop i,a.1 < r.1:=by
  intro r hr;obtain ⟨j,I,rfl⟩:=List.mem_drop_iff_getElem.1 hr;rcases E with ⟨q,rfl⟩ | q
  · omega
  obtain ⟨hk,hp,_⟩:=kRp q;have hp:a.1<=((yz a.1 l)[i]).1:=wZ;have hne:=(kPv (Aa hk)).2;by_cases D:j=0
  · subst D;simp only [Nat.add_zero] at *;omega
  have:=Ac.1 h1 i (i + j) hk bC9 bC9;omega
 unfold rising;rw [e];refine List.pairwise_append.2 ⟨h1.sublist (List.take_sublist _ _),List.pairwise_cons.2 ⟨o,h1.sublist (List.drop_sublist _ _)⟩,λx hx y hy=>?_⟩;have h2:=L x hx;rcases List.mem_cons.1 hy with rfl | hy
 · exact h2
 have:=o y hy;omega
def kRr (o:Ae kW):Prop:=rising o/\∀ r∈o,r.2.1 < 100\/1000000 < r.2.1
def goodR_nil:kRr []:=⟨List.Pairwise.nil,λr h=>by simp at h⟩
def kQj {r:kW} (h:r.2.1 < 100\/1000000 < r.2.1):kRr [r]:=⟨List.pairwise_singleton _ _,λq hq=>by rw [Ad.1 hq];exact h⟩
def goodR_put {r:kW} {o:Ae kW} (h:r.2.1 < 100) (hr:kRr o):kRr (kOp r o) :=
  ⟨putR_rising hr.1,λq hq=>by rcases putR_mem hq with rfl | hq;exact .inl h;exact hr.2 q hq⟩
def kAf (l:Ae kF) (m:Nat):Prop:=l.length<=m/\∀ y∈l,y.2.1.length<=m/\kRr y.2.1/\yj y.1
def kAf.mono {l:Ae kF} {m k:Nat} (h:kAf l m) (hk:m<=k):kAf l k:=⟨Nat.le_trans h.1 hk,λy hy=>⟨Nat.le_trans (h.2 y hy).1 hk,(h.2 y hy).2⟩⟩
def kWc {x:zh} {f t:Int} {l:Ae kF} {m:Nat} (hn:x.2.1 < 100) (hx:yj x.1) (h:kAf l m):kAf (addQ x f t l) (m + 1):=by
 cases hk:kBm x f l
 · rw [(jAh hk).1];have:=h.1;exact ⟨by omega,λy hy=>⟨Nat.le_succ_of_le (h.2 y hy).1,(h.2 y hy).2⟩⟩
 by_cases hi:idxOf (ja x.1) l < 0
 · rw [(addQ_new (t:=t) hk hi).1];refine ⟨by have:=h.1;simp;omega,λy hy=>?_⟩;rcases Ag.1 hy with hy | hy
   · exact ⟨Nat.le_succ_of_le (h.2 y hy).1,(h.2 y hy).2⟩
   obtain rfl:=Ad.1 hy;exact ⟨by simp,kQj (.inl hn),hx⟩
 obtain ⟨k,aa,ac⟩:=kIf hi;rw [(addQ_set (t:=t) hk ac aa).1];refine ⟨by have:=h.1;simp;omega,λy hy=>?_⟩;rcases Ai hy with hy | rfl
 · exact ⟨Nat.le_succ_of_le (h.2 y hy).1,(h.2 y hy).2⟩
 have h1:=putR_len (kRh x f t) l[k].2.1;have h2:=h.2 _ (Aa aa);have h3:=h2.1;refine ⟨?_,goodR_put hn h2.2.1,h2.2.2⟩;show (kOp (kRh x f t) l[k].2.1).length<=m + 1;omega
def kXb {l:Ae jH} {n:ko} {x:Int}:(yK l n x).length<=max l.length 24:=by
 unfold yK;split
 · simp;omega
 simp at *;omega
def kFn (s:Ae jH):Prop:=s.length<=24/\∀ y∈s,y.2 < 100
def smallS_nil:kFn []:=⟨by simp,λy h=>by simp at h⟩
def smallS_snoc {s:Ae jH} {ps:ko} {x:Int} (h:kFn s) (hl:s.length < 24) (hx:x < 100):kFn (s++[(ps,x)]):=by
 refine ⟨by simp;omega,λy hy=>?_⟩;rcases Ag.1 hy with hy | hy
 · exact h.2 y hy
 rw [Ad.1 hy];exact hx
def smallS_add {s:Ae jH} {ps:ko} {x:Int} (h:kFn s) (hx:x < 100):kFn (yK s ps x):=by
 refine ⟨by have h1:=kXb (l:=s) (n:=ps) (x:=x);have:=h.1;omega,λy hy=>?_⟩;have:y∈s++[(ps,x)]:=by
  unfold yK at hy;split at hy
  · exact Ak hy
  exact hy
 rcases Ag.1 this with hy | hy
 · exact h.2 y hy
 rw [Ad.1 hy];exact hx
def sentP_small {n:ko} {t:Int} {l:Ae kF} {m:Nat} (h:kAf l m):kAf (kUj n t l) m:=by
 by_cases hi:idxOf (ja n) l < 0
 · rw [sentP_no hi];exact h
 obtain ⟨k,aa,ac⟩:=kIf hi;rw [kXo ac aa];refine ⟨by have:=h.1;simp;omega,λy hy=>?_⟩;rcases Ai hy with hy | rfl
 · exact h.2 y hy
 exact show l[k].2.1.length<=m/\kRr l[k].2.1/\yj l[k].1 from h.2 _ (Aa aa)
def kWs {w0 w:Ar} {p:Nat} (hc:yU w0 w p) :
    Calls prog 140 #[.pointer (some ⟨p,0,none⟩)] w λe w'=>∃ a n c l,e=.returned (.slice a n c)/\n=l.length/\kAf l 8/\(kD.slice 43 kH).own w' [.slice a n c] l (jX w.heap.size w'.heap.size)/\yU w0 w' p/\Touch (λk=>k=p) w w':=by
 go_enter func140,ntmps140
 obtain ⟨bf,b4⟩:=hc.lt
 go_upto_region 2 with fail
 generalize F:World.alloc w _=Y
 have E_:Qb w Y:=rM
 have bd:w.heap.size + 1<=Y.heap.size:=bB1
 clear F
 replace hc:=hc.below E_
 have N:Touch (λk=>k=p) w Y:=Touch.of_below E_
 clear E_
 go_wp2_with fail
 refine (kr (n:=8) hc bC8).mono ?_
 rintro e V ⟨x,ao,L,a1,rfl,G,D⟩
 have bk:=D.size
 replace N:=N.trans D
 clear hc D
 have hc:=G
 clear G
 replace L:=L bC8
 clear a1
 obtain ⟨m,rfl⟩:=Aj ao
 go_wp2
 go_loopw [3,4] (λv i wr=>∃ (j k:Nat) (a:Option Addr) (n c:Nat) (l:Ae kF),v=.slice a n c/\i=.int .i64 j/\j + k<=8/\Hid (n=l.length)/\Hid (kAf l k)/\Hid ((kD.slice 43 kH).own wr [.slice a n c] l (jX w.heap.size wr.heap.size))/\V.heap.size<=wr.heap.size/\yU w0 wr p/\Touch (λk=>k=p) w wr) (λ_ i _=>(Ap i).toNat)
 case atStart=>exact ⟨m,0,_,0,0,[],rfl,rfl,by omega,yD rfl,yD ⟨Nat.le_refl _,by simp⟩,yD kD.jd,Nat.le_refl _,hc,N⟩
 clear hc N
 obtain ⟨j,k,a,n,c,l,rfl,rfl,I,HN,O,J,dt,hc,N⟩:=hrel
 cases j with
 | zero =>
   have cq:¬ (0:Int) < (0:Nat):=bC9;go_wp2;refine bodyPost_ret (v:=.slice a n c) (by simp [results,results140,go_sem]) rfl ⟨a,n,c,rfl,l,HN.out,O.out.mono bC9,J.out,hc,N⟩
 | succ j =>
   have ce:(0:Int) < (j:Int) + 1:=bC9;replace J:=yD (J.out.wide (T:=λq=>w.heap.size<=q/\q < wr.heap.size) (λ_ h=>h));have aa:k<=7:=bC9;go_wp2_with fail;refine (kOg hc).mono ?_;rintro e w6 ⟨ia,ic,ps,nn,Z,nt,rfl,X,U,hn,hh,ht,G,D⟩;have cf:=D.size;obtain ⟨J,N⟩:=xM;clear hc D;have hc:=G;clear G;have fh:=yD U;have HI:=yD ((int_own (n:=nn) X bC9 hh ht).wide (T:=λq=>wr.heap.size<=q/\q < w6.heap.size) (λ_ h=>h));have cl:=yD (X.wide (T:=λq=>wr.heap.size<=q/\q < w6.heap.size) (λ_ h=>h));clear X;go_upto_region 6 with fail;generalize F:World.alloc w6 _=w7;have ag:Qb w6 w7:=rM;have B:Qr w7 w6.heap.size #[Qs ia ps ic,Qn nn,Qn Z,Qn nt] 159:=vB;have dp:w6.heap.size + 1<=w7.heap.size:=bB1;clear F;replace J:=yD (J.out.below ag);replace HI:=yD (HI.out.below ag);replace cl:=yD (cl.out.below ag);replace hc:=hc.below ag;replace N:=N.trans (Touch.of_below ag);clear ag;have FX:=yD (λ(W:Ar) (hW:Touch (λk=>k=p) w7 W/\yU w0 W p)=>And.intro (kE (hW.1.kC B bC9) (j:=0) (v:=.slice ia ps.length ic) rfl) (And.intro (kE (hW.1.kC B bC9) (j:=1) (v:=.int .i64 nn) rfl) (And.intro (kE (hW.1.kC B bC9) (j:=2) (v:=.int .i64 Z) rfl) (kE (hW.1.kC B bC9) (j:=3) (v:=.int .i64 nt) rfl))));refine jm (λW=>Touch (λk=>k=p) w7 W/\yU w0 W p) [(0,true),(1,true),(2,true),(4,true),(3,false),(5,false),(6,true),(7,false),(8,true),(9,true),(10,true),(11,true)] bC3 bC3 pK (⟨Touch.of_below bR.drew,hc.below bR.drew⟩) ?_;intro wS E;simp only [kz,List.getElem?_cons_succ,List.getElem?_cons_zero,List.map_cons,List.map_nil];iterate 4
    refine ku ?_
   refine kw rfl (λK H=>?_);go_simp;refine (kr (n:=4) E.2 bC8).mono ?_;rintro e wS1 ⟨x,ao,L,a1,rfl,ar,ap⟩;replace L:=L bC8;clear a1;replace E:=And.intro (E.1.trans ap) ar;clear ar ap;refine H _ _ E ?_;clear H K;refine jF ?_;refine kw rfl (λK H=>?_);go_simp;refine (kr (n:=10) E.2 bC8).mono ?_;rintro e wS1 ⟨y,b7,bn,bz,rfl,ar,ap⟩;replace bn:=bn bC8;clear bz;replace E:=And.intro (E.1.trans ap) ar;clear ar ap;have hw:Au.wrap (40 + y)=40 + y:=Al _ bC9;refine H _ _ E ?_;clear H K;refine jF ?_;refine ku ?_;refine kw rfl (λK H=>?_);go_simp;refine (kGe ((J.out.touch E.1 pJ).rd) (λy hy=>Nat.le_trans (O.out.2 y hy).1 bC9) (HI.out.touch E.1 pJ).rd bC9 bC9).mono ?_;rintro e a9 ⟨v2,rfl,O2,ab⟩;have di:=E.1.size;have bu:=ab.size;replace E:=And.intro (E.1.trans (Touch.of_below ab)) (E.2.below ab);have R:=yD O2;refine H _ _ E ?_;clear H K ab O2;refine jF ?_;iterate 4
    refine ku ?_
   refine kS ?_;obtain ⟨l2,a8⟩:∃ l2,addQ (ps,nn,Z,nt) x (40 + y) l=l2:=⟨_,rfl⟩;rw [a8] at R;have af:=yD (show kAf l2 (k + 1) from a8 ▸ kWc (show nn < 100 by omega) fh.out.2 O.out);clear a8 HI J;obtain ⟨a2,c2,rfl,_⟩:=kD.sl R.out.raw;rename Ar=>w8;have c7:=E.1.size;have G:=E.2;have D:=E.1;clear E;replace B:=D.kC B bC9;replace cl:=yD (cl.out.touch D pJ);replace N:=N.trans D;clear hc D;have hc:=G;clear G;replace R:=yD (R.out.wide (T:=λq=>w.heap.size<=q/\q < w8.heap.size) qY);go_wp2_with fail;refine (kAk (n:=2) hc bC8).mono ?_;rintro e w9 ⟨b,rfl,G,D⟩;have de:=D.size;replace B:=D.kC B bC9;replace cl:=yD (cl.out.touch D pJ);replace R:=yD (R.out.touch D pJ);replace N:=N.trans D;clear hc D;have hc:=G;clear G;cases b
   · go_wp2;go_roundw;case rel=>exact ⟨j,k + 1,a2,l2.length,_,l2,rfl,by go_num,by omega,yD rfl,af,yD (R.out.wide rC),by omega,hc,N⟩
     case measure=>first|(simp [Ap];done)|(simp [Ap];omega)
   · go_upto_region 8 with fail;have FX:=yD (λ(W:Ar) (hW:Touch (λk=>k=p) w9 W/\yU w0 W p)=>And.intro (kE (hW.1.kC B bC9) (j:=0) (v:=.slice ia ps.length ic) rfl) (And.intro (kE (hW.1.kC B bC9) (j:=1) (v:=.int .i64 nn) rfl) (And.intro (kE (hW.1.kC B bC9) (j:=2) (v:=.int .i64 Z) rfl) (kE (hW.1.kC B bC9) (j:=3) (v:=.int .i64 nt) rfl))));refine kM (λW=>Touch (λk=>k=p) w9 W/\yU w0 W p) [Tt,Tt,Tt,Tt,Ff,Tt,Ff,Tt] bC3 bC3 pK (⟨Touch.of_below bR.drew,hc.below bR.drew⟩) ?_;intro wS E;iterate 4
      refine ku ?_
     refine kw rfl (λK H=>?_);go_simp;refine (kr (n:=12) E.2 bC8).mono ?_;rintro e wS1 ⟨z,bx,bq,a6,rfl,ar,ap⟩;replace bq:=bq bC8;clear a6;replace E:=And.intro (E.1.trans ap) ar;clear ar ap;have hw:Au.wrap (40 + z)=40 + z:=Al _ bC9;refine H _ _ E ?_;clear H K;refine jF ?_;refine ku ?_;refine kw rfl (λK H=>?_);go_simp;refine (kUf ((R.out.touch E.1 pJ).rd) (cn:=[.slice ia ps.length ic]) ((cl.out.touch E.1 pJ).rd) bC9).mono ?_;rintro e a9 ⟨v3,rfl,O3,ab⟩;have di:=E.1.size;have bu:=ab.size;replace E:=And.intro (E.1.trans (Touch.of_below ab)) (E.2.below ab);have ai:=yD O3;refine H _ _ E ?_;clear H K ab O3;refine jF ?_;refine ku ?_;refine kS ?_;obtain ⟨l3,d5⟩:∃ l3,kUj ps (40 + z) l2=l3:=⟨_,rfl⟩;rw [d5] at ai;have ad:=yD (show kAf l3 (k + 1) from d5 ▸ sentP_small af.out);clear d5 R cl;obtain ⟨a3,c3,rfl,_⟩:=kD.sl ai.out.raw;rename Ar=>bj;have c6:=E.1.size;have G:=E.2;have D:=E.1;clear E;replace B:=D.kC B bC9;replace N:=N.trans D;clear hc D;have hc:=G;clear G;have R:=yD (ai.out.wide (T:=λq=>w.heap.size<=q/\q < bj.heap.size) qY);go_wp2;go_roundw;case rel=>exact ⟨j,k + 1,a3,l3.length,_,l3,rfl,by go_num,by omega,yD rfl,ad,yD (R.out.wide rC),by omega,hc,N⟩
     case measure=>first|(simp [Ap];done)|(simp [Ap];omega)
def kWr {w0 w:Ar} {p:Nat} (hc:yU w0 w p) :
    Calls prog 139 #[.pointer (some ⟨p,0,none⟩)] w λe w'=>∃ a n c s,e=.returned (.slice a n c)/\n=s.length/\kFn s/\(kD.slice 99 jG).own w' [.slice a n c] s (λq=>w.heap.size<=q/\q < w'.heap.size)/\yU w0 w' p/\Touch (λk=>k=p) w w':=by
 go_enter func139,ntmps139
 obtain ⟨bf,b4⟩:=hc.lt
 go_upto_region 2 with fail
 generalize F:World.alloc w _=Y
 have E_:Qb w Y:=rM
 have bd:w.heap.size + 1<=Y.heap.size:=bB1
 clear F
 replace hc:=hc.below E_
 have N:Touch (λk=>k=p) w Y:=Touch.of_below E_
 clear E_
 go_wp2_with fail
 refine (kr (n:=5) hc bC8).mono ?_
 rintro e V ⟨x,ao,L,a1,rfl,G,D⟩
 have bk:=D.size
 replace N:=N.trans D
 clear hc D
 have hc:=G
 clear G
 replace L:=L bC8
 clear a1
 obtain ⟨m,rfl⟩:=Aj ao
 go_wp2
 go_loopw [3,4] (λv i wr=>∃ (j:Nat) (a:Option Addr) (n c:Nat) (s:Ae jH),v=.slice a n c/\i=.int .i64 j/\j<=4/\Hid (n=s.length)/\Hid (kFn s)/\Hid ((kD.slice 99 jG).own wr [.slice a n c] s (λq=>w.heap.size<=q/\q < wr.heap.size))/\V.heap.size<=wr.heap.size/\yU w0 wr p/\Touch (λk=>k=p) w wr) (λ_ i _=>(Ap i).toNat)
 case atStart=>exact ⟨m,_,0,0,[],rfl,rfl,by omega,yD rfl,yD smallS_nil,yD kD.jd,Nat.le_refl _,hc,N⟩
 clear hc N
 obtain ⟨j,a,n,c,s,rfl,rfl,I,HN,HL,J,dt,hc,N⟩:=hrel
 cases j with
 | zero =>
   have cq:¬ (0:Int) < (0:Nat):=bC9;go_wp2_with fail;refine (kAk (n:=12) hc bC8).mono ?_;rintro e w6 ⟨b,rfl,G,D⟩;have cf:=D.size;obtain ⟨J,N⟩:=xM;clear hc D;have hc:=G;clear G;replace J:=yD (J.out.wide (T:=λq=>w.heap.size<=q/\q < w6.heap.size) rC);cases b
   · exact eQ
   · go_wp2;go_loopw [3] (λv E=>∃ (a:Option Addr) (n c:Nat) (s:Ae jH),v=.slice a n c/\Hid (n=s.length)/\Hid (kFn s)/\Hid ((kD.slice 99 jG).own E [.slice a n c] s (λq=>w.heap.size<=q/\q < E.heap.size))/\w6.heap.size<=E.heap.size/\yU w0 E p/\Touch (λk=>k=p) w E) (λv _=>match v with | .slice _ n _=>25 - n | _=>0);case atStart=>exact ⟨a,n,c,s,rfl,HN,HL,J,Nat.le_refl _,hc,N⟩
     case round =>
       clear hc N J HN HL;obtain ⟨a,n,c,s,rfl,HN,HL,J,dv,hc,N⟩:=hrel;go_wp2_with fail;refine (kr (n:=2) hc bC8).mono ?_;rintro e bj ⟨y,b7,bn,bz,rfl,G,D⟩;have c6:=D.size;obtain ⟨J,N⟩:=xM;clear hc D;have hc:=G;clear G;replace bn:=bn bC8;clear bz;replace J:=yD (J.out.wide (T:=λq=>w.heap.size<=q/\q < bj.heap.size) rC);have hw:Au.wrap (23 + y)=23 + y:=Al _ bC9;by_cases hlt:(n:Int) < 23 + y
       · have W:n < 24:=bC9;go_wp2_with fail;refine (kUa (s:={ data:=#[47,115] }) bC8).mono ?_;rintro e bu ⟨na,nc,ps,rfl,hr,dm,hb⟩;have dl:=hb.size;replace J:=yD (J.out.below hb);obtain ⟨hc,N⟩:=xG;clear hb;have HR:=yD (hr.wide (T:=λq=>bj.heap.size<=q/\q < bu.heap.size) (λ_ h=>h));clear hr;have aj:-9223372036854775808<=(n:Int)/\(n:Int)<=9223372036854775807:=bC9;go_wp2_with (at_builtin;refine kD.yZ rfl _ _ 29 rfl (r:=jG) (e:=99) underlying29 kEi rfl bC8 bC8 (w:=bu) J.out bR (c:=1) (kD.jv (r:=kU) (q:=kD.int) (cs:=[.slice na ps.length nc]) (ds:=[.int .i64 n]) (x:=ps) (y:=(n:Int)) HR.out (kD.jB aj)) bD1 bD1 nS vW ?_);intro v2 cv hQ ab;have hT:Touch (λk=>w.heap.size<=k/\k < bj.heap.size) bu cv:=ab.wide (λj q=>q.1);have d0:=hT.size;clear ab;obtain ⟨s2,bt⟩:∃ s2,s++[(ps,(n:Int))]=s2:=⟨_,rfl⟩;rw [bt] at hQ;have az:=yD (show s2.length=s.length + 1 by rw [<- bt];simp);have b2:=yD (show kFn s2 from bt ▸ smallS_snoc HL.out vW (show (n:Int) < 100 by omega));clear bt J;obtain ⟨a2,c2,rfl,_⟩:=kD.sl hQ.raw;have R:=yD (hQ.wide (T:=λq=>w.heap.size<=q/\q < cv.heap.size) bI);clear hQ;have bc:=hc.touch hT tN sD;have b3:=N.kBv hT sD;clear hT hc N;go_wp2;go_roundw;case rel=>exact ⟨a2,s2.length,_,s2,rfl,yD rfl,b2,R,by omega,bc,b3⟩
         case measure=>have h1:=az.out;have h2:=HN.out;first | omega|(simp;omega)
       · exact eQ
 | succ j =>
   have ce:(0:Int) < (j:Int) + 1:=bC9;replace J:=yD (J.out.wide (T:=λq=>w.heap.size<=q/\q < wr.heap.size) (λ_ h=>h));go_wp2_with fail;refine (kOg hc).mono ?_;rintro e w6 ⟨ia,ic,ps,nn,Z,nt,rfl,X,U,hn,hh,ht,G,D⟩;have cf:=D.size;obtain ⟨J,N⟩:=xM;clear hc D;have hc:=G;clear G;have cl:=yD (X.wide (T:=λq=>wr.heap.size<=q/\q < w6.heap.size) (λ_ h=>h));clear X;go_upto_region 6 with fail;generalize F:World.alloc w6 _=w7;have ag:Qb w6 w7:=rM;have B:Qr w7 w6.heap.size #[Qs ia ps ic,Qn nn,Qn Z,Qn nt] 159:=vB;have dp:w6.heap.size + 1<=w7.heap.size:=bB1;clear F;replace J:=yD (J.out.below ag);replace cl:=yD (cl.out.below ag);replace hc:=hc.below ag;replace N:=N.trans (Touch.of_below ag);clear ag;obtain ⟨ax,O,H,o⟩:=kKm B;go_wp2_with fail;refine (kGd J.out.rd (by have:=HL.out.1;omega) (cn:=[.slice ia ps.length ic]) cl.out.rd bC9).mono ?_;rintro e w8 ⟨v2,rfl,O2,hb⟩;have c7:=hb.size;replace B:=kC B hb;replace J:=yD (J.out.below hb);replace cl:=yD (cl.out.below hb);obtain ⟨hc,N⟩:=xG;clear ax O H o;clear hb;obtain ⟨s2,bt⟩:∃ s2,yK s ps nn=s2:=⟨_,rfl⟩;rw [bt] at O2;have az:=yD (show kFn s2 from bt ▸ smallS_add HL.out (show nn < 100 by omega));clear bt;obtain ⟨a2,c2,rfl,_⟩:=kD.sl O2.raw;have R:=yD (O2.wide (T:=λq=>w.heap.size<=q/\q < w8.heap.size) qY);go_wp2;go_roundw;case rel=>exact ⟨j,a2,s2.length,_,s2,rfl,by go_num,by omega,yD rfl,az,R,by omega,hc,N⟩
   case measure=>first|(simp [Ap];done)|(simp [Ap];omega)
end Go.Proofs.YtonmjkmaadgceabGreat

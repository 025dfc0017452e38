/-
  Regions in two phases whose later operations may wait for the head alone. No program in sight.
-/
import Derived.Test.YtjhfdpopkkmigaaGreatRecS
set_option linter.unusedVariables false
set_option linter.defProp false
set_option linter.unusedSimpArgs false
set_option linter.unnecessarySimpa false
set_option maxRecDepth 100000
set_option maxHeartbeats 4000000
open Bool renaming and_eq_true->Aa,not_eq_true'->Al
open _root_ renaming decide_eq_true_eq->Ab,List->Am,Array->Av
open Array renaming replicate->Ac,getElem?_eq_getElem->Ae
open Go.Region renaming ready->Ad,Mode->Ag,waitsFor_spec->Ak,waitsFor->Ap,noSelect->Aq
open Int renaming eq_ofNat_of_zero_le->Ah
open List renaming all_eq_true->Ai
open Go renaming World->Aj,HeadInv->Ar
open Go.IntWalk renaming i64_in->Au
namespace Go.Proofs.YtjhfdpopkkmigaaGreat
open Go.RowKit _root_.Go.Proofs.Tryz
def recF_len {n:kr} {f:Int} {l:Am kT} (h:l.length<=24):(recF n f l).length<=24:=by
 unfold recF;split
 · split
   · split
     · simp;omega
     exact h
   simp;exact h
 exact h
def recS_len {n:kr} {f:Int} {l:Am kT} (h:l.length<=24):(recS n f l).length<=24:=by
 unfold recS;split
 · exact h
 split
 · simp;omega
 simp;exact h
def kXf {w0 w:Aj} {p:Nat} (hc:yT w0 w p) :
    Calls prog 201 #[.pointer (some ⟨p,0,none⟩)] w λe w'=>∃ a c Y,e=.returned (.agg #[Qs a Y c])/\kW.own w' [Qs a Y c] Y (jU w.heap.size w'.heap.size)/\Y.length<=64/\yT w0 w' p/\Touch (λk=>k=p) w w':=by
 go_enter func201,ntmps201
 obtain ⟨ay,bt⟩:=hc.lt
 go_upto_region 1 with fail
 generalize F:World.alloc w _=w1
 obtain ⟨ag,R,bf⟩:=D7
 clear F
 obtain ⟨hc,J⟩:=xO
 clear ag
 go_wp2_with fail
 refine (zx (hc.below (bR.alloc nL _)) (kD.kAw _ [{ data:=#[47] },{ data:=#[47,97] },{ data:=#[47,98] },{ data:=#[47,97,47,110,101,119,115] }] bD0 bD0) bD1 bD0 bD0).mono ?_
 rintro e V ⟨y,ar,bz,rfl,G,D⟩
 obtain ⟨D,bg⟩:=CQ
 obtain ⟨R,J⟩:=DX
 clear hc D
 have hc:=G
 clear G
 go_wp2_with fail
 refine (kUq (kD.kCk bD0 ar)).mono ?_
 rintro e w3 ⟨a,c,Y,rfl,hr,hl,hb⟩
 have bi:=hb.size
 replace R:=kC R hb
 obtain ⟨hc,J⟩:=xE
 clear hb
 have HR:=yD (hr)
 clear hr
 have ac:Qd w3 w 0 (.slice none 0 0):=kE R rfl
 have ak:w3.frozen? ⟨w.heap.size,0,none⟩=false:=frozen_of_row w3 (w.heap.size) 0 _ _ R
 go_wp2
 refine bodyPost_ret (v:=.agg #[Qs a Y c]) (by simp [results,results201,go_sem,ac,ak]) rfl ⟨_,_,Y,rfl,?_,hl,hc.touch (jg w3 w.heap.size 0 _) bD1 wW,J.jP (jg w3 w.heap.size 0 _) bD1⟩
 exact (HR.out.touch (jg w3 w.heap.size 0 _) sM).wide fF
def kMn {w0 w:Aj} {p:Nat} (hc:yT w0 w p) :
    Calls prog 170 #[.pointer (some ⟨p,0,none⟩)] w λe w'=>∃ a c l,e=.returned (.slice a l.length c)/\(kD.slice 149 kL).own w' [Qs a l c] l (jU w.heap.size w'.heap.size)/\l.length<=24/\yT w0 w' p/\Touch (λk=>k=p) w w':=by
 go_enter func170,ntmps170
 obtain ⟨ay,bt⟩:=hc.lt
 go_upto_region 2 with fail
 generalize F:World.alloc w _=w1
 have ag:Qb w w1:=rT
 have bf:w.heap.size + 1<=w1.heap.size:=bB3
 clear F
 obtain ⟨hc,J⟩:=xO
 clear ag
 go_wp2_with fail
 refine (ku (n:=14) hc bD0).mono ?_
 rintro e V ⟨m,bc,ad,c8,rfl,G,D⟩
 have bg:=D.size
 replace J:=J.trans D
 clear hc D
 have hc:=G
 clear G
 replace ad:=ad bD0
 clear c8
 obtain ⟨m,rfl⟩:=Ah bc
 go_wp2
 go_loopw [3,4] (λv i wr=>∃ (j:Nat) (a:Option Addr) (n c:Nat) (l:Am kT),v=.slice a n c/\i=.int .i64 j/\l.length<=24/\Hid (n=l.length)/\j < 14/\Hid ((kD.slice 149 kL).own wr [.slice a n c] l (jU w.heap.size wr.heap.size))/\V.heap.size<=wr.heap.size/\yT w0 wr p/\Touch (λk=>k=p) w wr) (λ_ i _=>(intOf i).toNat)
 case atStart=>exact ⟨m,_,0,0,[],rfl,rfl,by simp,yD rfl,by omega,yD kD.jr,Nat.le_refl _,hc,J⟩
 clear hc J
 obtain ⟨j,a,n,c,l,rfl,rfl,hl,HN,I,L,dp,hc,J⟩:=hrel
 have bz:=J.size
 cases j with
 | zero =>
   go_wp2;go_ret;have hn:=HN.out;subst hn;exact ⟨_,_,l,rfl,L.out,hl,hc,J⟩
 | succ j =>
   have dn:(0:Int) < (j:Int) + 1:=bD1;go_upto_region 5 with fail;go_wp2_with fail;refine (kXf hc).mono ?_;rintro e w4 ⟨na,nc,O,rfl,hr,bw,G,D⟩;have bu:=D.size;obtain ⟨L,J⟩:=xK;clear hc D;have hc:=G;clear G;have HR:=yD (hr);clear hr;go_upto_region 6 with fail;generalize F:World.alloc w4 _=w5;have dd:Qb w4 w5:=rT;have B:Qr w5 w4.heap.size #[Qs na O nc] 36:=vD;have br:w4.heap.size + 1<=w5.heap.size:=bB3;clear F;replace L:=yD (L.out.below dd);replace HR:=yD (HR.out.below dd);replace hc:=hc.below dd;replace J:=J.trans (Touch.of_below dd);clear dd;have FX:=yD (λ(W:Aj) (hW:Touch (λk=>k=p) w5 W/\yT w0 W p)=>kE (hW.1.kC B bD1) (j:=0) (v:=.slice na O.length nc) rfl);refine kM (λW=>Touch (λk=>k=p) w5 W/\yT w0 W p) [true,true,true,false,true,false,true] bC5 bC5 pY (⟨Touch.of_below bR.drew,hc.below bR.drew⟩) ?_;intro wS E;refine kX ?_;refine kX ?_;refine kX ?_;refine kY rfl (λK H=>?_);go_simp;refine (ku (n:=3) E.2 bD0).mono ?_;rintro e wS1 ⟨x,ao,U,a1,rfl,au,aq⟩;replace U:=U bD0;clear a1;replace E:=And.intro (E.1.trans aq) au;clear au aq;have hw:IntKind.i64.wrap (1 + x)=1 + x:=Au _ bD1;refine H _ _ E ?_;clear H K;refine jD ?_;refine kX ?_;refine kY rfl (λK H=>?_);go_simp;have d7:=E.1.size;refine (kLz ((L.out.touch E.1 pX).rd) (cn:=[.slice na O.length nc]) (HR.out.touch E.1 pX).rd bD1).mono ?_;rintro e bx ⟨v2,rfl,ca,X⟩;have cw:=X.size;obtain ⟨a2,c2,rfl,_⟩:=kD.sl ca.raw;replace E:=And.intro (E.1.trans (Touch.of_below X)) (E.2.below X);refine H _ _ E ?_;clear H K;refine jD ?_;refine kX ?_;refine kR ?_;have ak:=E.1.size;have ba:=recF_len (n:=O) (f:=1 + x) hl;generalize recF O (1 + x) l=l2 at *;have Z:=yD (ca.wide (T:=jU w.heap.size bx.heap.size) qL);have b3:=J.trans E.1;have cd:=E.2;have B2:=E.1.kC B bD1;have N:=yD (HR.out.touch E.1 pX);clear ca L J hc B HR X E hw;go_wp2_with fail;refine (zk (n:=4) cd bD0).mono ?_;rintro e w8 ⟨b,rfl,ah,o⟩;have dy:=o.size;have b1:=yD (Z.out.touch o pX);have ae:=yD (N.out.touch o pX);have B8:=o.kC B2 bD1;have ab:=b3.trans o;clear Z N B2 b3 cd o;cases b
   · go_wp2;go_roundw;case rel=>exact ⟨j,a2,l2.length,c2,l2,rfl,by go_num,ba,yD rfl,by omega,yD (b1.out.wide (λk hk=>⟨hk.1,by have:=hk.2;omega⟩)),by omega,ah,ab⟩
     case measure=>simp [intOf]
   · rename yT w0 w8 p=>hc;have L:=b1;have HR:=ae;have B:=B8;have J:=ab;clear b1 ae B8 ab;have R:=dy;go_upto_region 8 with fail;have FX:=yD (λ(W:Aj) (hW:Touch (λk=>k=p) w8 W/\yT w0 W p)=>kE (hW.1.kC B bD1) (j:=0) (v:=.slice na O.length nc) rfl);refine kM (λW=>Touch (λk=>k=p) w8 W/\yT w0 W p) [true,true,true,false,true,false,true] bC5 bC5 pY (⟨Touch.of_below bR.drew,hc.below bR.drew⟩) ?_;intro wS E;refine kX ?_;refine kX ?_;refine kX ?_;refine kY rfl (λK H=>?_);go_simp;refine (ku (n:=3) E.2 bD0).mono ?_;rintro e wS1 ⟨y,db,bk,bm,rfl,au,aq⟩;replace bk:=bk bD0;clear bm;replace E:=And.intro (E.1.trans aq) au;clear au aq;have hw:IntKind.i64.wrap (1 + y)=1 + y:=Au _ bD1;refine H _ _ E ?_;clear H K;refine jD ?_;refine kX ?_;refine kY rfl (λK H=>?_);go_simp;have bq:=E.1.size;refine (kLy ((L.out.touch E.1 pX).rd) (cn:=[.slice na O.length nc]) (HR.out.touch E.1 pX).rd bD1).mono ?_;rintro e aw ⟨v3,rfl,Y,X⟩;have ac:=X.size;obtain ⟨a3,c3,rfl,_⟩:=kD.sl Y.raw;replace E:=And.intro (E.1.trans (Touch.of_below X)) (E.2.below X);refine H _ _ E ?_;clear H K;refine jD ?_;refine kX ?_;refine kR ?_;have aj:=E.1.size;have ck:=recS_len (n:=O) (f:=1 + y) ba;generalize recS O (1 + y) l2=l3 at *;have ai:=yD (Y.wide (T:=jU w.heap.size aw.heap.size) qL);have af:=J.trans E.1;have aa:=E.2;clear Y L J hc B HR X E hw;go_wp2;go_roundw;case rel=>exact ⟨j,a3,l3.length,c3,l3,rfl,by go_num,ck,yD rfl,by omega,ai,by omega,aa,af⟩
     case measure=>simp [intOf]
def kZt {w0 w:Aj} {p:Nat} (hc:yT w0 w p) :
    Calls prog 113 #[.pointer (some ⟨p,0,none⟩)] w λe w'=>∃ a c l,e=.returned (.slice a l.length c)/\(kD.slice 149 kL).own w' [Qs a l c] l (jU w.heap.size w'.heap.size)/\l.length<=48/\yT w0 w' p/\Touch (λk=>k=p) w w':=by
 go_enter func113,ntmps113
 obtain ⟨ay,bt⟩:=hc.lt
 go_wp2_with fail
 refine (kMn hc).mono ?_
 rintro e w1 ⟨a,c,l,rfl,hO,hl,G,D⟩
 have bf:=D.size
 have J:=D
 clear hc D
 have hc:=G
 clear G
 have L:=yD (hO)
 clear hO
 go_wp2_with fail
 refine (ku (n:=10) hc bD0).mono ?_
 rintro e V ⟨m,bc,ad,c8,rfl,G,D⟩
 have bg:=D.size
 obtain ⟨L,J⟩:=xK
 clear hc D
 have hc:=G
 clear G
 replace ad:=ad bD0
 clear c8
 obtain ⟨m,rfl⟩:=Ah bc
 by_cases cd:m=0
 · subst cd;go_wp2_with fail;refine (specl4Any_c hc).mono ?_;rintro e w3 ⟨na,nc,O,rfl,hr,bw,G,D⟩;have bi:=D.size;obtain ⟨L,J⟩:=xK;clear hc D;have hc:=G;clear G;have HR:=yD (hr);clear hr;go_wp2_with fail;refine (ku (n:=8) hc bD0).mono ?_;rintro e w4 ⟨f,eu,ed,ee,rfl,G,D⟩;have bu:=D.size;obtain ⟨L,HR,J⟩:=CG;clear hc D;have hc:=G;clear G;replace ed:=ed bD0;clear ee;go_wp2_with fail;refine (zy (hc.below (bR.alloc nL _)) (kD.kEf _ [0,1,50,51,-1] bD0 bD0) bD1 bD0 bD0).mono ?_;rintro e w5 ⟨y,ar,bz,rfl,G,D⟩;obtain ⟨D,br⟩:=DF;obtain ⟨L,HR,J⟩:=CG;clear hc D;have hc:=G;clear G;have hy:=kD.kHd (lo:=-1) (hi:=51) bD0 ar;go_wp2_with (at_builtin;refine kD.zR rfl _ _ 31 rfl (r:=kL) (e:=149) underlying31 kAo rfl bD0 bD0 L.out bR (kD.yN HR.out (kD.yJ (kD.jG bD1) (kD.jG bD1))) bD3 bD3 pF bD1 ?_);intro v9 w9 bv aa;have R:=aa.size;have N:(l++[(O,f,y)]).length<=25:=bC6;generalize l++[(O,f,y)]=q at *;obtain ⟨a9,c9,b7,_⟩:=kD.kAx bv.raw;obtain rfl:v9=_:=by simpa using b7
   have b6:=yD (bv.wide (T:=jU w.heap.size w9.heap.size) bI);have E:=hc.touch aa tK sQ;have o:=J.kBq aa (λk q=>q.1.1);clear bv aa b7;go_wp2;go_ret;exact ⟨_,_,q,rfl,b6.out,by omega,E,o⟩
 have H:¬ (m:Int)=0:=bD1
 by_cases cf:m=1
 · subst cf;go_wp2_with fail;refine (kEu L.out.rd).mono ?_;rintro e w3 ⟨vc,rfl,hr,hb⟩;have bi:=hb.size;replace L:=yD (L.out.below hb);obtain ⟨hc,J⟩:=xE;clear hb;have HR:=yD (hr);clear hr;obtain ⟨ya,Y,yc,hv,U⟩:=HR.out.parts;obtain rfl:=hv;go_wp2_with (at_builtin;refine kD.kMg rfl _ _ 31 rfl (r:=kL) (e:=149) underlying31 kAo rfl bD0 bD0 L.out HR.out bD3 bD3 pF bD1 ?_);intro v9 w9 bv aa;have R:=aa.size;have N:(l++l).length<=48:=bC6;generalize l++l=q at *;obtain ⟨a9,c9,b7,_⟩:=kD.kAx bv.raw;obtain rfl:v9=_:=by simpa using b7
   have b6:=yD (bv.wide (T:=jU w.heap.size w9.heap.size) bI);have E:=hc.touch aa tY tC;have o:=J.kBq aa (λk q=>q.1);clear bv aa b7;go_wp2;go_ret;exact ⟨_,_,q,rfl,b6.out,by omega,E,o⟩
 have F:¬ (m:Int)=1:=bD1
 go_wp2
 go_ret
 exact ⟨_,_,l,rfl,L.out.wide rG,by omega,hc,J⟩
end Go.Proofs.YtjhfdpopkkmigaaGreat
namespace Go.Proofs.YtjhfdpopkkmigaaGreat
open Go _root_.Go.Proofs.Tryz
section
variable {P:Program} {ops:Av Oper} {S S2:Aj->Prop} {Q:Exit->Act->Aj->Prop}
def treeC (md:Ag) (ops:Av Oper) (n:Nat):Bool :=
  (List.range ops.size).all λt=>decide (t<=n) || (((List.range t).any λj=>decide (n<=j) && Ap md ops t j) || (decide (0 < n) && (Ap md ops t (n - 1) && kGz md ops (n - 1) [])))
def sink_open {md:Ag} {n m:Nat} {listed:Av Bool} (hs:kGz md ops m []=true) (hm:m < ops.size) (inv:Ar md ops n listed):∀ (d i:Nat),m - i=d->i<=m->listed.getD i true=false->listed.getD m true=false:=by
 intro d;induction d using Nat.strongRecOn with
 | _ d ih =>
   intro i hd hi E;by_cases b3:i=m
   · subst b3;exact E
   · have h1:=Ai.1 hs i (List.mem_range.2 bD1);simp only [List.contains_nil,Bool.false_or,Bool.not_false,Bool.true_and] at h1;obtain ⟨j,I,bn⟩:=List.any_eq_true.1 h1;simp only [Aa,Ab] at bn;have bx:j<=m:=rP;obtain ⟨N,J,e,he,hb,o⟩:=Ak bn.2;cases hl:listed.getD j false with
     | true =>
       have h2:=inv.closed j N J hl e he hb;rw [o,getD_both E] at h2;cases h2
     | false =>
       have H:j < listed.size:=vP;exact ih (m - j) bD1 j rfl bx (getD_in H hl)
def kRl {md:Ag} {n:Nat} {G:Am Nat} {listed:Av Bool} (hs:kGz md ops n G=true) (hc:treeC md ops n=true) (hn:n < ops.size) (inv:Ar md ops n listed) :
    ∀ (d i:Nat),n - i=d->i < n->G.contains i=false->listed.getD i true=false->∀ t,n<=t->t ∉ Ad md ops listed:=by
 intro d
 induction d using Nat.strongRecOn with
 | _ d ih =>
   intro i hd hi dy E t ht hr;obtain ⟨_,V,D,O⟩:=mem_ready.1 hr;have F:t < ops.size:=(Array.getElem?_eq_some_iff.1 D).1;by_cases U:t=n
   · exact oF
   · have h1:=Ai.1 hc t (List.mem_range.2 F);simp only [Bool.or_eq_true,Aa,Ab] at h1;rcases h1 with h1 | h1 | h1
     · omega
     · exact oG
     · obtain ⟨af,hw,Y⟩:=h1;have Z:=sink_open Y bD1 inv _ i rfl bD1 E;obtain ⟨X,L,e,he,hb,o⟩:=Ak hw;have:X=V:=Option.some.inj (L.symm.trans D);subst this;have h2:=O e he hb;rw [o,getD_both Z] at h2;cases h2
def kTz {md:Ag} {n i:Nat} {G:Am Nat} {V:Oper} {v:Value} {L:Av Bool->Act->Aj->Prop} (hi:ops[i]?=some V) (D:∀ (j:Nat) (o:Oper) cs b,ops[j]?=some o->o.op≠.select cs b)
    (hQ:∀ c a w,Q (.panic c) (a.put V.dst v) w->Q (.panic c) a w) (hs:kGz md ops n G=true) (hc:treeC md ops n=true) (hn:n < ops.size) (X:i < n) (dy:G.contains i=false)
    (Y:∀ listed a w,L listed a w->∀ j∈Ad md ops listed,n<=j) :
    ∀ (f:Nat) (listed:Av Bool) (a:Act) (w:Aj),Ar md ops n listed ->
      (∀ j N,ops[j]?=some N->j≠i->listed.getD j true=false->(∀ e∈N.after,Region.binds md e=true->e.on≠i)->V.apart ops N=true) ->
      i∈Ad md ops listed->YieldsIf P ops S V v a->S w ->
      kBb P md ops Q S n L f (listed.setIfInBounds i true) (a.put V.dst v) w->kBb P md ops Q S n L (f + 1) listed a w:=by
 intro f
 induction f with
 | zero =>
   intro listed a w inv _ hr hy hS H;have E:=(mem_ready.1 hr).1;refine ⟨λh=>vF,λj I=>?_⟩;have ab:j < n:=by
     rcases Nat.lt_or_ge j n with h | h
     · exact h
     · exact absurd I (kRl hs hc hn inv _ i rfl X dy E j h)
   exact o7
 | succ f ih =>
   intro listed a w inv R hr hy hS H;have E:=(mem_ready.1 hr).1;refine ⟨λh=>vF,λj I=>?_⟩;have ab:j < n:=by
     rcases Nat.lt_or_ge j n with h | h
     · exact h
     · exact absurd I (kRl hs hc hn inv _ i rfl X dy E j h)
   exact o8
def soft2OkC (md:Ag) (ops:Av Oper) (G:Am Nat) (q q2:Am (Nat × Bool)):Bool :=
  Aq ops && (decide (G.length + q.length < ops.size) && (G.all (λx=>decide (x < G.length + q.length)) && (q.all (λx=>decide (x.1 < G.length + q.length) && !G.contains x.1) && (kGz md ops (G.length + q.length) G && (treeC md ops (G.length + q.length) &&
    (preB md ops G (Ac ops.size false) && (q2.all (λx=>decide (x.1 < ops.size)) && (decide (G.length + q.length + q2.length=ops.size) && kDe md ops (G.length + q.length) q2 q (kIh G (Ac ops.size false))))))))))
def kGd {l:Am Oper} {n:Nat} {G:Am Nat} {q2:Am (Nat × Bool)} (D:Aq l.toArray=true) (hQ:∀ c a d v w,Q (.panic c) (Act.put a d v) w->Q (.panic c) a w)
    (hs:kGz .any l.toArray n G=true) (hc:treeC .any l.toArray n=true) (hn:n < l.toArray.size):∀ (q:Am (Nat × Bool)) (k:Nat) (listed:Av Bool) (a:Act) (w:Aj),
    q.all (λx=>decide (x.1 < n) && !G.contains x.1)=true->Ar .any l.toArray n listed->kDe .any l.toArray n q2 q listed=true->S w->kKq P l.toArray S S2 Q (jB l q2) (q2.map (·.2)) k (jB l q) (q.map (·.2)) a w ->
    kBb P .any l.toArray Q S n (λlisted a w=>(Ad .any l.toArray listed).all (λj=>decide (n<=j))=true/\kEb .any l.toArray q2 listed=true/\S2 w/\∃ k,kCi P l.toArray S2 Q k (jB l q2) (q2.map (·.2)) a w) q.length listed a w
  | [],k,listed,a,w,_,inv,hB,hS,h=>by
    exact oH
  | (i,true) :: q,k,listed,a,w,hi,inv,hB,hS,h=>by
    simp only [List.all_cons,Aa,Ab,Al] at hi;have hil:i < l.toArray.size:=Nat.lt_trans hi.1.1 hn;have h0:l.toArray[i]?=some l.toArray[i]:=Ae hil;have hp:jB l ((i,true) :: q)=l.toArray[i] :: jB l q:=by
      exact o9
    rw [hp] at h;obtain ⟨v,hy,h⟩:=h;simp only [kDe,Aa] at hB;obtain ⟨hr,bu⟩:=F9;exact kTz h0 (Region.noSelect_spec D) (λc a w=>hQ c a _ _ w) hs hc hn hi.1.1 hi.1.2 (λF a' w' J j I=>by simpa using Ai.1 J.1 j I) q.length listed a w inv (Region.free_spec h0 hB.1.2) hr hy hS
      (kGd D hQ hs hc hn q (k + 1) _ _ _ bu (inv.set hr hi.1.1) hB.2 hS h)
  | (i,false) :: q,k,listed,a,w,hi,inv,hB,hS,h=>by
    simp only [List.all_cons,Aa,Ab,Al] at hi;obtain ⟨bu,hil⟩:=FD;have h0:l.toArray[i]?=some l.toArray[i]:=Ae hil;have hp:jB l ((i,false) :: q)=l.toArray[i] :: jB l q:=by
      exact o9
    rw [hp] at h;simp only [kDe,Aa,beq_iff_eq] at hB;have hr:i∈Ad .any l.toArray listed:=bB1;refine ⟨by rw [hB.1];simp,λj I=>?_⟩;rw [hB.1] at I;obtain rfl:j=i:=bB6;refine ⟨hi.1.1,?_⟩;refine wpOp_mono (λa' w' E=>⟨E.1,kGd D hQ hs hc hn q (k + 1) _ _ _ bu (inv.set hr hi.1.1) hB.2 E.1 E.2⟩) (K:=λa' w'=>S w'/\kKq P l.toArray S S2 Q (jB l q2) (q2.map (·.2)) (k + 1) (jB l q) (q.map (·.2)) a' w') ?_;exact oD
def kHx {id:Nat} {a:Act} {w:Aj} {l:Am Oper} (S S2:Aj->Prop) (G:Am Nat) (q q2:Am (Nat × Bool)) (hm:P.follows .mixedOrders=true) (hB:soft2OkC .any l.toArray G q q2=true)
    (hQ:∀ c a d v w,Q (.panic c) (Act.put a d v) w->Q (.panic c) a w) (hS:S { w with drawn:=w.drawn + 1 })
    (h:∀ w',S w'->pre P l.toArray (λa'=>kIf P l.toArray S S2 Q (jB l q2) (q2.map (·.2)) 0 (jB l q) (q.map (·.2)) a' w') (zK l G) a):(Code.region id l.toArray true).wp P Q a w:=by
 simp only [soft2OkC,Aa,Ab] at hB
 have h:=h _ hS
 unfold pre at h
 unfold kIf at h
 have D:Ar .any l.toArray (G.length + q.length) (Ac l.toArray.size false) :=
   ⟨by simp,λj N _ hl=>pI,λt _ ht=>getD_in bA9 (getD_replicate_false _ _)⟩
 refine wp_region_any hm ?_
 obtain ⟨b1,b2,R,O,V,b6,L,I,U,F⟩:=hB
 have bu:q.all (λx=>decide (x.1 < G.length + q.length) && !G.contains x.1)=true:=dU
 have key:=kLe (f:=q.length + q2.length) b1 hQ b2 G (Ac l.toArray.size false) a (by simpa using R) D L (kLn (λa' hk=>by
   intro E;have H:=kGd (S2:=S2) b1 hQ V b6 b2 q 0 _ a' _ bu E F hS hk;exact kBf (Q:=Q) (g:=q2.length) (λlisted a' w' J=>by
     obtain ⟨_,hb,bo,k,hw⟩:=J;exact wpAny_of_held (S:=S2) _ _ _ _ (kDu b1 hQ q2 k _ listed a' w' I nL hb bo hw)) _ _ _ _ H) _ _ h)
 rw [show G.length + (q.length + q2.length)=l.toArray.size by omega] at key
 exact key
end
end Go.Proofs.YtjhfdpopkkmigaaGreat

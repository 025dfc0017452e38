/-
  The bytes that an advertisement is written in: the plain law (no program).
-/
import Derived.Test.YtjhfdpopkkmigaaGreatPPend
set_option linter.unusedVariables false
set_option linter.defProp false
set_option linter.unusedSimpArgs false
set_option linter.unnecessarySimpa false
set_option maxRecDepth 100000
set_option maxHeartbeats 4000000
open List renaming mem_singleton->Aa,mem_or_eq_of_mem_set->Ae,getElem?_cons_succ->Ai,getElem?_cons_zero->Aj,mem_append->Ak,getElem_mem->Ap,length_cons->Aq
open Go renaming World->Ab
open Go.IntWalk renaming i64_in->Ac
open Int renaming tmod_eq_emod_of_nonneg->Ad,eq_ofNat_of_zero_le->Ah
open _root_ renaming List->Ag
open Go.IntKind renaming i64->Al
open Go.RowKit renaming intOf->Am
namespace Go.Proofs.YtjhfdpopkkmigaaGreat
open Go.RowKit _root_.Go.Proofs.Tryz
def kSa (o:Ag jA):Prop:=rising o/\∀ r∈o,r.2.1 < 100\/1000000 < r.2.1
def goodR_nil:kSa []:=⟨List.Pairwise.nil,λr h=>by simp at h⟩
def kQq {r:jA} (h:r.2.1 < 100\/1000000 < r.2.1):kSa [r]:=⟨List.pairwise_singleton _ _,λq hq=>by rw [Aa.1 hq];exact h⟩
def goodR_put {r:jA} {o:Ag jA} (h:r.2.1 < 100) (hr:kSa o):kSa (kOv r o) :=
  ⟨putR_rising hr.1,λq hq=>by rcases putR_mem hq with rfl | hq;exact .inl h;exact hr.2 q hq⟩
def kAf (l:Ag kI) (m:Nat):Prop:=l.length<=m/\∀ y∈l,y.2.1.length<=m/\kSa y.2.1/\yu y.1
def kAf.mono {l:Ag kI} {m k:Nat} (h:kAf l m) (hk:m<=k):kAf l k:=⟨Nat.le_trans h.1 hk,λy hy=>⟨Nat.le_trans (h.2 y hy).1 hk,(h.2 y hy).2⟩⟩
def kWt {x:zh} {f t:Int} {l:Ag kI} {m:Nat} (hn:x.2.1 < 100) (hx:yu x.1) (h:kAf l m):kAf (addQ x f t l) (m + 1):=by
 cases hk:kBl x f l
 · rw [(jAw hk).1];have:=h.1;exact ⟨by omega,λy hy=>⟨Nat.le_succ_of_le (h.2 y hy).1,(h.2 y hy).2⟩⟩
 by_cases hi:idxOf (yP x.1) l < 0
 · rw [(addQ_new (t:=t) hk hi).1];refine ⟨by have:=h.1;simp;omega,λy hy=>?_⟩;rcases Ak.1 hy with hy | hy
   · exact ⟨Nat.le_succ_of_le (h.2 y hy).1,(h.2 y hy).2⟩
   obtain rfl:=Aa.1 hy;exact ⟨by simp,kQq (.inl hn),hx⟩
 obtain ⟨k,am,ad⟩:=kIm hi;rw [(addQ_set (t:=t) hk ad am).1];refine ⟨by have:=h.1;simp;omega,λy hy=>?_⟩;rcases Ae hy with hy | rfl
 · exact ⟨Nat.le_succ_of_le (h.2 y hy).1,(h.2 y hy).2⟩
 have h1:=putR_len (kRp x f t) l[k].2.1;have h2:=h.2 _ (Ap am);have h3:=h2.1;refine ⟨?_,goodR_put hn h2.2.1,h2.2.2⟩;show (kOv (kRp x f t) l[k].2.1).length<=m + 1;omega
def kXq {l:Ag jK} {n:kr} {x:Int}:(kEy l n x).length<=max l.length 24:=by
 unfold kEy;split
 · simp;omega
 simp at *;omega
def kFk (s:Ag jK):Prop:=s.length<=24/\∀ y∈s,y.2 < 100
def smallS_nil:kFk []:=⟨by simp,λy h=>by simp at h⟩
def smallS_snoc {s:Ag jK} {Y:kr} {x:Int} (h:kFk s) (hl:s.length < 24) (hx:x < 100):kFk (s++[(Y,x)]):=by
 refine ⟨by simp;omega,λy hy=>?_⟩;rcases Ak.1 hy with hy | hy
 · exact h.2 y hy
 rw [Aa.1 hy];exact hx
def smallS_add {s:Ag jK} {Y:kr} {x:Int} (h:kFk s) (hx:x < 100):kFk (kEy s Y x):=by
 refine ⟨by have h1:=kXq (l:=s) (n:=Y) (x:=x);have:=h.1;omega,λy hy=>?_⟩;have:y∈s++[(Y,x)]:=by
  unfold kEy at hy;split at hy
  · exact List.mem_of_mem_drop hy
  exact hy
 rcases Ak.1 this with hy | hy
 · exact h.2 y hy
 rw [Aa.1 hy];exact hx
def sentP_small {n:kr} {t:Int} {l:Ag kI} {m:Nat} (h:kAf l m):kAf (kVc n t l) m:=by
 by_cases hi:idxOf (yP n) l < 0
 · rw [sentP_no hi];exact h
 obtain ⟨k,am,ad⟩:=kIm hi;rw [kYd ad am];refine ⟨by have:=h.1;simp;omega,λy hy=>?_⟩;rcases Ae hy with hy | rfl
 · exact h.2 y hy
 exact show l[k].2.1.length<=m/\kSa l[k].2.1/\yu l[k].1 from h.2 _ (Ap am)
def kXh {w0 w:Ab} {p:Nat} (hc:yT w0 w p) :
    Calls prog 173 #[.pointer (some ⟨p,0,none⟩)] w λe w'=>∃ a n c l,e=.returned (.slice a n c)/\n=l.length/\kAf l 8/\(kD.slice 145 kJ).own w' [.slice a n c] l (jU w.heap.size w'.heap.size)/\yT w0 w' p/\Touch (λk=>k=p) w w':=by
 go_enter func173,ntmps173
 obtain ⟨ay,bt⟩:=hc.lt
 go_upto_region 2 with fail
 generalize F:World.alloc w _=w1
 have E_:Qb w w1:=rT
 have bf:w.heap.size + 1<=w1.heap.size:=bB3
 clear F
 replace hc:=hc.below E_
 have J:Touch (λk=>k=p) w w1:=Touch.of_below E_
 clear E_
 go_wp2_with fail
 refine (ku (n:=8) hc bD0).mono ?_
 rintro e V ⟨x,ao,U,a1,rfl,G,D⟩
 have bg:=D.size
 replace J:=J.trans D
 clear hc D
 have hc:=G
 clear G
 replace U:=U bD0
 clear a1
 obtain ⟨m,rfl⟩:=Ah ao
 go_wp2
 go_loopw [3,4] (λv i wr=>∃ (j k:Nat) (a:Option Addr) (n c:Nat) (l:Ag kI),v=.slice a n c/\i=.int .i64 j/\j + k<=8/\Hid (n=l.length)/\Hid (kAf l k)/\Hid ((kD.slice 145 kJ).own wr [.slice a n c] l (jU w.heap.size wr.heap.size))/\V.heap.size<=wr.heap.size/\yT w0 wr p/\Touch (λk=>k=p) w wr) (λ_ i _=>(Am i).toNat)
 case atStart=>exact ⟨m,0,_,0,0,[],rfl,rfl,by omega,yD rfl,yD ⟨Nat.le_refl _,by simp⟩,yD kD.jr,Nat.le_refl _,hc,J⟩
 clear hc J
 obtain ⟨j,k,a,n,c,l,rfl,rfl,I,HN,N,L,dp,hc,J⟩:=hrel
 cases j with
 | zero =>
   have dq:¬ (0:Int) < (0:Nat):=bD1;go_wp2;refine bodyPost_ret (v:=.slice a n c) (by simp [results,results173,go_sem]) rfl ⟨a,n,c,rfl,l,HN.out,N.out.mono bD1,L.out,hc,J⟩
 | succ j =>
   have dn:(0:Int) < (j:Int) + 1:=bD1;replace L:=yD (L.out.wide (T:=λq=>w.heap.size<=q/\q < wr.heap.size) (λ_ h=>h));have am:k<=7:=bD1;go_wp2_with fail;refine (kOl hc).mono ?_;rintro e w6 ⟨ia,ic,Y,nn,nh,nt,rfl,ab,ah,hn,hh,ht,G,D⟩;have da:=D.size;obtain ⟨L,J⟩:=xK;clear hc D;have hc:=G;clear G;have fl:=yD ah;have HI:=yD ((int_own (n:=nn) ab bD1 hh ht).wide (T:=λq=>wr.heap.size<=q/\q < w6.heap.size) (λ_ h=>h));have R:=yD (ab.wide (T:=λq=>wr.heap.size<=q/\q < w6.heap.size) (λ_ h=>h));clear ab;go_upto_region 6 with fail;generalize F:World.alloc w6 _=w7;have aj:Qb w6 w7:=rT;have B:Qr w7 w6.heap.size #[Qs ia Y ic,Qn nn,Qn nh,Qn nt] 68:=vD;have ea:w6.heap.size + 1<=w7.heap.size:=bB3;clear F;replace L:=yD (L.out.below aj);replace HI:=yD (HI.out.below aj);replace R:=yD (R.out.below aj);replace hc:=hc.below aj;replace J:=J.trans (Touch.of_below aj);clear aj;have FX:=yD (λ(W:Ab) (hW:Touch (λk=>k=p) w7 W/\yT w0 W p)=>And.intro (kE (hW.1.kC B bD1) (j:=0) (v:=.slice ia Y.length ic) rfl) (And.intro (kE (hW.1.kC B bD1) (j:=1) (v:=.int .i64 nn) rfl) (And.intro (kE (hW.1.kC B bD1) (j:=2) (v:=.int .i64 nh) rfl) (kE (hW.1.kC B bD1) (j:=3) (v:=.int .i64 nt) rfl))));refine jo (λW=>Touch (λk=>k=p) w7 W/\yT w0 W p) [(0,true),(1,true),(2,true),(4,true),(3,false),(5,false),(6,true),(7,false),(8,true),(9,true),(10,true),(11,true)] bC5 bC5 pY (⟨Touch.of_below bR.drew,hc.below bR.drew⟩) ?_;intro wS E;simp only [jB,Ai,Aj,List.map_cons,List.map_nil];iterate 4
    refine kX ?_
   refine kY rfl (λK H=>?_);go_simp;refine (ku (n:=4) E.2 bD0).mono ?_;rintro e wS1 ⟨x,ao,U,a1,rfl,au,aq⟩;replace U:=U bD0;clear a1;replace E:=And.intro (E.1.trans aq) au;clear au aq;refine H _ _ E ?_;clear H K;refine jD ?_;refine kY rfl (λK H=>?_);go_simp;refine (ku (n:=10) E.2 bD0).mono ?_;rintro e wS1 ⟨y,db,bk,bm,rfl,au,aq⟩;replace bk:=bk bD0;clear bm;replace E:=And.intro (E.1.trans aq) au;clear au aq;have hw:Al.wrap (40 + y)=40 + y:=Ac _ bD1;refine H _ _ E ?_;clear H K;refine jD ?_;refine kX ?_;refine kY rfl (λK H=>?_);go_simp;refine (kGi ((L.out.touch E.1 pX).rd) (λy hy=>Nat.le_trans (N.out.2 y hy).1 bD1) (HI.out.touch E.1 pX).rd bD1 bD1).mono ?_;rintro e bx ⟨v2,rfl,O2,X⟩;have d7:=E.1.size;have bq:=X.size;replace E:=And.intro (E.1.trans (Touch.of_below X)) (E.2.below X);have Z:=yD O2;refine H _ _ E ?_;clear H K X O2;refine jD ?_;iterate 4
    refine kX ?_
   refine kR ?_;obtain ⟨l2,ba⟩:∃ l2,addQ (Y,nn,nh,nt) x (40 + y) l=l2:=⟨_,rfl⟩;rw [ba] at Z;have af:=yD (show kAf l2 (k + 1) from ba ▸ kWt (show nn < 100 by omega) fl.out.2 N.out);clear ba HI L;obtain ⟨a2,c2,rfl,_⟩:=kD.sl Z.out.raw;rename Ab=>w8;have d9:=E.1.size;have G:=E.2;have D:=E.1;clear E;replace B:=D.kC B bD1;replace R:=yD (R.out.touch D pX);replace J:=J.trans D;clear hc D;have hc:=G;clear G;replace Z:=yD (Z.out.wide (T:=λq=>w.heap.size<=q/\q < w8.heap.size) rH);go_wp2_with fail;refine (zk (n:=2) hc bD0).mono ?_;rintro e w9 ⟨b,rfl,G,D⟩;have d4:=D.size;replace B:=D.kC B bD1;replace R:=yD (R.out.touch D pX);replace Z:=yD (Z.out.touch D pX);replace J:=J.trans D;clear hc D;have hc:=G;clear G;cases b
   · go_wp2;go_roundw;case rel=>exact ⟨j,k + 1,a2,l2.length,_,l2,rfl,by go_num,by omega,yD rfl,af,yD (Z.out.wide rO),by omega,hc,J⟩
     case measure=>first|(simp [Am];done)|(simp [Am];omega)
   · go_upto_region 8 with fail;have FX:=yD (λ(W:Ab) (hW:Touch (λk=>k=p) w9 W/\yT w0 W p)=>And.intro (kE (hW.1.kC B bD1) (j:=0) (v:=.slice ia Y.length ic) rfl) (And.intro (kE (hW.1.kC B bD1) (j:=1) (v:=.int .i64 nn) rfl) (And.intro (kE (hW.1.kC B bD1) (j:=2) (v:=.int .i64 nh) rfl) (kE (hW.1.kC B bD1) (j:=3) (v:=.int .i64 nt) rfl))));refine kM (λW=>Touch (λk=>k=p) w9 W/\yT w0 W p) [true,true,true,true,false,true,false,true] bC5 bC5 pY (⟨Touch.of_below bR.drew,hc.below bR.drew⟩) ?_;intro wS E;iterate 4
      refine kX ?_
     refine kY rfl (λK H=>?_);go_simp;refine (ku (n:=12) E.2 bD0).mono ?_;rintro e wS1 ⟨z,b1,bj,a7,rfl,au,aq⟩;replace bj:=bj bD0;clear a7;replace E:=And.intro (E.1.trans aq) au;clear au aq;have hw:Al.wrap (40 + z)=40 + z:=Ac _ bD1;refine H _ _ E ?_;clear H K;refine jD ?_;refine kX ?_;refine kY rfl (λK H=>?_);go_simp;refine (kUv ((Z.out.touch E.1 pX).rd) (cn:=[.slice ia Y.length ic]) ((R.out.touch E.1 pX).rd) bD1).mono ?_;rintro e bx ⟨v3,rfl,O3,X⟩;have d7:=E.1.size;have bq:=X.size;replace E:=And.intro (E.1.trans (Touch.of_below X)) (E.2.below X);have ai:=yD O3;refine H _ _ E ?_;clear H K X O3;refine jD ?_;refine kX ?_;refine kR ?_;obtain ⟨l3,ck⟩:∃ l3,kVc Y (40 + z) l2=l3:=⟨_,rfl⟩;rw [ck] at ai;have ac:=yD (show kAf l3 (k + 1) from ck ▸ sentP_small af.out);clear ck Z R;obtain ⟨a3,c3,rfl,_⟩:=kD.sl ai.out.raw;rename Ab=>cz;have ef:=E.1.size;have G:=E.2;have D:=E.1;clear E;replace B:=D.kC B bD1;replace J:=J.trans D;clear hc D;have hc:=G;clear G;have Z:=yD (ai.out.wide (T:=λq=>w.heap.size<=q/\q < cz.heap.size) rH);go_wp2;go_roundw;case rel=>exact ⟨j,k + 1,a3,l3.length,_,l3,rfl,by go_num,by omega,yD rfl,ac,yD (Z.out.wide rO),by omega,hc,J⟩
     case measure=>first|(simp [Am];done)|(simp [Am];omega)
def kXg {w0 w:Ab} {p:Nat} (hc:yT w0 w p) :
    Calls prog 172 #[.pointer (some ⟨p,0,none⟩)] w λe w'=>∃ a n c s,e=.returned (.slice a n c)/\n=s.length/\kFk s/\(kD.slice 102 jE).own w' [.slice a n c] s (λq=>w.heap.size<=q/\q < w'.heap.size)/\yT w0 w' p/\Touch (λk=>k=p) w w':=by
 go_enter func172,ntmps172
 obtain ⟨ay,bt⟩:=hc.lt
 go_upto_region 2 with fail
 generalize F:World.alloc w _=w1
 have E_:Qb w w1:=rT
 have bf:w.heap.size + 1<=w1.heap.size:=bB3
 clear F
 replace hc:=hc.below E_
 have J:Touch (λk=>k=p) w w1:=Touch.of_below E_
 clear E_
 go_wp2_with fail
 refine (ku (n:=5) hc bD0).mono ?_
 rintro e V ⟨x,ao,U,a1,rfl,G,D⟩
 have bg:=D.size
 replace J:=J.trans D
 clear hc D
 have hc:=G
 clear G
 replace U:=U bD0
 clear a1
 obtain ⟨m,rfl⟩:=Ah ao
 go_wp2
 go_loopw [3,4] (λv i wr=>∃ (j:Nat) (a:Option Addr) (n c:Nat) (s:Ag jK),v=.slice a n c/\i=.int .i64 j/\j<=4/\Hid (n=s.length)/\Hid (kFk s)/\Hid ((kD.slice 102 jE).own wr [.slice a n c] s (λq=>w.heap.size<=q/\q < wr.heap.size))/\V.heap.size<=wr.heap.size/\yT w0 wr p/\Touch (λk=>k=p) w wr) (λ_ i _=>(Am i).toNat)
 case atStart=>exact ⟨m,_,0,0,[],rfl,rfl,by omega,yD rfl,yD smallS_nil,yD kD.jr,Nat.le_refl _,hc,J⟩
 clear hc J
 obtain ⟨j,a,n,c,s,rfl,rfl,I,HN,HL,L,dp,hc,J⟩:=hrel
 cases j with
 | zero =>
   have dq:¬ (0:Int) < (0:Nat):=bD1;go_wp2_with fail;refine (zk (n:=12) hc bD0).mono ?_;rintro e w6 ⟨b,rfl,G,D⟩;have da:=D.size;obtain ⟨L,J⟩:=xK;clear hc D;have hc:=G;clear G;replace L:=yD (L.out.wide (T:=λq=>w.heap.size<=q/\q < w6.heap.size) rO);cases b
   · exact eP
   · go_wp2;go_loopw [3] (λv E=>∃ (a:Option Addr) (n c:Nat) (s:Ag jK),v=.slice a n c/\Hid (n=s.length)/\Hid (kFk s)/\Hid ((kD.slice 102 jE).own E [.slice a n c] s (λq=>w.heap.size<=q/\q < E.heap.size))/\w6.heap.size<=E.heap.size/\yT w0 E p/\Touch (λk=>k=p) w E) (λv _=>match v with | .slice _ n _=>25 - n | _=>0);case atStart=>exact ⟨a,n,c,s,rfl,HN,HL,L,Nat.le_refl _,hc,J⟩
     case round =>
       clear hc J L HN HL;obtain ⟨a,n,c,s,rfl,HN,HL,L,dj,hc,J⟩:=hrel;go_wp2_with fail;refine (ku (n:=2) hc bD0).mono ?_;rintro e cz ⟨y,db,bk,bm,rfl,G,D⟩;have ef:=D.size;obtain ⟨L,J⟩:=xK;clear hc D;have hc:=G;clear G;replace bk:=bk bD0;clear bm;replace L:=yD (L.out.wide (T:=λq=>w.heap.size<=q/\q < cz.heap.size) rO);have hw:Al.wrap (23 + y)=23 + y:=Ac _ bD1;by_cases hlt:(n:Int) < 23 + y
       · have W:n < 24:=bD1;go_wp2_with fail;refine (kUq (s:={ data:=#[47,115] }) bD0).mono ?_;rintro e cw ⟨na,nc,Y,rfl,hr,d6,hb⟩;have et:=hb.size;replace L:=yD (L.out.below hb);obtain ⟨hc,J⟩:=xE;clear hb;have HR:=yD (hr.wide (T:=λq=>cz.heap.size<=q/\q < cw.heap.size) (λ_ h=>h));clear hr;have ac:-9223372036854775808<=(n:Int)/\(n:Int)<=9223372036854775807:=bD1;go_wp2_with (at_builtin;refine kD.zR rfl _ _ 29 rfl (r:=jE) (e:=102) underlying29 kFv rfl bD0 bD0 (w:=cw) L.out bR (c:=1) (kD.yN (r:=kW) (q:=kD.int) (cs:=[.slice na Y.length nc]) (ds:=[.int .i64 n]) (x:=Y) (y:=(n:Int)) HR.out (kD.jG ac)) bD3 bD3 pF wB ?_);intro v2 c3 hQ an;have N:Touch (λk=>w.heap.size<=k/\k < cz.heap.size) cw c3:=an.wide (λj q=>q.1);have ew:=N.size;clear an;obtain ⟨s2,bo⟩:∃ s2,s++[(Y,(n:Int))]=s2:=⟨_,rfl⟩;rw [bo] at hQ;have aa:=yD (show s2.length=s.length + 1 by rw [<- bo];simp);have b2:=yD (show kFk s2 from bo ▸ smallS_snoc HL.out wB (show (n:Int) < 100 by omega));clear bo L;obtain ⟨a2,c2,rfl,_⟩:=kD.sl hQ.raw;have Z:=yD (hQ.wide (T:=λq=>w.heap.size<=q/\q < c3.heap.size) (λj q=>by rcases q with q | q | q;exact ⟨q.1,by have:=q.2;omega⟩;exact ⟨by have:=q.1;omega,by have:=q.2;omega⟩;exact ⟨by have:=q.1;omega,q.2⟩));clear hQ;have cd:=hc.touch N tY sM;have b3:=J.kBq N sM;clear N hc J;go_wp2;go_roundw;case rel=>exact ⟨a2,s2.length,_,s2,rfl,yD rfl,b2,Z,by omega,cd,b3⟩
         case measure=>have h1:=aa.out;have h2:=HN.out;first | omega|(simp;omega)
       · exact eP
 | succ j =>
   have dn:(0:Int) < (j:Int) + 1:=bD1;replace L:=yD (L.out.wide (T:=λq=>w.heap.size<=q/\q < wr.heap.size) (λ_ h=>h));go_wp2_with fail;refine (kOl hc).mono ?_;rintro e w6 ⟨ia,ic,Y,nn,nh,nt,rfl,ab,ah,hn,hh,ht,G,D⟩;have da:=D.size;obtain ⟨L,J⟩:=xK;clear hc D;have hc:=G;clear G;have R:=yD (ab.wide (T:=λq=>wr.heap.size<=q/\q < w6.heap.size) (λ_ h=>h));clear ab;go_upto_region 6 with fail;generalize F:World.alloc w6 _=w7;have aj:Qb w6 w7:=rT;have B:Qr w7 w6.heap.size #[Qs ia Y ic,Qn nn,Qn nh,Qn nt] 68:=vD;have ea:w6.heap.size + 1<=w7.heap.size:=bB3;clear F;replace L:=yD (L.out.below aj);replace R:=yD (R.out.below aj);replace hc:=hc.below aj;replace J:=J.trans (Touch.of_below aj);clear aj;obtain ⟨av,O,H,o⟩:=kKs B;go_wp2_with fail;refine (kNh L.out.rd (by have:=HL.out.1;omega) (cn:=[.slice ia Y.length ic]) R.out.rd bD1).mono ?_;rintro e w8 ⟨v2,rfl,O2,hb⟩;have d9:=hb.size;replace B:=kC B hb;replace L:=yD (L.out.below hb);replace R:=yD (R.out.below hb);obtain ⟨hc,J⟩:=xE;clear av O H o;clear hb;obtain ⟨s2,bo⟩:∃ s2,kEy s Y nn=s2:=⟨_,rfl⟩;rw [bo] at O2;have aa:=yD (show kFk s2 from bo ▸ smallS_add HL.out (show nn < 100 by omega));clear bo;obtain ⟨a2,c2,rfl,_⟩:=kD.sl O2.raw;have Z:=yD (O2.wide (T:=λq=>w.heap.size<=q/\q < w8.heap.size) rH);go_wp2;go_roundw;case rel=>exact ⟨j,a2,s2.length,_,s2,rfl,by go_num,by omega,yD rfl,aa,Z,by omega,hc,J⟩
   case measure=>first|(simp [Am];done)|(simp [Am];omega)
structure SR (cw w:Ab) (p R:Nat) (t:TypeId) (n:Nat) (W:Ab):Prop where
  touch:Touch (λk=>k=p\/k=R) w W
  cur:yT cw W p
  row:∃ l:Ag Value,l.length=n/\W.heap[R]?=some (.cells l.toArray t (0,0))
section
variable {cw w W W':Ab} {p R n:Nat} {t:TypeId}
def SR.start {cs:Array Value} (hc:yT cw w p) (hr:w.heap[R]?=some (.cells cs t (0,0))) (hn:cs.toList.length=n):SR cw w p R t n { w with drawn:=w.drawn + 1 } :=
  ⟨Touch.of_below bR.drew,hc.below bR.drew,cs.toList,hn,by simpa using hr⟩
def SR.go (h:SR cw w p R t n W) (ht:Touch (λk=>k=p) W W') (hc:yT cw W' p) (hne:¬ R=p):SR cw w p R t n W':=by
 obtain ⟨l,hl,hr⟩:=h.row;exact ⟨h.touch.trans (ht.wide (λk q=>.inl q)),hc,l,hl,ht.kC hr hne⟩
def SR.below (h:SR cw w p R t n W) (b:Qb W W'):SR cw w p R t n W':=by
 obtain ⟨l,hl,hr⟩:=h.row;exact ⟨h.touch.trans (Touch.of_below b),h.cur.below b,l,hl,kC hr b⟩
def SR.set (h:SR cw w p R t n W) (hne:¬ R=p) (h0:cw.heap.size<=R) (j:Nat) (v:Value):SR cw w p R t n (W.setCell ⟨R,j,none⟩ v):=by
 obtain ⟨l,hl,hr⟩:=h.row;refine ⟨h.touch.trans ((jg W R j v).wide (λk q=>.inr q)),h.cur.touch (jg W R j v) (λq=>hne q.symm) (λk q=>q ▸ h0),(l.toArray.setIfInBounds j v).toList,by simpa using hl,?_⟩;have:=kF (v:=v) hr j;simpa using this
end
def list8 {α:Type} {l:List α} (h:l.length=8):∃ a b c d e f g i,l=[a,b,c,d,e,f,g,i]:=by match l,h with | [a,b,c,d,e,f,g,i],_=>exact ⟨a,b,c,d,e,f,g,i,rfl⟩
def DrawnW (w0 w:Ab) (p:Nat) (e:Ending) (w':Ab):Prop:=∃ a c Y n h t,e=.returned (.agg #[Qs a Y c,Qn n,Qn h,Qn t])/\kW.own w' [Qs a Y c] Y (jU w.heap.size w'.heap.size)/\(Y.length<=65/\yu Y)/\(0<=n/\n<=11)/\(0<=h/\h<=4)/\(1<=t/\t<=8)/\yT w0 w' p/\Touch (λk=>k=p) w w'
def kEs {w0 w:Ab} {p:Nat} (hc:yT w0 w p) :
    Calls prog 37 #[.pointer (some ⟨p,0,none⟩)] w λe w'=>DrawnW w0 w p e w':=by
 go_enter func37,ntmps37
 obtain ⟨ay,bt⟩:=hc.lt
 go_upto_region 1 with fail
 generalize F:World.alloc w _=w1
 have ag:Qb w w1:=rT
 have R:Qr w1 w.heap.size #[.slice none 0 0,Qn 0,Qn 0,Qn 0] 68:=vD
 have bf:w.heap.size + 1<=w1.heap.size:=bB3
 clear F
 obtain ⟨hc,J⟩:=xO
 clear ag
 go_wp2_with fail
 refine (zx (hc.below (bR.alloc nL _)) (kD.kAw _ [{ data:=#[47,97] },{ data:=#[47,98] }] bD0 bD0) bD1 bD0 bD0).mono ?_
 rintro e V ⟨y,ar,bz,rfl,G,D⟩
 obtain ⟨D,bg⟩:=CQ
 obtain ⟨R,J⟩:=DX
 clear hc D
 have hc:=G
 clear G
 go_wp2_with fail
 refine (yV (kD.kCk bD0 ar)).mono ?_
 rintro e w3 ⟨za,zc,zs,rfl,hr,dj,hzs,hb⟩
 have bi:=hb.size
 replace R:=kC R hb
 obtain ⟨hc,J⟩:=xE
 clear hb
 have HZ:=yD (hr)
 clear hr ar bz
 go_wp2_with fail
 refine (zx (hc.below (bR.alloc nL _)) (kD.kAw _ [{ data:=#[49] },{ data:=#[50] },{ data:=#[120,45,49] }] bD0 bD0) bD1 bD0 bD0).mono ?_
 rintro e w4 ⟨y2,ar,bz,rfl,G,D⟩
 obtain ⟨D,bu⟩:=IL
 replace R:=D.kC R bD1
 replace HZ:=yD (HZ.out.touch D pX)
 replace J:=J.trans D
 clear hc D
 have hc:=G
 clear G
 have bm:=kD.kCk bD0 ar
 clear ar bz
 go_wp2_with fail
 refine (kCv (cn:=[.slice za zs.length zc]) HZ.out.rd (s:=y2) bD1 wM).mono ?_
 rintro e w5 ⟨a,nn,c,b2,rfl,ab,ca,hb⟩
 have br:=hb.size
 replace R:=kC R hb
 replace HZ:=yD (HZ.out.below hb)
 obtain ⟨hc,J⟩:=xE
 clear hb
 have b8:(if b2 then zs++[y2] else zs).length<=65:=dA
 have N:Hid (yu (if b2 then zs++[y2] else zs)):=yD (by split;exact hzs.snoc bm;exact hzs)
 clear hzs
 generalize (if b2 then zs++[y2] else zs)=Y at *
 obtain ⟨_,_,_,a4,a2⟩:=ca.parts
 simp only [Value.slice.injEq] at a4
 have c1:=a4.2.1.trans a2.out
 clear a4 a2 ab
 subst c1
 have b6:=ca.own wM
 have L:=yD (b6)
 clear HZ
 clear ca b6
 go_upto_region 2 with fail
 generalize F:World.alloc w5 _=w6
 have aw:Qb w5 w6:=rT
 have B:Qr w6 w5.heap.size #[Qs a Y c] 36:=vD
 have da:w5.heap.size + 1<=w6.heap.size:=bB3
 clear F
 replace R:=kC R aw
 obtain ⟨L,hc,J⟩:=I7
 clear aw
 have FX:=yD (λ(W:Ab) (hW:Touch (λk=>k=p) w6 W/\yT w0 W p)=>kE (hW.1.kC B bD1) (j:=0) (v:=.slice a Y.length c) rfl)
 refine jS (λW=>Touch (λk=>k=p) w6 W/\yT w0 W p) [(0,true),(1,true),(3,true),(5,true),(2,false),(4,false),(6,false),(7,true),(8,true)] bC5 bC5 pY (⟨Touch.of_below bR.drew,hc.below bR.drew⟩) ?_
 intro wS E
 simp only [jB,Aq,List.length_nil,Ai,Aj,List.map_cons,List.map_nil,List.cons_append,List.nil_append,List.drop_succ_cons,List.drop_zero]
 iterate 4
  refine kX ?_
 refine kY rfl (λK H=>?_);go_simp;refine (ku (n:=12) E.2 bD0).mono ?_;rintro e wS1 ⟨x,ao,U,a1,rfl,au,aq⟩;replace U:=U bD0;clear a1;replace E:=And.intro (E.1.trans aq) au;clear au aq;refine H _ _ E ?_;clear H K
 refine jD ?_
 refine kY rfl (λK H=>?_);go_simp;refine (ku (n:=5) E.2 bD0).mono ?_;rintro e wS1 ⟨y,db,bk,bm,rfl,au,aq⟩;replace bk:=bk bD0;clear bm;replace E:=And.intro (E.1.trans aq) au;clear au aq;refine H _ _ E ?_;clear H K
 refine jD ?_
 refine kY rfl (λK H=>?_);go_simp;refine (ku (n:=8) E.2 bD0).mono ?_;rintro e wS1 ⟨z,b1,bj,a7,rfl,au,aq⟩;replace bj:=bj bD0;clear a7;replace E:=And.intro (E.1.trans aq) au;clear au aq;have hw:Al.wrap (1 + z)=1 + z:=Ac _ bD1;refine H _ _ E ?_;clear H K
 refine jD ?_
 refine kX ?_
 refine kX ?_
 refine jy ?_
 have O:=E.1.size
 obtain ⟨R5,o,am,az,ak,al,ax,be,ac,an,bd,bh⟩:=xH
 go_wp2
 refine bodyPost_ret (v:=.agg #[Qs a Y c,Qn x,Qn y,.int .i64 (1 + z)]) (by simp [results,results37,go_sem,ac,an,bd,bh,ak,al,ax,be]) rfl ⟨a,c,Y,x,y,1 + z,rfl,?_,⟨b8,N.out⟩,by omega,by omega,by omega,am.touch sT4 bD1 wW,o.jP sT4 bD1⟩
 exact (az.out.touch (T:=λk=>k=w.heap.size) sT4 sK).wide fF
def modP (x:Int):Int:=(x.tmod 2147483647 + 2147483647).tmod 2147483647
def kWp (d x:Int):Int:=(d * 1000003 + modP x + 13).tmod 2147483647
def digest (l:Ag Int):Int:=l.foldl kWp 11
def kOg {a:Int} (h:0<=a):0<=a.tmod 2147483647/\a.tmod 2147483647 < 2147483647:=by
 rw [Ad h];omega
def tmod_pos {a:Int} (h:0<=a):a % 2147483647=a.tmod 2147483647:=(Ad h).symm
def tmod_abs (a:Int):-2147483647 < a.tmod 2147483647/\a.tmod 2147483647 < 2147483647:=by
 by_cases h:0<=a
 · have:=kOg h;omega
 have:=kOg (a:=-a) bD1;rw [Int.neg_tmod] at this;omega
def kVs (x:Int):0<=modP x/\modP x < 2147483647:=by
 have:=tmod_abs x;exact kOg bD1
def dStep_rng {d:Int} (x:Int) (h:0<=d):0<=kWp d x/\kWp d x < 2147483647:=by
 have:=kVs x;exact kOg bD1
def foldl_rng (l:Ag Int):∀ d:Int,0<=d->d < 2147483647->0<=l.foldl kWp d/\l.foldl kWp d < 2147483647:=by
 induction l with
 | nil=>intro d h1 h2;exact ⟨h1,h2⟩
 | cons x l ih=>intro d h1 h2;have:=dStep_rng x h1;exact ih _ this.1 this.2
def kWn (l:Ag Int):0<=digest l/\digest l < 2147483647:=foldl_rng l 11 bD1 bD1
def digest_succ {l:Ag Int} {k:Nat} (h:k < l.length):digest (l.take (k + 1))=kWp (digest (l.take k)) l[k]:=by
 unfold digest;rw [List.take_succ_eq_append_getElem h,List.foldl_append];rfl
def digest_end {l:List Int} {k:Nat} (h:¬ k < l.length):digest (l.take k)=digest l:=by rw [List.take_of_length_le bD1]
def specMod_c {w:Ab} {x:Int} (hx:Qi x):Calls prog 226 #[.int .i64 x,.int .i64 2147483647] w λe w'=>e=.returned (.int .i64 (modP x))/\w'=w:=by
 have h1:=tmod_abs x;have h2:=kVs x;have HE:=yD (show modP x=(x.tmod 2147483647 + 2147483647).tmod 2147483647 from rfl);go_enter func226,ntmps226;go_wp2_with fail;refine jw.mono ?_;rintro e w1 ⟨rfl,hw⟩;obtain rfl:=hw.symm;have X:inR (2147483647:Int) 1 1000000000000=true:=bD0;rw [X];go_wp2;go_ret;exact ⟨jX (by rw [HE.out];exact tmod_pos bD1),rfl⟩
def kOo {w:Ab} {vl:Value} {l:Ag Int} (hl:(kD.slice 3 kD.int).raw w [vl] l) :
    Calls prog 217 #[vl] w λe w'=>e=.returned (.int .i64 (digest l))/\w'=w:=by
 obtain ⟨al,pl,rfl,ll⟩:=kD.sl hl
 go_enter func217,ntmps217
 go_wp2
 go_loop [4,3] (λi d=>∃ k:Nat,k<=l.length/\i=.int .i64 k/\d=.int .i64 (digest (l.take k))) (λi _=>l.length - (Am i).toNat)
 case atStart=>exact ⟨0,Nat.zero_le _,rfl,rfl⟩
 obtain ⟨k,hk,rfl,rfl⟩:=hrel
 by_cases hlt:k < l.length
 · obtain ⟨ba,H,rfl,c0,hr,A0⟩:=kD.kCa hl hlt rfl;obtain ⟨he,hx⟩:=kD.jb hr;obtain rfl:c0=_:=by simpa using he
   clear he hr;have hd:=kWn (l.take k);have E:=yD (digest_succ hlt);generalize digest (l.take k)=d at *;generalize l[k]=x at *;have hm:=kVs x;go_wp2_with fail;refine (specMod_c hx).mono ?_;rintro e w1 ⟨rfl,hw⟩;obtain rfl:=hw.symm;have HD:=yD (show kWp d x=(d * 1000003 + modP x + 13).tmod 2147483647 from rfl);generalize modP x=m at *;go_wp2;go_round;case rel=>exact ⟨k + 1,by omega,by go_num,by rw [E.out,HD.out,<- tmod_pos bD1]⟩
   simp [Am];omega
 have U:=yD (digest_end hlt)
 go_wp2
 go_ret
 exact ⟨jX U.out,rfl⟩
def kD.kBg {α:Type} {r:kD α} {e:TypeId} {w:Ab} {v:Value} {xs ys:Ag α} {S:Nat->Prop} {P:Program} {t ty:TypeId} {z:Value} {bytes:Nat} (ht:P.underlying t=some (.slice e)) (hinf:(P.info? e).map (λi=>(i.zero,i.size,i.bytes))=some (some z,r.n,bytes)) (hzs:z.cells.size=r.n) (hn:0 < r.n) (hby:bytes<=1000) (hf:r.kCy)
    {B:Nat} (hown:kU e r w v xs S) {av:Option Addr} {len cap:Nat} (hy:(slice e r).rd w [.slice av len cap] ys) (hSB:∀ k,S k->B<=k/\k < w.heap.size) (hB:B<=w.heap.size) (hlen:xs.length + ys.length<=1000000000) :
    ∃ v' w',(Builtin.append_ #[t,t] ty #[v,.slice av len cap]).run P w=.ok v' w'/\kU e r w' v' (xs++ys) (jU B w'.heap.size)/\Below B w w'/\w.heap.size<=w'.heap.size/\∀ k,k < w.heap.size->¬ S k->w'.heap[k]?=w.heap[k]?:=by
 obtain ⟨i,hi,hz,hsize,D⟩:=info_parts hinf
 obtain ⟨cells,hsrc,hrow⟩:=jAd hy.1
 have o:row r true w cells ys (λ_=>False):=kOu hf hrow
 obtain ⟨v',w',hr,h2,h3⟩:=kFc (P:=P) (ty:=ty) ht hi hz hsize hzs hn bD1 hown hsrc (zQ hrow) (row_one hrow) hlen
 refine ⟨v',w',hr,(h3 o (λ_ _ h=>h) hy.2.2).wide ?_,h2.below hB ?_,h2.size,λk hk hs=>h2.block k hk (λq=>hs q.2)⟩
 · exact iQ
 intro k hk;exact (hSB k hk.2).1
def I64q (x:Int):Prop:=Qi x
def row_intq {w:Ab} {o:Bool}:∀ (l:Ag Int) (S:Nat->Prop),(∀ x∈l,I64q x)->kD.row kD.int o w (l.map (Value.int .i64)) l S
  | [],_,_=>rfl
  | x :: l,S,h=>⟨[Qn x],l.map (Value.int .i64),λ_=>False,λ_=>False,rfl,⟨rfl,h x bD2⟩,row_intq l _ sV,λ_ h=>h.elim,λ_ h=>h.elim,λ_ _ h=>h.elim⟩
def litq {w:Ab} {x:Int} {e:TypeId} (hx:I64q x):kD.kU e kD.int (w.alloc (.cells #[.int .i64 x] e)) (.slice (some ⟨w.heap.size,0,none⟩) 1 1) [x] (λk=>k=w.heap.size) :=
  kD.yO (cs:=[.int .i64 x]) (xs:=[x]) (T:=λ_=>False) (λ_ _=>trivial) rY (row_intq [x] _ (by intro q hq;simp only [List.mem_cons,List.not_mem_nil,or_false] at hq;subst hq;assumption)) (λ_ h=>h.elim) rfl
end Go.Proofs.YtjhfdpopkkmigaaGreat
namespace Go.Proofs.YtjhfdpopkkmigaaGreat
open _root_.Go.Proofs.Tryz
def vlo (n:Nat):UInt8:=UInt8.ofNat (n % 128 + 128)
def vint (n:Nat):Ag UInt8:=if h:n < 128 then [UInt8.ofNat n] else vlo n :: vint (n / 128)
termination_by n
decreasing_by omega
def kZj {n:Nat} (h:n < 128):vint n=[UInt8.ofNat n]:=by rw [vint,dif_pos h]
def vint_hi {n:Nat} (h:¬ n < 128):vint n=vlo n :: vint (n / 128):=by rw [vint,dif_neg h]
def vint_len:∀ (k:Nat) {n:Nat},n < 128 ^ (k + 1)->(vint n).length<=k + 1
  | 0,n,h=>by rw [kZj bB5];simp
  | k + 1,n,h=>by
    by_cases c:n < 128
    · rw [kZj c];simp
    · rw [vint_hi c,Aq];have:=vint_len k (n:=n / 128) (Nat.div_lt_of_lt_mul pE);omega
def vint_six {n:Nat} (h:n<=1000000000000):(vint n).length<=6:=vint_len 5 bD1
end Go.Proofs.YtjhfdpopkkmigaaGreat

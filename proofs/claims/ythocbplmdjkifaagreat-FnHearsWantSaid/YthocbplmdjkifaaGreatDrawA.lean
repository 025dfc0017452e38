/-
  A node of a small world with one thing drawn anew.
-/
import Derived.Test.YthocbplmdjkifaaGreatDrawZ
set_option linter.unusedVariables false
set_option linter.defProp false
set_option linter.unusedSimpArgs false
set_option linter.unnecessarySimpa false
set_option maxRecDepth 100000
set_option maxHeartbeats 16000000
open _root_ renaming ByteArray->Aa,List->Ac,Option->Aj
open UInt8 renaming ofNat->Ab
open Go renaming World->Ad
open Int renaming eq_ofNat_of_zero_le->Ae,lt_trichotomy->Ak
open Go.Proofs.Tryz renaming underlying28->Ag
open ByteArray renaming size_append->Ah,empty->Am
open List renaming mem_singleton->Ai
open Go.Value.slice renaming injEq->Al
open List.cons renaming injEq->Ap
open Go.IntWalk renaming i64_in->Aq
namespace Go.Proofs.YthocbplmdjkifaaGreat
open Go.RowKit _root_.Go.Proofs.Tryz
def kKn (u:Nat):Ac UInt8:=if h:u=0 then [] else kKn (u / 10)++[Ab (48 + u % 10)]
termination_by u
decreasing_by omega
def jBk:kKn 0=[]:=by rw [kKn,dif_pos rfl]
def jGe {u:Nat} (h:0 < u):kKn u=kKn (u / 10)++[UInt8.ofNat (48 + u % 10)]:=by rw [kKn,dif_neg bF2]
def digs_dec (u:Nat) (h:0 < u):kKn u=Lib.decDigits u:=by
 induction u using Nat.strongRecOn with
 | _ u ih =>
   rw [jGe h,Lib.decDigits];by_cases q:u < 10
   · rw [dif_pos q,show u / 10=0 by omega,jBk,show u % 10=u by omega];rfl
   · rw [dif_neg q,ih (u / 10) bF2 bF2]
def kOu:∀ (k:Nat) {u:Nat},u < 10 ^ k->(kKn u).length<=k
  | 0,u,h=>by
    obtain rfl:u=0:=bD5;rw [jBk];simp
  | k + 1,u,h=>by
    by_cases q:u=0
    · subst q;rw [jBk];simp
    · rw [jGe bF2,List.length_append];have:=kOu k (u:=u / 10) (Nat.div_lt_of_lt_mul qB);simp;omega
def kTi (n:Int):Aa:=⟨(Lib.itoa n).toArray⟩
def kVd {n:Nat} (h:0 < n):kTi (n:Int)=⟨(kKn n).toArray⟩:=by
 unfold kTi Lib.itoa;rw [if_neg bF2,digs_dec n h,show (n:Int).toNat=n by omega]
def kVe {n:Nat} (h:0 < n):kTi (-(n:Int))=⟨#[45]⟩++⟨(kKn n).toArray⟩:=by
 unfold kTi Lib.itoa;rw [if_pos bF2,digs_dec n h,show (-(n:Int)).natAbs=n by omega];apply ByteArray.ext;simp
def itoaB_0:kTi 0=⟨#[48]⟩:=by
 unfold kTi Lib.itoa;rw [if_neg bF2,show (0:Int).toNat=0 from rfl,Lib.decDigits,dif_pos bF2];rfl
def ba_size (l:List UInt8):(⟨l.toArray⟩:ByteArray).size=l.length:=by simp [ByteArray.size]
def itoaB_size {n:Int} (h:Qi n):(kTi n).size<=20:=by
 rcases Ak n 0 with q | q | q
 · obtain ⟨m,rfl⟩:∃ m:Nat,n=-(m:Int):=⟨n.natAbs,by omega⟩;have h1:=kOu 19 (u:=m) bF2;have h2:=ba_size (kKn m);have h3:(⟨#[45]⟩:Aa).size=1:=rfl;rw [kVe bF2,Ah];omega
 · subst q;rw [itoaB_0];decide
 obtain ⟨m,rfl⟩:∃ m:Nat,n=m:=⟨n.toNat,by omega⟩;have h1:=kOu 19 (u:=m) bF2;rw [kVd bF2,ba_size];omega
def dig_int {u:Nat}:(48:Int) + (u:Int) % 10=((Ab (48 + u % 10)).toNat:Int):=by
 rw [UInt8.toNat_ofNat'];omega
def jAi {P:Program} {w:Ad} {src dst e:TypeId} {x:UInt8} {z:Int} (hz:z=(x.toNat:Int)) (hs:P.underlying src=some (.slice e)) (he:P.underlying e=some (.int .u8)) (hd:P.underlying dst=some .string) :
    (convert src dst (.slice (some ⟨w,0,none⟩) 1 1)).run P (w.alloc (.cells #[.int .u8 z] e))=.ok (.string ⟨#[x]⟩) (w.alloc (.cells #[.int .u8 z] e)):=by
 have h:=run_convert_bytes_back (P:=P) (w.alloc (.cells #[.int .u8 z] e)) src dst e ⟨w,0,none⟩ 1 [x] hs he hd (by
   intro j I;obtain rfl:j=0:=bD7;subst hz;simp [go_sem])
 simpa using h
def kXj {w:Ad} {n:Int} (hn:Qi n) :
    Calls prog 122 #[.int .i64 n] w (bQ w (.string (kTi n))):=by
 go_enter func122,ntmps122
 rcases Ak n 0 with q | q | q
 · obtain ⟨N,rfl⟩:∃ m:Nat,n=-(m:Int):=⟨n.natAbs,by omega⟩;have hN:0 < N:=bF2;go_wp2;go_loopw [3,4] (λsv I wr=>∃ (u:Nat) (s:Aa),u<=N/\I=.int .i64 (-(u:Int))/\sv=.string s/\s.size<=20/\Hid (kKn u++s.data.toList=kKn N)/\Qb w wr) (λ_ I _=>(intOf I).natAbs);case atStart=>exact ⟨N,Am,Nat.le_refl _,rfl,rfl,by decide,yD bF3,bR⟩
   obtain ⟨u,s,hu,rfl,rfl,hs,HP,o⟩:=hrel;by_cases hz:u=0
   · exact iZ
   have O:0 < u:=bF2;have F:=yD (jGe O);have hne:(((-(u:Int)):Int) != 0)=true:=bE6;have be:s.size + 1<=20:=by
    exact l6
   obtain ⟨hb,H⟩:=FP;clear hb;have D:=λ(q:u % 10=0)=>jAi (P:=prog) (w:=wr) (src:=22) (dst:=9) (z:=48) (x:=Ab (48 + u % 10)) (by rw [q];rfl) underlying22 underlying5 underlying9;have dj:(⟨#[Ab (48 + u % 10)]⟩:Aa).size=1:=rfl;have HX:=yD (show kKn (u / 10)++((⟨#[Ab (48 + u % 10)]⟩:Aa)++s).data.toList=kKn N by
     rw [<- HP.out,F.out];simp)
   generalize (⟨#[Ab (48 + u % 10)]⟩:Aa)=L at H D dj HX;by_cases hm:u % 10=0
   · have J:(u:Int) % 10=0:=bF2;have a5:=D hm;clear D H;exact l7
   have J:(0:Int) < (u:Int) % 10:=bF2;clear D;exact l7
 · subst q;go_wp2;go_ret;exact ⟨by rw [itoaB_0];rfl,bR⟩
 obtain ⟨N,rfl⟩:∃ m:Nat,n=m:=⟨n.toNat,by omega⟩
 have hN:0 < N:=bF2
 go_wp2
 go_loopw [3,4] (λsv I wr=>∃ (u:Nat) (s:Aa),u<=N/\I=.int .i64 (u:Int)/\sv=.string s/\s.size<=20/\Hid (kKn u++s.data.toList=kKn N)/\Qb w wr) (λ_ I _=>(intOf I).natAbs)
 case atStart=>exact ⟨N,Am,Nat.le_refl _,rfl,rfl,by decide,yD bF3,bR⟩
 obtain ⟨u,s,hu,rfl,rfl,hs,HP,o⟩:=hrel
 by_cases hz:u=0
 · exact iZ
 have O:0 < u:=bF2
 have F:=yD (jGe O)
 have hne:(((u:Int):Int) != 0)=true:=bE6
 have be:s.size + 1<=20:=by
  exact l6
 obtain ⟨hb,H⟩:=FP
 clear hb
 have dj:(⟨#[Ab (48 + u % 10)]⟩:Aa).size=1:=rfl
 have HX:=yD (show kKn (u / 10)++((⟨#[Ab (48 + u % 10)]⟩:Aa)++s).data.toList=kKn N by
   rw [<- HP.out,F.out];simp)
 generalize (⟨#[Ab (48 + u % 10)]⟩:Aa)=L at H dj HX
 exact l7
def kZz {w:Ad} {cs:Ac Value} {x:kF} {S:Nat->Prop} (h:kH.jr w cs x S):∃ v0 v1,cs=[v0,v1,.int .i64 x.2.2]/\kR.jr w [v0] x.1 S/\(kD.slice 105 kQ).jr w [v1] x.2.1 S/\Qi x.2.2:=by
 obtain ⟨c,d,rfl,h1,h2⟩:=kD.kDx (r:=kR) (q:=.pair (kD.slice 105 kQ) .int) h;obtain ⟨c2,d2,rfl,h3,h4⟩:=kD.kDx (r:=(kD.slice 105 kQ)) (q:=.int) h2;have R:=kR.len h1.1;have l2:=(kD.slice 105 kQ).len h3.1;obtain ⟨rfl,h5,h6⟩:=h4.1
 match c,R,c2,l2 with
 | [v0],_,[v1],_=>exact ⟨v0,v1,rfl,h1,h3,h5,h6⟩
def kRr {l:Ac kF} {m k:Nat} {y:kF} (h:kAo l m) (hk:m < k) (hy:y.2.1.length<=k/\kWv y.2.1/\zO y.1):kAo (l++[y]) k:=by
 refine ⟨by have:=h.1;simp;omega,λz hz=>?_⟩;rcases List.mem_append.1 hz with hz | hz
 · exact ⟨by have:=(h.2 z hz).1;omega,(h.2 z hz).2⟩
 rw [Ai.1 hz];exact hy
def jAa {w:Ad} {v u:Value} {ps:ko} {o:Ac kV} {t:Int} {A B S:Nat->Prop} (h:kR.own w [v] ps A) (k:(kD.slice 105 kQ).own w [u] o B) (hA:∀ k,A k->S k) (hB:∀ k,B k->S k) (hd:∀ k,A k->B k->False) (ht:Qi t):kH.own w [v,u,Qn t] (ps,o,t) S :=
  kD.jq (r:=kR) (q:=.pair (kD.slice 105 kQ) .int) (cs:=[v]) (ds:=[u,.int .i64 t]) h (kD.yQ (r:=(kD.slice 105 kQ)) (q:=.int) (cs:=[u]) (ds:=[.int .i64 t]) k (kD.ky ht)) hA hB hd
def smallP_snoc {l:Ac kF} {m:Nat} {y:kF} (h:kAo l m) (hl:l.length < m) (hy:y.2.1.length<=m/\kWv y.2.1/\zO y.1):kAo (l++[y]) m:=by
 refine ⟨by simp;omega,λz hz=>?_⟩;rcases List.mem_append.1 hz with hz | hz
 · exact h.2 z hz
 rw [Ai.1 hz];exact hy
def kSx {w0 w:Ad} {p:Nat} (hc:ym w0 w p) :
    Calls prog 46 #[.pointer (some ⟨p,0,none⟩)] w λe w'=>∃ a c l,e=.returned (.slice a l.length c)/\kAo l 14/\(kD.slice 107 kH).jr w' [Qs a l c] l (jg w w')/\ym w0 w' p/\Touch (λk=>k=p) w w':=by
 go_enter func46,ntmps46
 obtain ⟨bh,br⟩:=hc.lt
 go_wp2_with fail
 refine (jCi hc).mono ?_
 rintro e w1 ⟨a,n,c,l,rfl,ac,a1,hO,F,D⟩
 have bj:=D.size
 have O:=D
 clear hc D
 have hc:=F
 clear F
 subst ac
 have cd:=yD a1
 have aa:=a1.1
 clear a1
 have J:=yD (hO)
 clear hO
 go_wp2_with fail
 refine (kZ (n:=10) hc bF1).mono ?_
 rintro e w2 ⟨m,bc,bk,bq,rfl,F,D⟩
 have bw:=D.size
 obtain ⟨J,O⟩:=uS
 clear hc D
 have hc:=F
 clear F
 replace bk:=bk bF1
 clear bq
 by_cases h0:m=0
 · subst h0;go_wp2_with fail;refine (kGr hc).mono ?_;rintro e w3 ⟨na,nc,nm,rfl,hr,bi,b3,F,D⟩;have bz:=D.size;obtain ⟨J,O⟩:=uS;clear hc D;have hc:=F;clear F;have bm:=yD b3;clear b3;have HR:=yD (hr);clear hr;go_wp2_with fail;refine (kZ (n:=9) hc bF1).mono ?_;rintro e w4 ⟨f,ei,dr,eg,rfl,F,D⟩;have b5:=D.size;obtain ⟨J,HR,O⟩:=z8;clear hc D;have hc:=F;clear F;replace dr:=dr bF1;clear eg;have ah:IntKind.i64.wrap (f - 1)=f - 1:=Aq _ bF2;go_wp2_with fail;refine (kAd (hc.below (bR.alloc nL _)) (kD.kEh _ [0,-1,1000001] bF1 bF1) bF2 bF1 bF1).mono ?_;rintro e w5 ⟨y,bd,bv,rfl,F,D⟩;obtain ⟨D,b4⟩:=xO;obtain ⟨J,HR,O⟩:=z8;clear hc D;have hc:=F;clear F;have hy:=kD.kJo (lo:=-1) (hi:=1000001) bF1 bd;have ad:y < 100\/1000000 < y:=by have h:=bd;simp only [List.mem_cons,List.not_mem_nil,or_false] at h;omega
   clear bd;have gg:kQ.flat [.int .i64 (f - 1),.int .i64 y,.int .i64 0] (f - 1,y,0):=kD.jl (cs:=[.int .i64 (f - 1)]) (kD.ky bF2) (kD.jl (cs:=[.int .i64 y]) (kD.ky bF2) (kD.ky bF2));go_wp2_with (at_builtin;refine kD.zQ rfl _ _ 28 rfl (r:=kH) (e:=107) Ag yj rfl bF1 bF1 (w:=w5) J.out (kD.zt _ _) (c:=1) (jAa (A:=jg w2 w3) (B:=λk=>k=w5.heap.size) (S:=λk=>w2.heap.size<=k/\k<=w5.heap.size) (HR.out.below (kD.zt _ _)) ((kD.kPm w5 gg).own bE7) sP bB8 (λk q1 q2=>by have:=q1.2;omega) (t:=0) bF2) bF4 (by rw [show ∀ (o:Obj),(World.alloc w5 o).heap.size=w5.heap.size + 1 from λo=>by simp];rfl) qC bF2 ?_);intro v9 w9 hQ db;have hT:Touch (λk=>w.heap.size<=k/\k < w1.heap.size) w5 w9:=(Touch.of_below (kD.zt _ _)).trans (db.wide (λk q=>q.1));have V:=db.size;have zr:w5.heap.size + 1<=w9.heap.size:=by simpa using V
   clear db V;obtain ⟨l2,bg⟩:∃ l2,l++[(nm,[(f - 1,y,0)],0)]=l2:=⟨_,rfl⟩;rw [bg] at hQ;have N:=yD (show kAo l2 10 from bg ▸ kRr cd.out bF2 ⟨by simp,kVp ad,bm.out⟩);clear bg;obtain ⟨a9,c9,rfl,_⟩:=kD.sl hQ.raw;have ab:=yD (hQ.wide (T:=jg w w9) bH);exact iB
 by_cases h1:m=1
 · subst h1;go_wp2_with fail;refine (yz (s:={ data:=#[47,113] }) bF1).mono ?_;rintro e w3 ⟨na,nc,nm,rfl,hr,ee,b3,hb⟩;have bz:=hb.size;replace J:=yD (J.out.below hb);obtain ⟨hc,O⟩:=uT;clear hb;have bm:=yD b3;clear b3;have HR:=yD (hr);clear hr;go_wp2_with (at_builtin;refine kD.zQ rfl _ _ 28 rfl (r:=kH) (e:=107) Ag yj rfl bF1 bF1 (w:=w3) J.out bR (c:=1) (jAa (A:=jg w2 w3) (B:=λ_=>False) (S:=λk=>w2.heap.size<=k/\k < w3.heap.size) HR.out kD.yF (λk q=>q) (λk q=>q.elim) (λk q1 q2=>q2) (t:=0) bF2) bF4 bF4 qC bF2 ?_);intro v9 w9 hQ db;have hT:Touch (λk=>w.heap.size<=k/\k < w1.heap.size) w3 w9:=db.wide (λk q=>q.1);have z9:=hT.size;clear db;obtain ⟨l2,bg⟩:∃ l2,l++[(nm,[],0)]=l2:=⟨_,rfl⟩;rw [bg] at hQ;have N:=yD (show kAo l2 10 from bg ▸ kRr cd.out bF2 ⟨by simp,goodR_nil,bm.out⟩);clear bg;obtain ⟨a9,c9,rfl,_⟩:=kD.sl hQ.raw;have ab:=yD (hQ.wide (T:=jg w w9) bL);exact iB
 by_cases h2:m=2
 · subst h2;by_cases bl:0 < l.length
   · obtain ⟨_,bb,off,rfl,_,au⟩:=kD.kGu J.out bl;obtain ⟨ce,B,ai,hB,ck,U,_,_⟩:=kD.own_get J.out (i:=0) bl;obtain ⟨v0,v1,rfl,_,p0,p1,p2⟩:=kAq ai.raw;obtain ⟨na,nc,rfl,_,ra,rc,rfl,_⟩:=kD.sx p0 (kD.sl p1);have A0:=U 0 _ rfl;have A1:=U 1 _ rfl;have A2:=U 2 _ rfl;simp only [Nat.zero_mul,Nat.add_zero] at A0 A1 A2;have L:=cd.out.2 _ (List.getElem_mem bl);have HE:=yD ai;clear U ai p0 p1;generalize l[0]=y at *;go_wp2_with (at_builtin;refine kD.jBz rfl _ _ 28 rfl (r:=kH) (e:=107) Ag yj rfl bF1 bF1 (w:=w2) J.out bR (c:=1) HE.out.jr bF4 bF4 (λb_ o_ q_ h_=>by simp only [Option.some.injEq,Addr.mk.injEq,and_true] at q_;have:=(hB _ h_).2;omega) bl bF2 ?_);intro v9 w9 hQ db;have hT:Touch (λk=>w.heap.size<=k/\k < w1.heap.size) w2 w9:=db.wide (λk q=>q.1);have z9:=hT.size;clear db A0 A1 A2;obtain ⟨l2,bg⟩:∃ l2,l++[y]=l2:=⟨_,rfl⟩;rw [bg] at hQ;have N:=yD (show kAo l2 10 from bg ▸ kRr cd.out bF2 ⟨by have:=L.1;omega,L.2⟩);clear bg;obtain ⟨a9,c9,rfl,_⟩:=kD.sl hQ.rd.1;have ab:=yD (hQ.wide (T:=jg w w9) (λk q=>by rcases q with q | q | q;exact ⟨q.1,by have:=q.2;omega⟩;(have:=(hB _ q).1;exact ⟨this.1,by have:=this.2;omega⟩);exact ⟨by have:=q.1;omega,q.2⟩));clear hQ;replace hc:=hc.touch hT vU vL;replace O:=O.kBr hT (λk q=>q.1);clear hT J HE;go_wp2;go_ret;exact ⟨_,_,l2,rfl,N.out.mono bF2,ab.out,hc,O⟩
   go_wp2;go_ret;exact ⟨_,_,l,rfl,cd.out.mono bF2,J.out.jr.wide sP,hc,O⟩
 by_cases h3:m=3
 · subst h3;go_wp2;go_loopw [3,4] (λv i wr=>∃ (j:Nat) (a:Aj Addr) (n c:Nat) (l:Ac kF),v=.slice a n c/\i=.int .i64 j/\j<=n/\n<=13/\Hid (n=l.length)/\Hid (kAo l 13)/\Hid ((kD.slice 107 kH).own wr [.slice a n c] l (λq=>w.heap.size<=q/\q < wr.heap.size))/\w2.heap.size<=wr.heap.size/\ym w0 wr p/\Touch (λk=>k=p) w wr) (λv _ _=>match v with | .slice _ n _=>14 - n | _=>0);case atStart=>exact ⟨0,a,l.length,c,l,rfl,rfl,by omega,by omega,yD rfl,yD (cd.out.mono bF2),yD (J.out.wide (λq h=>⟨h.1,by have:=h.2;omega⟩)),Nat.le_refl _,hc,O⟩
   clear hc O J cd aa;obtain ⟨j,a,n,c,l,rfl,rfl,I,ae,Y,cd,J,ch,hc,O⟩:=hrel;replace J:=yD (J.out.wide (T:=λq=>w.heap.size<=q/\q < wr.heap.size) (λ_ h=>h));go_wp2_with fail;refine (kZ (n:=3) hc bF1).mono ?_;rintro e cw ⟨y,ao,a4,b7,rfl,F,D⟩;have d8:=D.size;obtain ⟨J,O⟩:=uS;clear hc D;have hc:=F;clear F;replace a4:=a4 bF1;clear b7;have hw:IntKind.i64.wrap (11 + y)=11 + y:=Aq _ bF2;by_cases hlt:(n:Int) < 11 + y
   · have af:n<=12:=bF2;go_wp2_with fail;refine (yz (s:={ data:=#[47,122,122] }) bF1).mono ?_;rintro e c6 ⟨za,zc,zs,rfl,hr,ee,b3,hb⟩;have e5:=hb.size;replace J:=yD (J.out.below hb);obtain ⟨hc,O⟩:=uT;clear hb;have H:=yD b3;clear b3;have HZ:=yD (hr.wide (T:=λq=>cw.heap.size<=q/\q < c6.heap.size) (λ_ h=>h));clear hr;go_wp2_with fail;refine (kXj (n:=(j:Int)) bF2).mono ?_;rintro e dk ⟨rfl,hb⟩;have fg:=hb.size;replace J:=yD (J.out.below hb);replace HZ:=yD (HZ.out.below hb);obtain ⟨hc,O⟩:=uT;clear hb;have R:=itoaB_size (n:=(j:Int)) bF2;generalize kTi (j:Int)=s at *;have be:(({ data:=#[112] }:Aa)++s).size<=21:=by rw [Ah];have:({ data:=#[112] }:Aa).size=1:=rfl;omega
     go_wp2_with fail;clear R;generalize ({ data:=#[112] }:Aa)++s=W at *;refine (kDm (cn:=[.slice za zs.length zc]) HZ.out.rd (s:=W) bF2 bB1).mono ?_;rintro e f3 ⟨na,nn,nc,b2,rfl,ag,bu,hb⟩;have gd:=hb.size;replace J:=yD (J.out.below hb);obtain ⟨hc,O⟩:=uT;clear hb;have b8:(if b2 then zs++[W] else zs).length<=65:=dH;have bm:Hid (zO (if b2 then zs++[W] else zs)):=yD (by split;exact H.out.snoc bF2;exact H.out);clear H;generalize (if b2 then zs++[W] else zs)=qs at *;obtain ⟨_,_,_,bp,bo⟩:=bu.parts;simp only [Al] at bp;clear bp bo be;have HB:=yD (bu.wide (T:=λq=>dk.heap.size<=q/\q < f3.heap.size) (λ_ h=>h));clear bu HZ;go_upto_region 15 with fail;refine ja ?_;intro di E X h5;replace J:=yD (J.out.below E);replace HB:=yD (HB.out.below E);replace hc:=hc.below E;replace O:=O.trans (Touch.of_below E);clear E;have bt:Qd di f3 0 (.slice na nn nc):=kE X rfl;have gg:kQ.flat [.int .i64 1,.int .i64 0,.int .i64 0] (1,0,0):=kD.jl (cs:=[.int .i64 1]) (kD.ky bF2) (kD.jl (cs:=[.int .i64 0]) (kD.ky bF2) (kD.ky bF2));go_wp2_with (at_builtin;refine kD.zQ rfl _ _ 28 rfl (r:=kH) (e:=107) Ag yj rfl bF1 bF1 (w:=di) J.out (kD.zt _ _) (c:=1) (jAa (A:=λq=>dk.heap.size<=q/\q < f3.heap.size) (B:=λk=>k=di.heap.size) (S:=λk=>dk.heap.size<=k/\k<=di.heap.size) ((HB.out.own bB1).below (kD.zt _ _)) ((kD.kPm di gg).own bE7) sP bB8 (λk q1 q2=>by have:=q1.2;omega) (t:=0) bF2) bF4 (by rw [show ∀ (o:Obj),(World.alloc di o).heap.size=di.heap.size + 1 from λo=>by simp];rfl) qC bB0 ?_);intro v9 w9 hQ db;have hT:Touch (λk=>w.heap.size<=k/\k < wr.heap.size) di w9:=(Touch.of_below (kD.zt _ _)).trans (db.wide (λk q=>q.1));have V:=db.size;have zr:di.heap.size + 1<=w9.heap.size:=by simpa using V
     clear db V;obtain ⟨l2,bg⟩:∃ l2,l++[(qs,[(1,0,0)],0)]=l2:=⟨_,rfl⟩;rw [bg] at hQ;have N:=yD (show kAo l2 13 from bg ▸ smallP_snoc cd.out bB0 ⟨by simp,kVp (.inl bF1),bm.out⟩);have Z:=yD (show l2.length=l.length + 1 by rw [<- bg];simp);clear bg;obtain ⟨a9,c9,rfl,_⟩:=kD.sl hQ.raw;have ab:=yD (hQ.wide (T:=λq=>w.heap.size<=q/\q < w9.heap.size) bH);clear hQ;have eh:=hc.touch hT vU vL;have b0:=O.kBr hT (λk q=>q.1);clear hT hc O J HB X bt;go_wp2;go_roundw;case rel=>exact ⟨j + 1,a9,l2.length,_,l2,rfl,by go_num,by have h1:=Z.out;have h2:=Y.out;omega,by have h1:=Z.out;have h2:=Y.out;omega,yD rfl,N,ab,by omega,eh,b0⟩
     have h1:=Z.out;have h2:=Y.out;first | omega|(simp;omega)
   go_wp2;go_ret;have hn:=Y.out;subst hn;exact ⟨_,_,l,rfl,cd.out.mono bF2,J.out.jr.wide sP,hc,O⟩
 go_wp2
 go_ret
 exact ⟨_,_,l,rfl,cd.out.mono bF2,J.out.jr.wide sP,hc,O⟩
def jCg {w0 w:Ad} {p:Nat} (hc:ym w0 w p) {la:Aj Addr} {lc:Nat} {l:Ac kF} (hl:(kD.slice 107 kH).jr w [Qs la l lc] l (λk=>¬ k=p)) (W:l.length<=200) :
    Calls prog 47 #[.pointer (some ⟨p,0,none⟩),.slice la l.length lc] w λe w'=>∃ a c ps n h t,e=.returned (.agg (Qk a ps c n h t))/\kR.own w' [Qs a ps c] ps (jg w w')/\Qi n/\(-1<=h/\h<=17)/\(0<=t/\t<=21)/\ym w0 w' p/\Touch (λk=>k=p) w w':=by
 go_enter func47,ntmps47
 obtain ⟨bh,br⟩:=hc.lt
 have HL:=yD (hl.live.wide (T:=λk=>k < w.heap.size/\¬ k=p) (λk q=>⟨q.2,q.1⟩))
 clear hl
 go_upto_region 1 with fail
 refine ja ?_
 intro w1 ar R bj
 replace HL:=yD (HL.out.below ar)
 obtain ⟨hc,O⟩:=uZ
 clear ar
 go_wp2_with fail
 refine (kWm hc).mono ?_
 rintro e w2 ⟨a,c,ps,n,h,t,rfl,hO,bu,hn,hh,ht,F,D⟩
 have bw:=D.size
 replace R:=D.kC R bF2
 replace HL:=yD (HL.out.touch D qV)
 replace O:=O.trans D
 clear hc D
 have hc:=F
 clear F
 have J:=yD (hO.wide (T:=λj=>w1.heap.size<=j/\j < w2.heap.size) (λ_ h=>h))
 clear hO
 go_upto_region 2 with fail
 refine ja ?_
 intro w3 ah B bz
 replace R:=kC R ah
 replace HL:=yD (HL.out.below ah)
 obtain ⟨J,hc,O⟩:=xC
 clear ah
 by_cases bl:0 < l.length
 · have b0:(0:Int) < l.length:=bF2;go_wp2_with fail;refine (yw (n:=2) hc bF1).mono ?_;rintro e w4 ⟨b,rfl,F,D⟩;have b5:=D.size;obtain ⟨R,B⟩:=xK;replace HL:=yD (HL.out.touch D qV);obtain ⟨J,O⟩:=uS;clear hc D;have hc:=F;clear F;cases b
   · have aj:Qd w4 w 0 (.slice none 0 0):=kE R rfl;have an:Qd w4 w 1 (Qn 0):=kE R rfl;have az:Qd w4 w 2 (Qn 0):=kE R rfl;have a8:Qd w4 w 3 (Qn 0):=kE R rfl;exact iC
   go_wp2_with fail;refine (kZ (n:=(l.length:Int)) hc bF2).mono ?_;rintro e w5 ⟨x,ai,L,bf,rfl,F,D⟩;have b4:=D.size;obtain ⟨R,B⟩:=xK;replace HL:=yD (HL.out.touch D qV);replace O:=O.trans D;clear hc D;have hc:=F;clear F;replace L:=L b0;clear bf;obtain ⟨k,rfl⟩:=Ae ai;have hk:k < l.length:=bF2;obtain ⟨bb,off,rfl,ce,bg,U⟩:=kD.kYg HL.out hk;obtain ⟨v0,v1,rfl,hN,hR,hs⟩:=kZz bg;obtain ⟨na,nc,rfl,_,ra,rc,rfl,_⟩:=kD.sx hN.rd.1 (kD.sl hR.rd.1);have A0:=U 0 _ rfl;have A1:=U 1 _ rfl;have A2:=U 2 _ rfl;simp only [Nat.add_zero,kEp] at A0 A1 A2;have Y:=yD hN;have HR:=yD hR;clear U bg hN hR;generalize l[k]=y at *;go_upto_region 4 with fail;refine ja ?_;intro w6 au X df;replace R:=kC R au;replace B:=kC B au;replace Y:=yD (Y.out.below au);replace HR:=yD (HR.out.below au);obtain ⟨hc,O⟩:=BP;clear au A0 A1 A2 HL;obtain ⟨bt,bd,be⟩:=kBd X;go_wp2_with fail;refine (kMe (ca:=[.slice na y.1.length nc]) Y.out.rd).mono ?_;rintro e w7 ⟨qa,qn,qc,rfl,hQ,hb⟩;replace R:=kC R hb;replace B:=kC B hb;replace X:=kC X hb;replace Y:=yD (Y.out.below hb);replace HR:=yD (HR.out.below hb);obtain ⟨hc,O⟩:=uT;clear bt bd be hb;obtain ⟨_,_,_,bp,bo⟩:=hQ.parts;simp only [Al] at bp;obtain rfl:=bp.2.1.trans bo.out;clear bp bo;have HQ:=yD ((hQ.own Y.out.2.1).wide (T:=λj=>w1.heap.size<=j/\j < w7.heap.size/\¬ j=w2.heap.size) mR);clear hQ J Y;obtain ⟨aq,av,ag,N⟩:=jW B;obtain ⟨aw,ax,a9,ba⟩:=zy B;go_upto_region 5 with fail;generalize o:World.setCell w7 _ _=w8;have a4:Touch (λk=>k=w2.heap.size) w7 w8:=wY;replace B:Qr w8 w2 (Qk qa y.1 qc n h t) 38:=wG;have d9:=a4.size;clear o;replace R:=a4.kC R bF2;replace X:=a4.kC X bF2;replace HR:=yD (HR.out.touch a4 qV);replace HQ:=yD (HQ.out.touch a4 qV);replace hc:=hc.touch a4 bF2 bB6;replace O:=O.jJ a4 bF2;clear aq av ag N aw ax a9 ba a4;obtain ⟨bt,bd,be⟩:=kBd X;by_cases bv:0 < y.2.1.length
   · have H:(0:Int) < y.2.1.length:=bF2;go_wp2_with fail;refine (yw (n:=2) hc bF1).mono ?_;rintro e w9 ⟨b,rfl,F,D⟩;have et:=D.size;obtain ⟨R,B⟩:=xK;replace X:=D.kC X bF2;replace HR:=yD (HR.out.touch D qV);obtain ⟨HQ,O⟩:=BM;clear bt bd be hc D;have hc:=F;clear F;cases b
     · have E:=yD (HQ.out.wide (T:=λj=>w1.heap.size<=j/\j < w9.heap.size) rU);obtain ⟨aj,an,az,a8⟩:=jW R;obtain ⟨aq,av,ag,N⟩:=jW B;exact iD
     obtain ⟨rb,V,rfl,d0,d1,d2,hd,D0,D1,D2⟩:=kD.zL HR.out.rd.1 bv rfl;obtain ⟨rfl,rfl,rfl,r0,r1,r2⟩:=yf hd;clear hd D0 D2;simp only [Nat.zero_mul,Nat.add_zero] at D1;generalize y.2.1[0]=z at *;obtain ⟨bt,bd,be⟩:=kBd X;obtain ⟨aq,av,ag,N⟩:=jW B;obtain ⟨aw,ax,a9,ba⟩:=zy B;go_upto_region 7 with fail;clear D1;generalize o:World.setCell w9 _ _=cw;have a5:Touch (λk=>k=w2.heap.size) w9 cw:=wY;replace B:Qr cw w2 (Qk qa y.1 qc z.2.1 h t) 38:=wF;have d8:=a5.size;clear o;replace R:=a5.kC R bF2;replace HQ:=yD (HQ.out.touch a5 qV);replace hc:=hc.touch a5 bF2 bB6;replace O:=O.jJ a5 bF2;clear bt bd be aq av ag N aw ax a9 ba a5;have E:=yD (HQ.out.wide (T:=λj=>w1.heap.size<=j/\j < cw.heap.size) rU);obtain ⟨aj,an,az,a8⟩:=jW R;obtain ⟨aq,av,ag,N⟩:=jW B;obtain ⟨ak,al,ay,a7⟩:=zy R;go_wp2;refine bodyPost_ret (v:=.agg (Qk qa y.1 qc z.2.1 h t)) gN rfl ⟨qa,qc,y.1,z.2.1,h,t,rfl,?_,by omega,by omega,by omega,hc.touch sT4 bF2 bB6,O.jJ sT4 bF2⟩;exact (E.out.touch sT4 vK).wide fT
   have H:¬ (0:Int) < y.2.1.length:=bF2;have E:=yD (HQ.out.wide (T:=λj=>w1.heap.size<=j/\j < w8.heap.size) rU);clear bt bd be;obtain ⟨aj,an,az,a8⟩:=jW R;obtain ⟨aq,av,ag,N⟩:=jW B;obtain ⟨bt,bd,be⟩:=kBd X;exact iD
 have b0:¬ (0:Int) < l.length:=bF2
 obtain ⟨aj,an,az,a8⟩:=jW R
 exact iC
def kEr {w:Ad} {c0 c1 c2 c3 c4 c5 N o:Value} {x0:Ac jQ} {x1:kg} {x2:Ac kF} {x3:Ac jK} {x4:Ac jI} {x5:Ac kW} {x6:Int} {S:Nat->Prop} (h:jo.jr w [c0,c1,c2,c3,c4,c5,N,o] (x0,x1,x2,x3,x4,x5,x6) S) :
    (kD.slice 60 jF).jr w [c0] x0 S/\kP.jr w [c1,c2] x1 S/\(kD.slice 107 kH).jr w [c3] x2 S/\(kD.slice 140 kz).jr w [c4] x3 S/\(kD.slice 176 jA).jr w [c5] x4 S/\(kD.slice 179 kN).jr w [N] x5 S/\o=.int .i64 x6/\Qi x6:=by
 obtain ⟨d0,e0,he,k0,h⟩:=kD.kDx (r:=(kD.slice 60 jF)) (q:=(kD.pair kP (kD.pair (kD.slice 107 kH) (kD.pair (kD.slice 140 kz) (kD.pair (kD.slice 176 jA) (kD.pair (kD.slice 179 kN) kD.int)))))) (z:=(x0,x1,x2,x3,x4,x5,x6)) h
 obtain ⟨d1,e1,rfl,k1,h⟩:=kD.kDx (r:=kP) (q:=(kD.pair (kD.slice 107 kH) (kD.pair (kD.slice 140 kz) (kD.pair (kD.slice 176 jA) (kD.pair (kD.slice 179 kN) kD.int))))) (z:=(x1,x2,x3,x4,x5,x6)) h
 obtain ⟨d2,e2,rfl,k2,h⟩:=kD.kDx (r:=(kD.slice 107 kH)) (q:=(kD.pair (kD.slice 140 kz) (kD.pair (kD.slice 176 jA) (kD.pair (kD.slice 179 kN) kD.int)))) (z:=(x2,x3,x4,x5,x6)) h
 obtain ⟨d3,e3,rfl,k3,h⟩:=kD.kDx (r:=(kD.slice 140 kz)) (q:=(kD.pair (kD.slice 176 jA) (kD.pair (kD.slice 179 kN) kD.int))) (z:=(x3,x4,x5,x6)) h
 obtain ⟨d4,e4,rfl,k4,h⟩:=kD.kDx (r:=(kD.slice 176 jA)) (q:=(kD.pair (kD.slice 179 kN) kD.int)) (z:=(x4,x5,x6)) h
 obtain ⟨d5,E,rfl,k5,k6⟩:=kD.kDx (r:=(kD.slice 179 kN)) (q:=kD.int) (z:=(x5,x6)) h
 have l0:=(kD.slice 60 jF).len k0.1;have R:=kP.len k1.1;have l2:=(kD.slice 107 kH).len k2.1;have l3:=(kD.slice 140 kz).len k3.1;have l4:=(kD.slice 176 jA).len k4.1;have l5:=(kD.slice 179 kN).len k5.1;have D:=kD.yX (w:=w) k6.1
 match d0,l0,d1,R,d2,l2,d3,l3,d4,l4,d5,l5 with
 | [_],_,[_,_],_,[_],_,[_],_,[_],_,[_],_ =>
   simp only [List.cons_append,List.nil_append,Ap,D.1,and_true] at he;obtain ⟨rfl,rfl,rfl,rfl,rfl,rfl,rfl,rfl⟩:=he;exact ⟨k0,k1,k2,k3,k4,k5,rfl,D.2⟩
def kOh {w:Ad} {c0 c1 c2 c3 c4 c5 N:Value} {x0:Ac jQ} {x1:kg} {x2:Ac kF} {x3:Ac jK} {x4:Ac jI} {x5:Ac kW} {x6:Int} {S:Nat->Prop} (h0:(kD.slice 60 jF).jr w [c0] x0 S) (h1:kP.jr w [c1,c2] x1 S) (h2:(kD.slice 107 kH).jr w [c3] x2 S) (h3:(kD.slice 140 kz).jr w [c4] x3 S) (h4:(kD.slice 176 jA).jr w [c5] x4 S) (h5:(kD.slice 179 kN).jr w [N] x5 S) (h6:Qi x6) :
    jo.jr w [c0,c1,c2,c3,c4,c5,N,Qn x6] (x0,x1,x2,x3,x4,x5,x6) S :=
  kD.kBa (r:=(kD.slice 60 jF)) (q:=(kD.pair kP (kD.pair (kD.slice 107 kH) (kD.pair (kD.slice 140 kz) (kD.pair (kD.slice 176 jA) (kD.pair (kD.slice 179 kN) kD.int)))))) (cs:=[c0]) (ds:=[c1,c2,c3,c4,c5,N,.int .i64 x6]) (z:=(x0,x1,x2,x3,x4,x5,x6)) h0
  (kD.kBa (r:=kP) (q:=(kD.pair (kD.slice 107 kH) (kD.pair (kD.slice 140 kz) (kD.pair (kD.slice 176 jA) (kD.pair (kD.slice 179 kN) kD.int))))) (cs:=[c1,c2]) (ds:=[c3,c4,c5,N,.int .i64 x6]) (z:=(x1,x2,x3,x4,x5,x6)) h1
  (kD.kBa (r:=(kD.slice 107 kH)) (q:=(kD.pair (kD.slice 140 kz) (kD.pair (kD.slice 176 jA) (kD.pair (kD.slice 179 kN) kD.int)))) (cs:=[c3]) (ds:=[c4,c5,N,.int .i64 x6]) (z:=(x2,x3,x4,x5,x6)) h2
  (kD.kBa (r:=(kD.slice 140 kz)) (q:=(kD.pair (kD.slice 176 jA) (kD.pair (kD.slice 179 kN) kD.int))) (cs:=[c4]) (ds:=[c5,N,.int .i64 x6]) (z:=(x3,x4,x5,x6)) h3
  (kD.kBa (r:=(kD.slice 176 jA)) (q:=(kD.pair (kD.slice 179 kN) kD.int)) (cs:=[c5]) (ds:=[N,.int .i64 x6]) (z:=(x4,x5,x6)) h4
  (kD.kBa (r:=(kD.slice 179 kN)) (q:=kD.int) (cs:=[N]) (ds:=[.int .i64 x6]) (z:=(x5,x6)) h5 (kD.flat.jr (kD.ky h6)))))))
def node_localO {w:Ad} {c0 c1 c2 c3 c4 c5 N o:Value} {x0:Ac jQ} {x1:kg} {x2:Ac kF} {x3:Ac jK} {x4:Ac jI} {x5:Ac kW} {x6:Int} {S:Nat->Prop} (h:jo.own w [c0,c1,c2,c3,c4,c5,N,o] (x0,x1,x2,x3,x4,x5,x6) S) :
    ∃ A B:Nat->Prop,(kD.slice 60 jF).own w [c0] x0 A/\(kD.pair kP (kD.pair (kD.slice 107 kH) (kD.pair (kD.slice 140 kz) (kD.pair (kD.slice 176 jA) (kD.pair (kD.slice 179 kN) kD.int))))).own w [c1,c2,c3,c4,c5,N,o] (x1,x2,x3,x4,x5,x6) B/\(∀ k,A k->S k)/\(∀ k,B k->S k)/\(∀ k,A k->B k->False):=by
 obtain ⟨a,d,A,B,he,h1,h2,hA,hB,hd⟩:=kD.kDy (r:=(kD.slice 60 jF)) (q:=(kD.pair kP (kD.pair (kD.slice 107 kH) (kD.pair (kD.slice 140 kz) (kD.pair (kD.slice 176 jA) (kD.pair (kD.slice 179 kN) kD.int)))))) h
 have R:=(kD.slice 60 jF).len h1.1
 match a,R with
 | [u],_=>simp only [List.singleton_append,Ap] at he;obtain ⟨rfl,rfl⟩:=he;exact ⟨A,B,h1,h2,hA,hB,hd⟩
def node_ofL {w:Ad} {c0 c1 c2 c3 c4 c5 N o:Value} {x0:Ac jQ} {x1:kg} {x2:Ac kF} {x3:Ac jK} {x4:Ac jI} {x5:Ac kW} {x6:Int} {S:Nat->Prop} (h0:(kD.slice 60 jF).jr w [c0] x0 S) (h1:(kD.pair kP (kD.pair (kD.slice 107 kH) (kD.pair (kD.slice 140 kz) (kD.pair (kD.slice 176 jA) (kD.pair (kD.slice 179 kN) kD.int))))).jr w [c1,c2,c3,c4,c5,N,o] (x1,x2,x3,x4,x5,x6) S):jo.jr w [c0,c1,c2,c3,c4,c5,N,o] (x0,x1,x2,x3,x4,x5,x6) S :=
  kD.kBa (r:=(kD.slice 60 jF)) (q:=(kD.pair kP (kD.pair (kD.slice 107 kH) (kD.pair (kD.slice 140 kz) (kD.pair (kD.slice 176 jA) (kD.pair (kD.slice 179 kN) kD.int)))))) (cs:=[c0]) (ds:=[c1,c2,c3,c4,c5,N,o]) (z:=(x0,x1,x2,x3,x4,x5,x6)) h0 h1
def kHl (x:jX):Prop:=x.1.length<=10/\x.2.1.2.length<=9/\kAo x.2.2.1 14/\kHd x.2.2.2.1/\x.2.2.2.2.1.length<=14/\x.2.2.2.2.2.1.length<=48/\-1<=x.2.2.2.2.2.2/\x.2.2.2.2.2.2<=0
def tameN.kHl {x:jX} (h:tameN x):kHl x:=⟨by have:=h.1;omega,h.2⟩
def DrawnA (w0 w:Ad) (p:Nat) (e:Ending) (w':Ad):Prop:=∃ cs x ct t tb,e=.returned (.tuple #[.agg cs.toArray,.agg ct.toArray])/\jo.jr w' cs x (jg tb w')/\kHl x/\kBt.jr w' ct t (jg w tb)/\lenT t/\(w.heap.size<=tb/\tb<=w'.heap.size)/\ym w0 w' p/\Touch (λk=>k=p) w w'
def jFg {w0 w:Ad} {p:Nat} (hc:ym w0 w p) :
    Calls prog 26 #[.pointer (some ⟨p,0,none⟩)] w λe w'=>DrawnA w0 w p e w':=by
 go_enter func26,ntmps26
 obtain ⟨bh,br⟩:=hc.lt
 go_upto_region 1 with fail
 refine kAe ?_
 intro w1 hb RN RT bj
 obtain ⟨hc,O⟩:=DT
 clear hb
 go_wp2_with fail
 refine (jCe hc).mono ?_
 rintro e w2 ⟨cs,x,ct,t,tb,rfl,hO,hx,hT,hlt,⟨fd,ff⟩,F,D⟩
 have bw:=D.size
 replace RN:=D.kC RN bF2
 replace RT:=D.kC RT bF2
 replace O:=O.trans D
 clear hc D
 have hc:=F
 clear F
 obtain ⟨b0,ck,b6,dd,bb,dh,c7,c8,rfl⟩:=kLy hT.rd.1
 obtain ⟨a0,c0,a1,c1,a2,c2,a3,c3,a4,c4,a5,c5,rfl⟩:=kCu hO.raw
 obtain ⟨x0,⟨kc,xe⟩,x2,x3,x4,x5,x6⟩:=x
 replace hO:jo.own _ [Qs a0 x0 c0,Qn kc,Qs a1 xe c1,Qs a2 x2 c2,Qs a3 x3 c3,Qs a4 x4 c4,Qs a5 x5 c5,Qn x6] (x0,(kc,xe),x2,x3,x4,x5,x6) _:=hO
 have J:=yD hO
 have L:=yD hT
 have Y:=yD hx
 have dl:=yD hlt
 clear hO hT hx hlt
 go_upto_region 2 with fail
 refine kAe ?_
 intro w3 hb BN BT bz
 replace RN:=kC RN hb
 replace RT:=kC RT hb
 replace J:=yD (J.out.below hb)
 replace L:=yD (L.out.below hb)
 obtain ⟨hc,O⟩:=uT
 clear hb
 obtain ⟨nb,d6⟩:∃ b_,b_=w2.heap.size:=⟨_,rfl⟩
 rw [<- d6] at BN BT ⊢
 have f3:=Nat.le_of_eq d6
 have f1:=Nat.le_of_eq d6.symm
 clear d6
 go_wp2_with fail
 refine (kZ (n:=14) hc bF1).mono ?_
 rintro e w4 ⟨m,bc,bk,bq,rfl,F,D⟩
 have b5:=D.size
 replace RN:=D.kC RN bF2
 replace RT:=D.kC RT bF2
 replace BN:=D.kC BN bF2
 replace BT:=D.kC BT bF2
 replace J:=yD (J.out.touch D qV)
 replace L:=yD (L.out.touch D qV)
 replace O:=O.trans D
 clear hc D
 have hc:=F
 clear F
 replace bk:=bk bF1
 clear bq
 obtain ⟨m,rfl⟩:=Ae bc
 have ag:Touch (λk=>k=p\/k=nb\/(tb<=k/\k < w2.heap.size)) w4 w4:=Touch.of_below bR
 have HR:=yD (J.out.jr.wide (T:=(λk=>tb<=k/\k < w4.heap.size/\k≠nb/\k≠nb + 1)) (λk q=>⟨q.1,by have:=q.2;omega,by have:=q.2;omega,by have:=q.2;omega⟩))
 go_upto_block 0 with fail
 go_cut [] from 11 to 44 (λwc=>∃ (a0:Aj Addr) (c0:Nat) (kc:Int) (a1:Aj Addr) (c1:Nat) (a2:Aj Addr) (c2:Nat) (a3:Aj Addr) (c3:Nat) (a4:Aj Addr) (c4:Nat) (a5:Aj Addr) (c5:Nat) (x0:Ac jQ) (xe:Ac kr) (x2:Ac kF) (x3:Ac jK) (x4:Ac jI) (x5:Ac kW) (x6:Int),Qr wc nb (Qh a0 x0 c0 kc a1 xe c1 a2 x2 c2 a3 x3 c3 a4 x4 c4 a5 x5 c5 x6) 33/\Hid (jo.jr wc [Qs a0 x0 c0,Qn kc,Qs a1 xe c1,Qs a2 x2 c2,Qs a3 x3 c3,Qs a4 x4 c4,Qs a5 x5 c5,Qn x6] (x0,(kc,xe),x2,x3,x4,x5,x6) (λk=>tb<=k/\k < wc.heap.size/\k≠nb/\k≠nb + 1))/\Hid (kHl (x0,(kc,xe),x2,x3,x4,x5,x6))/\w4.heap.size<=wc.heap.size/\ym w0 wc p/\Touch (λk=>k=p\/k=nb\/(tb<=k/\k < w2.heap.size)) w4 wc)
 case first =>
  clear RN RT BT L O dl;by_cases bp:m=0
  · subst bp;clear J;go_wp2_with fail;refine (kSx hc).mono ?_;rintro e b8 ⟨va,vc,l,rfl,aa,hP,F,D⟩;obtain ⟨cg,ag,BN,HR⟩:=CK;clear hc D;have hc:=F;clear F;have HP:=yD hP;clear hP;obtain ⟨R,aq,X,N,U,ai,ab,Z⟩:=yu BN;obtain ⟨aw,bd,bl,ax,ba,a6,bf,a9⟩:=kIo BN;go_wp2;generalize o:World.setCell b8 _ _=be;have hT:Touch (λk=>k=nb) b8 be:=wY;replace BN:Qr be nb (Qh a0 x0 c0 kc a1 xe c1 va l vc a3 x3 c3 a4 x4 c4 a5 x5 c5 x6) 33:=by rw [<- o];exact kG (BN) 3
    have cm:=hT.size;clear o R aq X N U ai ab Z aw bd bl ax ba a6 bf a9;obtain ⟨HR,HP⟩:=DY;obtain ⟨hc,ag⟩:=xG;clear hT;obtain ⟨k0,k1,k2,k3,k4,k5,_,k6⟩:=kEr (HR.out.wide (T:=(λk=>tb<=k/\k < be.heap.size/\k≠nb/\k≠nb + 1)) qN);have kn:=HP.out.wide (T:=(λk=>tb<=k/\k < be.heap.size/\k≠nb/\k≠nb + 1)) dL;go_meet;exact ⟨a0,c0,kc,a1,c1,va,vc,a3,c3,a4,c4,a5,c5,x0,xe,l,x3,x4,x5,x6,BN,yD (kOh k0 k1 kn k3 k4 k5 k6),yD (⟨Y.out.kHl.1,Y.out.2.1,aa,Y.out.2.2.2⟩),by omega,hc,ag⟩
  have bt:¬ (m:Int)=0:=bF2;by_cases bo:m=1
  · subst bo;clear J;go_wp2_with fail;refine (jFk hc).mono ?_;rintro e b8 ⟨va,vc,l,rfl,hP,aa,F,D⟩;obtain ⟨cg,ag,BN,HR⟩:=CK;clear hc D;have hc:=F;clear F;have HP:=yD hP.jr;clear hP;obtain ⟨R,aq,X,N,U,ai,ab,Z⟩:=yu BN;obtain ⟨aw,bd,bl,ax,ba,a6,bf,a9⟩:=kIo BN;go_wp2;generalize o:World.setCell b8 _ _=be;have hT:Touch (λk=>k=nb) b8 be:=wY;replace BN:Qr be nb (Qh a0 x0 c0 kc a1 xe c1 a2 x2 c2 a3 x3 c3 va l vc a5 x5 c5 x6) 33:=by rw [<- o];exact kG (BN) 5
    have cm:=hT.size;clear o R aq X N U ai ab Z aw bd bl ax ba a6 bf a9;obtain ⟨HR,HP⟩:=DY;obtain ⟨hc,ag⟩:=xG;clear hT;obtain ⟨k0,k1,k2,k3,k4,k5,_,k6⟩:=kEr (HR.out.wide (T:=(λk=>tb<=k/\k < be.heap.size/\k≠nb/\k≠nb + 1)) qN);have kn:=HP.out.wide (T:=(λk=>tb<=k/\k < be.heap.size/\k≠nb/\k≠nb + 1)) dL;go_meet;exact ⟨a0,c0,kc,a1,c1,a2,c2,a3,c3,va,vc,a5,c5,x0,xe,x2,x3,l,x5,x6,BN,yD (kOh k0 k1 k2 k3 kn k5 k6),yD (⟨Y.out.kHl.1,Y.out.2.1,Y.out.2.2.1,Y.out.2.2.2.1,aa.1,Y.out.2.2.2.2.2⟩),by omega,hc,ag⟩
  have bx:¬ (m:Int)=1:=bF2;by_cases bn:m=2
  · subst bn;clear J;go_wp2_with fail;refine (jFh hc).mono ?_;rintro e b8 ⟨va,vc,l,rfl,hP,aa,F,D⟩;obtain ⟨cg,ag,BN,HR⟩:=CK;clear hc D;have hc:=F;clear F;have HP:=yD hP.jr;clear hP;obtain ⟨R,aq,X,N,U,ai,ab,Z⟩:=yu BN;obtain ⟨aw,bd,bl,ax,ba,a6,bf,a9⟩:=kIo BN;go_wp2;generalize o:World.setCell b8 _ _=be;have hT:Touch (λk=>k=nb) b8 be:=wY;replace BN:Qr be nb (Qh a0 x0 c0 kc a1 xe c1 a2 x2 c2 a3 x3 c3 a4 x4 c4 va l vc x6) 33:=by rw [<- o];exact kG (BN) 6
    have cm:=hT.size;clear o R aq X N U ai ab Z aw bd bl ax ba a6 bf a9;obtain ⟨HR,HP⟩:=DY;obtain ⟨hc,ag⟩:=xG;clear hT;obtain ⟨k0,k1,k2,k3,k4,k5,_,k6⟩:=kEr (HR.out.wide (T:=(λk=>tb<=k/\k < be.heap.size/\k≠nb/\k≠nb + 1)) qN);have kn:=HP.out.wide (T:=(λk=>tb<=k/\k < be.heap.size/\k≠nb/\k≠nb + 1)) dL;go_meet;exact ⟨a0,c0,kc,a1,c1,a2,c2,a3,c3,a4,c4,va,vc,x0,xe,x2,x3,x4,l,x6,BN,yD (kOh k0 k1 k2 k3 k4 kn k6),yD (⟨Y.out.kHl.1,Y.out.2.1,Y.out.2.2.1,Y.out.2.2.2.1,Y.out.2.2.2.2.1,aa,Y.out.2.2.2.2.2.2⟩),by omega,hc,ag⟩
  have b7:¬ (m:Int)=2:=bF2;by_cases am:m=3
  · subst am;clear J;go_wp2_with fail;refine (jFm hc).mono ?_;rintro e b8 ⟨va,vc,vk,l,rfl,hP,aa,F,D⟩;obtain ⟨cg,ag,BN,HR⟩:=CK;clear hc D;have hc:=F;clear F;have HP:=yD hP;clear hP;obtain ⟨R,aq,X,N,U,ai,ab,Z⟩:=yu BN;obtain ⟨aw,bd,bl,ax,ba,a6,bf,a9⟩:=kIo BN;go_wp2;generalize o:World.setCell (World.setCell b8 _ _) _ _=be;have hT:Touch (λk=>k=nb) b8 be:=bA3;replace BN:Qr be nb (Qh a0 x0 c0 vk va l vc a2 x2 c2 a3 x3 c3 a4 x4 c4 a5 x5 c5 x6) 33:=by rw [<- o];exact kG (kG (BN) 1) 2
    have cm:=hT.size;clear o R aq X N U ai ab Z aw bd bl ax ba a6 bf a9;obtain ⟨HR,HP⟩:=DY;obtain ⟨hc,ag⟩:=xG;clear hT;obtain ⟨k0,k1,k2,k3,k4,k5,_,k6⟩:=kEr (HR.out.wide (T:=(λk=>tb<=k/\k < be.heap.size/\k≠nb/\k≠nb + 1)) qN);have kn:=HP.out.wide (T:=(λk=>tb<=k/\k < be.heap.size/\k≠nb/\k≠nb + 1)) dL;go_meet;exact ⟨a0,c0,vk,va,vc,a2,c2,a3,c3,a4,c4,a5,c5,x0,l,x2,x3,x4,x5,x6,BN,yD (kOh k0 kn k2 k3 k4 k5 k6),yD (⟨Y.out.kHl.1,by show l.length<=9;omega,Y.out.2.2⟩),by omega,hc,ag⟩
  have dr:¬ (m:Int)=3:=bF2;by_cases bu:m=4
  · subst bu;clear HR;obtain ⟨A_,B_,hA,hB,sA,sB,dn⟩:=node_localO J.out;have HA:=yD hA;have HB:=yD hB;clear hA hB J;go_upto_region 12 with fail;refine kAc (λW=>Touch (λk=>k=p) w4 W/\ym w0 W p) (λ_=>True) [] [(0,true),(1,true),(2,true),(3,false),(4,false)] [(5,false),(6,true),(7,false)] bE5 bE5 qW (⟨Touch.of_below bR.drew,hc.below bR.drew⟩) ?_;intro wS E;simp only [jG,kAu,List.getElem?_cons_succ,List.getElem?_cons_zero,List.map_cons,List.map_nil];refine pre_nil ?_;refine yA (v:=?_) rfl (λW hW=>?_) ?_;rotate_left;(· go_simp;try with_reducible rfl);refine jH ?_;refine yA (v:=?_) rfl (λW hW=>?_) ?_;rotate_left;(· have cv:=kE (hW.1.kC BN bF2) (j:=0) (v:=Qs a0 x0 c0) rfl;have dk:=kE (hW.1.kC BN bF2) (j:=1) (v:=.int .i64 kc) rfl;have dz:=kE (hW.1.kC BN bF2) (j:=2) (v:=Qs a1 xe c1) rfl;have d5:=kE (hW.1.kC BN bF2) (j:=3) (v:=Qs a2 x2 c2) rfl;have d4:=kE (hW.1.kC BN bF2) (j:=4) (v:=Qs a3 x3 c3) rfl;have el:=kE (hW.1.kC BN bF2) (j:=5) (v:=Qs a4 x4 c4) rfl;have eh:=kE (hW.1.kC BN bF2) (j:=6) (v:=Qs a5 x5 c5) rfl;have em:=kE (hW.1.kC BN bF2) (j:=7) (v:=.int .i64 x6) rfl;clear hW;go_simp;try with_reducible rfl);refine jH ?_;refine yA (v:=?_) rfl (λW hW=>?_) ?_;rotate_left;(· go_simp;try with_reducible rfl);refine jH ?_;refine zY rfl (λK H=>?_);go_simp;refine (kWl E.2).mono ?_;rintro e wS1 ⟨ds,x,rfl,hX,bi,av,ap⟩;obtain ⟨b9,cf,b1,cc,cl,cd,rfl⟩:=zo hX.raw;have HX:=yD hX;have fh:=E.1.size;replace E:=And.intro (E.1.trans ap) av;refine H _ _ E ?_;clear H K av ap hX;refine jH ?_;refine zY rfl (λK H=>?_);go_simp;have V:Touch (λk=>k=p) w4 (World.alloc wS1 (.cells #[.slice b9 x.1.length cf,.slice b1 x.2.1.length cc,.slice cl x.2.2.1.length cd,.int .i64 x.2.2.2.1,.int .i64 x.2.2.2.2] 60))/\ym w0 (World.alloc wS1 (.cells #[.slice b9 x.1.length cf,.slice b1 x.2.1.length cc,.slice cl x.2.2.1.length cd,.int .i64 x.2.2.2.1,.int .i64 x.2.2.2.2] 60)) p:=⟨E.1.trans (Touch.of_below (bR.alloc nL _)),E.2.below (bR.alloc nL _)⟩;refine H _ _ V ?_;clear H K V;refine jH ?_;have zS:=E.1.size;have B5:=E.1.kC BN bF2;have ac:=E.2;have ah:=ag.yB E.1 (λk q=>.inl (.inl q));have an:=HA.out.touch E.1 bW;have aj:=HB.out.touch E.1 bW;clear BN hc ag HA HB;obtain ⟨v3,u3,a7,ad,af⟩:=kD.kIn (P:=prog) (t:=24) (ty:=24) (r:=jF) (e:=60) (c:=1) underlying24 kTk rfl bF1 bF1 an bR HX.out (λk q1 q2=>by have h1:=sA k q1;have h2:=h1.2;have h3:=q2.1;omega) (Nat.lt_of_le_of_lt Y.out.1 bF1);have z3:=af.size;have ae:Touch (λk=>tb<=k/\k < w2.heap.size) wS1 u3:=af.wide (λk q=>⟨(sA k q.1).1,(sA k q.1).2⟩);have au:=aj.touch af (λk q h=>dn k h.1 q);have b2:(x0++[x]).length<=10:=by have h1:=Y.out.1;have h2:x0.length<=9:=h1;simp;omega
    generalize x0++[x]=q at *;obtain ⟨ak,ar,ao,_⟩:=kD.kAw ad.raw;obtain rfl:v3=_:=by simpa using ao
    have BN:=ae.kC B5 bF2;have hc:=ac.touch ae vU vB;have ag:=ah.yB ae (λk q=>.inl (.inr (.inr q)));obtain ⟨ay,az,dt,ce,co,d2,d1,b4⟩:=yu BN;obtain ⟨a8,bm,dq,dm,du,dp,df,dw⟩:=kIo BN;clear B5 ac ah an aj ao af ae E;refine kAk trivial ?_;refine ku rfl (λK H=>?_);refine kD.kX _ _ _ rfl bF4 bF4 a7 ?_;refine H _ _ trivial ?_;clear H K;refine jH ?_;refine kS ?_;refine ku rfl (λK H=>?_);go_simp;refine H _ _ trivial ?_;clear H K;refine jH ?_;refine kM ?_;generalize o:World.setCell u3 _ _=wQ;have hT:Touch (λk=>k=nb) u3 wQ:=wY;have BQ:Qr wQ nb (Qh ak q ar kc a1 xe c1 a2 x2 c2 a3 x3 c3 a4 x4 c4 a5 x5 c5 x6) 33:=by rw [<- o];exact kG BN 0
    have b3:=hT.size;clear o;replace hc:=hc.touch hT bF2 bB6;replace ag:=ag.yB hT (λk q=>.inl (.inr (.inl q)));have k0:=(ad.jr.touch hT (λk q h=>by rcases q with q | q | q;(have h1:=(sA k q).2;omega);(have h1:=q.1;omega);(have h1:=q.1;omega))).wide (T:=(λk=>tb<=k/\k < wQ.heap.size/\k≠nb/\k≠nb + 1)) (λk q=>by rcases q with q | q | q;(have h1:=sA k q;have h2:=h1.2;exact ⟨h1.1,by omega,by omega,by omega⟩);exact ⟨by have:=q.1;omega,by have:=q.2;omega,by have:=q.1;omega,by have:=q.1;omega⟩;exact ⟨by have:=q.1;omega,by have:=q.2;omega,by have:=q.1;omega,by have:=q.1;omega⟩);have k1:=(au.jr.touch hT (λk q h=>by have h1:=(sB k q).2;omega)).wide (T:=(λk=>tb<=k/\k < wQ.heap.size/\k≠nb/\k≠nb + 1)) (λk q=>by have h1:=sB k q;have h2:=h1.2;exact ⟨h1.1,by omega,by omega,by omega⟩);go_wp2;go_meet;exact ⟨ak,ar,kc,a1,c1,a2,c2,a3,c3,a4,c4,a5,c5,q,xe,x2,x3,x4,x5,x6,BQ,yD (node_ofL k0 k1),yD ⟨b2,Y.out.2⟩,by omega,hc,ag⟩
  have d0:¬ (m:Int)=4:=bF2;by_cases al:m=5
  · subst al;clear J;obtain ⟨R,aq,X,N,U,ai,ab,Z⟩:=yu BN;obtain ⟨aw,bd,bl,ax,ba,a6,bf,a9⟩:=kIo BN;go_wp2;generalize o:World.setCell w4 _ _=b8;have hT:Touch (λk=>k=nb) w4 b8:=wY;replace BN:Qr b8 nb #[Qs a0 x0 c0,Qn kc,Qs a1 xe c1,Qs a2 x2 c2,Qs a3 x3 c3,Qs a4 x4 c4,Qs a5 x5 c5,.int .i64 (-1)] 33:=by rw [<- o];exact kG (BN) 7
    have cg:=hT.size;clear o R aq X N U ai ab Z aw bd bl ax ba a6 bf a9;replace HR:=yD (HR.out.touch hT pR);obtain ⟨hc,ag⟩:=xG;clear hT;obtain ⟨k0,k1,k2,k3,k4,k5,_,k6⟩:=kEr (HR.out.wide (T:=(λk=>tb<=k/\k < b8.heap.size/\k≠nb/\k≠nb + 1)) qN);go_meet;exact ⟨a0,c0,kc,a1,c1,a2,c2,a3,c3,a4,c4,a5,c5,x0,xe,x2,x3,x4,x5,(-1),BN,yD (kOh k0 k1 k2 k3 k4 k5 bF2),yD ⟨Y.out.kHl.1,Y.out.2.1,Y.out.2.2.1,Y.out.2.2.2.1,Y.out.2.2.2.2.1,Y.out.2.2.2.2.2.1,by show (-1:Int)<=-1;omega,by show (-1:Int)<=0;omega⟩,by omega,hc,ag⟩
  have c9:¬ (m:Int)=5:=bF2;go_wp2;go_meet;exact ⟨a0,c0,kc,a1,c1,a2,c2,a3,c3,a4,c4,a5,c5,x0,xe,x2,x3,x4,x5,x6,BN,HR,yD Y.out.kHl,by omega,hc,ag⟩
 clear J HR Y BN ag
 rename Ad=>wd
 obtain ⟨a0,c0,kc,a1,c1,a2,c2,a3,c3,a4,c4,a5,c5,x0,xe,x2,x3,x4,x5,x6,BN,HR,bv,zd,ch,bg⟩:=hcut
 replace RN:=bg.kC RN bF2
 replace RT:=bg.kC RT bF2
 replace BT:=bg.kC BT bF2
 replace O:=O.yB bg bB8
 replace L:=yD (L.out.touch bg pR)
 clear hc
 have hc:=ch
 clear ch bg
 go_upto_region 15 with fail
 have FX:=yD (λ(W:Ad) (hW:Touch (λk=>k=w.heap.size\/k=w.heap.size + 1) wd W)=>And.intro (kE (hW.kC BN bF2) (j:=0) (v:=Qs a0 x0 c0) rfl) (And.intro (kE (hW.kC BN bF2) (j:=1) (v:=.int .i64 kc) rfl) (And.intro (kE (hW.kC BN bF2) (j:=2) (v:=Qs a1 xe c1) rfl) (And.intro (kE (hW.kC BN bF2) (j:=3) (v:=Qs a2 x2 c2) rfl) (And.intro (kE (hW.kC BN bF2) (j:=4) (v:=Qs a3 x3 c3) rfl) (And.intro (kE (hW.kC BN bF2) (j:=5) (v:=Qs a4 x4 c4) rfl) (And.intro (kE (hW.kC BN bF2) (j:=6) (v:=Qs a5 x5 c5) rfl) (And.intro (kE (hW.kC BN bF2) (j:=7) (v:=.int .i64 x6) rfl) (And.intro (kE (hW.kC BT bF2) (j:=0) (v:=Qs b0 t.1 ck) rfl) (And.intro (kE (hW.kC BT bF2) (j:=1) (v:=Qs b6 t.2.1 dd) rfl) (And.intro (kE (hW.kC BT bF2) (j:=2) (v:=Qs bb t.2.2.1 dh) rfl) (kE (hW.kC BT bF2) (j:=3) (v:=Qs c7 t.2.2.2 c8) rfl))))))))))))
 refine kCn (λW=>Touch (λk=>k=w.heap.size\/k=w.heap.size + 1) wd W) bE5 (Touch.of_below bR.drew) ?_
 intro t1 di E
 have bD:Qb wd t1:=(by rw [di];exact bR.drew)
 replace RN:=kC RN bD
 replace RT:=kC RT bD
 clear bD di
 have gd:=E.size
 refine kT 0 ?_
 refine kT 1 ?_
 refine kU (k:=2) rfl bE5 rfl (λK H=>?_)
 obtain ⟨cw,db,cz,de,eb,d3,ea,ed⟩:=yu RN
 obtain ⟨dc,c6,da,dg,d9,d7,ec,d8⟩:=kIo RN
 go_simp
 generalize o:World.setCell (World.setCell (World.setCell (World.setCell (World.setCell (World.setCell (World.setCell (World.setCell t1 _ _) _ _) _ _) _ _) _ _) _ _) _ _) _ _=t2
 have hT:Touch (λk=>k=w.heap.size) t1 t2:=(by rw [<- o];exact sT8)
 replace RN:Qr t2 w (Qh a0 x0 c0 kc a1 xe c1 a2 x2 c2 a3 x3 c3 a4 x4 c4 a5 x5 c5 x6) 33:=(by rw [<- o];exact kG (kG (kG (kG (kG (kG (kG (kG (RN) 0) 1) 2) 3) 4) 5) 6) 7)
 have ez:=hT.size
 clear o cw dc db c6 cz da de dg eb d9 d3 d7 ea ec ed d8
 replace RT:=hT.kC RT bF2
 replace E:=E.trans (hT.wide (λk q=>.inl q))
 clear hT
 refine H _ _ E ?_
 clear H K
 refine jH ?_
 refine kU (k:=3) rfl bE5 rfl (λK H=>?_)
 obtain ⟨cw,db,cz,de⟩:=jW RT
 obtain ⟨dc,c6,da,dg⟩:=zy RT
 go_simp
 generalize o:World.setCell (World.setCell (World.setCell (World.setCell t2 _ _) _ _) _ _) _ _=t3
 obtain ⟨hT,RT,eu⟩:=BL
 clear o cw dc db c6 cz da de dg
 replace RN:=hT.kC RN bF2
 replace E:=E.trans (hT.wide (λk q=>.inr q))
 clear hT
 refine H _ _ E ?_
 clear H K
 refine jH ?_
 refine jv bE5 ?_
 obtain ⟨fu,fw,fo,fr,fj,ft,fn,fp⟩:=yu RN
 obtain ⟨dx,dj,dv,dy⟩:=jW RT
 have zS:=E.size
 go_wp2
 refine bodyPost_ret (v:=.tuple #[.agg (Qh a0 x0 c0 kc a1 xe c1 a2 x2 c2 a3 x3 c3 a4 x4 c4 a5 x5 c5 x6),.agg #[Qs b0 t.1 ck,Qs b6 t.2.1 dd,Qs bb t.2.2.1 dh,Qs c7 t.2.2.2 c8]]) (by simp [results,results26,go_sem,fu,fw,fo,fr,fj,ft,fn,fp,dx,dj,dv,dy]) rfl ⟨[Qs a0 x0 c0,Qn kc,Qs a1 xe c1,Qs a2 x2 c2,Qs a3 x3 c3,Qs a4 x4 c4,Qs a5 x5 c5,Qn x6],(x0,(kc,xe),x2,x3,x4,x5,x6),[.slice b0 t.1.length ck,.slice b6 t.2.1.length dd,.slice bb t.2.2.1.length dh,.slice c7 t.2.2.2.length c8],t,tb,rfl,?_,bv.out,?_,dl.out,⟨by omega,by omega⟩,hc.touch E bF2 bB8,O.yB E bB8⟩
 · exact (HR.out.touch E tZ).wide (T:=jg tb _) (λj I=>⟨I.1,by have:=I.2.1;omega⟩)
 exact (L.out.touch E tZ).wide (T:=jg w tb) nK
end Go.Proofs.YthocbplmdjkifaaGreat

/-
  Pending interests drawn that are read only.
-/
import Derived.Test.YtonmjkmaadgceabGreatDrawC
set_option linter.unusedVariables false
set_option linter.defProp false
set_option linter.unusedSimpArgs false
set_option linter.unnecessarySimpa false
set_option maxRecDepth 100000
set_option maxHeartbeats 4000000
open _root_ renaming ByteArray->Aa
open UInt8 renaming ofNat->Ab
open Go.Proofs.Tryz renaming underlying28->Ac
open ByteArray renaming size_append->Ad,empty->Ah
open List renaming mem_singleton->Ae
open Int renaming lt_trichotomy->Ag
open Go.IntWalk renaming i64_in->Ai
namespace Go.Proofs.YtonmjkmaadgceabGreat
open Go.RowKit _root_.Go.Proofs.Tryz
def kHo (u:Nat):List UInt8:=if h:u=0 then [] else kHo (u / 10)++[Ab (48 + u % 10)]
termination_by u
decreasing_by omega
def kVv:kHo 0=[]:=by rw [kHo,dif_pos rfl]
def kZz {u:Nat} (h:0 < u):kHo u=kHo (u / 10)++[UInt8.ofNat (48 + u % 10)]:=by rw [kHo,dif_neg bC9]
def digs_dec (u:Nat) (h:0 < u):kHo u=Lib.decDigits u:=by
 induction u using Nat.strongRecOn with
 | _ u ih =>
   rw [kZz h,Lib.decDigits];by_cases q:u < 10
   · rw [dif_pos q,show u / 10=0 by omega,kVv,show u % 10=u by omega];rfl
   · rw [dif_neg q,ih (u / 10) bC9 bC9]
def kLa:∀ (k:Nat) {u:Nat},u < 10 ^ k->(kHo u).length<=k
  | 0,u,h=>by
    obtain rfl:u=0:=bB3;rw [kVv];simp
  | k + 1,u,h=>by
    by_cases q:u=0
    · subst q;rw [kVv];simp
    · rw [kZz bC9,List.length_append];have:=kLa k (u:=u / 10) (Nat.div_lt_of_lt_mul nR);simp;omega
def kOu (n:Int):Aa:=⟨(Lib.itoa n).toArray⟩
def kQa {n:Nat} (h:0 < n):kOu (n:Int)=⟨(kHo n).toArray⟩:=by
 unfold kOu Lib.itoa;rw [if_neg bC9,digs_dec n h,show (n:Int).toNat=n by omega]
def kQb {n:Nat} (h:0 < n):kOu (-(n:Int))=⟨#[45]⟩++⟨(kHo n).toArray⟩:=by
 unfold kOu Lib.itoa;rw [if_pos bC9,digs_dec n h,show (-(n:Int)).natAbs=n by omega];apply ByteArray.ext;simp
def itoaB_0:kOu 0=⟨#[48]⟩:=by
 unfold kOu Lib.itoa;rw [if_neg bC9,show (0:Int).toNat=0 from rfl,Lib.decDigits,dif_pos bC9];rfl
def ba_size (l:List UInt8):(⟨l.toArray⟩:ByteArray).size=l.length:=by simp [ByteArray.size]
def itoaB_size {n:Int} (h:Qi n):(kOu n).size<=20:=by
 rcases Ag n 0 with q | q | q
 · obtain ⟨m,rfl⟩:∃ m:Nat,n=-(m:Int):=⟨n.natAbs,by omega⟩;have h1:=kLa 19 (u:=m) bC9;have h2:=ba_size (kHo m);have h3:(⟨#[45]⟩:Aa).size=1:=rfl;rw [kQb bC9,Ad];omega
 · subst q;rw [itoaB_0];decide
 obtain ⟨m,rfl⟩:∃ m:Nat,n=m:=⟨n.toNat,by omega⟩;have h1:=kLa 19 (u:=m) bC9;rw [kQa bC9,ba_size];omega
def dig_int {u:Nat}:(48:Int) + (u:Int) % 10=((Ab (48 + u % 10)).toNat:Int):=by
 rw [UInt8.toNat_ofNat'];omega
def kOs {P:Program} {w:World} {src dst e:TypeId} {x:UInt8} {z:Int} (hz:z=(x.toNat:Int)) (hs:P.underlying src=some (.slice e)) (he:P.underlying e=some (.int .u8)) (hd:P.underlying dst=some .string) :
    (convert src dst (.slice (some ⟨w.heap.size,0,none⟩) 1 1)).run P (w.alloc (.cells #[.int .u8 z] e))=.ok (.string ⟨#[x]⟩) (w.alloc (.cells #[.int .u8 z] e)):=by
 have h:=run_convert_bytes_back (P:=P) (w.alloc (.cells #[.int .u8 z] e)) src dst e ⟨w.heap.size,0,none⟩ 1 [x] hs he hd (by
   intro j I;obtain rfl:j=0:=bB4;subst hz;simp [go_sem])
 simpa using h
def kSh {w:World} {n:Int} (hn:Qi n) :
    Calls prog 145 #[.int .i64 n] w (bQ w (.string (kOu n))):=by
 go_enter func145,ntmps145
 rcases Ag n 0 with q | q | q
 · obtain ⟨N,rfl⟩:∃ m:Nat,n=-(m:Int):=⟨n.natAbs,by omega⟩;have hN:0 < N:=bC9;go_wp2;go_loopw [3,4] (λsv I wr=>∃ (u:Nat) (s:Aa),u<=N/\I=.int .i64 (-(u:Int))/\sv=.string s/\s.size<=20/\Hid (kHo u++s.data.toList=kHo N)/\Qb w wr) (λ_ I _=>(intOf I).natAbs);case atStart=>exact ⟨N,Ah,Nat.le_refl _,rfl,rfl,by decide,yD bD0,bR⟩
   obtain ⟨u,s,hu,rfl,rfl,hs,HP,o⟩:=hrel;by_cases hz:u=0
   · exact iF
   have Y:0 < u:=bC9;have F:=yD (kZz Y);have hne:(((-(u:Int)):Int) != 0)=true:=bC4;have ax:s.size + 1<=20:=by
    exact iG
   obtain ⟨hb,H⟩:=I5;clear hb;obtain ⟨D,G⟩:=CX;have HX:=yD (show kHo (u / 10)++((⟨#[Ab (48 + u % 10)]⟩:Aa)++s).data.toList=kHo N by
     rw [<- HP.out,F.out];simp)
   generalize (⟨#[Ab (48 + u % 10)]⟩:Aa)=L at H D G HX;by_cases hm:u % 10=0
   · have J:(u:Int) % 10=0:=bC9;have bk:=D hm;clear D H;exact iH
   have J:(0:Int) < (u:Int) % 10:=bC9;clear D;exact iH
 · subst q;go_wp2;go_ret;exact ⟨by rw [itoaB_0];rfl,bR⟩
 obtain ⟨N,rfl⟩:∃ m:Nat,n=m:=⟨n.toNat,by omega⟩
 have hN:0 < N:=bC9
 go_wp2
 go_loopw [3,4] (λsv I wr=>∃ (u:Nat) (s:Aa),u<=N/\I=.int .i64 (u:Int)/\sv=.string s/\s.size<=20/\Hid (kHo u++s.data.toList=kHo N)/\Qb w wr) (λ_ I _=>(intOf I).natAbs)
 case atStart=>exact ⟨N,Ah,Nat.le_refl _,rfl,rfl,by decide,yD bD0,bR⟩
 obtain ⟨u,s,hu,rfl,rfl,hs,HP,o⟩:=hrel
 by_cases hz:u=0
 · exact iF
 have Y:0 < u:=bC9
 have F:=yD (kZz Y)
 have hne:(((u:Int):Int) != 0)=true:=bC4
 have ax:s.size + 1<=20:=by
  exact iG
 obtain ⟨hb,H⟩:=I5
 clear hb
 obtain ⟨D,G⟩:=CX
 have HX:=yD (show kHo (u / 10)++((⟨#[Ab (48 + u % 10)]⟩:Aa)++s).data.toList=kHo N by
   rw [<- HP.out,F.out];simp)
 generalize (⟨#[Ab (48 + u % 10)]⟩:Aa)=L at H D G HX
 exact iH
def kNe {l:List kF} {m k:Nat} {y:kF} (h:kAf l m) (hk:m < k) (hy:y.2.1.length<=k/\kRr y.2.1/\yj y.1):kAf (l++[y]) k:=by
 refine ⟨by have:=h.1;simp;omega,λz hz=>?_⟩;rcases List.mem_append.1 hz with hz | hz
 · exact ⟨by have:=(h.2 z hz).1;omega,(h.2 z hz).2⟩
 rw [Ae.1 hz];exact hy
def kUr {w:World} {v u:Value} {ps:ko} {o:List kW} {t:Int} {A B S:Nat->Prop} (h:kU.own w [v] ps A) (k:(kD.slice 45 jA).own w [u] o B) (hA:∀ k,A k->S k) (hB:∀ k,B k->S k) (hd:∀ k,A k->B k->False) (ht:Qi t):kH.own w [v,u,Qn t] (ps,o,t) S :=
  kD.jl (r:=kU) (q:=.pair (kD.slice 45 jA) .int) (cs:=[v]) (ds:=[u,.int .i64 t]) h (kD.jv (r:=(kD.slice 45 jA)) (q:=.int) (cs:=[u]) (ds:=[.int .i64 t]) k (kD.jB ht)) hA hB hd
def smallP_snoc {l:List kF} {m:Nat} {y:kF} (h:kAf l m) (hl:l.length < m) (hy:y.2.1.length<=m/\kRr y.2.1/\yj y.1):kAf (l++[y]) m:=by
 refine ⟨by simp;omega,λz hz=>?_⟩;rcases List.mem_append.1 hz with hz | hz
 · exact h.2 z hz
 rw [Ae.1 hz];exact hy
def kZn {w0 w:World} {p:Nat} (hc:yU w0 w p) :
    Calls prog 93 #[.pointer (some ⟨p,0,none⟩)] w λe w'=>∃ a c l,e=.returned (.slice a l.length c)/\kAf l 14/\(kD.slice 43 kH).ji w' [Qs a l c] l (jX w.heap.size w'.heap.size)/\yU w0 w' p/\Touch (λk=>k=p) w w':=by
 go_enter func93,ntmps93
 obtain ⟨bf,b4⟩:=hc.lt
 go_wp2_with fail
 refine (kWs hc).mono ?_
 rintro e Y ⟨a,n,c,l,rfl,al,be,hO,G,D⟩
 have bd:=D.size
 have N:=D
 clear hc D
 have hc:=G
 clear G
 subst al
 have ae:=yD be
 have aj:=be.1
 clear be
 have J:=yD (hO)
 clear hO
 go_wp2_with fail
 refine (kr (n:=10) hc bC8).mono ?_
 rintro e V ⟨m,bt,ah,b1,rfl,G,D⟩
 have bk:=D.size
 obtain ⟨J,N⟩:=xM
 clear hc D
 have hc:=G
 clear G
 replace ah:=ah bC8
 clear b1
 by_cases h0:m=0
 · subst h0;go_wp2_with fail;refine (kFc hc).mono ?_;rintro e w3 ⟨na,nc,O,rfl,hr,b0,ag,G,D⟩;have bl:=D.size;obtain ⟨J,N⟩:=xM;clear hc D;have hc:=G;clear G;have ba:=yD ag;clear ag;have HR:=yD (hr);clear hr;go_wp2_with fail;refine (kr (n:=9) hc bC8).mono ?_;rintro e w4 ⟨f,e8,dw,d1,rfl,G,D⟩;have bw:=D.size;obtain ⟨J,HR,N⟩:=AV;clear hc D;have hc:=G;clear G;replace dw:=dw bC8;clear d1;have av:IntKind.i64.wrap (f - 1)=f - 1:=Ai _ bC9;go_wp2_with fail;refine (kBp (hc.below (bR.alloc nL _)) (kD.kGy _ [0,-1,1000001] bC8 bC8) bC9 bC8 bC8).mono ?_;rintro e w5 ⟨y,au,a5,rfl,G,D⟩;obtain ⟨D,bv⟩:=CJ;obtain ⟨J,HR,N⟩:=AV;clear hc D;have hc:=G;clear G;have hy:=kD.kGx (lo:=-1) (hi:=1000001) bC8 au;have an:y < 100\/1000000 < y:=by have h:=au;simp only [List.mem_cons,List.not_mem_nil,or_false] at h;omega
   clear au;have e9:jA.flat [.int .i64 (f - 1),.int .i64 y,.int .i64 0] (f - 1,y,0):=kD.yC (cs:=[.int .i64 (f - 1)]) (kD.jB bC9) (kD.yC (cs:=[.int .i64 y]) (kD.jB bC9) (kD.jB bC9));go_wp2_with (at_builtin;refine kD.yZ rfl _ _ 28 rfl (r:=kH) (e:=43) Ac yP rfl bC8 bC8 (w:=w5) J.out (kD.zG _ _) (c:=1) (kUr (A:=jX V.heap.size w3.heap.size) (B:=λk=>k=w5.heap.size) (S:=λk=>V.heap.size<=k/\k<=w5.heap.size) (HR.out.below (kD.zG _ _)) ((kD.kLp w5 e9).own bC5) rA wP (λk q1 q2=>by have:=q1.2;omega) (t:=0) bC9) bD1 (by rw [show ∀ (o:Obj),(World.alloc w5 o).heap.size=w5.heap.size + 1 from λo=>by simp];rfl) nS bC9 ?_);intro v9 w9 hQ ab;have hT:Touch (λk=>w.heap.size<=k/\k < Y.heap.size) w5 w9:=(Touch.of_below (kD.zG _ _)).trans (ab.wide (λk q=>q.1));have z9:=hT.size;have zq:=ab.size;have zr:w5.heap.size + 1<=w9.heap.size:=by simpa using zq
   clear ab zq;obtain ⟨l2,a8⟩:∃ l2,l++[(O,[(f - 1,y,0)],0)]=l2:=⟨_,rfl⟩;rw [a8] at hQ;have af:=yD (show kAf l2 10 from a8 ▸ kNe ae.out bC9 ⟨by simp,kQj an,ba.out⟩);have az:=yD (show l2.length=l.length + 1 by rw [<- a8];simp);clear a8;obtain ⟨a9,c9,rfl,_⟩:=kD.sl hQ.raw;have R:=yD (hQ.wide (T:=jX w.heap.size w9.heap.size) bE);exact eT
 by_cases h1:m=1
 · subst h1;go_wp2_with fail;refine (yV (s:={ data:=#[47,113] }) bC8).mono ?_;rintro e w3 ⟨na,nc,O,rfl,hr,dm,ag,hb⟩;have bl:=hb.size;replace J:=yD (J.out.below hb);obtain ⟨hc,N⟩:=xG;clear hb;have ba:=yD ag;clear ag;have HR:=yD (hr);clear hr;go_wp2_with (at_builtin;refine kD.yZ rfl _ _ 28 rfl (r:=kH) (e:=43) Ac yP rfl bC8 bC8 (w:=w3) J.out bR (c:=1) (kUr (A:=jX V.heap.size w3.heap.size) (B:=λ_=>False) (S:=λk=>V.heap.size<=k/\k < w3.heap.size) HR.out kD.jd (λk q=>q) (λk q=>q.elim) (λk q1 q2=>q2) (t:=0) bC9) bD1 bD1 nS bC9 ?_);intro v9 w9 hQ ab;have hT:Touch (λk=>w.heap.size<=k/\k < Y.heap.size) w3 w9:=ab.wide (λk q=>q.1);have z9:=hT.size;clear ab;obtain ⟨l2,a8⟩:∃ l2,l++[(O,[],0)]=l2:=⟨_,rfl⟩;rw [a8] at hQ;have af:=yD (show kAf l2 10 from a8 ▸ kNe ae.out bC9 ⟨by simp,goodR_nil,ba.out⟩);have az:=yD (show l2.length=l.length + 1 by rw [<- a8];simp);clear a8;obtain ⟨a9,c9,rfl,_⟩:=kD.sl hQ.raw;have R:=yD (hQ.wide (T:=jX w.heap.size w9.heap.size) bH);exact eT
 by_cases h2:m=2
 · subst h2;by_cases bm:0 < l.length
   · obtain ⟨_,bb,off,rfl,_,aw⟩:=kD.kKo J.out bm;obtain ⟨ce,B,ai,hB,ao,U,_,_⟩:=kD.own_get J.out (i:=0) bm;obtain ⟨v0,v1,rfl,_,Z,L,p2⟩:=jQ ai.raw;obtain ⟨na,nc,rfl,_⟩:=kD.sl Z;obtain ⟨ra,rc,rfl,_⟩:=kD.sl L;have A0:=U 0 _ rfl;have A1:=U 1 _ rfl;have A2:=U 2 _ rfl;simp only [Nat.zero_mul,Nat.add_zero] at A0 A1 A2;have W:=ae.out.2 _ (List.getElem_mem bm);have HE:=yD ai;clear U ai Z L;have am:(0:Int) < l.length:=bC9;generalize l[0]=y at *;go_wp2_with (at_builtin;refine kD.kWg rfl _ _ 28 rfl (r:=kH) (e:=43) Ac yP rfl bC8 bC8 (w:=V) J.out bR (c:=1) HE.out.ji bD1 bD1 (λb_ o_ q_ h_=>by simp only [Option.some.injEq,Addr.mk.injEq,and_true] at q_;have:=(hB _ h_).2;omega) bm bC9 ?_);intro v9 w9 hQ ab;have hT:Touch (λk=>w.heap.size<=k/\k < Y.heap.size) V w9:=ab.wide (λk q=>q.1);have z9:=hT.size;clear ab A0 A1 A2;obtain ⟨l2,a8⟩:∃ l2,l++[y]=l2:=⟨_,rfl⟩;rw [a8] at hQ;have af:=yD (show kAf l2 10 from a8 ▸ kNe ae.out bC9 ⟨by have:=W.1;omega,W.2⟩);have az:=yD (show l2.length=l.length + 1 by rw [<- a8];simp);clear a8;obtain ⟨a9,c9,rfl,_⟩:=kD.sl hQ.rd.1;have R:=yD (hQ.wide (T:=jX w.heap.size w9.heap.size) (λk q=>by rcases q with q | q | q;exact ⟨q.1,by have:=q.2;omega⟩;(have:=(hB _ q).1;exact ⟨this.1,by have:=this.2;omega⟩);exact ⟨by have:=q.1;omega,q.2⟩));clear hQ;replace hc:=hc.touch hT tN sU;replace N:=N.kBv hT (λk q=>q.1);clear hT J HE;go_wp2;go_ret;exact ⟨_,_,l2,rfl,af.out.mono bC9,R.out,hc,N⟩
   have am:¬ (0:Int) < l.length:=bC9;go_wp2;go_ret;exact ⟨_,_,l,rfl,ae.out.mono bC9,J.out.ji.wide rA,hc,N⟩
 by_cases h3:m=3
 · subst h3;go_wp2;go_loopw [3,4] (λv i wr=>∃ (j:Nat) (a:Option Addr) (n c:Nat) (l:List kF),v=.slice a n c/\i=.int .i64 j/\j<=n/\n<=13/\Hid (n=l.length)/\Hid (kAf l 13)/\Hid ((kD.slice 43 kH).own wr [.slice a n c] l (λq=>w.heap.size<=q/\q < wr.heap.size))/\V.heap.size<=wr.heap.size/\yU w0 wr p/\Touch (λk=>k=p) w wr) (λv _ _=>match v with | .slice _ n _=>14 - n | _=>0);case atStart=>exact ⟨0,a,l.length,c,l,rfl,rfl,by omega,by omega,yD rfl,yD (ae.out.mono bC9),yD (J.out.wide (λq h=>⟨h.1,by have:=h.2;omega⟩)),Nat.le_refl _,hc,N⟩
   clear hc N J ae aj;obtain ⟨j,a,n,c,l,rfl,rfl,I,aq,HN,ae,J,dt,hc,N⟩:=hrel;replace J:=yD (J.out.wide (T:=λq=>w.heap.size<=q/\q < wr.heap.size) (λ_ h=>h));go_wp2_with fail;refine (kr (n:=3) hc bC8).mono ?_;rintro e bj ⟨y,b7,bn,bz,rfl,G,D⟩;have c6:=D.size;obtain ⟨J,N⟩:=xM;clear hc D;have hc:=G;clear G;replace bn:=bn bC8;clear bz;have hw:IntKind.i64.wrap (11 + y)=11 + y:=Ai _ bC9;by_cases hlt:(n:Int) < 11 + y
   · have ar:n<=12:=bC9;go_wp2_with fail;refine (yV (s:={ data:=#[47,122,122] }) bC8).mono ?_;rintro e bu ⟨za,zc,zs,rfl,hr,dm,ag,hb⟩;have dl:=hb.size;replace J:=yD (J.out.below hb);obtain ⟨hc,N⟩:=xG;clear hb;have ac:=yD ag;clear ag;have HZ:=yD (hr.wide (T:=λq=>bj.heap.size<=q/\q < bu.heap.size) (λ_ h=>h));clear hr;go_wp2_with fail;refine (kSh (n:=(j:Int)) bC9).mono ?_;rintro e cv ⟨rfl,hb⟩;have d0:=hb.size;replace J:=yD (J.out.below hb);replace HZ:=yD (HZ.out.below hb);obtain ⟨hc,N⟩:=xG;clear hb;have aa:=itoaB_size (n:=(j:Int)) bC9;generalize kOu (j:Int)=s at *;have ax:(({ data:=#[112] }:Aa)++s).size<=21:=by rw [Ad];have:({ data:=#[112] }:Aa).size=1:=rfl;omega
     go_wp2_with fail;clear aa;generalize ({ data:=#[112] }:Aa)++s=s5 at *;refine (kCy (cn:=[.slice za zs.length zc]) HZ.out.rd (s:=s5) bC9 wH).mono ?_;rintro e dn ⟨na,nn,nc,b2,rfl,ak,b5,hb⟩;have et:=hb.size;replace J:=yD (J.out.below hb);replace HZ:=yD (HZ.out.below hb);obtain ⟨hc,N⟩:=xG;clear hb;have b9:(if b2 then zs++[s5] else zs).length<=65:=dA;have ba:Hid (yj (if b2 then zs++[s5] else zs)):=yD (by split;exact ac.out.snoc bC9;exact ac.out);clear ac;generalize (if b2 then zs++[s5] else zs)=qs at *;obtain ⟨_,_,_,a4,ay⟩:=b5.parts;simp only [Value.slice.injEq] at a4;have dc:=yD (a4.2.1.trans ay.out);clear a4 ay ax;have HB:=yD (b5.wide (T:=λq=>cv.heap.size<=q/\q < dn.heap.size) (λ_ h=>h));clear b5;clear HZ;go_upto_region 15 with fail;generalize F:World.alloc dn _=E;have H:Qb dn E:=rM;have X:Qr E dn.heap.size #[.slice na nn nc] 40:=vB;have ap:dn.heap.size + 1<=E.heap.size:=bB1;clear F;replace J:=yD (J.out.below H);replace HB:=yD (HB.out.below H);replace hc:=hc.below H;replace N:=N.trans (Touch.of_below H);clear H;have ad:Qd E dn 0 (.slice na nn nc):=kE X rfl;have e9:jA.flat [.int .i64 1,.int .i64 0,.int .i64 0] (1,0,0):=kD.yC (cs:=[.int .i64 1]) (kD.jB bC9) (kD.yC (cs:=[.int .i64 0]) (kD.jB bC9) (kD.jB bC9));go_wp2_with (at_builtin;refine kD.yZ rfl _ _ 28 rfl (r:=kH) (e:=43) Ac yP rfl bC8 bC8 (w:=E) J.out (kD.zG _ _) (c:=1) (kUr (A:=λq=>cv.heap.size<=q/\q < dn.heap.size) (B:=λk=>k=E.heap.size) (S:=λk=>cv.heap.size<=k/\k<=E.heap.size) ((HB.out.own wH).below (kD.zG _ _)) ((kD.kLp E e9).own bC5) rA wP (λk q1 q2=>by have:=q1.2;omega) (t:=0) bC9) bD1 (by rw [show ∀ (o:Obj),(World.alloc E o).heap.size=E.heap.size + 1 from λo=>by simp];rfl) nS vW ?_);intro v9 w9 hQ ab;have hT:Touch (λk=>w.heap.size<=k/\k < wr.heap.size) E w9:=(Touch.of_below (kD.zG _ _)).trans (ab.wide (λk q=>q.1));have z9:=hT.size;have zq:=ab.size;have zr:E.heap.size + 1<=w9.heap.size:=by simpa using zq
     clear ab zq;obtain ⟨l2,a8⟩:∃ l2,l++[(qs,[(1,0,0)],0)]=l2:=⟨_,rfl⟩;rw [a8] at hQ;have af:=yD (show kAf l2 13 from a8 ▸ smallP_snoc ae.out vW ⟨by simp,kQj (.inl bC8),ba.out⟩);have az:=yD (show l2.length=l.length + 1 by rw [<- a8];simp);clear a8;obtain ⟨a9,c9,rfl,_⟩:=kD.sl hQ.raw;have R:=yD (hQ.wide (T:=λq=>w.heap.size<=q/\q < w9.heap.size) bE);clear hQ;have bc:=hc.touch hT tN sU;have b3:=N.kBv hT (λk q=>q.1);clear hT hc N J HB X ad;go_wp2;go_roundw;case rel=>exact ⟨j + 1,a9,l2.length,_,l2,rfl,by go_num,by have h1:=az.out;have h2:=HN.out;omega,by have h1:=az.out;have h2:=HN.out;omega,yD rfl,af,R,by omega,bc,b3⟩
     have h1:=az.out;have h2:=HN.out;first | omega|(simp;omega)
   go_wp2;go_ret;have hn:=HN.out;subst hn;exact ⟨_,_,l,rfl,ae.out.mono bC9,J.out.ji.wide rA,hc,N⟩
 go_wp2
 go_ret
 exact ⟨_,_,l,rfl,ae.out.mono bC9,J.out.ji.wide rA,hc,N⟩
end Go.Proofs.YtonmjkmaadgceabGreat

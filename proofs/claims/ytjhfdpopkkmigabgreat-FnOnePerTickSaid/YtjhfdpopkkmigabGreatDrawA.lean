/-
  A node of a small world with one thing drawn anew.
-/
import Derived.Test.YtjhfdpopkkmigabGreatDrawZ
set_option linter.unusedVariables false
set_option linter.defProp false
set_option linter.unusedSimpArgs false
set_option linter.unnecessarySimpa false
set_option maxRecDepth 100000
set_option maxHeartbeats 16000000
open _root_ renaming ByteArray->Aa,List->Ab,Option->Aj
open UInt8 renaming ofNat->Ac
open Go renaming World->Ad
open Go.Proofs.Tryz renaming underlying28->Ae
open ByteArray renaming size_append->Ag,empty->Ak
open List renaming mem_singleton->Ah
open Int renaming lt_trichotomy->Ai
open List.cons renaming injEq->Al
open Go.IntWalk renaming i64_in->Am
namespace Go.Proofs.YtjhfdpopkkmigabGreat
open Go.RowKit _root_.Go.Proofs.Tryz
def kIw (u:Nat):Ab UInt8:=if h:u=0 then [] else kIw (u / 10)++[Ac (48 + u % 10)]
termination_by u
decreasing_by omega
def kXn:kIw 0=[]:=by rw [kIw,dif_pos rfl]
def jBv {u:Nat} (h:0 < u):kIw u=kIw (u / 10)++[UInt8.ofNat (48 + u % 10)]:=by rw [kIw,dif_neg bH3]
def digs_dec (u:Nat) (h:0 < u):kIw u=Lib.decDigits u:=by
 induction u using Nat.strongRecOn with
 | _ u ih =>
   rw [jBv h,Lib.decDigits];by_cases q:u < 10
   · rw [dif_pos q,show u / 10=0 by omega,kXn,show u % 10=u by omega];rfl
   · rw [dif_neg q,ih (u / 10) bH3 bH3]
def kMv:∀ (k:Nat) {u:Nat},u < 10 ^ k->(kIw u).length<=k
  | 0,u,h=>by
    obtain rfl:u=0:=bF6;rw [kXn];simp
  | k + 1,u,h=>by
    by_cases q:u=0
    · subst q;rw [kXn];simp
    · rw [jBv bH3,List.length_append];have:=kMv k (u:=u / 10) (Nat.div_lt_of_lt_mul qD);simp;omega
def kQo (n:Int):Aa:=⟨(Lib.itoa n).toArray⟩
def kSf {n:Nat} (h:0 < n):kQo (n:Int)=⟨(kIw n).toArray⟩:=by
 unfold kQo Lib.itoa;rw [if_neg bH3,digs_dec n h,show (n:Int).toNat=n by omega]
def kSg {n:Nat} (h:0 < n):kQo (-(n:Int))=⟨#[45]⟩++⟨(kIw n).toArray⟩:=by
 unfold kQo Lib.itoa;rw [if_pos bH3,digs_dec n h,show (-(n:Int)).natAbs=n by omega];apply ByteArray.ext;simp
def itoaB_0:kQo 0=⟨#[48]⟩:=by
 unfold kQo Lib.itoa;rw [if_neg bH3,show (0:Int).toNat=0 from rfl,Lib.decDigits,dif_pos bH3];rfl
def ba_size (l:List UInt8):(⟨l.toArray⟩:ByteArray).size=l.length:=by simp [ByteArray.size]
def itoaB_size {n:Int} (h:Qi n):(kQo n).size<=20:=by
 rcases Ai n 0 with q | q | q
 · obtain ⟨m,rfl⟩:∃ m:Nat,n=-(m:Int):=⟨n.natAbs,by omega⟩;have h1:=kMv 19 (u:=m) bH3;have h2:=ba_size (kIw m);have h3:(⟨#[45]⟩:Aa).size=1:=rfl;rw [kSg bH3,Ag];omega
 · subst q;rw [itoaB_0];decide
 obtain ⟨m,rfl⟩:∃ m:Nat,n=m:=⟨n.toNat,by omega⟩;have h1:=kMv 19 (u:=m) bH3;rw [kSf bH3,ba_size];omega
def dig_int {u:Nat}:(48:Int) + (u:Int) % 10=((Ac (48 + u % 10)).toNat:Int):=by
 rw [UInt8.toNat_ofNat'];omega
def kQl {P:Program} {w:Ad} {src dst e:TypeId} {x:UInt8} {z:Int} (hz:z=(x.toNat:Int)) (hs:P.underlying src=some (.slice e)) (he:P.underlying e=some (.int .u8)) (hd:P.underlying dst=some .string) :
    (convert src dst (.slice (some ⟨w.heap.size,0,none⟩) 1 1)).run P (w.alloc (.cells #[.int .u8 z] e))=.ok (.string ⟨#[x]⟩) (w.alloc (.cells #[.int .u8 z] e)):=by
 have h:=run_convert_bytes_back (P:=P) (w.alloc (.cells #[.int .u8 z] e)) src dst e ⟨w.heap.size,0,none⟩ 1 [x] hs he hd (by
   intro j hj;obtain rfl:j=0:=bD9;subst hz;simp [go_sem])
 simpa using h
def kUf {w:Ad} {n:Int} (hn:Qi n) :
    Calls prog 140 #[.int .i64 n] w (bQ w (.string (kQo n))):=by
 go_enter func140,ntmps140
 rcases Ai n 0 with q | q | q
 · obtain ⟨N,rfl⟩:∃ m:Nat,n=-(m:Int):=⟨n.natAbs,by omega⟩;have hN:0 < N:=bH3;go_wp2;go_loopw [3,4] (λsv H wr=>∃ (u:Nat) (s:Aa),u<=N/\H=.int .i64 (-(u:Int))/\sv=.string s/\s.size<=20/\Hid (kIw u++s.data.toList=kIw N)/\Qb w wr) (λ_ H _=>(intOf H).natAbs);case atStart=>exact ⟨N,Ak,Nat.le_refl _,rfl,rfl,by decide,yD bH4,bR⟩
   obtain ⟨u,s,hu,rfl,rfl,hs,HP,o⟩:=hrel;by_cases hz:u=0
   · exact iO
   have J:0 < u:=bH3;have G:=yD (jBv J);have hne:(((-(u:Int)):Int) != 0)=true:=bG7;have U:s.size + 1<=20:=by
    exact iP
   obtain ⟨hb,F⟩:=J6;clear hb;obtain ⟨D,dp⟩:=DT;have HX:=yD (show kIw (u / 10)++((⟨#[Ac (48 + u % 10)]⟩:Aa)++s).data.toList=kIw N by
     rw [<- HP.out,G.out];simp)
   generalize (⟨#[Ac (48 + u % 10)]⟩:Aa)=L at F D dp HX;by_cases hm:u % 10=0
   · have I:(u:Int) % 10=0:=bH3;have b6:=D hm;clear D F;exact iQ
   have I:(0:Int) < (u:Int) % 10:=bH3;clear D;exact iQ
 · subst q;go_wp2;go_ret;exact ⟨by rw [itoaB_0];rfl,bR⟩
 obtain ⟨N,rfl⟩:∃ m:Nat,n=m:=⟨n.toNat,by omega⟩
 have hN:0 < N:=bH3
 go_wp2
 go_loopw [3,4] (λsv H wr=>∃ (u:Nat) (s:Aa),u<=N/\H=.int .i64 (u:Int)/\sv=.string s/\s.size<=20/\Hid (kIw u++s.data.toList=kIw N)/\Qb w wr) (λ_ H _=>(intOf H).natAbs)
 case atStart=>exact ⟨N,Ak,Nat.le_refl _,rfl,rfl,by decide,yD bH4,bR⟩
 obtain ⟨u,s,hu,rfl,rfl,hs,HP,o⟩:=hrel
 by_cases hz:u=0
 · exact iO
 have J:0 < u:=bH3
 have G:=yD (jBv J)
 have hne:(((u:Int):Int) != 0)=true:=bG7
 have U:s.size + 1<=20:=by
  exact iP
 obtain ⟨hb,F⟩:=J6
 clear hb
 obtain ⟨D,dp⟩:=DT
 have HX:=yD (show kIw (u / 10)++((⟨#[Ac (48 + u % 10)]⟩:Aa)++s).data.toList=kIw N by
   rw [<- HP.out,G.out];simp)
 generalize (⟨#[Ac (48 + u % 10)]⟩:Aa)=L at F D dp HX
 exact iQ
def pend_rdB {w:Ad} {cs:Ab Value} {x:kF} {S:Nat->Prop} (h:kH.jo w cs x S):∃ v0 v1,cs=[v0,v1,.int .i64 x.2.2]/\kN.jo w [v0] x.1 S/\(kD.slice 91 kM).jo w [v1] x.2.1 S/\Qi x.2.2:=by
 obtain ⟨c,d,rfl,h1,h2⟩:=kD.kDp (r:=kN) (q:=.pair (kD.slice 91 kM) .int) h;obtain ⟨c2,d2,rfl,h3,h4⟩:=kD.kDp (r:=(kD.slice 91 kM)) (q:=.int) h2;have G:=kN.len h1.1;have O:=(kD.slice 91 kM).len h3.1;obtain ⟨rfl,h5,h6⟩:=h4.1
 match c,G,c2,O with
 | [v0],_,[v1],_=>exact ⟨v0,v1,rfl,h1,h3,h5,h6⟩
def kOz {l:Ab kF} {m k:Nat} {y:kF} (h:kAj l m) (hk:m < k) (hy:y.2.1.length<=k/\kQv y.2.1/\zF y.1):kAj (l++[y]) k:=by
 refine ⟨by have:=h.1;simp;omega,λz hz=>?_⟩;rcases List.mem_append.1 hz with hz | hz
 · exact ⟨by have:=(h.2 z hz).1;omega,(h.2 z hz).2⟩
 rw [Ah.1 hz];exact hy
def kWj {w:Ad} {v u:Value} {ps:kg} {o:Ab kU} {t:Int} {A B S:Nat->Prop} (h:kN.own w [v] ps A) (k:(kD.slice 91 kM).own w [u] o B) (hA:∀ k,A k->S k) (hB:∀ k,B k->S k) (hd:∀ k,A k->B k->False) (ht:Qi t):kH.own w [v,u,Qn t] (ps,o,t) S :=
  kD.jh (r:=kN) (q:=.pair (kD.slice 91 kM) .int) (cs:=[v]) (ds:=[u,.int .i64 t]) h (kD.yF (r:=(kD.slice 91 kM)) (q:=.int) (cs:=[u]) (ds:=[.int .i64 t]) k (kD.ku ht)) hA hB hd
def smallP_snoc {l:Ab kF} {m:Nat} {y:kF} (h:kAj l m) (hl:l.length < m) (hy:y.2.1.length<=m/\kQv y.2.1/\zF y.1):kAj (l++[y]) m:=by
 refine ⟨by simp;omega,λz hz=>?_⟩;rcases List.mem_append.1 hz with hz | hz
 · exact h.2 z hz
 rw [Ah.1 hz];exact hy
def jBg {w0 w:Ad} {p:Nat} (hc:yS w0 w p) :
    Calls prog 60 #[.pointer (some ⟨p,0,none⟩)] w λe w'=>∃ a c l,e=.returned (.slice a l.length c)/\kAj l 14/\(kD.slice 93 kH).jo w' [Qs a l c] l (jb w.heap.size w'.heap.size)/\yS w0 w' p/\Touch (λk=>k=p) w w':=by
 go_enter func60,ntmps60
 obtain ⟨bd,bw⟩:=hc.lt
 go_wp2_with fail
 refine (kYi hc).mono ?_
 rintro e w1 ⟨a,n,c,l,rfl,ad,a3,hO,F,D⟩
 have bo:=D.size
 have J:=D
 clear hc D
 have hc:=F
 clear F
 subst ad
 have b8:=yD a3
 have ac:=a3.1
 clear a3
 have I:=yD (hO)
 clear hO
 go_wp2_with fail
 refine (ko (n:=10) hc bH2).mono ?_
 rintro e V ⟨m,bc,ax,b7,rfl,F,D⟩
 have bv:=D.size
 obtain ⟨I,J⟩:=xK
 clear hc D
 have hc:=F
 clear F
 replace ax:=ax bH2
 clear b7
 by_cases h0:m=0
 · subst h0;go_wp2_with fail;refine (kGb hc).mono ?_;rintro e w3 ⟨na,nc,nm,rfl,hr,bq,bx,F,D⟩;have bt:=D.size;obtain ⟨I,J⟩:=xK;clear hc D;have hc:=F;clear F;have b4:=yD bx;clear bx;have HR:=yD (hr);clear hr;go_wp2_with fail;refine (ko (n:=9) hc bH2).mono ?_;rintro e w4 ⟨f,d4,df,dx,rfl,F,D⟩;have b5:=D.size;obtain ⟨I,HR,J⟩:=BZ;clear hc D;have hc:=F;clear F;replace df:=df bH2;clear dx;have aj:IntKind.i64.wrap (f - 1)=f - 1:=Am _ bH3;go_wp2_with fail;refine (zn (hc.below (bR.alloc nL _)) (kD.kDz _ [0,-1,1000001] bH2 bH2) bH3 bH2 bH2).mono ?_;rintro e w5 ⟨y,aw,b6,rfl,F,D⟩;obtain ⟨D,b3⟩:=AA;obtain ⟨I,HR,J⟩:=BZ;clear hc D;have hc:=F;clear F;have hy:=kD.kId (lo:=-1) (hi:=1000001) bH2 aw;have ae:y < 100\/1000000 < y:=by have h:=aw;simp only [List.mem_cons,List.not_mem_nil,or_false] at h;omega
   clear aw;have gf:kM.flat [.int .i64 (f - 1),.int .i64 y,.int .i64 0] (f - 1,y,0):=kD.jW (cs:=[.int .i64 (f - 1)]) (kD.ku bH3) (kD.jW (cs:=[.int .i64 y]) (kD.ku bH3) (kD.ku bH3));go_wp2_with (at_builtin;refine kD.zh rfl _ _ 28 rfl (r:=kH) (e:=93) Ae yQ rfl bH2 bH2 (w:=w5) I.out (kD.zQ _ _) (c:=1) (kWj (A:=jb V.heap.size w3.heap.size) (B:=λk=>k=w5.heap.size) (S:=λk=>V.heap.size<=k/\k<=w5.heap.size) (HR.out.below (kD.zQ _ _)) ((kD.kNl w5 gf).own bG8) sU bD7 (λk q1 q2=>by have:=q1.2;omega) (t:=0) bH3) bH5 (by rw [show ∀ (o:Obj),(World.alloc w5 o).heap.size=w5.heap.size + 1 from λo=>by simp];rfl) qE bH3 ?_);intro v9 w9 hQ di;have hT:Touch (λk=>w.heap.size<=k/\k < w1.heap.size) w5 w9:=(Touch.of_below (kD.zQ _ _)).trans (di.wide (λk q=>q.1));have z9:=hT.size;have W:=di.size;have zr:w5.heap.size + 1<=w9.heap.size:=by simpa using W
   clear di W;obtain ⟨O,ba⟩:∃ O,l++[(nm,[(f - 1,y,0)],0)]=O:=⟨_,rfl⟩;rw [ba] at hQ;have ab:=yD (show kAj O 10 from ba ▸ kOz b8.out bH3 ⟨by simp,kSq ae,b4.out⟩);have N:=yD (show O.length=l.length + 1 by rw [<- ba];simp);clear ba;obtain ⟨a9,c9,rfl,_⟩:=kD.sl hQ.raw;have R:=yD (hQ.wide (T:=jb w.heap.size w9.heap.size) bH);exact iB
 by_cases h1:m=1
 · subst h1;go_wp2_with fail;refine (yZ (s:={ data:=#[47,113] }) bH2).mono ?_;rintro e w3 ⟨na,nc,nm,rfl,hr,db,bx,hb⟩;have bt:=hb.size;replace I:=yD (I.out.below hb);obtain ⟨hc,J⟩:=xI;clear hb;have b4:=yD bx;clear bx;have HR:=yD (hr);clear hr;go_wp2_with (at_builtin;refine kD.zh rfl _ _ 28 rfl (r:=kH) (e:=93) Ae yQ rfl bH2 bH2 (w:=w3) I.out bR (c:=1) (kWj (A:=jb V.heap.size w3.heap.size) (B:=λ_=>False) (S:=λk=>V.heap.size<=k/\k < w3.heap.size) HR.out kD.jm (λk q=>q) (λk q=>q.elim) (λk q1 q2=>q2) (t:=0) bH3) bH5 bH5 qE bH3 ?_);intro v9 w9 hQ di;have hT:Touch (λk=>w.heap.size<=k/\k < w1.heap.size) w3 w9:=di.wide (λk q=>q.1);have z9:=hT.size;clear di;obtain ⟨O,ba⟩:∃ O,l++[(nm,[],0)]=O:=⟨_,rfl⟩;rw [ba] at hQ;have ab:=yD (show kAj O 10 from ba ▸ kOz b8.out bH3 ⟨by simp,goodR_nil,b4.out⟩);have N:=yD (show O.length=l.length + 1 by rw [<- ba];simp);clear ba;obtain ⟨a9,c9,rfl,_⟩:=kD.sl hQ.raw;have R:=yD (hQ.wide (T:=jb w.heap.size w9.heap.size) bL);exact iB
 by_cases h2:m=2
 · subst h2;by_cases bi:0 < l.length
   · obtain ⟨_,bb,off,rfl,_,a8⟩:=kD.kGf I.out bi;obtain ⟨ce,B,Z,hB,br,Y,_,_⟩:=kD.own_get I.out (i:=0) bi;obtain ⟨v0,v1,rfl,_,p0,p1,p2⟩:=jR Z.raw;obtain ⟨na,nc,rfl,_⟩:=kD.sl p0;obtain ⟨ra,rc,rfl,_⟩:=kD.sl p1;have A0:=Y 0 _ rfl;have A1:=Y 1 _ rfl;have A2:=Y 2 _ rfl;simp only [Nat.zero_mul,Nat.add_zero] at A0 A1 A2;have E:=b8.out.2 _ (List.getElem_mem bi);have HE:=yD Z;clear Y Z p0 p1;have bn:(0:Int) < l.length:=bH3;generalize l[0]=y at *;go_wp2_with (at_builtin;refine kD.kXz rfl _ _ 28 rfl (r:=kH) (e:=93) Ae yQ rfl bH2 bH2 (w:=V) I.out bR (c:=1) HE.out.jo bH5 bH5 (λb_ o_ q_ h_=>by simp only [Option.some.injEq,Addr.mk.injEq,and_true] at q_;have:=(hB _ h_).2;omega) bi bH3 ?_);intro v9 w9 hQ di;have hT:Touch (λk=>w.heap.size<=k/\k < w1.heap.size) V w9:=di.wide (λk q=>q.1);have z9:=hT.size;clear di A0 A1 A2;obtain ⟨O,ba⟩:∃ O,l++[y]=O:=⟨_,rfl⟩;rw [ba] at hQ;have ab:=yD (show kAj O 10 from ba ▸ kOz b8.out bH3 ⟨by have:=E.1;omega,E.2⟩);have N:=yD (show O.length=l.length + 1 by rw [<- ba];simp);clear ba;obtain ⟨a9,c9,rfl,_⟩:=kD.sl hQ.rd.1;have R:=yD (hQ.wide (T:=jb w.heap.size w9.heap.size) (λk q=>by rcases q with q | q | q;exact ⟨q.1,by have:=q.2;omega⟩;(have:=(hB _ q).1;exact ⟨this.1,by have:=this.2;omega⟩);exact ⟨by have:=q.1;omega,q.2⟩));clear hQ;replace hc:=hc.touch hT wH vR;replace J:=J.kBz hT (λk q=>q.1);clear hT I HE;go_wp2;go_ret;exact ⟨_,_,O,rfl,ab.out.mono bH3,R.out,hc,J⟩
   have bn:¬ (0:Int) < l.length:=bH3;go_wp2;go_ret;exact ⟨_,_,l,rfl,b8.out.mono bH3,I.out.jo.wide sU,hc,J⟩
 by_cases h3:m=3
 · subst h3;go_wp2;go_loopw [3,4] (λv i wr=>∃ (j:Nat) (a:Aj Addr) (n c:Nat) (l:Ab kF),v=.slice a n c/\i=.int .i64 j/\j<=n/\n<=13/\Hid (n=l.length)/\Hid (kAj l 13)/\Hid ((kD.slice 93 kH).own wr [.slice a n c] l (λq=>w.heap.size<=q/\q < wr.heap.size))/\V.heap.size<=wr.heap.size/\yS w0 wr p/\Touch (λk=>k=p) w wr) (λv _ _=>match v with | .slice _ n _=>14 - n | _=>0);case atStart=>exact ⟨0,a,l.length,c,l,rfl,rfl,by omega,by omega,yD rfl,yD (b8.out.mono bH3),yD (I.out.wide (λq h=>⟨h.1,by have:=h.2;omega⟩)),Nat.le_refl _,hc,J⟩
   clear hc J I b8 ac;obtain ⟨j,a,n,c,l,rfl,rfl,hj,ah,HN,b8,I,da,hc,J⟩:=hrel;replace I:=yD (I.out.wide (T:=λq=>w.heap.size<=q/\q < wr.heap.size) (λ_ h=>h));go_wp2_with fail;refine (ko (n:=3) hc bH2).mono ?_;rintro e b9 ⟨y,ch,aa,a4,rfl,F,D⟩;have e5:=D.size;obtain ⟨I,J⟩:=xK;clear hc D;have hc:=F;clear F;replace aa:=aa bH2;clear a4;have hw:IntKind.i64.wrap (11 + y)=11 + y:=Am _ bH3;by_cases hlt:(n:Int) < 11 + y
   · have ai:n<=12:=bH3;go_wp2_with fail;refine (yZ (s:={ data:=#[47,122,122] }) bH2).mono ?_;rintro e c6 ⟨za,zc,zs,rfl,hr,db,bx,hb⟩;have fq:=hb.size;replace I:=yD (I.out.below hb);obtain ⟨hc,J⟩:=xI;clear hb;have H:=yD bx;clear bx;have HZ:=yD (hr.wide (T:=λq=>b9.heap.size<=q/\q < c6.heap.size) (λ_ h=>h));clear hr;go_wp2_with fail;refine (kUf (n:=(j:Int)) bH3).mono ?_;rintro e dm ⟨rfl,hb⟩;have fx:=hb.size;replace I:=yD (I.out.below hb);replace HZ:=yD (HZ.out.below hb);obtain ⟨hc,J⟩:=xI;clear hb;have L:=itoaB_size (n:=(j:Int)) bH3;generalize kQo (j:Int)=s at *;have U:(({ data:=#[112] }:Aa)++s).size<=21:=by rw [Ag];have:({ data:=#[112] }:Aa).size=1:=rfl;omega
     go_wp2_with fail;clear L;generalize ({ data:=#[112] }:Aa)++s=s5 at *;refine (kDg (cn:=[.slice za zs.length zc]) HZ.out.rd (s:=s5) bH3 bD0).mono ?_;rintro e es ⟨na,nn,nc,b2,rfl,af,b0,hb⟩;have gy:=hb.size;replace I:=yD (I.out.below hb);replace HZ:=yD (HZ.out.below hb);obtain ⟨hc,J⟩:=xI;clear hb;have bk:(if b2 then zs++[s5] else zs).length<=65:=dF;have b4:Hid (zF (if b2 then zs++[s5] else zs)):=yD (by split;exact H.out.snoc bH3;exact H.out);clear H;generalize (if b2 then zs++[s5] else zs)=qs at *;obtain ⟨_,_,_,bl,bj⟩:=b0.parts;simp only [Value.slice.injEq] at bl;have cg:=yD (bl.2.1.trans bj.out);clear bl bj U;have HB:=yD (b0.wide (T:=λq=>dm.heap.size<=q/\q < es.heap.size) (λ_ h=>h));clear b0;clear HZ;go_upto_region 15 with fail;generalize G:World.alloc es _=ek;have ag:Qb es ek:=tK;have X:Qr ek es.heap.size #[.slice na nn nc] 36:=wW;have h8:es.heap.size + 1<=ek.heap.size:=bF4;clear G;replace I:=yD (I.out.below ag);replace HB:=yD (HB.out.below ag);replace hc:=hc.below ag;replace J:=J.trans (Touch.of_below ag);clear ag;have bz:Qd ek es 0 (.slice na nn nc):=kE X rfl;have gf:kM.flat [.int .i64 1,.int .i64 0,.int .i64 0] (1,0,0):=kD.jW (cs:=[.int .i64 1]) (kD.ku bH3) (kD.jW (cs:=[.int .i64 0]) (kD.ku bH3) (kD.ku bH3));go_wp2_with (at_builtin;refine kD.zh rfl _ _ 28 rfl (r:=kH) (e:=93) Ae yQ rfl bH2 bH2 (w:=ek) I.out (kD.zQ _ _) (c:=1) (kWj (A:=λq=>dm.heap.size<=q/\q < es.heap.size) (B:=λk=>k=ek.heap.size) (S:=λk=>dm.heap.size<=k/\k<=ek.heap.size) ((HB.out.own bD0).below (kD.zQ _ _)) ((kD.kNl ek gf).own bG8) sU bD7 (λk q1 q2=>by have:=q1.2;omega) (t:=0) bH3) bH5 (by rw [show ∀ (o:Obj),(World.alloc ek o).heap.size=ek.heap.size + 1 from λo=>by simp];rfl) qE bC0 ?_);intro v9 w9 hQ di;have hT:Touch (λk=>w.heap.size<=k/\k < wr.heap.size) ek w9:=(Touch.of_below (kD.zQ _ _)).trans (di.wide (λk q=>q.1));have z9:=hT.size;have W:=di.size;have zr:ek.heap.size + 1<=w9.heap.size:=by simpa using W
     clear di W;obtain ⟨O,ba⟩:∃ O,l++[(qs,[(1,0,0)],0)]=O:=⟨_,rfl⟩;rw [ba] at hQ;have ab:=yD (show kAj O 13 from ba ▸ smallP_snoc b8.out bC0 ⟨by simp,kSq (.inl bH2),b4.out⟩);have N:=yD (show O.length=l.length + 1 by rw [<- ba];simp);clear ba;obtain ⟨a9,c9,rfl,_⟩:=kD.sl hQ.raw;have R:=yD (hQ.wide (T:=λq=>w.heap.size<=q/\q < w9.heap.size) bH);clear hQ;have fj:=hc.touch hT wH vR;have bg:=J.kBz hT (λk q=>q.1);clear hT hc J I HB X bz;go_wp2;go_roundw;case rel=>exact ⟨j + 1,a9,O.length,_,O,rfl,by go_num,by have h1:=N.out;have h2:=HN.out;omega,by have h1:=N.out;have h2:=HN.out;omega,yD rfl,ab,R,by omega,fj,bg⟩
     have h1:=N.out;have h2:=HN.out;first | omega|(simp;omega)
   go_wp2;go_ret;have hn:=HN.out;subst hn;exact ⟨_,_,l,rfl,b8.out.mono bH3,I.out.jo.wide sU,hc,J⟩
 go_wp2
 go_ret
 exact ⟨_,_,l,rfl,b8.out.mono bH3,I.out.jo.wide sU,hc,J⟩
def kEk {w:Ad} {c0 c1 c2 c3 c4 c5 L o:Value} {U:Ab jT} {F:kz} {x2:Ab kF} {x3:Ab jL} {x4:Ab jA} {x5:Ab kZ} {x6:Int} {S:Nat->Prop} (h:yB.jo w [c0,c1,c2,c3,c4,c5,L,o] (U,F,x2,x3,x4,x5,x6) S) :
    (kD.slice 70 jI).jo w [c0] U S/\kT.jo w [c1,c2] F S/\(kD.slice 93 kH).jo w [c3] x2 S/\(kD.slice 121 jD).jo w [c4] x3 S/\(kD.slice 144 kY).jo w [c5] x4 S/\(kD.slice 166 kR).jo w [L] x5 S/\o=.int .i64 x6/\Qi x6:=by
 obtain ⟨d0,e0,he,k0,h⟩:=kD.kDp (r:=(kD.slice 70 jI)) (q:=(kD.pair kT (kD.pair (kD.slice 93 kH) (kD.pair (kD.slice 121 jD) (kD.pair (kD.slice 144 kY) (kD.pair (kD.slice 166 kR) kD.int)))))) (z:=(U,F,x2,x3,x4,x5,x6)) h
 obtain ⟨d1,e1,rfl,k1,h⟩:=kD.kDp (r:=kT) (q:=(kD.pair (kD.slice 93 kH) (kD.pair (kD.slice 121 jD) (kD.pair (kD.slice 144 kY) (kD.pair (kD.slice 166 kR) kD.int))))) (z:=(F,x2,x3,x4,x5,x6)) h
 obtain ⟨d2,e2,rfl,k2,h⟩:=kD.kDp (r:=(kD.slice 93 kH)) (q:=(kD.pair (kD.slice 121 jD) (kD.pair (kD.slice 144 kY) (kD.pair (kD.slice 166 kR) kD.int)))) (z:=(x2,x3,x4,x5,x6)) h
 obtain ⟨d3,e3,rfl,k3,h⟩:=kD.kDp (r:=(kD.slice 121 jD)) (q:=(kD.pair (kD.slice 144 kY) (kD.pair (kD.slice 166 kR) kD.int))) (z:=(x3,x4,x5,x6)) h
 obtain ⟨d4,e4,rfl,k4,h⟩:=kD.kDp (r:=(kD.slice 144 kY)) (q:=(kD.pair (kD.slice 166 kR) kD.int)) (z:=(x4,x5,x6)) h
 obtain ⟨d5,E,rfl,k5,k6⟩:=kD.kDp (r:=(kD.slice 166 kR)) (q:=kD.int) (z:=(x5,x6)) h
 have l0:=(kD.slice 70 jI).len k0.1;have G:=kT.len k1.1;have O:=(kD.slice 93 kH).len k2.1;have l3:=(kD.slice 121 jD).len k3.1;have l4:=(kD.slice 144 kY).len k4.1;have l5:=(kD.slice 166 kR).len k5.1;have D:=kD.je (w:=w) k6.1
 match d0,l0,d1,G,d2,O,d3,l3,d4,l4,d5,l5 with
 | [_],_,[_,_],_,[_],_,[_],_,[_],_,[_],_ =>
   simp only [List.cons_append,List.nil_append,Al,D.1,and_true] at he;obtain ⟨rfl,rfl,rfl,rfl,rfl,rfl,rfl,rfl⟩:=he;exact ⟨k0,k1,k2,k3,k4,k5,rfl,D.2⟩
def kMk {w:Ad} {c0 c1 c2 c3 c4 c5 L:Value} {U:Ab jT} {F:kz} {x2:Ab kF} {x3:Ab jL} {x4:Ab jA} {x5:Ab kZ} {x6:Int} {S:Nat->Prop} (h0:(kD.slice 70 jI).jo w [c0] U S) (h1:kT.jo w [c1,c2] F S) (h2:(kD.slice 93 kH).jo w [c3] x2 S) (h3:(kD.slice 121 jD).jo w [c4] x3 S) (h4:(kD.slice 144 kY).jo w [c5] x4 S) (h5:(kD.slice 166 kR).jo w [L] x5 S) (h6:Qi x6) :
    yB.jo w [c0,c1,c2,c3,c4,c5,L,Qn x6] (U,F,x2,x3,x4,x5,x6) S :=
  kD.kAg (r:=(kD.slice 70 jI)) (q:=(kD.pair kT (kD.pair (kD.slice 93 kH) (kD.pair (kD.slice 121 jD) (kD.pair (kD.slice 144 kY) (kD.pair (kD.slice 166 kR) kD.int)))))) (cs:=[c0]) (ds:=[c1,c2,c3,c4,c5,L,.int .i64 x6]) (z:=(U,F,x2,x3,x4,x5,x6)) h0
  (kD.kAg (r:=kT) (q:=(kD.pair (kD.slice 93 kH) (kD.pair (kD.slice 121 jD) (kD.pair (kD.slice 144 kY) (kD.pair (kD.slice 166 kR) kD.int))))) (cs:=[c1,c2]) (ds:=[c3,c4,c5,L,.int .i64 x6]) (z:=(F,x2,x3,x4,x5,x6)) h1
  (kD.kAg (r:=(kD.slice 93 kH)) (q:=(kD.pair (kD.slice 121 jD) (kD.pair (kD.slice 144 kY) (kD.pair (kD.slice 166 kR) kD.int)))) (cs:=[c3]) (ds:=[c4,c5,L,.int .i64 x6]) (z:=(x2,x3,x4,x5,x6)) h2
  (kD.kAg (r:=(kD.slice 121 jD)) (q:=(kD.pair (kD.slice 144 kY) (kD.pair (kD.slice 166 kR) kD.int))) (cs:=[c4]) (ds:=[c5,L,.int .i64 x6]) (z:=(x3,x4,x5,x6)) h3
  (kD.kAg (r:=(kD.slice 144 kY)) (q:=(kD.pair (kD.slice 166 kR) kD.int)) (cs:=[c5]) (ds:=[L,.int .i64 x6]) (z:=(x4,x5,x6)) h4
  (kD.kAg (r:=(kD.slice 166 kR)) (q:=kD.int) (cs:=[L]) (ds:=[.int .i64 x6]) (z:=(x5,x6)) h5 (kD.flat.jo (kD.ku h6)))))))
def node_localO {w:Ad} {c0 c1 c2 c3 c4 c5 L o:Value} {U:Ab jT} {F:kz} {x2:Ab kF} {x3:Ab jL} {x4:Ab jA} {x5:Ab kZ} {x6:Int} {S:Nat->Prop} (h:yB.own w [c0,c1,c2,c3,c4,c5,L,o] (U,F,x2,x3,x4,x5,x6) S) :
    ∃ A B:Nat->Prop,(kD.slice 70 jI).own w [c0] U A/\(kD.pair kT (kD.pair (kD.slice 93 kH) (kD.pair (kD.slice 121 jD) (kD.pair (kD.slice 144 kY) (kD.pair (kD.slice 166 kR) kD.int))))).own w [c1,c2,c3,c4,c5,L,o] (F,x2,x3,x4,x5,x6) B/\(∀ k,A k->S k)/\(∀ k,B k->S k)/\(∀ k,A k->B k->False):=by
 obtain ⟨a,d,A,B,he,h1,h2,hA,hB,hd⟩:=kD.kDq (r:=(kD.slice 70 jI)) (q:=(kD.pair kT (kD.pair (kD.slice 93 kH) (kD.pair (kD.slice 121 jD) (kD.pair (kD.slice 144 kY) (kD.pair (kD.slice 166 kR) kD.int)))))) h
 have G:=(kD.slice 70 jI).len h1.1
 match a,G with
 | [u],_=>simp only [List.singleton_append,Al] at he;obtain ⟨rfl,rfl⟩:=he;exact ⟨A,B,h1,h2,hA,hB,hd⟩
def node_ofL {w:Ad} {c0 c1 c2 c3 c4 c5 L o:Value} {U:Ab jT} {F:kz} {x2:Ab kF} {x3:Ab jL} {x4:Ab jA} {x5:Ab kZ} {x6:Int} {S:Nat->Prop} (h0:(kD.slice 70 jI).jo w [c0] U S) (h1:(kD.pair kT (kD.pair (kD.slice 93 kH) (kD.pair (kD.slice 121 jD) (kD.pair (kD.slice 144 kY) (kD.pair (kD.slice 166 kR) kD.int))))).jo w [c1,c2,c3,c4,c5,L,o] (F,x2,x3,x4,x5,x6) S):yB.jo w [c0,c1,c2,c3,c4,c5,L,o] (U,F,x2,x3,x4,x5,x6) S :=
  kD.kAg (r:=(kD.slice 70 jI)) (q:=(kD.pair kT (kD.pair (kD.slice 93 kH) (kD.pair (kD.slice 121 jD) (kD.pair (kD.slice 144 kY) (kD.pair (kD.slice 166 kR) kD.int)))))) (cs:=[c0]) (ds:=[c1,c2,c3,c4,c5,L,o]) (z:=(U,F,x2,x3,x4,x5,x6)) h0 h1
def kHf (x:jd):Prop:=x.1.length<=10/\x.2.1.2.length<=9/\kAj x.2.2.1 14/\kFm x.2.2.2.1/\x.2.2.2.2.1.length<=48/\x.2.2.2.2.2.1.length<=48/\-1<=x.2.2.2.2.2.2/\x.2.2.2.2.2.2<=0
def tameN.kHf {x:jd} (h:tameN x):kHf x:=⟨by have:=h.1;omega,h.2⟩
def DrawnA (w0 w:Ad) (p:Nat) (e:Ending) (w':Ad):Prop:=∃ cs x ct t tb,e=.returned (.tuple #[.agg cs.toArray,.agg ct.toArray])/\yB.jo w' cs x (jb tb w'.heap.size)/\kHf x/\kBh.jo w' ct t (jb w.heap.size tb)/\lenT t/\(w.heap.size<=tb/\tb<=w'.heap.size)/\yS w0 w' p/\Touch (λk=>k=p) w w'
def jBa {w0 w:Ad} {p:Nat} (hc:yS w0 w p) :
    Calls prog 14 #[.pointer (some ⟨p,0,none⟩)] w λe w'=>DrawnA w0 w p e w':=by
 go_enter func14,ntmps14
 obtain ⟨bd,bw⟩:=hc.lt
 go_upto_region 1 with fail
 generalize G:World.alloc (World.alloc w _) _=w1
 obtain ⟨hb,RN,RT,bo⟩:=C8
 clear G
 obtain ⟨hc,J⟩:=G9
 clear hb
 go_wp2_with fail
 refine (kYf hc).mono ?_
 rintro e V ⟨cs,x,ct,t,tb,rfl,hO,hx,hT,hlt,⟨fa,fc⟩,F,D⟩
 have bv:=D.size
 replace RN:=D.kC RN bH3
 replace RT:=D.kC RT bH3
 replace J:=J.trans D
 clear hc D
 have hc:=F
 clear F
 obtain ⟨bi,ck,bz,cw,bb,cz,cl,co,rfl⟩:=kJy hT.rd.1
 obtain ⟨a0,c0,a1,c1,a2,c2,a3,c3,a4,c4,a5,c5,rfl⟩:=kFo hO.raw
 obtain ⟨U,⟨kc,xe⟩,x2,x3,x4,x5,x6⟩:=x
 replace hO:yB.own _ [Qs a0 U c0,Qn kc,Qs a1 xe c1,Qs a2 x2 c2,Qs a3 x3 c3,Qs a4 x4 c4,Qs a5 x5 c5,Qn x6] (U,(kc,xe),x2,x3,x4,x5,x6) _:=hO
 have I:=yD hO
 have L:=yD hT
 have O:=yD hx
 have dt:=yD hlt
 clear hO hT hx hlt
 go_upto_region 2 with fail
 generalize G:World.alloc (World.alloc V _) _=w3
 have hb:Qb V w3:=by rw [<- G];exact (bR.alloc nL _).alloc bH4 _
 have BN:Qr w3 V.heap.size #[Qs a0 U c0,Qn kc,Qs a1 xe c1,Qs a2 x2 c2,Qs a3 x3 c3,Qs a4 x4 c4,Qs a5 x5 c5,Qn x6] 33:=vF
 have BT:Qr w3 (V.heap.size + 1) #[Qs bi t.1 ck,Qs bz t.2.1 cw,Qs bb t.2.2.1 cz,Qs cl t.2.2.2 co] 57:=by rw [<- G];exact kG bH4
 have bt:V.heap.size + 2<=w3.heap.size:=bF4
 clear G
 replace RN:=kC RN hb
 replace RT:=kC RT hb
 replace I:=yD (I.out.below hb)
 replace L:=yD (L.out.below hb)
 obtain ⟨hc,J⟩:=xI
 clear hb
 obtain ⟨R,dy⟩:∃ b_,b_=V.heap.size:=⟨_,rfl⟩
 rw [<- dy] at BN BT ⊢
 have f0:=Nat.le_of_eq dy
 have fy:=Nat.le_of_eq dy.symm
 clear dy
 go_wp2_with fail
 refine (ko (n:=14) hc bH2).mono ?_
 rintro e w4 ⟨m,bc,ax,b7,rfl,F,D⟩
 have b5:=D.size
 replace RN:=D.kC RN bH3
 replace RT:=D.kC RT bH3
 replace BN:=D.kC BN bH3
 replace BT:=D.kC BT bH3
 replace I:=yD (I.out.touch D qW)
 replace L:=yD (L.out.touch D qW)
 replace J:=J.trans D
 clear hc D
 have hc:=F
 clear F
 replace ax:=ax bH2
 clear b7
 obtain ⟨m,rfl⟩:=Int.eq_ofNat_of_zero_le bc
 have af:Touch (λk=>k=p\/k=R\/(tb<=k/\k < V.heap.size)) w4 w4:=Touch.of_below bR
 have HR:=yD (I.out.jo.wide (T:=(λk=>tb<=k/\k < w4.heap.size/\k≠R/\k≠R + 1)) (λk q=>⟨q.1,by have:=q.2;omega,by have:=q.2;omega,by have:=q.2;omega⟩))
 go_upto_block 0 with fail
 go_cut [] from 11 to 44 (λwc=>∃ (a0:Aj Addr) (c0:Nat) (kc:Int) (a1:Aj Addr) (c1:Nat) (a2:Aj Addr) (c2:Nat) (a3:Aj Addr) (c3:Nat) (a4:Aj Addr) (c4:Nat) (a5:Aj Addr) (c5:Nat) (U:Ab jT) (xe:Ab jC) (x2:Ab kF) (x3:Ab jL) (x4:Ab jA) (x5:Ab kZ) (x6:Int),Qr wc R #[Qs a0 U c0,Qn kc,Qs a1 xe c1,Qs a2 x2 c2,Qs a3 x3 c3,Qs a4 x4 c4,Qs a5 x5 c5,Qn x6] 33/\Hid (yB.jo wc [Qs a0 U c0,Qn kc,Qs a1 xe c1,Qs a2 x2 c2,Qs a3 x3 c3,Qs a4 x4 c4,Qs a5 x5 c5,Qn x6] (U,(kc,xe),x2,x3,x4,x5,x6) (λk=>tb<=k/\k < wc.heap.size/\k≠R/\k≠R + 1))/\Hid (kHf (U,(kc,xe),x2,x3,x4,x5,x6))/\w4.heap.size<=wc.heap.size/\yS w0 wc p/\Touch (λk=>k=p\/k=R\/(tb<=k/\k < V.heap.size)) w4 wc)
 case first =>
  clear RN RT BT L J dt;by_cases bx:m=0
  · subst bx;clear I;go_wp2_with fail;refine (jBg hc).mono ?_;rintro e bu ⟨va,vc,l,rfl,Y,hP,F,D⟩;obtain ⟨cm,af,BN,HR⟩:=EO;clear hc D;have hc:=F;clear F;have HP:=yD hP;clear hP;obtain ⟨aq,ar,X,o,N,aj,ai,ag⟩:=yz BN;obtain ⟨au,bh,bq,a8,bf,a9,bl,be⟩:=kIc BN;go_wp2;generalize G:World.setCell bu _ _=bj;have hT:Touch (λk=>k=R) bu bj:=bB2;replace BN:Qr bj R #[Qs a0 U c0,Qn kc,Qs a1 xe c1,Qs va l vc,Qs a3 x3 c3,Qs a4 x4 c4,Qs a5 x5 c5,Qn x6] 33:=by rw [<- G];exact kI (BN) 3
    have c6:=hT.size;clear G;clear aq ar X o N aj ai ag au bh bq a8 bf a9 bl be;obtain ⟨HR,HP⟩:=GM;obtain ⟨hc,af⟩:=y9;clear hT;obtain ⟨k0,k1,k2,k3,k4,k5,_,k6⟩:=kEk (HR.out.wide (T:=(λk=>tb<=k/\k < bj.heap.size/\k≠R/\k≠R + 1)) qN);have kn:=HP.out.wide (T:=(λk=>tb<=k/\k < bj.heap.size/\k≠R/\k≠R + 1)) dJ;go_meet;exact ⟨a0,c0,kc,a1,c1,va,vc,a3,c3,a4,c4,a5,c5,U,xe,l,x3,x4,x5,x6,BN,yD (kMk k0 k1 kn k3 k4 k5 k6),yD (⟨O.out.kHf.1,O.out.2.1,Y,O.out.2.2.2⟩),by omega,hc,af⟩
  have cg:¬ (m:Int)=0:=bH3;by_cases bm:m=1
  · subst bm;clear I;go_wp2_with fail;refine (jBe hc).mono ?_;rintro e bu ⟨va,vc,l,rfl,hP,Y,F,D⟩;obtain ⟨cm,af,BN,HR⟩:=EO;clear hc D;have hc:=F;clear F;have HP:=yD hP.jo;clear hP;obtain ⟨aq,ar,X,o,N,aj,ai,ag⟩:=yz BN;obtain ⟨au,bh,bq,a8,bf,a9,bl,be⟩:=kIc BN;go_wp2;generalize G:World.setCell bu _ _=bj;have hT:Touch (λk=>k=R) bu bj:=bB2;replace BN:Qr bj R #[Qs a0 U c0,Qn kc,Qs a1 xe c1,Qs a2 x2 c2,Qs a3 x3 c3,Qs va l vc,Qs a5 x5 c5,Qn x6] 33:=by rw [<- G];exact kI (BN) 5
    have c6:=hT.size;clear G;clear aq ar X o N aj ai ag au bh bq a8 bf a9 bl be;obtain ⟨HR,HP⟩:=GM;obtain ⟨hc,af⟩:=y9;clear hT;obtain ⟨k0,k1,k2,k3,k4,k5,_,k6⟩:=kEk (HR.out.wide (T:=(λk=>tb<=k/\k < bj.heap.size/\k≠R/\k≠R + 1)) qN);have kn:=HP.out.wide (T:=(λk=>tb<=k/\k < bj.heap.size/\k≠R/\k≠R + 1)) dJ;go_meet;exact ⟨a0,c0,kc,a1,c1,a2,c2,a3,c3,va,vc,a5,c5,U,xe,x2,x3,l,x5,x6,BN,yD (kMk k0 k1 k2 k3 kn k5 k6),yD (⟨O.out.kHf.1,O.out.2.1,O.out.2.2.1,O.out.2.2.2.1,Y.1,O.out.2.2.2.2.2⟩),by omega,hc,af⟩
  have ch:¬ (m:Int)=1:=bH3;by_cases ba:m=2
  · subst ba;clear I;go_wp2_with fail;refine (jBb hc).mono ?_;rintro e bu ⟨va,vc,l,rfl,hP,Y,F,D⟩;obtain ⟨cm,af,BN,HR⟩:=EO;clear hc D;have hc:=F;clear F;have HP:=yD hP.jo;clear hP;obtain ⟨aq,ar,X,o,N,aj,ai,ag⟩:=yz BN;obtain ⟨au,bh,bq,a8,bf,a9,bl,be⟩:=kIc BN;go_wp2;generalize G:World.setCell bu _ _=bj;have hT:Touch (λk=>k=R) bu bj:=bB2;replace BN:Qr bj R #[Qs a0 U c0,Qn kc,Qs a1 xe c1,Qs a2 x2 c2,Qs a3 x3 c3,Qs a4 x4 c4,Qs va l vc,Qn x6] 33:=by rw [<- G];exact kI (BN) 6
    have c6:=hT.size;clear G;clear aq ar X o N aj ai ag au bh bq a8 bf a9 bl be;obtain ⟨HR,HP⟩:=GM;obtain ⟨hc,af⟩:=y9;clear hT;obtain ⟨k0,k1,k2,k3,k4,k5,_,k6⟩:=kEk (HR.out.wide (T:=(λk=>tb<=k/\k < bj.heap.size/\k≠R/\k≠R + 1)) qN);have kn:=HP.out.wide (T:=(λk=>tb<=k/\k < bj.heap.size/\k≠R/\k≠R + 1)) dJ;go_meet;exact ⟨a0,c0,kc,a1,c1,a2,c2,a3,c3,a4,c4,va,vc,U,xe,x2,x3,x4,l,x6,BN,yD (kMk k0 k1 k2 k3 k4 kn k6),yD (⟨O.out.kHf.1,O.out.2.1,O.out.2.2.1,O.out.2.2.2.1,O.out.2.2.2.2.1,Y,O.out.2.2.2.2.2.2⟩),by omega,hc,af⟩
  have c7:¬ (m:Int)=2:=bH3;by_cases ac:m=3
  · subst ac;clear I;go_wp2_with fail;refine (jBh hc).mono ?_;rintro e bu ⟨va,vc,vk,l,rfl,hP,Y,F,D⟩;obtain ⟨cm,af,BN,HR⟩:=EO;clear hc D;have hc:=F;clear F;have HP:=yD hP;clear hP;obtain ⟨aq,ar,X,o,N,aj,ai,ag⟩:=yz BN;obtain ⟨au,bh,bq,a8,bf,a9,bl,be⟩:=kIc BN;go_wp2;generalize G:World.setCell (World.setCell bu _ _) _ _=bj;have hT:Touch (λk=>k=R) bu bj:=bB8;replace BN:Qr bj R #[Qs a0 U c0,Qn vk,Qs va l vc,Qs a2 x2 c2,Qs a3 x3 c3,Qs a4 x4 c4,Qs a5 x5 c5,Qn x6] 33:=by rw [<- G];exact kI (kI (BN) 1) 2
    have c6:=hT.size;clear G;clear aq ar X o N aj ai ag au bh bq a8 bf a9 bl be;obtain ⟨HR,HP⟩:=GM;obtain ⟨hc,af⟩:=y9;clear hT;obtain ⟨k0,k1,k2,k3,k4,k5,_,k6⟩:=kEk (HR.out.wide (T:=(λk=>tb<=k/\k < bj.heap.size/\k≠R/\k≠R + 1)) qN);have kn:=HP.out.wide (T:=(λk=>tb<=k/\k < bj.heap.size/\k≠R/\k≠R + 1)) dJ;go_meet;exact ⟨a0,c0,vk,va,vc,a2,c2,a3,c3,a4,c4,a5,c5,U,l,x2,x3,x4,x5,x6,BN,yD (kMk k0 kn k2 k3 k4 k5 k6),yD (⟨O.out.kHf.1,by show l.length<=9;omega,O.out.2.2⟩),by omega,hc,af⟩
  have dv:¬ (m:Int)=3:=bH3;by_cases b0:m=4
  · subst b0;clear HR;obtain ⟨A_,B_,hA,hB,sA,sB,du⟩:=node_localO I.out;have HA:=yD hA;have HB:=yD hB;clear hA hB I;go_upto_region 12 with fail;refine zl (λW=>Touch (λk=>k=p) w4 W/\yS w0 W p) (λ_=>True) [] [(0,true),(1,true),(2,true),(3,false),(4,false)] [(5,false),(6,true),(7,false)] bG6 bG6 qY (⟨Touch.of_below bR.drew,hc.below bR.drew⟩) ?_;intro wS E;simp only [jB,zO,List.getElem?_cons_succ,List.getElem?_cons_zero,List.map_cons,List.map_nil];refine pre_nil ?_;refine jf (v:=?_) rfl (λW hW=>?_) ?_;rotate_left;(· go_simp;try with_reducible rfl);refine jG ?_;refine jf (v:=?_) rfl (λW hW=>?_) ?_;rotate_left;(· have dg:=kE (hW.1.kC BN bH3) (j:=0) (v:=.slice a0 U.length c0) rfl;have dw:=kE (hW.1.kC BN bH3) (j:=1) (v:=.int .i64 kc) rfl;have d0:=kE (hW.1.kC BN bH3) (j:=2) (v:=.slice a1 xe.length c1) rfl;have eh:=kE (hW.1.kC BN bH3) (j:=3) (v:=.slice a2 x2.length c2) rfl;have eg:=kE (hW.1.kC BN bH3) (j:=4) (v:=.slice a3 x3.length c3) rfl;have e3:=kE (hW.1.kC BN bH3) (j:=5) (v:=.slice a4 x4.length c4) rfl;have ew:=kE (hW.1.kC BN bH3) (j:=6) (v:=.slice a5 x5.length c5) rfl;have e5:=kE (hW.1.kC BN bH3) (j:=7) (v:=.int .i64 x6) rfl;clear hW;go_simp;try with_reducible rfl);refine jG ?_;refine jf (v:=?_) rfl (λW hW=>?_) ?_;rotate_left;(· go_simp;try with_reducible rfl);refine jG ?_;refine zK rfl (λK H=>?_);go_simp;refine (kTf E.2).mono ?_;rintro e wS1 ⟨ds,x,rfl,hX,bg,ap,am⟩;obtain ⟨b8,b9,b2,b1,cv,b4,rfl⟩:=zk hX.raw;have HX:=yD hX;have fe:=E.1.size;replace E:=And.intro (E.1.trans am) ap;refine H _ _ E ?_;clear H K ap am hX;refine jG ?_;refine zK rfl (λK H=>?_);go_simp;have ab:Touch (λk=>k=p) w4 (World.alloc wS1 (.cells #[.slice b8 x.1.length b9,.slice b2 x.2.1.length b1,.slice cv x.2.2.1.length b4,.int .i64 x.2.2.2.1,.int .i64 x.2.2.2.2] 70))/\yS w0 (World.alloc wS1 (.cells #[.slice b8 x.1.length b9,.slice b2 x.2.1.length b1,.slice cv x.2.2.1.length b4,.int .i64 x.2.2.2.1,.int .i64 x.2.2.2.2] 70)) p:=⟨E.1.trans (Touch.of_below (bR.alloc nL _)),E.2.below (bR.alloc nL _)⟩;refine H _ _ ab ?_;clear H K ab;refine jG ?_;have zS:=E.1.size;have B5:=E.1.kC BN bH3;have ah:=E.2;have ak:=af.ji E.1 (λk q=>.inl (.inl q));have ao:=HA.out.touch E.1 bU;have ad:=HB.out.touch E.1 bU;clear BN hc af HA HB;obtain ⟨v3,u3,a7,ae,ay⟩:=kD.kHl (P:=prog) (t:=24) (ty:=24) (r:=jI) (e:=70) (c:=1) underlying24 kQr rfl bH2 bH2 ao bR HX.out (λk q1 q2=>by have h1:=sA k q1;have h2:=h1.2;have h3:=q2.1;omega) (Nat.lt_of_le_of_lt O.out.1 bH2);have z3:=ay.size;have aa:Touch (λk=>tb<=k/\k < V.heap.size) wS1 u3:=ay.wide (λk q=>⟨(sA k q.1).1,(sA k q.1).2⟩);have bn:=ad.touch ay (λk q h=>du k h.1 q);have cc:(U++[x]).length<=10:=by have h1:=O.out.1;have h2:U.length<=9:=h1;simp;omega
    generalize U++[x]=q at *;obtain ⟨al,aw,Z,_⟩:=kD.kBd ae.raw;obtain rfl:v3=_:=by simpa using Z
    have BN:=aa.kC B5 bH3;have hc:=ah.touch aa wH vE;have af:=ak.ji aa (λk q=>.inl (.inr (.inr q)));obtain ⟨av,az,dx,cf,c8,d4,d3,b6⟩:=yz BN;obtain ⟨a6,bk,dh,db,dz,df,da,d1⟩:=kIc BN;clear B5 ah ak ao ad Z ay aa E;refine kAa trivial ?_;refine kw rfl (λK H=>?_);refine kD.kV _ _ _ rfl bH5 bH5 a7 ?_;refine H _ _ trivial ?_;clear H K;refine jG ?_;refine ky ?_;refine kw rfl (λK H=>?_);go_simp;refine H _ _ trivial ?_;clear H K;refine jG ?_;refine kS ?_;generalize G:World.setCell u3 _ _=wQ;have hT:Touch (λk=>k=R) u3 wQ:=bB2;have BQ:Qr wQ R #[Qs al q aw,Qn kc,Qs a1 xe c1,Qs a2 x2 c2,Qs a3 x3 c3,Qs a4 x4 c4,Qs a5 x5 c5,Qn x6] 33:=by rw [<- G];exact kI BN 0
    have bp:=hT.size;clear G;replace hc:=hc.touch hT bH3 bD5;replace af:=af.ji hT (λk q=>.inl (.inr (.inl q)));have k0:=(ae.jo.touch hT (λk q h=>by rcases q with q | q | q;(have h1:=(sA k q).2;omega);(have h1:=q.1;omega);(have h1:=q.1;omega))).wide (T:=(λk=>tb<=k/\k < wQ.heap.size/\k≠R/\k≠R + 1)) (λk q=>by rcases q with q | q | q;(have h1:=sA k q;have h2:=h1.2;exact ⟨h1.1,by omega,by omega,by omega⟩);exact ⟨by have:=q.1;omega,by have:=q.2;omega,by have:=q.1;omega,by have:=q.1;omega⟩;exact ⟨by have:=q.1;omega,by have:=q.2;omega,by have:=q.1;omega,by have:=q.1;omega⟩);have k1:=(bn.jo.touch hT (λk q h=>by have h1:=(sB k q).2;omega)).wide (T:=(λk=>tb<=k/\k < wQ.heap.size/\k≠R/\k≠R + 1)) (λk q=>by have h1:=sB k q;have h2:=h1.2;exact ⟨h1.1,by omega,by omega,by omega⟩);go_wp2;go_meet;exact ⟨al,aw,kc,a1,c1,a2,c2,a3,c3,a4,c4,a5,c5,q,xe,x2,x3,x4,x5,x6,BQ,yD (node_ofL k0 k1),yD ⟨cc,O.out.2⟩,by omega,hc,af⟩
  have d2:¬ (m:Int)=4:=bH3;by_cases an:m=5
  · subst an;clear I;obtain ⟨aq,ar,X,o,N,aj,ai,ag⟩:=yz BN;obtain ⟨au,bh,bq,a8,bf,a9,bl,be⟩:=kIc BN;go_wp2;generalize G:World.setCell w4 _ _=bu;have hT:Touch (λk=>k=R) w4 bu:=bB2;replace BN:Qr bu R #[Qs a0 U c0,Qn kc,Qs a1 xe c1,Qs a2 x2 c2,Qs a3 x3 c3,Qs a4 x4 c4,Qs a5 x5 c5,.int .i64 (-1)] 33:=by rw [<- G];exact kI (BN) 7
    have cm:=hT.size;clear G;clear aq ar X o N aj ai ag au bh bq a8 bf a9 bl be;replace HR:=yD (HR.out.touch hT pV);obtain ⟨hc,af⟩:=y9;clear hT;obtain ⟨k0,k1,k2,k3,k4,k5,_,k6⟩:=kEk (HR.out.wide (T:=(λk=>tb<=k/\k < bu.heap.size/\k≠R/\k≠R + 1)) qN);go_meet;exact ⟨a0,c0,kc,a1,c1,a2,c2,a3,c3,a4,c4,a5,c5,U,xe,x2,x3,x4,x5,(-1),BN,yD (kMk k0 k1 k2 k3 k4 k5 bH3),yD ⟨O.out.kHf.1,O.out.2.1,O.out.2.2.1,O.out.2.2.2.1,O.out.2.2.2.2.1,O.out.2.2.2.2.2.1,by show (-1:Int)<=-1;omega,by show (-1:Int)<=0;omega⟩,by omega,hc,af⟩
  have c9:¬ (m:Int)=5:=bH3;go_wp2;go_meet;exact ⟨a0,c0,kc,a1,c1,a2,c2,a3,c3,a4,c4,a5,c5,U,xe,x2,x3,x4,x5,x6,BN,HR,yD O.out.kHf,by omega,hc,af⟩
 clear I HR O BN af
 rename Ad=>wd
 obtain ⟨a0,c0,kc,a1,c1,a2,c2,a3,c3,a4,c4,a5,c5,U,xe,x2,x3,x4,x5,x6,BN,HR,b3,zd,cd,br⟩:=hcut
 replace RN:=br.kC RN bH3
 replace RT:=br.kC RT bH3
 replace BT:=br.kC BT bH3
 replace J:=J.ji br bD7
 replace L:=yD (L.out.touch br pV)
 clear hc
 have hc:=cd
 clear cd br
 go_upto_region 15 with fail
 have FX:=yD (λ(W:Ad) (hW:Touch (λk=>k=w.heap.size\/k=w.heap.size + 1) wd W)=>And.intro (kE (hW.kC BN bH3) (j:=0) (v:=.slice a0 U.length c0) rfl) (And.intro (kE (hW.kC BN bH3) (j:=1) (v:=.int .i64 kc) rfl) (And.intro (kE (hW.kC BN bH3) (j:=2) (v:=.slice a1 xe.length c1) rfl) (And.intro (kE (hW.kC BN bH3) (j:=3) (v:=.slice a2 x2.length c2) rfl) (And.intro (kE (hW.kC BN bH3) (j:=4) (v:=.slice a3 x3.length c3) rfl) (And.intro (kE (hW.kC BN bH3) (j:=5) (v:=.slice a4 x4.length c4) rfl) (And.intro (kE (hW.kC BN bH3) (j:=6) (v:=.slice a5 x5.length c5) rfl) (And.intro (kE (hW.kC BN bH3) (j:=7) (v:=.int .i64 x6) rfl) (And.intro (kE (hW.kC BT bH3) (j:=0) (v:=.slice bi t.1.length ck) rfl) (And.intro (kE (hW.kC BT bH3) (j:=1) (v:=.slice bz t.2.1.length cw) rfl) (And.intro (kE (hW.kC BT bH3) (j:=2) (v:=.slice bb t.2.2.1.length cz) rfl) (kE (hW.kC BT bH3) (j:=3) (v:=.slice cl t.2.2.2.length co) rfl))))))))))))
 refine kDv (λW=>Touch (λk=>k=w.heap.size\/k=w.heap.size + 1) wd W) bG6 (Touch.of_below bR.drew) ?_
 intro t1 dp E
 have bD:Qb wd t1:=(by rw [dp];exact bR.drew)
 replace RN:=kC RN bD
 replace RT:=kC RT bD
 clear bD dp
 have gb:=E.size
 refine kL 0 ?_
 refine kL 1 ?_
 refine kP (k:=2) rfl bG6 rfl (λK H=>?_)
 obtain ⟨ce,dm,di,dq,ey,ei,eq,e0⟩:=yz RN
 obtain ⟨dn,dj,dl,dr,en,el,ez,em⟩:=kIc RN
 go_simp
 generalize G:World.setCell (World.setCell (World.setCell (World.setCell (World.setCell (World.setCell (World.setCell (World.setCell t1 _ _) _ _) _ _) _ _) _ _) _ _) _ _) _ _=t2
 have hT:Touch (λk=>k=w.heap.size) t1 t2:=(by rw [<- G];exact sT8)
 replace RN:Qr t2 w.heap.size #[Qs a0 U c0,Qn kc,Qs a1 xe c1,Qs a2 x2 c2,Qs a3 x3 c3,Qs a4 x4 c4,Qs a5 x5 c5,Qn x6] 33:=(by rw [<- G];exact kI (kI (kI (kI (kI (kI (kI (kI (RN) 0) 1) 2) 3) 4) 5) 6) 7)
 have e9:=hT.size
 clear G ce dn dm dj di dl dq dr ey en ei el eq ez e0 em
 replace RT:=hT.kC RT bH3
 replace E:=E.trans (hT.wide (λk q=>.inl q))
 clear hT
 refine H _ _ E ?_
 clear H K
 refine jG ?_
 refine kP (k:=3) rfl bG6 rfl (λK H=>?_)
 obtain ⟨ce,dm,di,dq⟩:=jZ RT
 obtain ⟨dn,dj,dl,dr⟩:=kAq RT
 go_simp
 generalize G:World.setCell (World.setCell (World.setCell (World.setCell t2 _ _) _ _) _ _) _ _=t3
 obtain ⟨hT,RT,e7⟩:=EE
 clear G ce dn dm dj di dl dq dr
 replace RN:=hT.kC RN bH3
 replace E:=E.trans (hT.wide (λk q=>.inr q))
 clear hT
 refine H _ _ E ?_
 clear H K
 refine jG ?_
 refine jg bG6 ?_
 obtain ⟨fq,ft,fl,fo,fg,fp,fk,fm⟩:=yz RN
 obtain ⟨de,dc,dd,dk⟩:=jZ RT
 have zS:=E.size
 go_wp2
 refine bodyPost_ret (v:=.tuple #[.agg #[Qs a0 U c0,Qn kc,Qs a1 xe c1,Qs a2 x2 c2,Qs a3 x3 c3,Qs a4 x4 c4,Qs a5 x5 c5,Qn x6],.agg #[Qs bi t.1 ck,Qs bz t.2.1 cw,Qs bb t.2.2.1 cz,Qs cl t.2.2.2 co]]) (by simp [results,results14,go_sem,fq,ft,fl,fo,fg,fp,fk,fm,de,dc,dd,dk]) rfl ⟨[Qs a0 U c0,Qn kc,Qs a1 xe c1,Qs a2 x2 c2,Qs a3 x3 c3,Qs a4 x4 c4,Qs a5 x5 c5,Qn x6],(U,(kc,xe),x2,x3,x4,x5,x6),[.slice bi t.1.length ck,.slice bz t.2.1.length cw,.slice bb t.2.2.1.length cz,.slice cl t.2.2.2.length co],t,tb,rfl,?_,b3.out,?_,dt.out,⟨by omega,by omega⟩,hc.touch E bH3 bD7,J.ji E bD7⟩
 · exact (HR.out.touch E vD).wide (T:=jb tb _) (λj hj=>⟨hj.1,by have:=hj.2.1;omega⟩)
 exact (L.out.touch E vD).wide (T:=jb w.heap.size tb) mV
end Go.Proofs.YtjhfdpopkkmigabGreat

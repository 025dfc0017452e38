/-
  Pending interests drawn that are read only.
-/
import Derived.Test.YtjhfdpopkkmigaaGreatDrawC
set_option linter.unusedVariables false
set_option linter.defProp false
set_option linter.unusedSimpArgs false
set_option linter.unnecessarySimpa false
set_option maxRecDepth 100000
set_option maxHeartbeats 4000000
open _root_ renaming ByteArray->Aa
open UInt8 renaming ofNat->Ab
open Go.Proofs.Tryz renaming underlying28->Ac
open ByteArray renaming size_append->Ad,empty->Ah
open List renaming mem_singleton->Ae
open Int renaming lt_trichotomy->Ag
open Go.IntWalk renaming i64_in->Ai
namespace Go.Proofs.YtjhfdpopkkmigaaGreat
open Go.RowKit _root_.Go.Proofs.Tryz
def kHt (u:Nat):List UInt8:=if h:u=0 then [] else kHt (u / 10)++[Ab (48 + u % 10)]
termination_by u
decreasing_by omega
def kWm:kHt 0=[]:=by rw [kHt,dif_pos rfl]
def jAo {u:Nat} (h:0 < u):kHt u=kHt (u / 10)++[UInt8.ofNat (48 + u % 10)]:=by rw [kHt,dif_neg bD1]
def digs_dec (u:Nat) (h:0 < u):kHt u=Lib.decDigits u:=by
 induction u using Nat.strongRecOn with
 | _ u ih =>
   rw [jAo h,Lib.decDigits];by_cases q:u < 10
   · rw [dif_pos q,show u / 10=0 by omega,kWm,show u % 10=u by omega];rfl
   · rw [dif_neg q,ih (u / 10) bD1 bD1]
def kKz:∀ (k:Nat) {u:Nat},u < 10 ^ k->(kHt u).length<=k
  | 0,u,h=>by
    obtain rfl:u=0:=bB5;rw [kWm];simp
  | k + 1,u,h=>by
    by_cases q:u=0
    · subst q;rw [kWm];simp
    · rw [jAo bD1,List.length_append];have:=kKz k (u:=u / 10) (Nat.div_lt_of_lt_mul pE);simp;omega
def kPb (n:Int):Aa:=⟨(Lib.itoa n).toArray⟩
def kQh {n:Nat} (h:0 < n):kPb (n:Int)=⟨(kHt n).toArray⟩:=by
 unfold kPb Lib.itoa;rw [if_neg bD1,digs_dec n h,show (n:Int).toNat=n by omega]
def kQi {n:Nat} (h:0 < n):kPb (-(n:Int))=⟨#[45]⟩++⟨(kHt n).toArray⟩:=by
 unfold kPb Lib.itoa;rw [if_pos bD1,digs_dec n h,show (-(n:Int)).natAbs=n by omega];apply ByteArray.ext;simp
def itoaB_0:kPb 0=⟨#[48]⟩:=by
 unfold kPb Lib.itoa;rw [if_neg bD1,show (0:Int).toNat=0 from rfl,Lib.decDigits,dif_pos bD1];rfl
def ba_size (l:List UInt8):(⟨l.toArray⟩:ByteArray).size=l.length:=by simp [ByteArray.size]
def itoaB_size {n:Int} (h:Qi n):(kPb n).size<=20:=by
 rcases Ag n 0 with q | q | q
 · obtain ⟨m,rfl⟩:∃ m:Nat,n=-(m:Int):=⟨n.natAbs,by omega⟩;have h1:=kKz 19 (u:=m) bD1;have h2:=ba_size (kHt m);have h3:(⟨#[45]⟩:Aa).size=1:=rfl;rw [kQi bD1,Ad];omega
 · subst q;rw [itoaB_0];decide
 obtain ⟨m,rfl⟩:∃ m:Nat,n=m:=⟨n.toNat,by omega⟩;have h1:=kKz 19 (u:=m) bD1;rw [kQh bD1,ba_size];omega
def dig_int {u:Nat}:(48:Int) + (u:Int) % 10=((Ab (48 + u % 10)).toNat:Int):=by
 rw [UInt8.toNat_ofNat'];omega
def kOz {P:Program} {w:World} {src dst e:TypeId} {x:UInt8} {z:Int} (hz:z=(x.toNat:Int)) (hs:P.underlying src=some (.slice e)) (he:P.underlying e=some (.int .u8)) (hd:P.underlying dst=some .string) :
    (convert src dst (.slice (some ⟨w.heap.size,0,none⟩) 1 1)).run P (w.alloc (.cells #[.int .u8 z] e))=.ok (.string ⟨#[x]⟩) (w.alloc (.cells #[.int .u8 z] e)):=by
 have h:=run_convert_bytes_back (P:=P) (w.alloc (.cells #[.int .u8 z] e)) src dst e ⟨w.heap.size,0,none⟩ 1 [x] hs he hd (by
   intro j I;obtain rfl:j=0:=bB6;subst hz;simp [go_sem])
 simpa using h
def kSo {w:World} {n:Int} (hn:Qi n) :
    Calls prog 174 #[.int .i64 n] w (bQ w (.string (kPb n))):=by
 go_enter func174,ntmps174
 rcases Ag n 0 with q | q | q
 · obtain ⟨N,rfl⟩:∃ m:Nat,n=-(m:Int):=⟨n.natAbs,by omega⟩;have hN:0 < N:=bD1;go_wp2;go_loopw [3,4] (λsv I wr=>∃ (u:Nat) (s:Aa),u<=N/\I=.int .i64 (-(u:Int))/\sv=.string s/\s.size<=20/\Hid (kHt u++s.data.toList=kHt N)/\Qb w wr) (λ_ I _=>(intOf I).natAbs);case atStart=>exact ⟨N,Ah,Nat.le_refl _,rfl,rfl,by decide,yD bD2,bR⟩
   obtain ⟨u,s,hu,rfl,rfl,hs,HP,o⟩:=hrel;by_cases hz:u=0
   · exact iK
   have G:0 < u:=bD1;have F:=yD (jAo G);have hne:(((-(u:Int)):Int) != 0)=true:=bC6;have az:s.size + 1<=20:=by
    exact iL
   obtain ⟨hb,H⟩:=JB;clear hb;obtain ⟨D,ac⟩:=EG;have HX:=yD (show kHt (u / 10)++((⟨#[Ab (48 + u % 10)]⟩:Aa)++s).data.toList=kHt N by
     rw [<- HP.out,F.out];simp)
   generalize (⟨#[Ab (48 + u % 10)]⟩:Aa)=L at H D ac HX;by_cases hm:u % 10=0
   · have J:(u:Int) % 10=0:=bD1;have b0:=D hm;clear D H;exact iM
   have J:(0:Int) < (u:Int) % 10:=bD1;clear D;exact iM
 · subst q;go_wp2;go_ret;exact ⟨by rw [itoaB_0];rfl,bR⟩
 obtain ⟨N,rfl⟩:∃ m:Nat,n=m:=⟨n.toNat,by omega⟩
 have hN:0 < N:=bD1
 go_wp2
 go_loopw [3,4] (λsv I wr=>∃ (u:Nat) (s:Aa),u<=N/\I=.int .i64 (u:Int)/\sv=.string s/\s.size<=20/\Hid (kHt u++s.data.toList=kHt N)/\Qb w wr) (λ_ I _=>(intOf I).natAbs)
 case atStart=>exact ⟨N,Ah,Nat.le_refl _,rfl,rfl,by decide,yD bD2,bR⟩
 obtain ⟨u,s,hu,rfl,rfl,hs,HP,o⟩:=hrel
 by_cases hz:u=0
 · exact iK
 have G:0 < u:=bD1
 have F:=yD (jAo G)
 have hne:(((u:Int):Int) != 0)=true:=bC6
 have az:s.size + 1<=20:=by
  exact iL
 obtain ⟨hb,H⟩:=JB
 clear hb
 obtain ⟨D,ac⟩:=EG
 have HX:=yD (show kHt (u / 10)++((⟨#[Ab (48 + u % 10)]⟩:Aa)++s).data.toList=kHt N by
   rw [<- HP.out,F.out];simp)
 generalize (⟨#[Ab (48 + u % 10)]⟩:Aa)=L at H D ac HX
 exact iM
def kNj {l:List kI} {m k:Nat} {y:kI} (h:kAf l m) (hk:m < k) (hy:y.2.1.length<=k/\kSa y.2.1/\yu y.1):kAf (l++[y]) k:=by
 refine ⟨by have:=h.1;simp;omega,λz hz=>?_⟩;rcases List.mem_append.1 hz with hz | hz
 · exact ⟨by have:=(h.2 z hz).1;omega,(h.2 z hz).2⟩
 rw [Ae.1 hz];exact hy
def kVj {w:World} {v u:Value} {Y:kr} {o:List jA} {t:Int} {A B S:Nat->Prop} (h:kW.own w [v] Y A) (k:(kD.slice 147 jN).own w [u] o B) (hA:∀ k,A k->S k) (hB:∀ k,B k->S k) (hd:∀ k,A k->B k->False) (ht:Qi t):kJ.own w [v,u,Qn t] (Y,o,t) S :=
  kD.jY (r:=kW) (q:=.pair (kD.slice 147 jN) .int) (cs:=[v]) (ds:=[u,.int .i64 t]) h (kD.yN (r:=(kD.slice 147 jN)) (q:=.int) (cs:=[u]) (ds:=[.int .i64 t]) k (kD.jG ht)) hA hB hd
def smallP_snoc {l:List kI} {m:Nat} {y:kI} (h:kAf l m) (hl:l.length < m) (hy:y.2.1.length<=m/\kSa y.2.1/\yu y.1):kAf (l++[y]) m:=by
 refine ⟨by simp;omega,λz hz=>?_⟩;rcases List.mem_append.1 hz with hz | hz
 · exact h.2 z hz
 rw [Ae.1 hz];exact hy
def kZy {w0 w:World} {p:Nat} (hc:yT w0 w p) :
    Calls prog 111 #[.pointer (some ⟨p,0,none⟩)] w λe w'=>∃ a c l,e=.returned (.slice a l.length c)/\kAf l 14/\(kD.slice 145 kJ).ji w' [Qs a l c] l (jU w.heap.size w'.heap.size)/\yT w0 w' p/\Touch (λk=>k=p) w w':=by
 go_enter func111,ntmps111
 obtain ⟨ay,bt⟩:=hc.lt
 go_wp2_with fail
 refine (kXh hc).mono ?_
 rintro e w1 ⟨a,n,c,l,rfl,ai,a6,hO,G,D⟩
 have bf:=D.size
 have J:=D
 clear hc D
 have hc:=G
 clear G
 subst ai
 have ae:=yD a6
 have ac:=a6.1
 clear a6
 have L:=yD (hO)
 clear hO
 go_wp2_with fail
 refine (ku (n:=10) hc bD0).mono ?_
 rintro e V ⟨m,bc,ad,c8,rfl,G,D⟩
 have bg:=D.size
 obtain ⟨L,J⟩:=xK
 clear hc D
 have hc:=G
 clear G
 replace ad:=ad bD0
 clear c8
 by_cases h0:m=0
 · subst h0;go_wp2_with fail;refine (kFa hc).mono ?_;rintro e w3 ⟨na,nc,O,rfl,hr,bw,am,G,D⟩;have bi:=D.size;obtain ⟨L,J⟩:=xK;clear hc D;have hc:=G;clear G;have bl:=yD am;clear am;have HR:=yD (hr);clear hr;go_wp2_with fail;refine (ku (n:=9) hc bD0).mono ?_;rintro e w4 ⟨f,eu,ed,ee,rfl,G,D⟩;have bu:=D.size;obtain ⟨L,HR,J⟩:=CG;clear hc D;have hc:=G;clear G;replace ed:=ed bD0;clear ee;have ao:IntKind.i64.wrap (f - 1)=f - 1:=Ai _ bD1;go_wp2_with fail;refine (zy (hc.below (bR.alloc nL _)) (kD.kEf _ [0,-1,1000001] bD0 bD0) bD1 bD0 bD0).mono ?_;rintro e w5 ⟨y,ar,bz,rfl,G,D⟩;obtain ⟨D,br⟩:=DF;obtain ⟨L,HR,J⟩:=CG;clear hc D;have hc:=G;clear G;have hy:=kD.kHd (lo:=-1) (hi:=1000001) bD0 ar;have aj:y < 100\/1000000 < y:=by have h:=ar;simp only [List.mem_cons,List.not_mem_nil,or_false] at h;omega
   clear ar;have ag:jN.flat [.int .i64 (f - 1),.int .i64 y,.int .i64 0] (f - 1,y,0):=kD.yJ (cs:=[.int .i64 (f - 1)]) (kD.jG bD1) (kD.yJ (cs:=[.int .i64 y]) (kD.jG bD1) (kD.jG bD1));go_wp2_with (at_builtin;refine kD.zR rfl _ _ 28 rfl (r:=kJ) (e:=145) Ac zN rfl bD0 bD0 (w:=w5) L.out (kD.zL _ _) (c:=1) (kVj (A:=jU V.heap.size w3.heap.size) (B:=λk=>k=w5.heap.size) (S:=λk=>V.heap.size<=k/\k<=w5.heap.size) (HR.out.below (kD.zL _ _)) ((kD.kLp w5 ag).own bC7) rG wZ (λk q1 q2=>by have:=q1.2;omega) (t:=0) bD1) bD3 (by rw [show ∀ (o:Obj),(World.alloc w5 o).heap.size=w5.heap.size + 1 from λo=>by simp];rfl) pF bD1 ?_);intro v9 w9 hQ an;have N:Touch (λk=>w.heap.size<=k/\k < w1.heap.size) w5 w9:=(Touch.of_below (kD.zL _ _)).trans (an.wide (λk q=>q.1));have z9:=N.size;have zq:=an.size;have zr:w5.heap.size + 1<=w9.heap.size:=by simpa using zq
   clear an zq;obtain ⟨l2,ba⟩:∃ l2,l++[(O,[(f - 1,y,0)],0)]=l2:=⟨_,rfl⟩;rw [ba] at hQ;have af:=yD (show kAf l2 10 from ba ▸ kNj ae.out bD1 ⟨by simp,kQq aj,bl.out⟩);have aa:=yD (show l2.length=l.length + 1 by rw [<- ba];simp);clear ba;obtain ⟨a9,c9,rfl,_⟩:=kD.sl hQ.raw;have Z:=yD (hQ.wide (T:=jU w.heap.size w9.heap.size) bF);exact eQ
 by_cases h1:m=1
 · subst h1;go_wp2_with fail;refine (yV (s:={ data:=#[47,113] }) bD0).mono ?_;rintro e w3 ⟨na,nc,O,rfl,hr,d6,am,hb⟩;have bi:=hb.size;replace L:=yD (L.out.below hb);obtain ⟨hc,J⟩:=xE;clear hb;have bl:=yD am;clear am;have HR:=yD (hr);clear hr;go_wp2_with (at_builtin;refine kD.zR rfl _ _ 28 rfl (r:=kJ) (e:=145) Ac zN rfl bD0 bD0 (w:=w3) L.out bR (c:=1) (kVj (A:=jU V.heap.size w3.heap.size) (B:=λ_=>False) (S:=λk=>V.heap.size<=k/\k < w3.heap.size) HR.out kD.jr (λk q=>q) (λk q=>q.elim) (λk q1 q2=>q2) (t:=0) bD1) bD3 bD3 pF bD1 ?_);intro v9 w9 hQ an;have N:Touch (λk=>w.heap.size<=k/\k < w1.heap.size) w3 w9:=an.wide (λk q=>q.1);have z9:=N.size;clear an;obtain ⟨l2,ba⟩:∃ l2,l++[(O,[],0)]=l2:=⟨_,rfl⟩;rw [ba] at hQ;have af:=yD (show kAf l2 10 from ba ▸ kNj ae.out bD1 ⟨by simp,goodR_nil,bl.out⟩);have aa:=yD (show l2.length=l.length + 1 by rw [<- ba];simp);clear ba;obtain ⟨a9,c9,rfl,_⟩:=kD.sl hQ.raw;have Z:=yD (hQ.wide (T:=jU w.heap.size w9.heap.size) bI);exact eQ
 by_cases h2:m=2
 · subst h2;by_cases bp:0 < l.length
   · obtain ⟨_,bb,off,rfl,_,aw⟩:=kD.kOx L.out bp;obtain ⟨ce,B,U,hB,ah,Y,_,_⟩:=kD.own_get L.out (i:=0) bp;obtain ⟨v0,v1,rfl,_,p0,p1,p2⟩:=jT U.raw;obtain ⟨na,nc,rfl,_⟩:=kD.sl p0;obtain ⟨ra,rc,rfl,_⟩:=kD.sl p1;have A0:=Y 0 _ rfl;have A1:=Y 1 _ rfl;have A2:=Y 2 _ rfl;simp only [Nat.zero_mul,Nat.add_zero] at A0 A1 A2;have H:=ae.out.2 _ (List.getElem_mem bp);have HE:=yD U;clear Y U p0 p1;have a1:(0:Int) < l.length:=bD1;generalize l[0]=y at *;go_wp2_with (at_builtin;refine kD.kWz rfl _ _ 28 rfl (r:=kJ) (e:=145) Ac zN rfl bD0 bD0 (w:=V) L.out bR (c:=1) HE.out.ji bD3 bD3 (λb_ o_ q_ h_=>by simp only [Option.some.injEq,Addr.mk.injEq,and_true] at q_;have:=(hB _ h_).2;omega) bp bD1 ?_);intro v9 w9 hQ an;have N:Touch (λk=>w.heap.size<=k/\k < w1.heap.size) V w9:=an.wide (λk q=>q.1);have z9:=N.size;clear an A0 A1 A2;obtain ⟨l2,ba⟩:∃ l2,l++[y]=l2:=⟨_,rfl⟩;rw [ba] at hQ;have af:=yD (show kAf l2 10 from ba ▸ kNj ae.out bD1 ⟨by have:=H.1;omega,H.2⟩);have aa:=yD (show l2.length=l.length + 1 by rw [<- ba];simp);clear ba;obtain ⟨a9,c9,rfl,_⟩:=kD.sl hQ.rd.1;have Z:=yD (hQ.wide (T:=jU w.heap.size w9.heap.size) (λk q=>by rcases q with q | q | q;exact ⟨q.1,by have:=q.2;omega⟩;(have:=(hB _ q).1;exact ⟨this.1,by have:=this.2;omega⟩);exact ⟨by have:=q.1;omega,q.2⟩));clear hQ;replace hc:=hc.touch N tY tC;replace J:=J.kBq N (λk q=>q.1);clear N L HE;go_wp2;go_ret;exact ⟨_,_,l2,rfl,af.out.mono bD1,Z.out,hc,J⟩
   have a1:¬ (0:Int) < l.length:=bD1;go_wp2;go_ret;exact ⟨_,_,l,rfl,ae.out.mono bD1,L.out.ji.wide rG,hc,J⟩
 by_cases h3:m=3
 · subst h3;go_wp2;go_loopw [3,4] (λv i wr=>∃ (j:Nat) (a:Option Addr) (n c:Nat) (l:List kI),v=.slice a n c/\i=.int .i64 j/\j<=n/\n<=13/\Hid (n=l.length)/\Hid (kAf l 13)/\Hid ((kD.slice 145 kJ).own wr [.slice a n c] l (λq=>w.heap.size<=q/\q < wr.heap.size))/\V.heap.size<=wr.heap.size/\yT w0 wr p/\Touch (λk=>k=p) w wr) (λv _ _=>match v with | .slice _ n _=>14 - n | _=>0);case atStart=>exact ⟨0,a,l.length,c,l,rfl,rfl,by omega,by omega,yD rfl,yD (ae.out.mono bD1),yD (L.out.wide (λq h=>⟨h.1,by have:=h.2;omega⟩)),Nat.le_refl _,hc,J⟩
   clear hc J L ae ac;obtain ⟨j,a,n,c,l,rfl,rfl,I,ak,HN,ae,L,dp,hc,J⟩:=hrel;replace L:=yD (L.out.wide (T:=λq=>w.heap.size<=q/\q < wr.heap.size) (λ_ h=>h));go_wp2_with fail;refine (ku (n:=3) hc bD0).mono ?_;rintro e cz ⟨y,db,bk,bm,rfl,G,D⟩;have ef:=D.size;obtain ⟨L,J⟩:=xK;clear hc D;have hc:=G;clear G;replace bk:=bk bD0;clear bm;have hw:IntKind.i64.wrap (11 + y)=11 + y:=Ai _ bD1;by_cases hlt:(n:Int) < 11 + y
   · have al:n<=12:=bD1;go_wp2_with fail;refine (yV (s:={ data:=#[47,122,122] }) bD0).mono ?_;rintro e cw ⟨za,zc,zs,rfl,hr,d6,am,hb⟩;have et:=hb.size;replace L:=yD (L.out.below hb);obtain ⟨hc,J⟩:=xE;clear hb;have ec:=yD am;clear am;have HZ:=yD (hr.wide (T:=λq=>cz.heap.size<=q/\q < cw.heap.size) (λ_ h=>h));clear hr;go_wp2_with fail;refine (kSo (n:=(j:Int)) bD1).mono ?_;rintro e c3 ⟨rfl,hb⟩;have ew:=hb.size;replace L:=yD (L.out.below hb);replace HZ:=yD (HZ.out.below hb);obtain ⟨hc,J⟩:=xE;clear hb;have R:=itoaB_size (n:=(j:Int)) bD1;generalize kPb (j:Int)=s at *;have az:(({ data:=#[112] }:Aa)++s).size<=21:=by rw [Ad];have:({ data:=#[112] }:Aa).size=1:=rfl;omega
     go_wp2_with fail;clear R;generalize ({ data:=#[112] }:Aa)++s=s5 at *;refine (kCv (cn:=[.slice za zs.length zc]) HZ.out.rd (s:=s5) bD1 wM).mono ?_;rintro e d2 ⟨na,nn,nc,b2,rfl,ab,ca,hb⟩;have gv:=hb.size;replace L:=yD (L.out.below hb);replace HZ:=yD (HZ.out.below hb);obtain ⟨hc,J⟩:=xE;clear hb;have b8:(if b2 then zs++[s5] else zs).length<=65:=dA;have bl:Hid (yu (if b2 then zs++[s5] else zs)):=yD (by split;exact ec.out.snoc bD1;exact ec.out);clear ec;generalize (if b2 then zs++[s5] else zs)=qs at *;obtain ⟨_,_,_,a4,a2⟩:=ca.parts;simp only [Value.slice.injEq] at a4;have c1:=yD (a4.2.1.trans a2.out);clear a4 a2 az;have HB:=yD (ca.wide (T:=λq=>c3.heap.size<=q/\q < d2.heap.size) (λ_ h=>h));clear ca;clear HZ;go_upto_region 15 with fail;generalize F:World.alloc d2 _=c0;have E:Qb d2 c0:=rT;have X:Qr c0 d2.heap.size #[.slice na nn nc] 36:=vD;have j1:d2.heap.size + 1<=c0.heap.size:=bB3;clear F;replace L:=yD (L.out.below E);replace HB:=yD (HB.out.below E);replace hc:=hc.below E;replace J:=J.trans (Touch.of_below E);clear E;have W:Qd c0 d2 0 (.slice na nn nc):=kE X rfl;have ag:jN.flat [.int .i64 1,.int .i64 0,.int .i64 0] (1,0,0):=kD.yJ (cs:=[.int .i64 1]) (kD.jG bD1) (kD.yJ (cs:=[.int .i64 0]) (kD.jG bD1) (kD.jG bD1));go_wp2_with (at_builtin;refine kD.zR rfl _ _ 28 rfl (r:=kJ) (e:=145) Ac zN rfl bD0 bD0 (w:=c0) L.out (kD.zL _ _) (c:=1) (kVj (A:=λq=>c3.heap.size<=q/\q < d2.heap.size) (B:=λk=>k=c0.heap.size) (S:=λk=>c3.heap.size<=k/\k<=c0.heap.size) ((HB.out.own wM).below (kD.zL _ _)) ((kD.kLp c0 ag).own bC7) rG wZ (λk q1 q2=>by have:=q1.2;omega) (t:=0) bD1) bD3 (by rw [show ∀ (o:Obj),(World.alloc c0 o).heap.size=c0.heap.size + 1 from λo=>by simp];rfl) pF wB ?_);intro v9 w9 hQ an;have N:Touch (λk=>w.heap.size<=k/\k < wr.heap.size) c0 w9:=(Touch.of_below (kD.zL _ _)).trans (an.wide (λk q=>q.1));have z9:=N.size;have zq:=an.size;have zr:c0.heap.size + 1<=w9.heap.size:=by simpa using zq
     clear an zq;obtain ⟨l2,ba⟩:∃ l2,l++[(qs,[(1,0,0)],0)]=l2:=⟨_,rfl⟩;rw [ba] at hQ;have af:=yD (show kAf l2 13 from ba ▸ smallP_snoc ae.out wB ⟨by simp,kQq (.inl bD0),bl.out⟩);have aa:=yD (show l2.length=l.length + 1 by rw [<- ba];simp);clear ba;obtain ⟨a9,c9,rfl,_⟩:=kD.sl hQ.raw;have Z:=yD (hQ.wide (T:=λq=>w.heap.size<=q/\q < w9.heap.size) bF);clear hQ;have cd:=hc.touch N tY tC;have b3:=J.kBq N (λk q=>q.1);clear N hc J L HB X W;go_wp2;go_roundw;case rel=>exact ⟨j + 1,a9,l2.length,_,l2,rfl,by go_num,by have h1:=aa.out;have h2:=HN.out;omega,by have h1:=aa.out;have h2:=HN.out;omega,yD rfl,af,Z,by omega,cd,b3⟩
     have h1:=aa.out;have h2:=HN.out;first | omega|(simp;omega)
   go_wp2;go_ret;have hn:=HN.out;subst hn;exact ⟨_,_,l,rfl,ae.out.mono bD1,L.out.ji.wide rG,hc,J⟩
 go_wp2
 go_ret
 exact ⟨_,_,l,rfl,ae.out.mono bD1,L.out.ji.wide rG,hc,J⟩
end Go.Proofs.YtjhfdpopkkmigaaGreat

/-
  Rules of trust: whether they are valid, which of them allows.
-/
import Derived.Test.YthocbplmdjkifaaGreatCopyD
set_option linter.unusedVariables false
set_option linter.defProp false
set_option linter.unusedSimpArgs false
set_option linter.unnecessarySimpa false
set_option maxRecDepth 100000
set_option maxHeartbeats 4000000
open Bool renaming true->Tt,false->Ff
open ByteArray renaming empty->Aa
open Go renaming World->Ab,Value->Av,Calls->Az
open Go.IntWalk renaming i64_in->Ac
open _root_ renaming ByteArray->Ad,List->Aw
open Go.IntKind renaming i64->Ae
open Bool renaming not_false->Ag,and_false->Ah,false_and->Ai,not_true->Aj,and_true->Ak,true_and->Al,or_false->Am,false_or->Ap,or_true->Aq,true_or->Ar,not_not->Au
open Go.Region renaming wanted->Ay
namespace Go.Proofs.YthocbplmdjkifaaGreat
open Go _root_.Go.Proofs.Tryz
section
variable {P:Program} {l:Aw Oper} {S:Ab->Prop} {Q:Exit->Act->Ab->Prop} {fuel:Nat} {listed:Aw Bool} {a:Act} {w:Ab}
def kZe {i j m:Nat} {W oj E:Oper} (hi:l[i]?=some W) (I:l[j]?=some oj) (hm:l[m]?=some E) (hr:(Region.ready .any l.toArray listed.toArray==[i,j,m])=true) (D:Ay W (yielded l.toArray a.tmps)=true) (o:Ay oj (yielded l.toArray a.tmps)=true) (F:Ay E (yielded l.toArray a.tmps)=true)
    (h1:∀ K:Act->Ab->Prop,(∀ a' w',S w'->tree P l S Q fuel (listed.set i true) a' w'->K a' w')->W.wp P a w K Q)
    (h2:∀ K:Act->Ab->Prop,(∀ a' w',S w'->tree P l S Q fuel (listed.set j true) a' w'->K a' w')->oj.wp P a w K Q)
    (h3:∀ K:Act->Ab->Prop,(∀ a' w',S w'->tree P l S Q fuel (listed.set m true) a' w'->K a' w')->E.wp P a w K Q):tree P l S Q (fuel + 1) listed a w:=by
 unfold tree
 refine wpAnyH_all bC8 bF3 ?_
 intro k hk
 rcases List.mem_cons.1 hk with rfl | hk
 · exact kPd hi D h1
 rcases List.mem_cons.1 hk with rfl | hk
 · exact kPd I o h2
 obtain rfl:k=m:=bC2
 exact kPd hm F h3
def kIg (h:∀ (T:Nat->Aw Bool->Act->Ab->Prop) (A:Act),T=tree P l S Q->A=a->T fuel listed A w):tree P l S Q fuel listed a w:=h _ _ rfl rfl
end
end Go.Proofs.YthocbplmdjkifaaGreat
namespace Go.Proofs.YthocbplmdjkifaaGreat
open Go.RowKit _root_.Go.Proofs.Tryz
def kQt {w0 w:Ab} {p:Nat} (hc:ym w0 w p) {n:Int} (hn:256 < n) (bm:n<=16777216) :
    Az prog 30 #[.pointer (some ⟨p,0,none⟩),.int .i64 n] w λe w'=>∃ x:Int,0<=x/\x < n/\e=.returned (.int .i64 x)/\ym w0 w' p/\Touch (λk=>k=p) w w':=by
 go_enter func30,ntmps30
 have hne:¬ n=0:=bF2
 have V:¬ n<=0:=bF2
 have E:¬ n<=256:=bF2
 go_wp2_with fail
 refine (kEz hc).mono ?_
 rintro e w1 ⟨x,ai,L,rfl,F,D⟩
 have O:=D
 clear hc D
 have hc:=F
 clear F
 go_wp2_with fail
 refine (kEz hc).mono ?_
 rintro e w2 ⟨y,ao,a4,rfl,F,D⟩
 replace O:=O.trans D
 clear hc D
 have hc:=F
 clear F
 go_wp2_with fail
 refine (kEz hc).mono ?_
 rintro e w3 ⟨z,a5,bn,rfl,F,D⟩
 replace O:=O.trans D
 clear hc D
 have hc:=F
 clear F
 have dy:Ae.wrap (x * 65536)=x * 65536:=Ac _ bF2
 have R:Ae.wrap (y * 256)=y * 256:=Ac _ bF2
 have H:Ae.wrap (x * 65536 + y * 256)=x * 65536 + y * 256:=Ac _ bF2
 have J:Ae.wrap (x * 65536 + y * 256 + z)=x * 65536 + y * 256 + z:=Ac _ bF2
 have bc:=Int.emod_nonneg (x * 65536 + y * 256 + z) hne
 have bk:=Int.emod_lt_of_pos (x * 65536 + y * 256 + z) (show 0 < n by omega)
 go_wp2
 go_ret
 exact ⟨_,bc,bk,rfl,hc,O⟩
def jCb {w0 w:World} {p:Nat} (hc:ym w0 w p) {n:Nat} (hn:n<=256) :
    Calls prog 207 #[.pointer (some ⟨p,0,none⟩),.int .i64 n] w λe w'=>∃ a c l,e=.returned (.slice a l.length c)/\l.length=n/\(kD.slice 5 kD.byte).own w' [Qs a l c] l (jg w w')/\ym w0 w' p/\Touch (λk=>k=p) w w':=by
 go_enter func207,ntmps207
 obtain ⟨bh,br⟩:=hc.lt
 go_upto_region 2 with fail
 refine ja ?_
 intro w1 ar _ bj
 obtain ⟨hc,O⟩:=uZ
 clear ar
 go_wp2
 go_loopw [5,6] (λv i wr=>∃ (j:Nat) (a:Option Addr) (c:Nat) (l:List UInt8),v=.slice a l.length c/\i=.int .i64 j/\Hid (l.length=j)/\j<=n/\Hid ((kD.slice 5 kD.byte).own wr [Qs a l c] l (jg w wr))/\w1.heap.size<=wr.heap.size/\ym w0 wr p/\Touch (λk=>k=p) w wr) (λ_ i _=>n - (intOf i).toNat)
 case atStart=>exact ⟨0,_,0,[],rfl,rfl,yD rfl,Nat.zero_le _,yD kD.yF,Nat.le_refl _,hc,O⟩
 clear hc O
 obtain ⟨j,a,c,l,rfl,rfl,Y,I,J,ch,hc,O⟩:=hrel
 by_cases hlt:j < n
 · replace J:=yD (J.out.wide (T:=jg w wr) (λ_ h=>h));have bt:(j:Int) < (n:Int):=bF2;go_wp2_with fail;refine (kEz hc).mono ?_;rintro e w4 ⟨x,ai,L,rfl,F,D⟩;have b5:=D.size;obtain ⟨J,O⟩:=uS;clear hc D;have hc:=F;clear F;have hw:IntKind.u8.wrap x=x:=IntWalk.u8_in _ bF2;obtain ⟨m,rfl⟩:=Int.eq_ofNat_of_zero_le ai;have N:(m:Int)=((UInt8.ofNat m).toNat:Int):=by rw [UInt8.toNat_ofNat'];omega
   have U:=yD N;clear N;go_wp2_with (at_builtin;refine kD.zQ rfl _ _ 22 rfl (r:=kD.byte) (e:=5) underlying22 kFo rfl bF1 bF1 J.out bR (kTy (x:=UInt8.ofNat m) U.out) bF4 bF4 (λ_ _ h=>h) bB0 ?_);intro v9 w9 ah V;have H:=V.size;have R:=yD (show (l++[UInt8.ofNat m]).length=j + 1 by simp [Y.out]);generalize l++[UInt8.ofNat m]=q at *;obtain ⟨a9,c9,bx,_⟩:=kD.kAw ah.raw;obtain rfl:v9=_:=by simpa using bx
   have bm:=yD (ah.wide (T:=jg w w9) (λk q=>by rcases q with q | q;exact ⟨q.1,by have:=q.2;omega⟩;exact ⟨by have:=q.1;omega,q.2⟩));have E:=hc.touch V vO vH;have o:=O.kBr V (λk q=>q.1.1);clear ah V bx J Y;refine Qg ?_;exact ⟨j + 1,a9,c9,q,rfl,by go_num,R,by omega,bm,by omega,E,o⟩
 have bt:¬ (j:Int) < (n:Int):=bF2
 go_wp2
 go_ret
 exact ⟨a,c,l,rfl,by have:=Y.out;omega,J.out,hc,O⟩
def kCs {w0 w:Ab} {p:Nat} (hc:ym w0 w p) {x:Int} (h0:0<=x) (h1:x<=256) :
    Az prog 207 #[.pointer (some ⟨p,0,none⟩),.int .i64 x] w λe w'=>∃ a c l,e=.returned (.slice a l.length c)/\(l.length:Int)=x/\(kD.slice 5 kD.byte).own w' [Qs a l c] l (jg w w')/\ym w0 w' p/\Touch (λk=>k=p) w w':=by
 obtain ⟨n,rfl⟩:=Int.eq_ofNat_of_zero_le h0
 refine (jCb hc (n:=n) bF2).mono ?_
 rintro e w1 ⟨a,c,l,rfl,hl,hO,h2,h3⟩
 exact ⟨a,c,l,rfl,by omega,hO,h2,h3⟩
def jFf {w0 w:Ab} {p:Nat} (hc:ym w0 w p) :
    Az prog 179 #[.pointer (some ⟨p,0,none⟩)] w λe w'=>∃ x:Int,e=.returned (.int .i64 x)/\-1<=x/\x<=2147483648/\ym w0 w' p/\Touch (λk=>k=p) w w':=by
 go_enter func179,ntmps179
 obtain ⟨bh,br⟩:=hc.lt
 go_wp2_with fail
 refine (yw (n:=10) hc bF1).mono ?_
 rintro e w1 ⟨b,rfl,F,D⟩
 have bj:=D.size
 have O:=D
 clear hc D
 have hc:=F
 clear F
 cases b
 · go_wp2_with fail;refine (yw (n:=4) hc bF1).mono ?_;rintro e w2 ⟨b2,rfl,F,D⟩;have bw:=D.size;replace O:=O.trans D;clear hc D;have hc:=F;clear F;cases b2
   · go_wp2_with fail;refine (kQt (n:=1000000) hc bF1 bF1).mono ?_;rintro e w3 ⟨x,ai,L,rfl,F,D⟩;replace O:=O.trans D;clear hc D;have hc:=F;clear F;go_wp2_with fail;refine (kQt (n:=2000) hc bF1 bF1).mono ?_;rintro e w4 ⟨y,ao,a4,rfl,F,D⟩;replace O:=O.trans D;clear hc D;have hc:=F;clear F;have h0:0<=x * y:=Int.mul_nonneg ai ao;have h1:x * y<=1000000 * 2000:=Int.mul_le_mul bF2 bF2 ao bF2;have hw:Ae.wrap (x * y)=x * y:=Ac _ bF2;exact iE
   go_wp2_with fail;refine (kAd (hc.below (bR.alloc nL _)) (kD.kEh _ [0,1,2147483646] bF1 bF1) bF2 bF1 bF1).mono ?_;rintro e w3 ⟨y,bd,bv,rfl,F,D⟩;replace D:=(Touch.of_below (S:=λk=>k=p) (bR.alloc nL _)).trans D;replace O:=O.trans D;clear hc D;have hc:=F;clear F;have hy:=kD.kJo (lo:=0) (hi:=2147483646) bF1 bd;clear bd;exact iE
 go_wp2_with fail
 refine (kAd (hc.below (bR.alloc nL _)) (kD.kEh _ [-1,2147483647,2147483648] bF1 bF1) bF2 bF1 bF1).mono ?_
 rintro e w2 ⟨y,bd,bv,rfl,F,D⟩
 replace D:=(Touch.of_below (S:=λk=>k=p) (bR.alloc nL _)).trans D
 replace O:=O.trans D
 clear hc D
 have hc:=F
 clear F
 have hy:=kD.kJo (lo:=-1) (hi:=2147483648) bF1 bd
 clear bd
 exact iE
def jBm {w:Ab} {v0 v1 v2:Av} {n k:ko} {b:Aw UInt8} {f s:Int} {S:Nat->Prop} (h0:kR.jr w [v0] n S) (h1:(kD.slice 5 kD.byte).jr w [v1] b S) (h2:kR.jr w [v2] k S) (hf:Qi f) (hs:Qi s):jF.jr w [v0,v1,v2,Qn f,Qn s] (n,b,k,f,s) S :=
  kD.kBa (r:=kR) (q:=.pair (kD.slice 5 kD.byte) (.pair kR (.pair .int .int))) (z:=(n,b,k,f,s)) h0 (kD.kBa (r:=(kD.slice 5 kD.byte)) (q:=.pair kR (.pair .int .int)) (z:=(b,k,f,s)) h1 (kD.kBa (r:=kR) (q:=.pair .int .int) (z:=(k,f,s)) h2 (kD.flat.jr (kD.jl (cs:=[.int .i64 f]) (kD.ky hf) (kD.ky hs)))))
def zo {w:Ab} {cs:Aw Av} {x:jQ} (h:jF.raw w cs x):∃ a0 c0 a1 c1 a2 c2,cs=[.slice a0 x.1.length c0,.slice a1 x.2.1.length c1,.slice a2 x.2.2.1.length c2,.int .i64 x.2.2.2.1,.int .i64 x.2.2.2.2]:=by
 obtain ⟨v0,v1,v2,rfl,ao,am,aq,ap,Y,E,D⟩:=jf h;obtain ⟨a0,c0,rfl,_,a1,c1,rfl,_,a2,c2,rfl,_⟩:=kD.sx am (kD.sx aq (kD.sl Y));exact ⟨_,_,_,_,_,_,rfl⟩
def data_rng {w:Ab} {cs:Aw Av} {x:jQ} (h:jF.raw w cs x):Qi x.2.2.2.1/\Qi x.2.2.2.2:=by
 obtain ⟨v0,v1,v2,rfl,ao,am,aq,ap,Y,E,D⟩:=jf h;exact ⟨E,D⟩
def DrawnD (m:Nat) (w0 w:Ab) (p:Nat) (e:Ending) (w':Ab):Prop:=∃ ds x,e=.returned (.agg ds.toArray)/\jF.own w' ds x (jg w w')/\x.2.1.length<=m/\ym w0 w' p/\Touch (λk=>k=p) w w'
def jGg {w:Ab} {c0 c1 c2 c3 c4 v:Av} {x0 y:ko} {x1:Aw UInt8} {x2:ko} {x3 x4:Int} {S T:Nat->Prop} (h:jF.own w [c0,c1,c2,c3,c4] (x0,x1,x2,x3,x4) S) (hv:kR.own w [v] y T) (hd:∀ k,S k->T k->False):jF.own w [v,c1,c2,c3,c4] (y,x1,x2,x3,x4) (λk=>S k\/T k) :=
  kD.set_left (r:=kR) (q:=.pair (kD.slice 5 kD.byte) (.pair kR (.pair .int .int))) (c:=[c0]) (c':=[v]) (d:=[c1,c2,c3,c4]) h rfl hv hd
def kYa {w:Ab} {c0 c1 c2 c3 c4 v:Av} {x0:ko} {x1 y:Aw UInt8} {x2:ko} {x3 x4:Int} {S T:Nat->Prop} (h:jF.own w [c0,c1,c2,c3,c4] (x0,x1,x2,x3,x4) S) (hv:(kD.slice 5 kD.byte).own w [v] y T) (hd:∀ k,S k->T k->False):jF.own w [c0,v,c2,c3,c4] (x0,y,x2,x3,x4) (λk=>S k\/T k) :=
  kD.set_right (r:=kR) (q:=.pair (kD.slice 5 kD.byte) (.pair kR (.pair .int .int))) (c:=[c0]) (d:=[c1,c2,c3,c4]) (d':=[v,c2,c3,c4]) h rfl (λB hB hq=>kD.set_left (r:=(kD.slice 5 kD.byte)) (q:=.pair kR (.pair .int .int)) (c:=[c1]) (c':=[v]) (d:=[c2,c3,c4]) hq rfl hv (λk a b=>hd k (hB k a) b)) hd
def data_setKey {w:Ab} {c0 c1 c2 c3 c4 v:Av} {x0:ko} {x1:Aw UInt8} {x2 y:ko} {x3 x4:Int} {S T:Nat->Prop} (h:jF.own w [c0,c1,c2,c3,c4] (x0,x1,x2,x3,x4) S) (hv:kR.own w [v] y T) (hd:∀ k,S k->T k->False):jF.own w [c0,c1,v,c3,c4] (x0,x1,y,x3,x4) (λk=>S k\/T k) :=
  kD.set_right (r:=kR) (q:=.pair (kD.slice 5 kD.byte) (.pair kR (.pair .int .int))) (c:=[c0]) (d:=[c1,c2,c3,c4]) (d':=[c1,v,c3,c4]) h rfl (λB hB hq=>kD.set_right (r:=(kD.slice 5 kD.byte)) (q:=.pair kR (.pair .int .int)) (c:=[c1]) (d:=[c2,c3,c4]) (d':=[v,c3,c4]) hq rfl (λB2 E R=>kD.set_left (r:=kR) (q:=.pair .int .int) (c:=[c2]) (c':=[v]) (d:=[c3,c4]) R rfl hv (λk a b=>hd k (hB k (E k a)) b)) (λk a b=>hd k (hB k a) b)) hd
def jGf {w:Ab} {c0 c1 c2 c3 c4:Av} {x0:ko} {x1:Aw UInt8} {x2:ko} {x3 x4 v:Int} {S:Nat->Prop} (h:jF.own w [c0,c1,c2,c3,c4] (x0,x1,x2,x3,x4) S) (hv:Qi v):jF.own w [c0,c1,c2,Qn v,c4] (x0,x1,x2,v,x4) S:=⟨RData_set3 v hv h.1,h.2⟩
def kWy {w:Ab} {c0 c1 c2 c3 c4:Av} {x0:ko} {x1:Aw UInt8} {x2:ko} {x3 x4 v:Int} {S:Nat->Prop} (h:jF.own w [c0,c1,c2,c3,c4] (x0,x1,x2,x3,x4) S) (hv:Qi v):jF.own w [c0,c1,c2,c3,Qn v] (x0,x1,x2,x3,v) S:=⟨RData_set4 v hv h.1,h.2⟩
def kIh {w:Ab} {s:Int} (hs:Qi s) {cx:Aw Av} {x:jQ} (hx:jF.rd w cx x) (b3:x.2.1.length<=2000000) :
    Az prog 208 #[.int .i64 s,.agg cx.toArray] w λe w'=>∃ sg ds,e=.returned (.agg ds.toArray)/\jF.own w' ds (x.1,x.2.1,x.2.2.1,x.2.2.2.1,sg) (jg w w')/\(0<=sg/\sg < 2147483647)/\Qb w w':=by
 obtain ⟨x0,x1,x2,x3,x4⟩:=x
 have HX:=yD hx
 have ar:=yD b3
 have W:=signed_len (x0,x1,x2,x3,x4)
 simp only at W b3
 obtain ⟨a1,c8,a7,rfl,ao,am,aq,ap,Y,E,D⟩:=jf hx.1
 obtain ⟨b9,ai,rfl,an,b1,aw,rfl,a4,cl,a6,rfl,a8⟩:=kD.sx am (kD.sx aq (kD.sl Y))
 clear hx ao am aq ap Y E D
 go_enter func208,ntmps208
 go_upto_region 1 with fail
 refine kAe ?_
 intro w1 U BX BR bj
 obtain ⟨aa,ac,ae,ad,af⟩:=yZ BX
 go_wp2_with fail
 refine (kBb (HX.out.below U)).mono ?_
 rintro e w2 ⟨cs,rfl,O,hb⟩
 have bw:=hb.size
 replace BX:=kC BX hb
 obtain ⟨BR,U⟩:=CQ
 clear aa ac ae ad af hb
 obtain ⟨hv,ax,ib,rfl,fl,e8,fy,fk,e1,fz,f0⟩:=jf O.raw
 obtain ⟨bt,bu,rfl,hu,ab,H,rfl,a5,c5,de,rfl,ih⟩:=kD.sx e8 (kD.sx fy (kD.sl e1))
 clear fl e8 fy fk e1 fz f0
 have J:=yD (O.wide (T:=λj=>w.heap.size + 2<=j/\j < w2.heap.size) sO)
 clear O
 go_upto_region 2 with fail
 refine ja ?_
 intro w3 ah BO bz
 replace BX:=kC BX ah
 obtain ⟨BR,J,U⟩:=xZ
 clear ah
 obtain ⟨aa,ac,ae,ad,af⟩:=yZ BX
 go_wp2_with fail
 refine (kPw (HX.out.below U) ar.out).mono ?_
 rintro e w4 ⟨vg,rfl,F,hb⟩
 have b5:=hb.size
 obtain ⟨BR,BO⟩:=CX
 obtain ⟨J,U⟩:=wP
 clear aa ac ae ad af hb
 obtain ⟨ag,ng,cg,L,av⟩:=F.parts
 obtain rfl:=L
 have RG:=yD ((F.own bB1).rd)
 clear F
 go_wp2_with fail
 refine (kUu hs RG.out bF2).mono ?_
 rintro e w5 ⟨rfl,hb⟩
 have b4:=hb.size
 obtain ⟨BR,BO⟩:=CX
 obtain ⟨J,U⟩:=wP
 clear hb
 have au:=jBl ([s]++signed (x0,x1,x2,x3,x4)++[s])
 have a3:0<=macOf s (signed (x0,x1,x2,x3,x4))/\macOf s (signed (x0,x1,x2,x3,x4)) < 2147483647:=au
 generalize macOf s (signed (x0,x1,x2,x3,x4))=sg at *
 clear au W RG av ar b3
 obtain ⟨X,N,Z,R,ak⟩:=yZ BO
 obtain ⟨I,a2,ba,bc,bk⟩:=kCo BO
 go_upto_region 3 with fail
 clear X N Z R ak I a2 ba bc bk
 generalize o:World.setCell w5 _ _=w6
 have V:Touch (λk=>k=w2.heap.size) w5 w6:=wY
 replace BO:Qr w6 w2 (Qj bt x0 bu ab x1 H c5 x2 de x3 sg) 60:=vZ
 have df:=V.size
 clear o
 replace BR:=V.kC BR bF2
 replace J:=yD (J.out.touch V qV)
 replace U:=U.trans (V.below U.size bB6)
 clear V
 replace J:=yD (kWy J.out (v:=sg) bF2)
 obtain ⟨X,N,Z,R,ak⟩:=yZ BO
 obtain ⟨ay,az,bf,be,b2⟩:=yZ BR
 obtain ⟨al,aj,bb,bd,bx⟩:=kCo BR
 go_wp2
 refine bodyPost_ret (v:=.agg (Qj bt x0 bu ab x1 H c5 x2 de x3 sg)) (by simp [results,results208,go_sem,ay,al,az,aj,bf,bb,be,bd,b2,bx]) rfl ⟨sg,[.slice bt x0.length bu,.slice ab x1.length H,.slice c5 x2.length de,.int .i64 x3,.int .i64 sg],rfl,?_,a3,?_⟩
 · exact (J.out.touch sT5 sW).wide fU
 exact U.trans (Touch.below sT5 U.size bB6)
def kZh {w0 w:Ab} {p:Nat} (hc:ym w0 w p) :
    Az prog 209 #[.pointer (some ⟨p,0,none⟩)] w λe w'=>∃ s:Int,e=.returned (.int .i64 s)/\100<=s/\s<=104/\ym w0 w' p/\Touch (λk=>k=p) w w':=by
 go_enter func209,ntmps209
 go_wp2_with fail
 refine (kZ (n:=5) hc bF1).mono ?_
 rintro e w1 ⟨x,ai,L,bf,rfl,F,D⟩
 have O:=D
 clear hc D
 have hc:=F
 clear F
 replace L:=L bF1
 have hw:Ae.wrap (100 + x)=100 + x:=Ac _ bF2
 exact iE
def isLet (s:Ad):Bool:=decide (s.size=2) && (decide (kCy s 0=63) && inR (kCy s 1) 97 122)
def isLet_no {s:ByteArray} (h:¬ s.size=2):isLet s=false:=by unfold isLet;rw [decide_eq_false h];rfl
def isLet_no0 {s:ByteArray} (h:¬ kCy s 0=63):isLet s=false:=by unfold isLet;rw [decide_eq_false h];simp
def isLet_yes {s:ByteArray} (h:s.size=2) (h0:kCy s 0=63):isLet s=inR (kCy s 1) 97 122:=by unfold isLet;rw [decide_eq_true h,decide_eq_true h0];rfl
def kNx {w:Ab} {s:Ad} (hs:s.size<=maxLen):Az prog 275 #[.string s] w λe w'=>e=.returned (.bool (isLet s))/\w'=w:=by
 go_enter func275,ntmps275;by_cases h2:s.size=2;case neg =>
  have L:=yD (isLet_no h2);have hz:((s.size:Int)==2)=false:=bE6;exact oC
 have hz:((s.size:Int)==2)=true:=bE6;have g0:=kMu (s:=s) (k:=0) bF2;have g1:=kMu (s:=s) (k:=1) bF2;have bl:0 < s.size:=bF2;have cv:1 < s.size:=bF2;by_cases h0:kCy s 0=63;case neg =>
  have L:=yD (isLet_no0 h0);have o:¬ ((s[0].toNat:Int)=63):=by rw [<- g0];exact h0
  have D:((s[0].toNat:Int)==63)=false:=by simpa using o
  clear g1;exact oC
 have L:=yD (isLet_yes h2 h0);have o:((s[0].toNat:Int)=63):=by rw [<- g0];exact h0
 have HG:=yD g1;clear g1 g0 h0;go_wp2_with fail;refine yL.mono ?_;rintro e w1 ⟨rfl,hw⟩;obtain rfl:=hw.symm;go_wp2;go_ret;exact ⟨kJ (by rw [L.out,HG.out,show wrap64 (s[1].toNat:Int)=s[1].toNat from (by have:=s[1].toNat_lt;unfold wrap64;omega)]),rfl⟩
def star1 (s:Ad):Bool:=s.toList==[42]
def star2 (s:Ad):Bool:=s.toList==[42,42]
def kGg (n k:Nat) (s:Ad):Bool:=((!kDb s && !star1 s) && !isLet s) && (!star2 s || decide ((k:Int) < (n:Int) - 1))
def patBadI (n k:Nat) (s:Ad):Bool:=((!kDb s && !star1 s) && !isLet s) && (!star2 s || ((k:Int) != (n:Int) - 1))
def kPu (p:kCd):Bool:=zN (λj=>!kGg p.length j (p.getD j Aa)) p.length && decide (p.length<=6)
def patBadI_eq {n k:Nat} (h:k < n) (s:ByteArray):patBadI n k s=kGg n k s:=by
 unfold patBadI kGg;have:((k:Int) != (n:Int) - 1)=decide ((k:Int) < (n:Int) - 1):=by rw [Bool.eq_iff_iff];simp;omega
 rw [this]
def vPat_bad {p:kCd} {k:Nat} (h:k < p.length) (q:kGg p.length k p[k]=true):kPu p=false:=by
 unfold kPu;rw [kDl h sD];rfl
def vPat_next {p:kCd} {k:Nat} (h:k < p.length) (q:kGg p.length k p[k]=false) (a:zN (λj=>!kGg p.length j (p.getD j Aa)) k=true):zN (λj=>!kGg p.length j (p.getD j Aa)) (k + 1)=true :=
  kBp a sD
def vPat_good {p:kCd} {k:Nat} (q:zN (λj=>!kGg p.length j (p.getD j Aa)) k=true) (h:¬ k < p.length) (hk:k<=p.length):kPu p=decide (p.length<=6):=by
 obtain rfl:k=p.length:=bF2;unfold kPu;rw [q];rfl
def kEi {w:Ab} {cp:Aw Av} {p:kCd} (hp:zu.raw w cp p):Az prog 274 #[.agg cp.toArray] w (bQ w (.bool (kPu p))):=by
 obtain ⟨av,rfl,V⟩:=kHv hp;obtain ⟨aa,al,rfl,la⟩:=kD.sl V;clear hp;go_enter func274,ntmps274;go_wp2;generalize R:World.alloc w _=U;have Z:Qb w U:=by rw [<- R];exact bI
 have K0:Qd U w 0 (Qs aa p al):=vS;clear R;replace V:=V.below Z;go_loopw [3] (λi wr=>∃ k:Nat,k<=p.length/\i=.int .i64 k/\Hid (zN (λj=>!kGg p.length j (p.getD j Aa)) k=true)/\Qb U wr) (λi _=>p.length - (intOf i).toNat);case atStart=>exact ⟨0,Nat.zero_le _,rfl,yD rfl,bR⟩
 obtain ⟨k,hk,rfl,Y,o⟩:=hrel;replace K0:=cL o K0;have F:=(tQ Z o);by_cases hlt:k < p.length
 · obtain ⟨ba,X,rfl,c0,hr,A0⟩:=kD.kCk (V.below o) hlt rfl;obtain ⟨he,be⟩:=kD.kAj hr;obtain rfl:c0=_:=by simpa using he
   clear he hr;have hb:=λq=>vPat_bad hlt q;have hx:=λq=>vPat_next hlt q Y.out;generalize p[k]=s at *;have HB:=yD hb;have HX:=yD hx;have H:=yD be;clear hb hx be;have bv:Ae.wrap ((p.length:Int) - 1)=(p.length:Int) - 1:=Ac _ bF2;go_upto_region 5 with fail;have FX:=yD (λ(W:Ab) (hW:Qb wr W)=>cL hW K0);refine kL (λW=>Qb wr W) [Tt,Ff,Tt,Tt,Tt,Tt,Tt,Tt,Tt,Ff,Tt,Tt,Tt,Tt,Tt,Tt,Tt,Tt,Tt,Tt,Tt,Tt,Tt,Tt] bR ?_;intro wS E;all_goals (refine kS ?_;(first | refine wkC (kNb H.out) ?_ | refine kS ?_);refine kS ?_;refine jT λb bh=>?_;cases b <;> try simp only [jS] at bh)
   all_goals ((iterate 3 refine kS ?_);refine jT λb ax=>?_;cases b <;> try simp only [jS] at ax)
   all_goals (refine kS ?_;(first | refine wkC (kNx H.out) ?_ | refine kS ?_);refine kS ?_;refine kS ?_;refine jT λb ab=>?_;cases b <;> try simp only [jS] at ab)
   all_goals (refine kS ?_;refine kS ?_;refine jT λb co=>?_;cases b <;> try simp only [jS] at co)
   all_goals ((iterate 7 refine kS ?_);refine jT λb ag=>?_;cases b <;> try simp only [jS] at ag)
   all_goals (refine kM ?_;have D:=(tQ F E);have ER:=(tQ o E))
   all_goals first
     | (have L:=yD (HB.out (show kGg p.length k s=true by simp only [kGg,star1,star2,decide_not,Aj,Ag,Ak,Al,Ah,Ai,Aq,Ar,Am,Ap,Au,bh,ax,ab,co,ag]));clear HB HX;go_wp2;go_ret;exact ⟨kJ L.out.symm,D⟩)
     | (have L:=yD (HX.out (show kGg p.length k s=false by simp only [kGg,star1,star2,decide_not,Aj,Ag,Ak,Al,Ah,Ai,Aq,Ar,Am,Ap,Au,bh,ax,ab,co,ag]));clear HB HX;refine Qg ?_;exact ⟨k + 1,by omega,by go_num,L,ER⟩)
 have L:=yD (vPat_good Y.out hlt hk);go_wp2;go_ret;exact ⟨kJ (by rw [L.out];simp;try omega),F⟩
def idxOf_ge {α:Type} {p:α->Bool} {x:Aw α} (h:¬ idxOf p x < 0):∃ j:Nat,j < x.length/\idxOf p x=(j:Int):=by
 unfold idxOf at h ⊢;cases hf:x.findIdx? p with
 | none=>rw [hf] at h;exact absurd bF1 h
 | some i=>exact ⟨i,(List.findIdx?_eq_some_iff_getElem.1 hf).1,rfl⟩
def eqS (s t:Ad):Bool:=t.toList==s.toList
def hasS (p:Aw Ad) (s:Ad):Bool:=decide (0<=idxOf (eqS s) p)
def kIs (r:kNm) (s:Ad):Bool:=isLet s && !hasS r.1 s
def kWb (r:kNm):Bool:=(kPu r.1 && kPu r.2) && zN (λj=>!kIs r (r.2.getD j Aa)) r.2.length
section
variable {r:kNm} {k:Nat}
def jCw (h:(kPu r.1 && kPu r.2)=false):kWb r=false:=by unfold kWb;rw [h];rfl
def vRule_bad (h:k < r.2.length) (q:kIs r r.2[k]=true):kWb r=false:=by
 unfold kWb;rw [kDl h sD];simp
def vRule_next (h:k < r.2.length) (q:kIs r r.2[k]=false) (a:zN (λj=>!kIs r (r.2.getD j Aa)) k=true):zN (λj=>!kIs r (r.2.getD j Aa)) (k + 1)=true :=
  kBp a sD
def vRule_good (v:(kPu r.1 && kPu r.2)=true) (q:zN (λj=>!kIs r (r.2.getD j Aa)) k=true) (h:¬ k < r.2.length) (hk:k<=r.2.length):kWb r=true:=by
 obtain rfl:k=r.2.length:=bF2;unfold kWb;rw [q,v];rfl
end
def jFn {w:Ab} {cl:Aw Av} {l:kCd} (hl:zu.raw w cl l) {s:Ad} :
    Az prog 276 #[.agg cl.toArray,.string s] w (bQ w (.bool (hasS l s))):=by
 obtain ⟨E,rfl,a2⟩:=kHv hl
 obtain ⟨al,pl,rfl,ll⟩:=kD.sl a2
 have HL:=yD a2
 clear a2 hl
 go_enter func276,ntmps276
 go_wp2
 generalize R:World.alloc w _=U
 have Z:Qb w U:=by rw [<- R];exact bI
 have K0:Qd U w 0 (Qs al l pl):=vS
 clear R
 go_loopw [5] (λi wr=>∃ k:Nat,k<=l.length/\i=.int .i64 k/\Hid (∀ j,(h:j < k)->(h2:j < l.length)->eqS s l[j]=false)/\Qb U wr) (λi _=>l.length - (intOf i).toNat)
 case atStart=>exact ⟨0,Nat.zero_le _,rfl,yD (λ_ h=>by omega),bR⟩
 obtain ⟨k,hk,rfl,Y,o⟩:=hrel
 have D:=(tQ Z o)
 replace K0:=cL o K0
 by_cases hlt:k < l.length
 · obtain ⟨qb,qo,rfl,ac,qr,ap⟩:=kD.kCk (HL.out.below D) hlt rfl;obtain ⟨he,be⟩:=kD.kAj qr;obtain rfl:ac=_:=by simpa using he
   have O:=λq=>idxOf_hit (p:=eqS s) hlt q Y.out;have H:=λq=>kAv (p:=eqS s) hlt q Y.out;generalize l[k]=x at *;have HD:=yD O;have HX:=yD H;clear O H he qr;cases hv:eqS s x
   · have L:=yD (HX.out hv);have ar:(x.toList==s.toList)=false:=hv;clear hv HD HX;refine Qg ?_;exact ⟨k + 1,by omega,by go_num,L,o⟩
   have L:=yD (HD.out hv);have ar:(x.toList==s.toList)=true:=hv;clear hv HD HX;go_wp2;go_ret;exact ⟨kJ (show _=hasS l s by unfold hasS;rw [L.out];simp),D⟩
 have L:=yD (idxOf_miss hlt Y.out)
 go_wp2
 go_ret
 exact ⟨kJ (show _=hasS l s by unfold hasS;rw [L.out];rfl),D⟩
def kXd {w:Ab} {cr:Aw Av} {r:kNm} (hr:kOw.raw w cr r):Az prog 256 #[.agg cr.toArray] w (bQ w (.bool (kWb r))):=by
 obtain ⟨f6,a3,rfl,V,a9,bl,bi⟩:=jEx hr;obtain ⟨em,d7,rfl,gi,a8,a2,rfl,a4⟩:=kD.sx a9 (kD.sl bi);have H0:=yD V;have H2:=yD bl;have H3:=yD bi;clear hr V a9 bl bi;go_enter func256,ntmps256;go_upto_region 1 with fail;refine ja ?_;intro U Z F _;obtain ⟨K0,K1⟩:=yN F;clear F;go_wp2_with fail;refine (kEi (H0.out.below Z)).mono ?_;rintro e w1 ⟨rfl,N⟩;replace K0:=cL N K0;replace K1:=cL N K1;have E1:=(tQ Z N);clear N Z;cases al:kPu r.1
 · have L:=yD (jCw (r:=r) (by rw [al];rfl));go_wp2;go_ret;exact ⟨kJ L.out.symm,E1⟩
 go_wp2_with fail;refine (kEi (H2.out.below E1)).mono ?_;rintro e w2 ⟨rfl,ag⟩;replace K0:=cL ag K0;replace K1:=cL ag K1;have E2:=(tQ E1 ag);clear ag E1;cases ar:kPu r.2
 · have L:=yD (jCw (r:=r) (by rw [al,ar];rfl));clear al ar;go_wp2;go_ret;exact ⟨kJ L.out.symm,E2⟩
 have X:Hid ((kPu r.1 && kPu r.2)=true):=yD (by rw [al,ar];rfl);clear al ar;go_wp2;go_loopw [3] (λi wr=>∃ k:Nat,k<=r.2.length/\i=.int .i64 k/\Hid (zN (λj=>!kIs r (r.2.getD j Aa)) k=true)/\Qb w2 wr) (λi _=>r.2.length - (intOf i).toNat);case atStart=>exact ⟨0,Nat.zero_le _,rfl,yD rfl,bR⟩
 obtain ⟨k,hk,rfl,Y,o⟩:=hrel;have D:=(tQ E2 o);replace K0:=cL o K0;replace K1:=cL o K1;by_cases hlt:k < r.2.length
 · obtain ⟨qb,qo,rfl,ac,qr,ap⟩:=kD.kCk (H3.out.below D) hlt rfl;obtain ⟨he,be⟩:=kD.kAj qr;obtain rfl:ac=_:=by simpa using he
   have O:=λq=>vRule_bad hlt q;have H:=λq=>vRule_next hlt q Y.out;generalize r.2[k]=s at *;have HD:=yD O;have HX:=yD H;clear O H he qr;go_upto_region 6 with fail;have FX:=yD (λ(W:Ab) (hW:Qb wr W)=>kMt hW K0 K1 ap);refine kK (λW=>Qb wr W) [Tt,Tt,Tt,Tt,Tt,Tt,Ff,Tt,Tt,Tt,Tt,Tt,Tt,Tt,Tt,Tt,Ff,Tt,Tt] bE5 bE5 qW (bR.drew) ?_;intro wS E;all_goals ((iterate 6 refine kS ?_);(first | refine wkC (kNx be) ?_ | refine kS ?_);refine jT λb ax=>?_;cases b <;> try simp only [jS] at ax)
   all_goals ((iterate 8 refine kS ?_);(first | refine zi (jFn (H0.out.below (tQ D E))) (λwS1 E=>?_) | refine kS ?_);refine kS ?_;refine jT λb dr=>?_;cases b <;> try simp only [jS] at dr)
   all_goals (refine kM ?_;have ER:=(tQ o E);have EF:=(tQ D E))
   all_goals first
     | (have L:=yD (HD.out (show kIs r s=true by simp only [kIs,Aj,Ag,Ak,Al,Ah,Ai,Aq,Ar,Am,Ap,Au,ax,dr]));clear HD HX;go_wp2;go_ret;exact ⟨kJ L.out.symm,EF⟩)
     | (have L:=yD (HX.out (show kIs r s=false by simp only [kIs,Aj,Ag,Ak,Al,Ah,Ai,Aq,Ar,Am,Ap,Au,ax,dr]));clear HD HX;refine Qg ?_;exact ⟨k + 1,by omega,by go_num,L,ER⟩)
 have L:=yD (vRule_good X.out Y.out hlt hk);go_wp2;go_ret;exact ⟨kJ L.out.symm,D⟩
end Go.Proofs.YthocbplmdjkifaaGreat

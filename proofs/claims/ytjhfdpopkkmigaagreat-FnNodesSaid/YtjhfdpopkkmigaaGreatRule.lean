/-
  Rules of trust: whether they are valid, which of them allows.
-/
import Derived.Test.YtjhfdpopkkmigaaGreatSoftU
set_option linter.unusedVariables false
set_option linter.defProp false
set_option linter.unusedSimpArgs false
set_option linter.unnecessarySimpa false
set_option maxRecDepth 100000
set_option maxHeartbeats 4000000
open Bool renaming true->Tt,false->Ff
open ByteArray renaming empty->Aa
open Go.IntWalk renaming i64_in->Ab
open _root_ renaming ByteArray->Ac,List->Aw
open Go renaming World->Ad,Value->Av,Calls->Ay
open Go.IntKind renaming i64->Ae
open Bool renaming not_false->Ag,and_false->Ah,false_and->Ai,not_true->Aj,and_true->Ak,true_and->Al,or_false->Am,false_or->Ap,or_true->Aq,true_or->Ar,not_not->Au
namespace Go.Proofs.YtjhfdpopkkmigaaGreat
open Go.RowKit _root_.Go.Proofs.Tryz
def kMl {w0 w:Ad} {p:Nat} (hc:yT w0 w p) {n:Int} (hn:256 < n) (o:n<=16777216) :
    Ay prog 43 #[.pointer (some ⟨p,0,none⟩),.int .i64 n] w λe w'=>∃ x:Int,0<=x/\x < n/\e=.returned (.int .i64 x)/\yT w0 w' p/\Touch (λk=>k=p) w w':=by
 go_enter func43,ntmps43
 obtain ⟨ay,bt⟩:=hc.lt
 have hne:¬ n=0:=bD1
 have H:¬ n < 0:=bD1
 have af:¬ n<=0:=bD1
 have E:¬ n<=256:=bD1
 go_wp2_with fail
 refine (kDv hc).mono ?_
 rintro e w1 ⟨x,ao,U,rfl,G,D⟩
 have bf:=D.size
 have J:=D
 clear hc D
 have hc:=G
 clear G
 go_wp2_with fail
 refine (kDv hc).mono ?_
 rintro e V ⟨y,db,bk,rfl,G,D⟩
 have bg:=D.size
 replace J:=J.trans D
 clear hc D
 have hc:=G
 clear G
 go_wp2_with fail
 refine (kDv hc).mono ?_
 rintro e w3 ⟨z,b1,bj,rfl,G,D⟩
 have bi:=D.size
 replace J:=J.trans D
 clear hc D
 have hc:=G
 clear G
 have cf:Ae.wrap (x * 65536)=x * 65536:=Ab _ bD1
 have bu:Ae.wrap (y * 256)=y * 256:=Ab _ bD1
 have F:Ae.wrap (x * 65536 + y * 256)=x * 65536 + y * 256:=Ab _ bD1
 have I:Ae.wrap (x * 65536 + y * 256 + z)=x * 65536 + y * 256 + z:=Ab _ bD1
 have bc:=Int.emod_nonneg (x * 65536 + y * 256 + z) hne
 have ad:=Int.emod_lt_of_pos (x * 65536 + y * 256 + z) (show 0 < n by omega)
 go_wp2
 go_ret
 exact ⟨_,bc,ad,rfl,hc,J⟩
def kXd {w0 w:World} {p:Nat} (hc:yT w0 w p) {n:Nat} (hn:n<=256) :
    Calls prog 157 #[.pointer (some ⟨p,0,none⟩),.int .i64 n] w λe w'=>∃ a c l,e=.returned (.slice a l.length c)/\l.length=n/\(kD.slice 5 kD.byte).own w' [Qs a l c] l (jU w.heap.size w'.heap.size)/\yT w0 w' p/\Touch (λk=>k=p) w w':=by
 go_enter func157,ntmps157
 obtain ⟨ay,bt⟩:=hc.lt
 go_upto_region 2 with fail
 generalize F:World.alloc w _=w1
 have ag:Qb w w1:=rT
 have bf:w.heap.size + 1<=w1.heap.size:=bB3
 clear F
 obtain ⟨hc,J⟩:=xO
 clear ag
 go_wp2
 go_loopw [5,6] (λv i wr=>∃ (j:Nat) (a:Option Addr) (c:Nat) (l:List UInt8),v=.slice a l.length c/\i=.int .i64 j/\Hid (l.length=j)/\j<=n/\Hid ((kD.slice 5 kD.byte).own wr [Qs a l c] l (jU w.heap.size wr.heap.size))/\w1.heap.size<=wr.heap.size/\yT w0 wr p/\Touch (λk=>k=p) w wr) (λ_ i _=>n - (intOf i).toNat)
 case atStart=>exact ⟨0,_,0,[],rfl,rfl,yD rfl,Nat.zero_le _,yD kD.jr,Nat.le_refl _,hc,J⟩
 clear hc J
 obtain ⟨j,a,c,l,rfl,rfl,HN,I,L,dp,hc,J⟩:=hrel
 have bz:=J.size
 by_cases hlt:j < n
 · replace L:=yD (L.out.wide (T:=jU w.heap.size wr.heap.size) (λ_ h=>h));have a7:(j:Int) < (n:Int):=bD1;go_wp2_with fail;refine (kDv hc).mono ?_;rintro e w4 ⟨x,ao,U,rfl,G,D⟩;have bu:=D.size;obtain ⟨L,J⟩:=xK;clear hc D;have hc:=G;clear G;have hw:IntKind.u8.wrap x=x:=IntWalk.u8_in _ bD1;obtain ⟨m,rfl⟩:=Int.eq_ofNat_of_zero_le ao;have H:(m:Int)=((UInt8.ofNat m).toNat:Int):=by rw [UInt8.toNat_ofNat'];omega
   have O:=yD H;clear H;go_wp2_with (at_builtin;refine kD.zR rfl _ _ 22 rfl (r:=kD.byte) (e:=5) underlying22 kEh rfl bD0 bD0 L.out bR (kPp (x:=UInt8.ofNat m) O.out) bD3 bD3 (λ_ _ h=>h) wB ?_);intro v9 w9 bv aa;have R:=aa.size;have N:=yD (show (l++[UInt8.ofNat m]).length=j + 1 by simp [HN.out]);generalize l++[UInt8.ofNat m]=q at *;obtain ⟨a9,c9,b7,_⟩:=kD.kAx bv.raw;obtain rfl:v9=_:=by simpa using b7
   have b6:=yD (bv.wide (T:=jU w.heap.size w9.heap.size) (λk q=>by rcases q with q | q;exact ⟨q.1,by have:=q.2;omega⟩;exact ⟨by have:=q.1;omega,q.2⟩));have E:=hc.touch aa tK sQ;have o:=J.kBq aa (λk q=>q.1.1);clear bv aa b7 L HN;go_wp2;go_roundw;case rel=>exact ⟨j + 1,a9,c9,q,rfl,by go_num,N,by omega,b6,by omega,E,o⟩
   simp [intOf];omega
 have a7:¬ (j:Int) < (n:Int):=bD1
 go_wp2
 go_ret
 exact ⟨a,c,l,rfl,by have:=HN.out;omega,L.out,hc,J⟩
def kCb {w0 w:Ad} {p:Nat} (hc:yT w0 w p) {x:Int} (h0:0<=x) (h1:x<=256) :
    Ay prog 157 #[.pointer (some ⟨p,0,none⟩),.int .i64 x] w λe w'=>∃ a c l,e=.returned (.slice a l.length c)/\(l.length:Int)=x/\(kD.slice 5 kD.byte).own w' [Qs a l c] l (jU w.heap.size w'.heap.size)/\yT w0 w' p/\Touch (λk=>k=p) w w':=by
 obtain ⟨n,rfl⟩:=Int.eq_ofNat_of_zero_le h0
 refine (kXd hc (n:=n) bD1).mono ?_
 rintro e w1 ⟨a,c,l,rfl,hl,hO,h2,h3⟩
 exact ⟨a,c,l,rfl,by omega,hO,h2,h3⟩
def kZs {w0 w:Ad} {p:Nat} (hc:yT w0 w p) :
    Ay prog 89 #[.pointer (some ⟨p,0,none⟩)] w λe w'=>∃ x:Int,e=.returned (.int .i64 x)/\-1<=x/\x<=2147483648/\yT w0 w' p/\Touch (λk=>k=p) w w':=by
 go_enter func89,ntmps89
 obtain ⟨ay,bt⟩:=hc.lt
 go_wp2_with fail
 refine (zk (n:=10) hc bD0).mono ?_
 rintro e w1 ⟨b,rfl,G,D⟩
 have bf:=D.size
 have J:=D
 clear hc D
 have hc:=G
 clear G
 cases b
 · go_wp2_with fail;refine (zk (n:=4) hc bD0).mono ?_;rintro e V ⟨b2,rfl,G,D⟩;have bg:=D.size;replace J:=J.trans D;clear hc D;have hc:=G;clear G;cases b2
   · go_wp2_with fail;refine (kMl (n:=1000000) hc bD0 bD0).mono ?_;rintro e w3 ⟨x,ao,U,rfl,G,D⟩;have bi:=D.size;replace J:=J.trans D;clear hc D;have hc:=G;clear G;go_wp2_with fail;refine (kMl (n:=2000) hc bD0 bD0).mono ?_;rintro e w4 ⟨y,db,bk,rfl,G,D⟩;have bu:=D.size;replace J:=J.trans D;clear hc D;have hc:=G;clear G;have h0:0<=x * y:=Int.mul_nonneg ao db;have h1:x * y<=1000000 * 2000:=Int.mul_le_mul bD1 bD1 db bD1;have hw:Ae.wrap (x * y)=x * y:=Ab _ bD1;exact eT
   go_wp2_with fail;refine (zy (hc.below (bR.alloc nL _)) (kD.kEf _ [0,1,2147483646] bD0 bD0) bD1 bD0 bD0).mono ?_;rintro e w3 ⟨y,ar,bz,rfl,G,D⟩;replace D:=(Touch.of_below (S:=λk=>k=p) (bR.alloc nL _)).trans D;have bi:=D.size;replace J:=J.trans D;clear hc D;have hc:=G;clear G;have hy:=kD.kHd (lo:=0) (hi:=2147483646) bD0 ar;clear ar;exact eT
 go_wp2_with fail
 refine (zy (hc.below (bR.alloc nL _)) (kD.kEf _ [-1,2147483647,2147483648] bD0 bD0) bD1 bD0 bD0).mono ?_
 rintro e V ⟨y,ar,bz,rfl,G,D⟩
 obtain ⟨D,bg⟩:=CQ
 replace J:=J.trans D
 clear hc D
 have hc:=G
 clear G
 have hy:=kD.kHd (lo:=-1) (hi:=2147483648) bD0 ar
 clear ar
 exact eT
def kWo {w:Ad} {v0 v1 v2:Av} {n k:kr} {b:Aw UInt8} {f s:Int} {S:Nat->Prop} (h0:kW.ji w [v0] n S) (h1:(kD.slice 5 kD.byte).ji w [v1] b S) (h2:kW.ji w [v2] k S) (hf:Qi f) (hs:Qi s):jF.ji w [v0,v1,v2,Qn f,Qn s] (n,b,k,f,s) S :=
  kD.kAn (r:=kW) (q:=.pair (kD.slice 5 kD.byte) (.pair kW (.pair .int .int))) (z:=(n,b,k,f,s)) h0 (kD.kAn (r:=(kD.slice 5 kD.byte)) (q:=.pair kW (.pair .int .int)) (z:=(b,k,f,s)) h1 (kD.kAn (r:=kW) (q:=.pair .int .int) (z:=(k,f,s)) h2 (kD.flat.ji (kD.yJ (cs:=[.int .i64 f]) (kD.jG hf) (kD.jG hs)))))
def yS {w:Ad} {cs:Aw Av} {x:jL} (h:jF.raw w cs x):∃ a0 c0 a1 c1 a2 c2,cs=[.slice a0 x.1.length c0,.slice a1 x.2.1.length c1,.slice a2 x.2.2.1.length c2,.int .i64 x.2.2.2.1,.int .i64 x.2.2.2.2]:=by
 obtain ⟨v0,v1,v2,rfl,ac,Z,ao,ai,ad,av,aq⟩:=jM h;obtain ⟨a0,c0,rfl,_⟩:=kD.sl Z;obtain ⟨a1,c1,rfl,_⟩:=kD.sl ao;obtain ⟨a2,c2,rfl,_⟩:=kD.sl ad;exact ⟨_,_,_,_,_,_,rfl⟩
def data_rng {w:Ad} {cs:Aw Av} {x:jL} (h:jF.raw w cs x):Qi x.2.2.2.1/\Qi x.2.2.2.2:=by
 obtain ⟨v0,v1,v2,rfl,ac,Z,ao,ai,ad,av,aq⟩:=jM h;exact ⟨av,aq⟩
def DrawnD (m:Nat) (w0 w:Ad) (p:Nat) (e:Ending) (w':Ad):Prop:=∃ ds x,e=.returned (.agg ds.toArray)/\jF.own w' ds x (jU w.heap.size w'.heap.size)/\x.2.1.length<=m/\yT w0 w' p/\Touch (λk=>k=p) w w'
def jAq {w:Ad} {c0 c1 c2 c3 c4 v:Av} {x0 y:kr} {x1:Aw UInt8} {x2:kr} {x3 x4:Int} {S T:Nat->Prop} (h:jF.own w [c0,c1,c2,c3,c4] (x0,x1,x2,x3,x4) S) (hv:kW.own w [v] y T) (hd:∀ k,S k->T k->False):jF.own w [v,c1,c2,c3,c4] (y,x1,x2,x3,x4) (λk=>S k\/T k) :=
  kD.set_left (r:=kW) (q:=.pair (kD.slice 5 kD.byte) (.pair kW (.pair .int .int))) (c:=[c0]) (c':=[v]) (d:=[c1,c2,c3,c4]) h rfl hv hd
def kTj {w:Ad} {c0 c1 c2 c3 c4 v:Av} {x0:kr} {x1 y:Aw UInt8} {x2:kr} {x3 x4:Int} {S T:Nat->Prop} (h:jF.own w [c0,c1,c2,c3,c4] (x0,x1,x2,x3,x4) S) (hv:(kD.slice 5 kD.byte).own w [v] y T) (hd:∀ k,S k->T k->False):jF.own w [c0,v,c2,c3,c4] (x0,y,x2,x3,x4) (λk=>S k\/T k) :=
  kD.set_right (r:=kW) (q:=.pair (kD.slice 5 kD.byte) (.pair kW (.pair .int .int))) (c:=[c0]) (d:=[c1,c2,c3,c4]) (d':=[v,c2,c3,c4]) h rfl (λB hB hq=>kD.set_left (r:=(kD.slice 5 kD.byte)) (q:=.pair kW (.pair .int .int)) (c:=[c1]) (c':=[v]) (d:=[c2,c3,c4]) hq rfl hv (λk a b=>hd k (hB k a) b)) hd
def data_setKey {w:Ad} {c0 c1 c2 c3 c4 v:Av} {x0:kr} {x1:Aw UInt8} {x2 y:kr} {x3 x4:Int} {S T:Nat->Prop} (h:jF.own w [c0,c1,c2,c3,c4] (x0,x1,x2,x3,x4) S) (hv:kW.own w [v] y T) (hd:∀ k,S k->T k->False):jF.own w [c0,c1,v,c3,c4] (x0,x1,y,x3,x4) (λk=>S k\/T k) :=
  kD.set_right (r:=kW) (q:=.pair (kD.slice 5 kD.byte) (.pair kW (.pair .int .int))) (c:=[c0]) (d:=[c1,c2,c3,c4]) (d':=[c1,v,c3,c4]) h rfl (λB hB hq=>kD.set_right (r:=(kD.slice 5 kD.byte)) (q:=.pair kW (.pair .int .int)) (c:=[c1]) (d:=[c2,c3,c4]) (d':=[v,c3,c4]) hq rfl (λB2 E bu=>kD.set_left (r:=kW) (q:=.pair .int .int) (c:=[c2]) (c':=[v]) (d:=[c3,c4]) bu rfl hv (λk a b=>hd k (hB k (E k a)) b)) (λk a b=>hd k (hB k a) b)) hd
def jAp {w:Ad} {c0 c1 c2 c3 c4:Av} {x0:kr} {x1:Aw UInt8} {x2:kr} {x3 x4 v:Int} {S:Nat->Prop} (h:jF.own w [c0,c1,c2,c3,c4] (x0,x1,x2,x3,x4) S) (hv:Qi v):jF.own w [c0,c1,c2,Qn v,c4] (x0,x1,x2,v,x4) S:=⟨RData_set3 v hv h.1,h.2⟩
def kSd {w:Ad} {c0 c1 c2 c3 c4:Av} {x0:kr} {x1:Aw UInt8} {x2:kr} {x3 x4 v:Int} {S:Nat->Prop} (h:jF.own w [c0,c1,c2,c3,c4] (x0,x1,x2,x3,x4) S) (hv:Qi v):jF.own w [c0,c1,c2,c3,Qn v] (x0,x1,x2,x3,v) S:=⟨RData_set4 v hv h.1,h.2⟩
def kGg {w:Ad} {s:Int} (hs:Qi s) {cx:Aw Av} {x:jL} (hx:jF.rd w cx x) (b2:x.2.1.length<=2000000) :
    Ay prog 158 #[.int .i64 s,.agg cx.toArray] w λe w'=>∃ sg ds,e=.returned (.agg ds.toArray)/\jF.own w' ds (x.1,x.2.1,x.2.2.1,x.2.2.2.1,sg) (jU w.heap.size w'.heap.size)/\(0<=sg/\sg < 2147483647)/\Qb w w':=by
 obtain ⟨x0,x1,x2,x3,x4⟩:=x
 have HX:=yD hx
 have a5:=yD b2
 have ah:=signed_len (x0,x1,x2,x3,x4)
 simp only at ah b2
 obtain ⟨a4,ei,bt,rfl,ac,Z,ao,ai,ad,av,aq⟩:=jM hx.1
 obtain ⟨cl,bc,rfl,bv⟩:=kD.sl Z
 obtain ⟨b3,bz,rfl,bm⟩:=kD.sl ao
 obtain ⟨ch,be,rfl,bw⟩:=kD.sl ad
 clear hx ac Z ao ai ad av aq
 go_enter func158,ntmps158
 go_upto_region 1 with fail
 generalize F:World.alloc (World.alloc w _) _=w1
 have EE:Qb w w1:=by rw [<- F];exact bG
 have BX:Qr w1 w.heap.size #[Qs cl x0 bc,Qs b3 x1 bz,Qs ch x2 be,Qn x3,Qn x4] 38:=sN
 have BR:Qr w1 (w.heap.size + 1) #[.slice none 0 0,.slice none 0 0,.slice none 0 0,Qn 0,Qn 0] 38:=by rw [<- F];exact kH bD2
 have bf:w.heap.size + 2<=w1.heap.size:=bB3
 clear F
 obtain ⟨ae,af,b7,b4,b6⟩:=yI BX
 go_wp2_with fail
 refine (kAu (HX.out.below EE)).mono ?_
 rintro e V ⟨cs,rfl,O,hb⟩
 have bg:=hb.size
 replace BX:=kC BX hb
 replace BR:=kC BR hb
 replace EE:=(tQ EE hb)
 clear ae af b7 b4 b6
 clear hb
 obtain ⟨bp,bl,bq,rfl,bd,a9,a7,bb,a8,bj,bk⟩:=jM O.raw
 obtain ⟨az,a1,rfl,bo⟩:=kD.sl a9
 obtain ⟨a2,ay,rfl,bn⟩:=kD.sl a7
 obtain ⟨aw,ax,rfl,bx⟩:=kD.sl a8
 clear bd a9 a7 bb a8 bj bk
 have L:=yD (O.wide (T:=λj=>w.heap.size + 2<=j/\j < V.heap.size) rH)
 clear O
 go_upto_region 2 with fail
 generalize F:World.alloc V _=w3
 have aa:Qb V w3:=rT
 have Y:Qr w3 V.heap.size #[Qs az x0 a1,Qs a2 x1 ay,Qs aw x2 ax,Qn x3,Qn x4] 38:=vD
 have bi:V.heap.size + 1<=w3.heap.size:=bB3
 clear F
 replace BX:=kC BX aa
 replace BR:=kC BR aa
 replace L:=yD (L.out.below aa)
 replace EE:=(tQ EE aa)
 clear aa
 obtain ⟨ae,af,b7,b4,b6⟩:=yI BX
 go_wp2_with fail
 refine (kLx (HX.out.below EE) a5.out).mono ?_
 rintro e w4 ⟨vg,rfl,OG,hb⟩
 have bu:=hb.size
 replace BX:=kC BX hb
 obtain ⟨BR,Y,L,EE⟩:=AZ
 clear ae af b7 b4 b6
 clear hb
 obtain ⟨ag,ng,cg,a3,ba⟩:=OG.parts
 obtain rfl:=a3
 have RG:=yD ((OG.own wM).rd)
 clear OG
 obtain ⟨H,o,N,I,W⟩:=yI Y
 obtain ⟨aj,am,X,an,ap⟩:=kBh Y
 go_wp2_with fail
 refine (kPv hs RG.out bD1).mono ?_
 rintro e w5 ⟨rfl,hb⟩
 have br:=hb.size
 replace BX:=kC BX hb
 obtain ⟨BR,Y,L,EE⟩:=AZ
 clear H o N I W aj am X an ap
 clear hb
 have a6:=kWn ([s]++signed (x0,x1,x2,x3,x4)++[s])
 have bh:0<=macOf s (signed (x0,x1,x2,x3,x4))/\macOf s (signed (x0,x1,x2,x3,x4)) < 2147483647:=a6
 generalize macOf s (signed (x0,x1,x2,x3,x4))=sg at *
 clear a6 ah RG ba a5 b2
 obtain ⟨H,o,N,I,W⟩:=yI Y
 obtain ⟨aj,am,X,an,ap⟩:=kBh Y
 go_upto_region 3 with fail
 clear H o N I W aj am X an ap
 generalize F:World.setCell w5 _ _=w6
 have E:Touch (λk=>k=V.heap.size) w5 w6:=vR
 replace Y:Qr w6 V.heap.size #[Qs az x0 a1,Qs a2 x1 ay,Qs aw x2 ax,Qn x3,Qn sg] 38:=by rw [<- F];exact kF Y 4
 have da:=E.size
 clear F
 replace BX:=E.kC BX bD1
 replace BR:=E.kC BR bD1
 replace L:=yD (L.out.touch E pX)
 replace EE:=EE.trans (E.below EE.size wW)
 clear E
 replace L:=yD (kSd L.out (v:=sg) bD1)
 obtain ⟨H,o,N,I,W⟩:=yI Y
 obtain ⟨ar,au,R,G,ab⟩:=yI BR
 obtain ⟨al,ak,D,J,U⟩:=kBh BR
 go_wp2
 refine bodyPost_ret (v:=.agg #[Qs az x0 a1,Qs a2 x1 ay,Qs aw x2 ax,Qn x3,Qn sg]) (by simp [results,results158,go_sem,ar,al,au,ak,R,D,G,J,ab,U]) rfl ⟨sg,[.slice az x0.length a1,.slice a2 x1.length ay,.slice aw x2.length ax,.int .i64 x3,.int .i64 sg],rfl,?_,bh,?_⟩
 · exact (L.out.touch sT5 rQ).wide fG
 exact EE.trans (Touch.below sT5 EE.size wW)
def kUp {w0 w:Ad} {p:Nat} (hc:yT w0 w p) :
    Ay prog 159 #[.pointer (some ⟨p,0,none⟩)] w λe w'=>∃ s:Int,e=.returned (.int .i64 s)/\100<=s/\s<=104/\yT w0 w' p/\Touch (λk=>k=p) w w':=by
 go_enter func159,ntmps159
 obtain ⟨ay,bt⟩:=hc.lt
 go_wp2_with fail
 refine (ku (n:=5) hc bD0).mono ?_
 rintro e w1 ⟨x,ao,U,a1,rfl,G,D⟩
 have bf:=D.size
 have J:=D
 clear hc D
 have hc:=G
 clear G
 replace U:=U bD0
 have hw:Ae.wrap (100 + x)=100 + x:=Ab _ bD1
 exact eT
def isLet (s:Ac):Bool:=decide (s.size=2) && (decide (kCg s 0=63) && inR (kCg s 1) 97 122)
def isLet_no {s:ByteArray} (h:¬ s.size=2):isLet s=false:=by unfold isLet;rw [decide_eq_false h];rfl
def isLet_no0 {s:ByteArray} (h:¬ kCg s 0=63):isLet s=false:=by unfold isLet;rw [decide_eq_false h];simp
def isLet_yes {s:ByteArray} (h:s.size=2) (h0:kCg s 0=63):isLet s=inR (kCg s 1) 97 122:=by unfold isLet;rw [decide_eq_true h,decide_eq_true h0];rfl
def kKl {w:Ad} {s:Ac} (hs:s.size<=maxLen):Ay prog 230 #[.string s] w λe w'=>e=.returned (.bool (isLet s))/\w'=w:=by
 go_enter func230,ntmps230;by_cases h2:s.size=2;case neg =>
  have U:=yD (isLet_no h2);have hz:((s.size:Int)==2)=false:=bC6;exact lX
 have hz:((s.size:Int)==2)=true:=bC6;have g0:=kJg (s:=s) (k:=0) bD1;have g1:=kJg (s:=s) (k:=1) bD1;have W:=kNw s 1;have bp:0 < s.size:=bD1;have cz:1 < s.size:=bD1;by_cases h0:kCg s 0=63;case neg =>
  have U:=yD (isLet_no0 h0);have o:¬ ((s[0].toNat:Int)=63):=by rw [<- g0];exact h0
  have D:((s[0].toNat:Int)==63)=false:=bC0;clear g1 W;exact lX
 have U:=yD (isLet_yes h2 h0);have o:((s[0].toNat:Int)=63):=by rw [<- g0];exact h0
 have D:((s[0].toNat:Int)==63)=true:=bC0;have HG:=yD g1;clear g1 g0 h0;go_wp2_with fail;refine jw.mono ?_;rintro e w1 ⟨rfl,hw⟩;obtain rfl:=hw.symm;go_wp2;go_ret;exact ⟨kK (by rw [U.out,HG.out,show wrap64 (s[1].toNat:Int)=s[1].toNat from (by have:=s[1].toNat_lt;unfold wrap64;omega)]),rfl⟩
def star1 (s:Ac):Bool:=s.toList==[42]
def star2 (s:Ac):Bool:=s.toList==[42,42]
def kEn (n k:Nat) (s:Ac):Bool:=((!kCh s && !star1 s) && !isLet s) && (!star2 s || decide ((k:Int) < (n:Int) - 1))
def patBadI (n k:Nat) (s:Ac):Bool:=((!kCh s && !star1 s) && !isLet s) && (!star2 s || ((k:Int) != (n:Int) - 1))
def kLw (p:kBn):Bool:=ym (λj=>!kEn p.length j (p.getD j Aa)) p.length && decide (p.length<=6)
def patBadI_eq {n k:Nat} (h:k < n) (s:ByteArray):patBadI n k s=kEn n k s:=by
 unfold patBadI kEn;have:((k:Int) != (n:Int) - 1)=decide ((k:Int) < (n:Int) - 1):=by rw [Bool.eq_iff_iff];simp;omega
 rw [this]
def vPat_bad {p:kBn} {k:Nat} (h:k < p.length) (q:kEn p.length k p[k]=true):kLw p=false:=by
 unfold kLw;rw [kCu h qW];rfl
def vPat_next {p:kBn} {k:Nat} (h:k < p.length) (q:kEn p.length k p[k]=false) (a:ym (λj=>!kEn p.length j (p.getD j Aa)) k=true):ym (λj=>!kEn p.length j (p.getD j Aa)) (k + 1)=true :=
  kAs a qW
def vPat_good {p:kBn} {k:Nat} (q:ym (λj=>!kEn p.length j (p.getD j Aa)) k=true) (h:¬ k < p.length) (hk:k<=p.length):kLw p=decide (p.length<=6):=by
 obtain rfl:k=p.length:=bD1;unfold kLw;rw [q];rfl
def kDg {w:Ad} {cp:Aw Av} {p:kBn} (hp:zP.raw w cp p):Ay prog 229 #[.agg cp.toArray] w (bQ w (.bool (kLw p))):=by
 obtain ⟨av,rfl,G⟩:=kFy hp;obtain ⟨aa,am,rfl,la⟩:=kD.sl G;clear hp;go_enter func229,ntmps229;go_wp2;generalize J:World.alloc w _=N;have R:Qb w N:=by rw [<- J];exact bG
 have K0:Qd N w 0 (.slice aa p.length am):=tT;clear J;replace G:=G.below R;go_loopw [3] (λi wr=>∃ k:Nat,k<=p.length/\i=.int .i64 k/\Hid (ym (λj=>!kEn p.length j (p.getD j Aa)) k=true)/\Qb N wr) (λi _=>p.length - (intOf i).toNat);case atStart=>exact ⟨0,Nat.zero_le _,rfl,yD rfl,bR⟩
 obtain ⟨k,hk,rfl,HN,o⟩:=hrel;replace K0:=cL o K0;have D:=(tQ R o);by_cases hlt:k < p.length
 · obtain ⟨ba,H,rfl,c0,hr,A0⟩:=kD.kCa (G.below o) hlt rfl;obtain ⟨he,az⟩:=kD.zi hr;obtain rfl:c0=_:=by simpa using he
   clear he hr;have hb:=λq=>vPat_bad hlt q;have hx:=λq=>vPat_next hlt q HN.out;have I:=patBadI_eq hlt p[k];generalize p[k]=s at *;have HB:=yD hb;have HX:=yD hx;have ec:=yD az;have HI:=yD I;clear hb hx az I;have cm:Ae.wrap ((p.length:Int) - 1)=(p.length:Int) - 1:=Ab _ bD1;go_upto_region 5 with fail;have FX:=yD (λ(W:Ad) (hW:Qb wr W)=>cL hW K0);refine ky (λW=>Qb wr W) [Tt,Ff,Tt,Tt,Tt,Tt,Tt,Tt,Tt,Ff,Tt,Tt,Tt,Tt,Tt,Tt,Tt,Tt,Tt,Tt,Tt,Tt,Tt,Tt] bR ?_;intro wS E;all_goals refine kX ?_
   all_goals first | refine wkC (kJn ec.out) ?_ | refine kX ?_
   all_goals refine kX ?_
   all_goals (refine jd λb a1=>?_;cases b <;> try simp only [jc] at a1)
   iterate 3
    all_goals refine kX ?_
   all_goals (refine jd λb X=>?_;cases b <;> try simp only [jc] at X)
   all_goals refine kX ?_
   all_goals first | refine wkC (kKl ec.out) ?_ | refine kX ?_
   all_goals refine kX ?_
   all_goals refine kX ?_
   all_goals (refine jd λb ab=>?_;cases b <;> try simp only [jc] at ab)
   all_goals refine kX ?_
   all_goals refine kX ?_
   all_goals (refine jd λb a3=>?_;cases b <;> try simp only [jc] at a3)
   iterate 7
    all_goals refine kX ?_
   all_goals (refine jd λb V=>?_;cases b <;> try simp only [jc] at V)
   all_goals refine kR ?_
   all_goals have F:=(tQ D E)
   all_goals have ER:=(tQ o E)
   all_goals first
     | (have U:=yD (HB.out (show kEn p.length k s=true by simp only [kEn,star1,star2,decide_not,Aj,Ag,Ak,Al,Ah,Ai,Aq,Ar,Am,Ap,Au,a1,X,ab,a3,V]));clear HB HX;go_wp2;go_ret;exact ⟨kK U.out.symm,F⟩)
     | (have U:=yD (HX.out (show kEn p.length k s=false by simp only [kEn,star1,star2,decide_not,Aj,Ag,Ak,Al,Ah,Ai,Aq,Ar,Am,Ap,Au,a1,X,ab,a3,V]));clear HB HX;go_wp2;go_roundw;(case rel=>exact ⟨k + 1,by omega,by go_num,U,ER⟩);(case measure=>simp [intOf];omega))
 have U:=yD (vPat_good HN.out hlt hk);go_wp2;go_ret;exact ⟨kK (by rw [U.out];simp;try omega),D⟩
def idxOf_ge {α:Type} {p:α->Bool} {x:Aw α} (h:¬ idxOf p x < 0):∃ j:Nat,j < x.length/\idxOf p x=(j:Int):=by
 unfold idxOf at h ⊢;cases hf:x.findIdx? p with
 | none=>rw [hf] at h;exact absurd bD0 h
 | some i=>exact ⟨i,(List.findIdx?_eq_some_iff_getElem.1 hf).1,rfl⟩
def eqS (s t:Ac):Bool:=t.toList==s.toList
def hasS (p:Aw Ac) (s:Ac):Bool:=decide (0<=idxOf (eqS s) p)
def kGk (r:kJy) (s:Ac):Bool:=isLet s && !hasS r.1 s
def kRd (r:kJy):Bool:=(kLw r.1 && kLw r.2) && ym (λj=>!kGk r (r.2.getD j Aa)) r.2.length
section
variable {r:kJy} {k:Nat}
def kXs (h:(kLw r.1 && kLw r.2)=false):kRd r=false:=by unfold kRd;rw [h];rfl
def vRule_bad (h:k < r.2.length) (q:kGk r r.2[k]=true):kRd r=false:=by
 unfold kRd;rw [kCu h qW];simp
def vRule_next (h:k < r.2.length) (q:kGk r r.2[k]=false) (a:ym (λj=>!kGk r (r.2.getD j Aa)) k=true):ym (λj=>!kGk r (r.2.getD j Aa)) (k + 1)=true :=
  kAs a qW
def vRule_good (v:(kLw r.1 && kLw r.2)=true) (q:ym (λj=>!kGk r (r.2.getD j Aa)) k=true) (h:¬ k < r.2.length) (hk:k<=r.2.length):kRd r=true:=by
 obtain rfl:k=r.2.length:=bD1;unfold kRd;rw [q,v];rfl
end
def jAa {w:Ad} {cl:Aw Av} {l:kBn} (hl:zP.raw w cl l) {s:Ac} :
    Ay prog 231 #[.agg cl.toArray,.string s] w (bQ w (.bool (hasS l s))):=by
 obtain ⟨D,rfl,a8⟩:=kFy hl
 obtain ⟨al,pl,rfl,ll⟩:=kD.sl a8
 have HL:=yD a8
 clear a8 hl
 go_enter func231,ntmps231
 go_wp2
 generalize J:World.alloc w _=N
 have R:Qb w N:=by rw [<- J];exact bG
 have K0:Qd N w 0 (.slice al l.length pl):=tT
 clear J
 go_loopw [5] (λi wr=>∃ k:Nat,k<=l.length/\i=.int .i64 k/\Hid (∀ j,(h:j < k)->(h2:j < l.length)->eqS s l[j]=false)/\Qb N wr) (λi _=>l.length - (intOf i).toNat)
 case atStart=>exact ⟨0,Nat.zero_le _,rfl,yD (λ_ h=>by omega),bR⟩
 obtain ⟨k,hk,rfl,HN,o⟩:=hrel
 have F:=(tQ R o)
 replace K0:=cL o K0
 by_cases hlt:k < l.length
 · obtain ⟨qb,qo,rfl,ae,qr,ap⟩:=kD.kCa (HL.out.below F) hlt rfl;obtain ⟨he,az⟩:=kD.zi qr;obtain rfl:ae=_:=by simpa using he
   have au:=λq=>idxOf_hit (p:=eqS s) hlt q HN.out;have Z:=λq=>kBd (p:=eqS s) hlt q HN.out;generalize l[k]=x at *;have HD:=yD au;have HX:=yD Z;clear au Z he qr;cases hv:eqS s x
   · have U:=yD (HX.out hv);have a6:(x.toList==s.toList)=false:=hv;clear hv HD HX;go_wp2;go_roundw;case rel=>exact ⟨k + 1,by omega,by go_num,U,o⟩
     simp [intOf];omega
   have U:=yD (HD.out hv);have a6:(x.toList==s.toList)=true:=hv;clear hv HD HX;go_wp2;go_ret;exact ⟨kK (show _=hasS l s by unfold hasS;rw [U.out];simp),F⟩
 have U:=yD (idxOf_miss hlt HN.out)
 go_wp2
 go_ret
 exact ⟨kK (show _=hasS l s by unfold hasS;rw [U.out];rfl),F⟩
def kSj {w:Ad} {cr:Aw Av} {r:kJy} (hr:kLc.raw w cr r):Ay prog 221 #[.agg cr.toArray] w (bQ w (.bool (kRd r))):=by
 obtain ⟨ch,a1,rfl,G,aq,ba,a3⟩:=kZh hr;obtain ⟨bp,bi,rfl,co⟩:=kD.sl aq;obtain ⟨e6,al,rfl,a2⟩:=kD.sl a3;have H0:=yD G;have H2:=yD ba;have H1:=yD aq;have H3:=yD a3;clear hr G aq ba a3;go_enter func221,ntmps221;go_upto_region 1 with fail;generalize J:World.alloc w _=N;have R:Qb w N:=by rw [<- J];exact bG
 have K0:Qd N w 0 (.slice bp r.1.length bi):=tT;have K1:Qd N w 1 (.slice e6 r.2.length al):=tT;clear J;go_wp2_with fail;refine (kDg (H0.out.below R)).mono ?_;rintro e w1 ⟨rfl,O⟩;replace K0:=cL O K0;replace K1:=cL O K1;have E1:=(tQ R O);clear O R;cases aj:kLw r.1
 · have U:=yD (kXs (r:=r) (by rw [aj];rfl));go_wp2;go_ret;exact ⟨kK U.out.symm,E1⟩
 go_wp2_with fail;refine (kDg (H2.out.below E1)).mono ?_;rintro e V ⟨rfl,ab⟩;replace K0:=cL ab K0;replace K1:=cL ab K1;have E2:=(tQ E1 ab);clear ab E1;cases a6:kLw r.2
 · have U:=yD (kXs (r:=r) (by rw [aj,a6];rfl));clear aj a6;go_wp2;go_ret;exact ⟨kK U.out.symm,E2⟩
 have Y:Hid ((kLw r.1 && kLw r.2)=true):=yD (by rw [aj,a6];rfl);clear aj a6;go_wp2;go_loopw [3] (λi wr=>∃ k:Nat,k<=r.2.length/\i=.int .i64 k/\Hid (ym (λj=>!kGk r (r.2.getD j Aa)) k=true)/\Qb V wr) (λi _=>r.2.length - (intOf i).toNat);case atStart=>exact ⟨0,Nat.zero_le _,rfl,yD rfl,bR⟩
 obtain ⟨k,hk,rfl,HN,o⟩:=hrel;have F:=(tQ E2 o);replace K0:=cL o K0;replace K1:=cL o K1;by_cases hlt:k < r.2.length
 · obtain ⟨qb,qo,rfl,ae,qr,ap⟩:=kD.kCa (H3.out.below F) hlt rfl;obtain ⟨he,az⟩:=kD.zi qr;obtain rfl:ae=_:=by simpa using he
   have au:=λq=>vRule_bad hlt q;have Z:=λq=>vRule_next hlt q HN.out;generalize r.2[k]=s at *;have HD:=yD au;have HX:=yD Z;clear au Z he qr;go_upto_region 6 with fail;have FX:=yD (λ(W:Ad) (hW:Qb wr W)=>kKb hW K0 K1 ap);refine kM (λW=>Qb wr W) [Tt,Tt,Tt,Tt,Tt,Tt,Ff,Tt,Tt,Tt,Tt,Tt,Tt,Tt,Tt,Tt,Ff,Tt,Tt] bC5 bC5 pY (bR.drew) ?_;intro wS E;iterate 6
    all_goals refine kX ?_
   all_goals first | refine wkC (kKl az) ?_ | refine kX ?_
   all_goals (refine jd λb X=>?_;cases b <;> try simp only [jc] at X)
   iterate 8
    all_goals refine kX ?_
   all_goals first | refine wkB (jAa (H0.out.below (tQ F E))) (λwS1 E=>?_) | refine kX ?_
   all_goals refine kX ?_
   all_goals (refine jd λb D=>?_;cases b <;> try simp only [jc] at D)
   all_goals refine kR ?_
   all_goals have ER:=(tQ o E)
   all_goals have EF:=(tQ F E)
   all_goals first
     | (have U:=yD (HD.out (show kGk r s=true by simp only [kGk,Aj,Ag,Ak,Al,Ah,Ai,Aq,Ar,Am,Ap,Au,X,D]));clear HD HX;go_wp2;go_ret;exact ⟨kK U.out.symm,EF⟩)
     | (have U:=yD (HX.out (show kGk r s=false by simp only [kGk,Aj,Ag,Ak,Al,Ah,Ai,Aq,Ar,Am,Ap,Au,X,D]));clear HD HX;go_wp2;go_roundw;(case rel=>exact ⟨k + 1,by omega,by go_num,U,ER⟩);(case measure=>simp [intOf];omega))
 have U:=yD (vRule_good Y.out HN.out hlt hk);go_wp2;go_ret;exact ⟨kK U.out.symm,F⟩
end Go.Proofs.YtjhfdpopkkmigaaGreat

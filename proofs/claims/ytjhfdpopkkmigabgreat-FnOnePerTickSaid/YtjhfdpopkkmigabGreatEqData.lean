/-
  Interests, data and what goes out: compared.
-/
import Derived.Test.YtjhfdpopkkmigabGreatCopyD
set_option linter.unusedVariables false
set_option linter.defProp false
set_option linter.unusedSimpArgs false
set_option linter.unnecessarySimpa false
set_option maxRecDepth 100000
set_option maxHeartbeats 4000000
open Bool renaming true->Tt,false->Ff
open ByteArray renaming empty->Aa
open Go renaming World->Ab,Value->Av,Calls->Az
open Go.IntWalk renaming i64_in->Ac
open _root_ renaming ByteArray->Ad,List->Aw
open Go.IntKind renaming i64->Ae
open Bool renaming not_false->Ag,and_false->Ah,false_and->Ai,not_true->Aj,and_true->Ak,true_and->Al,or_false->Am,false_or->Ap,or_true->Aq,true_or->Ar,not_not->Au
open Go.Region renaming wanted->Ay
namespace Go.Proofs.YtjhfdpopkkmigabGreat
open Go _root_.Go.Proofs.Tryz
section
variable {P:Program} {l:Aw Oper} {S:Ab->Prop} {Q:Exit->Act->Ab->Prop} {fuel:Nat} {listed:Aw Bool} {a:Act} {w:Ab}
def kVq {i j m:Nat} {V J E:Oper} (hi:l[i]?=some V) (hj:l[j]?=some J) (hm:l[m]?=some E) (hr:(Region.ready .any l.toArray listed.toArray==[i,j,m])=true) (D:Ay V (yielded l.toArray a.tmps)=true) (o:Ay J (yielded l.toArray a.tmps)=true) (F:Ay E (yielded l.toArray a.tmps)=true)
    (h1:∀ K:Act->Ab->Prop,(∀ a' w',S w'->tree P l S Q fuel (listed.set i true) a' w'->K a' w')->V.wp P a w K Q)
    (h2:∀ K:Act->Ab->Prop,(∀ a' w',S w'->tree P l S Q fuel (listed.set j true) a' w'->K a' w')->J.wp P a w K Q)
    (h3:∀ K:Act->Ab->Prop,(∀ a' w',S w'->tree P l S Q fuel (listed.set m true) a' w'->K a' w')->E.wp P a w K Q):tree P l S Q (fuel + 1) listed a w:=by
 unfold tree
 refine wpAnyH_all bF2 bH4 ?_
 intro k hk
 rcases List.mem_cons.1 hk with rfl | hk
 · exact kNb hi D h1
 rcases List.mem_cons.1 hk with rfl | hk
 · exact kNb hj o h2
 obtain rfl:k=m:=bE2
 exact kNb hm F h3
def kHe (h:∀ (T:Nat->Aw Bool->Act->Ab->Prop) (A:Act),T=tree P l S Q->A=a->T fuel listed A w):tree P l S Q fuel listed a w:=h _ _ rfl rfl
end
end Go.Proofs.YtjhfdpopkkmigabGreat
namespace Go.Proofs.YtjhfdpopkkmigabGreat
open Go.RowKit _root_.Go.Proofs.Tryz
def kOh {w0 w:Ab} {p:Nat} (hc:yS w0 w p) {n:Int} (hn:256 < n) (a6:n<=16777216) :
    Az prog 18 #[.pointer (some ⟨p,0,none⟩),.int .i64 n] w λe w'=>∃ x:Int,0<=x/\x < n/\e=.returned (.int .i64 x)/\yS w0 w' p/\Touch (λk=>k=p) w w':=by
 go_enter func18,ntmps18
 obtain ⟨bd,bw⟩:=hc.lt
 have hne:¬ n=0:=bH3
 have I:¬ n < 0:=bH3
 have ae:¬ n<=0:=bH3
 have E:¬ n<=256:=bH3
 go_wp2_with fail
 refine (kEo hc).mono ?_
 rintro e w1 ⟨x,au,o,rfl,F,D⟩
 have bo:=D.size
 have J:=D
 clear hc D
 have hc:=F
 clear F
 go_wp2_with fail
 refine (kEo hc).mono ?_
 rintro e V ⟨y,ch,aa,rfl,F,D⟩
 have bv:=D.size
 replace J:=J.trans D
 clear hc D
 have hc:=F
 clear F
 go_wp2_with fail
 refine (kEo hc).mono ?_
 rintro e w3 ⟨z,bi,bf,rfl,F,D⟩
 have bt:=D.size
 replace J:=J.trans D
 clear hc D
 have hc:=F
 clear F
 have L:Ae.wrap (x * 65536)=x * 65536:=Ac _ bH3
 have a9:Ae.wrap (y * 256)=y * 256:=Ac _ bH3
 have G:Ae.wrap (x * 65536 + y * 256)=x * 65536 + y * 256:=Ac _ bH3
 have H:Ae.wrap (x * 65536 + y * 256 + z)=x * 65536 + y * 256 + z:=Ac _ bH3
 have bc:=Int.emod_nonneg (x * 65536 + y * 256 + z) hne
 have ax:=Int.emod_lt_of_pos (x * 65536 + y * 256 + z) (show 0 < n by omega)
 go_wp2
 go_ret
 exact ⟨_,bc,ax,rfl,hc,J⟩
def kYd {w0 w:World} {p:Nat} (hc:yS w0 w p) {n:Nat} (hn:n<=256) :
    Calls prog 179 #[.pointer (some ⟨p,0,none⟩),.int .i64 n] w λe w'=>∃ a c l,e=.returned (.slice a l.length c)/\l.length=n/\(kD.slice 5 kD.byte).own w' [Qs a l c] l (jb w.heap.size w'.heap.size)/\yS w0 w' p/\Touch (λk=>k=p) w w':=by
 go_enter func179,ntmps179
 obtain ⟨bd,bw⟩:=hc.lt
 go_upto_region 2 with fail
 generalize G:World.alloc w _=w1
 have U:Qb w w1:=tK
 have bo:w.heap.size + 1<=w1.heap.size:=bF4
 clear G
 obtain ⟨hc,J⟩:=xQ
 clear U
 go_wp2
 go_loopw [5,6] (λv i wr=>∃ (j:Nat) (a:Option Addr) (c:Nat) (l:List UInt8),v=.slice a l.length c/\i=.int .i64 j/\Hid (l.length=j)/\j<=n/\Hid ((kD.slice 5 kD.byte).own wr [Qs a l c] l (jb w.heap.size wr.heap.size))/\w1.heap.size<=wr.heap.size/\yS w0 wr p/\Touch (λk=>k=p) w wr) (λ_ i _=>n - (intOf i).toNat)
 case atStart=>exact ⟨0,_,0,[],rfl,rfl,yD rfl,Nat.zero_le _,yD kD.jm,Nat.le_refl _,hc,J⟩
 clear hc J
 obtain ⟨j,a,c,l,rfl,rfl,HN,hj,I,da,hc,J⟩:=hrel
 have bn:=J.size
 by_cases hlt:j < n
 · replace I:=yD (I.out.wide (T:=jb w.heap.size wr.heap.size) (λ_ h=>h));have be:(j:Int) < (n:Int):=bH3;go_wp2_with fail;refine (kEo hc).mono ?_;rintro e w4 ⟨x,au,o,rfl,F,D⟩;have b5:=D.size;obtain ⟨I,J⟩:=xK;clear hc D;have hc:=F;clear F;have hw:IntKind.u8.wrap x=x:=IntWalk.u8_in _ bH3;obtain ⟨m,rfl⟩:=Int.eq_ofNat_of_zero_le au;have L:(m:Int)=((UInt8.ofNat m).toNat:Int):=by rw [UInt8.toNat_ofNat'];omega
   have R:=yD L;clear L;go_wp2_with (at_builtin;refine kD.zh rfl _ _ 22 rfl (r:=kD.byte) (e:=5) underlying22 kFb rfl bH2 bH2 I.out bR (kRf (x:=UInt8.ofNat m) R.out) bH5 bH5 (λ_ _ h=>h) bC0 ?_);intro v9 w9 a5 Z;have N:=Z.size;have O:=yD (show (l++[UInt8.ofNat m]).length=j + 1 by simp [HN.out]);generalize l++[UInt8.ofNat m]=q at *;obtain ⟨a9,c9,ce,_⟩:=kD.kBd a5.raw;obtain rfl:v9=_:=by simpa using ce
   have bp:=yD (a5.wide (T:=jb w.heap.size w9.heap.size) (λk q=>by rcases q with q | q;exact ⟨q.1,by have:=q.2;omega⟩;exact ⟨by have:=q.1;omega,q.2⟩));have H:=hc.touch Z vU vK;have E:=J.kBz Z (λk q=>q.1.1);clear a5 Z ce I HN;go_wp2;go_roundw;case rel=>exact ⟨j + 1,a9,c9,q,rfl,by go_num,O,by omega,bp,by omega,H,E⟩
   simp [intOf];omega
 have be:¬ (j:Int) < (n:Int):=bH3
 go_wp2
 go_ret
 exact ⟨a,c,l,rfl,by have:=HN.out;omega,I.out,hc,J⟩
def kCh {w0 w:Ab} {p:Nat} (hc:yS w0 w p) {x:Int} (h0:0<=x) (h1:x<=256) :
    Az prog 179 #[.pointer (some ⟨p,0,none⟩),.int .i64 x] w λe w'=>∃ a c l,e=.returned (.slice a l.length c)/\(l.length:Int)=x/\(kD.slice 5 kD.byte).own w' [Qs a l c] l (jb w.heap.size w'.heap.size)/\yS w0 w' p/\Touch (λk=>k=p) w w':=by
 obtain ⟨n,rfl⟩:=Int.eq_ofNat_of_zero_le h0
 refine (kYd hc (n:=n) bH3).mono ?_
 rintro e w1 ⟨a,c,l,rfl,hl,hO,h2,h3⟩
 exact ⟨a,c,l,rfl,by omega,hO,h2,h3⟩
def jAz {w0 w:Ab} {p:Nat} (hc:yS w0 w p) :
    Az prog 143 #[.pointer (some ⟨p,0,none⟩)] w λe w'=>∃ x:Int,e=.returned (.int .i64 x)/\-1<=x/\x<=2147483648/\yS w0 w' p/\Touch (λk=>k=p) w w':=by
 go_enter func143,ntmps143
 obtain ⟨bd,bw⟩:=hc.lt
 go_wp2_with fail
 refine (zY (n:=10) hc bH2).mono ?_
 rintro e w1 ⟨b,rfl,F,D⟩
 have bo:=D.size
 have J:=D
 clear hc D
 have hc:=F
 clear F
 cases b
 · go_wp2_with fail;refine (zY (n:=4) hc bH2).mono ?_;rintro e V ⟨b2,rfl,F,D⟩;have bv:=D.size;replace J:=J.trans D;clear hc D;have hc:=F;clear F;cases b2
   · go_wp2_with fail;refine (kOh (n:=1000000) hc bH2 bH2).mono ?_;rintro e w3 ⟨x,au,o,rfl,F,D⟩;have bt:=D.size;replace J:=J.trans D;clear hc D;have hc:=F;clear F;go_wp2_with fail;refine (kOh (n:=2000) hc bH2 bH2).mono ?_;rintro e w4 ⟨y,ch,aa,rfl,F,D⟩;have b5:=D.size;replace J:=J.trans D;clear hc D;have hc:=F;clear F;have h0:0<=x * y:=Int.mul_nonneg au ch;have h1:x * y<=1000000 * 2000:=Int.mul_le_mul bH3 bH3 ch bH3;have hw:Ae.wrap (x * y)=x * y:=Ac _ bH3;exact iC
   go_wp2_with fail;refine (zn (hc.below (bR.alloc nL _)) (kD.kDz _ [0,1,2147483646] bH2 bH2) bH3 bH2 bH2).mono ?_;rintro e w3 ⟨y,aw,b6,rfl,F,D⟩;replace D:=(Touch.of_below (S:=λk=>k=p) (bR.alloc nL _)).trans D;have bt:=D.size;replace J:=J.trans D;clear hc D;have hc:=F;clear F;have hy:=kD.kId (lo:=0) (hi:=2147483646) bH2 aw;clear aw;exact iC
 go_wp2_with fail
 refine (zn (hc.below (bR.alloc nL _)) (kD.kDz _ [-1,2147483647,2147483648] bH2 bH2) bH3 bH2 bH2).mono ?_
 rintro e V ⟨y,aw,b6,rfl,F,D⟩
 replace D:=(Touch.of_below (S:=λk=>k=p) (bR.alloc nL _)).trans D
 have bv:=D.size
 replace J:=J.trans D
 clear hc D
 have hc:=F
 clear F
 have hy:=kD.kId (lo:=-1) (hi:=2147483648) bH2 aw
 clear aw
 exact iC
def kXp {w:Ab} {v0 v1 v2:Av} {n k:kg} {b:Aw UInt8} {f s:Int} {S:Nat->Prop} (h0:kN.jo w [v0] n S) (h1:(kD.slice 5 kD.byte).jo w [v1] b S) (h2:kN.jo w [v2] k S) (hf:Qi f) (hs:Qi s):jI.jo w [v0,v1,v2,Qn f,Qn s] (n,b,k,f,s) S :=
  kD.kAg (r:=kN) (q:=.pair (kD.slice 5 kD.byte) (.pair kN (.pair .int .int))) (z:=(n,b,k,f,s)) h0 (kD.kAg (r:=(kD.slice 5 kD.byte)) (q:=.pair kN (.pair .int .int)) (z:=(b,k,f,s)) h1 (kD.kAg (r:=kN) (q:=.pair .int .int) (z:=(k,f,s)) h2 (kD.flat.jo (kD.jW (cs:=[.int .i64 f]) (kD.ku hf) (kD.ku hs)))))
def zk {w:Ab} {cs:Aw Av} {x:jT} (h:jI.raw w cs x):∃ a0 c0 a1 c1 a2 c2,cs=[.slice a0 x.1.length c0,.slice a1 x.2.1.length c1,.slice a2 x.2.2.1.length c2,.int .i64 x.2.2.2.1,.int .i64 x.2.2.2.2]:=by
 obtain ⟨v0,v1,v2,rfl,Y,R,aj,ai,al,E,D⟩:=jX h;obtain ⟨a0,c0,rfl,_⟩:=kD.sl R;obtain ⟨a1,c1,rfl,_⟩:=kD.sl aj;obtain ⟨a2,c2,rfl,_⟩:=kD.sl al;exact ⟨_,_,_,_,_,_,rfl⟩
def data_rng {w:Ab} {cs:Aw Av} {x:jT} (h:jI.raw w cs x):Qi x.2.2.2.1/\Qi x.2.2.2.2:=by
 obtain ⟨v0,v1,v2,rfl,Y,R,aj,ai,al,E,D⟩:=jX h;exact ⟨E,D⟩
def DrawnD (m:Nat) (w0 w:Ab) (p:Nat) (e:Ending) (w':Ab):Prop:=∃ ds x,e=.returned (.agg ds.toArray)/\jI.own w' ds x (jb w.heap.size w'.heap.size)/\x.2.1.length<=m/\yS w0 w' p/\Touch (λk=>k=p) w w'
def jBx {w:Ab} {c0 c1 c2 c3 c4 v:Av} {U y:kg} {F:Aw UInt8} {x2:kg} {x3 x4:Int} {S T:Nat->Prop} (h:jI.own w [c0,c1,c2,c3,c4] (U,F,x2,x3,x4) S) (hv:kN.own w [v] y T) (hd:∀ k,S k->T k->False):jI.own w [v,c1,c2,c3,c4] (y,F,x2,x3,x4) (λk=>S k\/T k) :=
  kD.set_left (r:=kN) (q:=.pair (kD.slice 5 kD.byte) (.pair kN (.pair .int .int))) (c:=[c0]) (c':=[v]) (d:=[c1,c2,c3,c4]) h rfl hv hd
def kUv {w:Ab} {c0 c1 c2 c3 c4 v:Av} {U:kg} {F y:Aw UInt8} {x2:kg} {x3 x4:Int} {S T:Nat->Prop} (h:jI.own w [c0,c1,c2,c3,c4] (U,F,x2,x3,x4) S) (hv:(kD.slice 5 kD.byte).own w [v] y T) (hd:∀ k,S k->T k->False):jI.own w [c0,v,c2,c3,c4] (U,y,x2,x3,x4) (λk=>S k\/T k) :=
  kD.set_right (r:=kN) (q:=.pair (kD.slice 5 kD.byte) (.pair kN (.pair .int .int))) (c:=[c0]) (d:=[c1,c2,c3,c4]) (d':=[v,c2,c3,c4]) h rfl (λB hB hq=>kD.set_left (r:=(kD.slice 5 kD.byte)) (q:=.pair kN (.pair .int .int)) (c:=[c1]) (c':=[v]) (d:=[c2,c3,c4]) hq rfl hv (λk a b=>hd k (hB k a) b)) hd
def data_setKey {w:Ab} {c0 c1 c2 c3 c4 v:Av} {U:kg} {F:Aw UInt8} {x2 y:kg} {x3 x4:Int} {S T:Nat->Prop} (h:jI.own w [c0,c1,c2,c3,c4] (U,F,x2,x3,x4) S) (hv:kN.own w [v] y T) (hd:∀ k,S k->T k->False):jI.own w [c0,c1,v,c3,c4] (U,F,y,x3,x4) (λk=>S k\/T k) :=
  kD.set_right (r:=kN) (q:=.pair (kD.slice 5 kD.byte) (.pair kN (.pair .int .int))) (c:=[c0]) (d:=[c1,c2,c3,c4]) (d':=[c1,v,c3,c4]) h rfl (λB hB hq=>kD.set_right (r:=(kD.slice 5 kD.byte)) (q:=.pair kN (.pair .int .int)) (c:=[c1]) (d:=[c2,c3,c4]) (d':=[v,c3,c4]) hq rfl (λX E a9=>kD.set_left (r:=kN) (q:=.pair .int .int) (c:=[c2]) (c':=[v]) (d:=[c3,c4]) a9 rfl hv (λk a b=>hd k (hB k (E k a)) b)) (λk a b=>hd k (hB k a) b)) hd
def jBw {w:Ab} {c0 c1 c2 c3 c4:Av} {U:kg} {F:Aw UInt8} {x2:kg} {x3 x4 v:Int} {S:Nat->Prop} (h:jI.own w [c0,c1,c2,c3,c4] (U,F,x2,x3,x4) S) (hv:Qi v):jI.own w [c0,c1,c2,Qn v,c4] (U,F,x2,v,x4) S:=⟨RData_set3 v hv h.1,h.2⟩
def kTp {w:Ab} {c0 c1 c2 c3 c4:Av} {U:kg} {F:Aw UInt8} {x2:kg} {x3 x4 v:Int} {S:Nat->Prop} (h:jI.own w [c0,c1,c2,c3,c4] (U,F,x2,x3,x4) S) (hv:Qi v):jI.own w [c0,c1,c2,c3,Qn v] (U,F,x2,x3,v) S:=⟨RData_set4 v hv h.1,h.2⟩
def kHg {w:Ab} {s:Int} (hs:Qi s) {cx:Aw Av} {x:jT} (hx:jI.rd w cx x) (bj:x.2.1.length<=2000000) :
    Az prog 188 #[.int .i64 s,.agg cx.toArray] w λe w'=>∃ sg ds,e=.returned (.agg ds.toArray)/\jI.own w' ds (x.1,x.2.1,x.2.2.1,x.2.2.2.1,sg) (jb w.heap.size w'.heap.size)/\(0<=sg/\sg < 2147483647)/\Qb w w':=by
 obtain ⟨U,F,x2,x3,x4⟩:=x
 have HX:=yD hx
 have a1:=yD bj
 have W:=signed_len (U,F,x2,x3,x4)
 simp only at W bj
 obtain ⟨ap,c7,bi,rfl,Y,R,aj,ai,al,E,D⟩:=jX hx.1
 obtain ⟨b8,Z,rfl,ar⟩:=kD.sl R
 obtain ⟨b2,am,rfl,ba⟩:=kD.sl aj
 obtain ⟨cv,a5,rfl,bk⟩:=kD.sl al
 clear hx Y R aj ai al E D
 go_enter func188,ntmps188
 go_upto_region 1 with fail
 generalize G:World.alloc (World.alloc w _) _=w1
 have o:Qb w w1:=by rw [<- G];exact bI
 have BX:Qr w1 w.heap.size #[Qs b8 U Z,Qs b2 F am,Qs cv x2 a5,Qn x3,Qn x4] 70:=vF
 have X:Qr w1 (w.heap.size + 1) #[.slice none 0 0,.slice none 0 0,.slice none 0 0,Qn 0,Qn 0] 70:=by rw [<- G];exact kG bH4
 have bo:w.heap.size + 2<=w1.heap.size:=bF4
 clear G
 obtain ⟨aa,ab,ae,ac,ah⟩:=zD BX
 go_wp2_with fail
 refine (kBf (HX.out.below o)).mono ?_
 rintro e V ⟨cs,rfl,O,hb⟩
 obtain ⟨bv,BX⟩:=J8
 obtain ⟨X,o⟩:=FH
 clear aa ab ae ac ah
 clear hb
 obtain ⟨h3,a4,ih,rfl,fi,fd,fy,fh,e6,fz,f0⟩:=jX O.raw
 obtain ⟨bf,bg,rfl,h0⟩:=kD.sl fd
 obtain ⟨aq,H,rfl,bh⟩:=kD.sl fy
 obtain ⟨cl,cw,rfl,im⟩:=kD.sl e6
 clear fi fd fy fh e6 fz f0
 have I:=yD (O.wide (T:=λj=>w.heap.size + 2<=j/\j < V.heap.size) sS)
 clear O
 go_upto_region 2 with fail
 generalize G:World.alloc V _=w3
 have ad:Qb V w3:=tK
 have BO:Qr w3 V.heap.size #[Qs bf U bg,Qs aq F H,Qs cl x2 cw,Qn x3,Qn x4] 70:=wW
 have bt:V.heap.size + 1<=w3.heap.size:=bF4
 clear G
 replace BX:=kC BX ad
 obtain ⟨X,I,o⟩:=BI
 clear ad
 obtain ⟨aa,ab,ae,ac,ah⟩:=zD BX
 go_wp2_with fail
 refine (kNr (HX.out.below o) a1.out).mono ?_
 rintro e w4 ⟨vg,rfl,OG,hb⟩
 have b5:=hb.size
 replace BX:=kC BX hb
 replace X:=kC X hb
 replace BO:=kC BO hb
 obtain ⟨I,o⟩:=xV
 clear aa ab ae ac ah
 clear hb
 obtain ⟨ag,ng,cg,av,a3⟩:=OG.parts
 obtain rfl:=av
 have RG:=yD ((OG.own bD0).rd)
 clear OG
 obtain ⟨N,J,ak,af,ax⟩:=zD BO
 obtain ⟨ay,az,a6,a7,bc⟩:=kBv BO
 go_wp2_with fail
 refine (kRw hs RG.out bH3).mono ?_
 rintro e w5 ⟨rfl,hb⟩
 have b3:=hb.size
 replace BX:=kC BX hb
 replace X:=kC X hb
 replace BO:=kC BO hb
 obtain ⟨I,o⟩:=xV
 clear N J ak af ax ay az a6 a7 bc
 clear hb
 have a2:=kXo ([s]++signed (U,F,x2,x3,x4)++[s])
 have a8:0<=macOf s (signed (U,F,x2,x3,x4))/\macOf s (signed (U,F,x2,x3,x4)) < 2147483647:=a2
 generalize macOf s (signed (U,F,x2,x3,x4))=sg at *
 clear a2 W RG a3 a1 bj
 obtain ⟨N,J,ak,af,ax⟩:=zD BO
 obtain ⟨ay,az,a6,a7,bc⟩:=kBv BO
 go_upto_region 3 with fail
 clear N J ak af ax ay az a6 a7 bc
 generalize G:World.setCell w5 _ _=w6
 have L:Touch (λk=>k=V.heap.size) w5 w6:=bB2
 replace BO:Qr w6 V.heap.size #[Qs bf U bg,Qs aq F H,Qs cl x2 cw,Qn x3,Qn sg] 70:=wR
 have dh:=L.size
 clear G
 replace BX:=L.kC BX bH3
 replace X:=L.kC X bH3
 replace I:=yD (I.out.touch L qW)
 replace o:=o.trans (L.below o.size bD5)
 clear L
 replace I:=yD (kTp I.out (v:=sg) bH3)
 obtain ⟨N,J,ak,af,ax⟩:=zD BO
 obtain ⟨au,aw,be,bd,bz⟩:=zD X
 obtain ⟨ao,an,a9,bb,br⟩:=kBv X
 go_wp2
 refine bodyPost_ret (v:=.agg #[Qs bf U bg,Qs aq F H,Qs cl x2 cw,Qn x3,Qn sg]) (by simp [results,results188,go_sem,au,ao,aw,an,be,a9,bd,bb,bz,br]) rfl ⟨sg,[.slice bf U.length bg,.slice aq F.length H,.slice cl x2.length cw,.int .i64 x3,.int .i64 sg],rfl,?_,a8,?_⟩
 · exact (I.out.touch sT5 tC).wide fP
 exact o.trans (Touch.below sT5 o.size bD5)
def kVu {w0 w:Ab} {p:Nat} (hc:yS w0 w p) :
    Az prog 189 #[.pointer (some ⟨p,0,none⟩)] w λe w'=>∃ s:Int,e=.returned (.int .i64 s)/\100<=s/\s<=104/\yS w0 w' p/\Touch (λk=>k=p) w w':=by
 go_enter func189,ntmps189
 obtain ⟨bd,bw⟩:=hc.lt
 go_wp2_with fail
 refine (ko (n:=5) hc bH2).mono ?_
 rintro e w1 ⟨x,au,o,be,rfl,F,D⟩
 have bo:=D.size
 have J:=D
 clear hc D
 have hc:=F
 clear F
 replace o:=o bH2
 have hw:Ae.wrap (100 + x)=100 + x:=Ac _ bH3
 exact iC
def isLet (s:Ad):Bool:=decide (s.size=2) && (decide (kCm s 0=63) && inR (kCm s 1) 97 122)
def isLet_no {s:ByteArray} (h:¬ s.size=2):isLet s=false:=by unfold isLet;rw [decide_eq_false h];rfl
def isLet_no0 {s:ByteArray} (h:¬ kCm s 0=63):isLet s=false:=by unfold isLet;rw [decide_eq_false h];simp
def isLet_yes {s:ByteArray} (h:s.size=2) (h0:kCm s 0=63):isLet s=inR (kCm s 1) 97 122:=by unfold isLet;rw [decide_eq_true h,decide_eq_true h0];rfl
def kLy {w:Ab} {s:Ad} (hs:s.size<=maxLen):Az prog 220 #[.string s] w λe w'=>e=.returned (.bool (isLet s))/\w'=w:=by
 go_enter func220,ntmps220;by_cases h2:s.size=2;case neg =>
  have L:=yD (isLet_no h2);have hz:((s.size:Int)==2)=false:=bG7;exact mW
 have hz:((s.size:Int)==2)=true:=bG7;have g0:=kKv (s:=s) (k:=0) bH3;have g1:=kKv (s:=s) (k:=1) bH3;have r1:=kPk s 1;have bi:0 < s.size:=bH3;have cw:1 < s.size:=bH3;by_cases h0:kCm s 0=63;case neg =>
  have L:=yD (isLet_no0 h0);have o:¬ ((s[0].toNat:Int)=63):=by rw [<- g0];exact h0
  have D:((s[0].toNat:Int)==63)=false:=bG0;clear g1 r1;exact mW
 have L:=yD (isLet_yes h2 h0);have o:((s[0].toNat:Int)=63):=by rw [<- g0];exact h0
 have D:((s[0].toNat:Int)==63)=true:=bG0;have HG:=yD g1;clear g1 g0 h0;go_wp2_with fail;refine yA.mono ?_;rintro e w1 ⟨rfl,hw⟩;obtain rfl:=hw.symm;go_wp2;go_ret;exact ⟨kW (by rw [L.out,HG.out,show wrap64 (s[1].toNat:Int)=s[1].toNat from (by have:=s[1].toNat_lt;unfold wrap64;omega)]),rfl⟩
def star1 (s:Ad):Bool:=s.toList==[42]
def star2 (s:Ad):Bool:=s.toList==[42,42]
def kFn (n k:Nat) (s:Ad):Bool:=((!kCp s && !star1 s) && !isLet s) && (!star2 s || decide ((k:Int) < (n:Int) - 1))
def patBadI (n k:Nat) (s:Ad):Bool:=((!kCp s && !star1 s) && !isLet s) && (!star2 s || ((k:Int) != (n:Int) - 1))
def kNq (p:kBr):Bool:=zi (λj=>!kFn p.length j (p.getD j Aa)) p.length && decide (p.length<=6)
def patBadI_eq {n k:Nat} (h:k < n) (s:ByteArray):patBadI n k s=kFn n k s:=by
 unfold patBadI kFn;have:((k:Int) != (n:Int) - 1)=decide ((k:Int) < (n:Int) - 1):=by rw [Bool.eq_iff_iff];simp;omega
 rw [this]
def vPat_bad {p:kBr} {k:Nat} (h:k < p.length) (q:kFn p.length k p[k]=true):kNq p=false:=by
 unfold kNq;rw [kDe h sJ];rfl
def vPat_next {p:kBr} {k:Nat} (h:k < p.length) (q:kFn p.length k p[k]=false) (a:zi (λj=>!kFn p.length j (p.getD j Aa)) k=true):zi (λj=>!kFn p.length j (p.getD j Aa)) (k + 1)=true :=
  kBe a sJ
def vPat_good {p:kBr} {k:Nat} (q:zi (λj=>!kFn p.length j (p.getD j Aa)) k=true) (h:¬ k < p.length) (hk:k<=p.length):kNq p=decide (p.length<=6):=by
 obtain rfl:k=p.length:=bH3;unfold kNq;rw [q];rfl
def kEa {w:Ab} {cp:Aw Av} {p:kBr} (hp:zf.raw w cp p):Az prog 219 #[.agg cp.toArray] w (bQ w (.bool (kNq p))):=by
 obtain ⟨av,rfl,Z⟩:=kGv hp;obtain ⟨aa,ao,rfl,la⟩:=kD.sl Z;clear hp;go_enter func219,ntmps219;go_wp2;generalize J:World.alloc w _=N;have EB:Qb w N:=by rw [<- J];exact bI
 have K0:Qd N w 0 (.slice aa p.length ao):=wF;clear J;replace Z:=Z.below EB;go_loopw [3] (λi wr=>∃ k:Nat,k<=p.length/\i=.int .i64 k/\Hid (zi (λj=>!kFn p.length j (p.getD j Aa)) k=true)/\Qb N wr) (λi _=>p.length - (intOf i).toNat);case atStart=>exact ⟨0,Nat.zero_le _,rfl,yD rfl,bR⟩
 obtain ⟨k,hk,rfl,HN,o⟩:=hrel;replace K0:=cL o K0;have D:=(tQ EB o);by_cases hlt:k < p.length
 · obtain ⟨ba,G,rfl,c0,hr,A0⟩:=kD.kCu (Z.below o) hlt rfl;obtain ⟨he,U⟩:=kD.zz hr;obtain rfl:c0=_:=by simpa using he
   clear he hr;have hb:=λq=>vPat_bad hlt q;have hx:=λq=>vPat_next hlt q HN.out;have I:=patBadI_eq hlt p[k];generalize p[k]=s at *;have HB:=yD hb;have HX:=yD hx;have H:=yD U;have HI:=yD I;clear hb hx U I;have bd:Ae.wrap ((p.length:Int) - 1)=(p.length:Int) - 1:=Ac _ bH3;go_upto_region 5 with fail;have FX:=yD (λ(W:Ab) (hW:Qb wr W)=>cL hW K0);refine kr (λW=>Qb wr W) [Tt,Ff,Tt,Tt,Tt,Tt,Tt,Tt,Tt,Ff,Tt,Tt,Tt,Tt,Tt,Tt,Tt,Tt,Tt,Tt,Tt,Tt,Tt,Tt] bR ?_;intro wS E;all_goals refine ky ?_
   all_goals first | refine wkC (kLb H.out) ?_ | refine ky ?_
   all_goals refine ky ?_
   all_goals (refine jy λb bh=>?_;cases b <;> try simp only [jw] at bh)
   iterate 3
    all_goals refine ky ?_
   all_goals (refine jy λb ax=>?_;cases b <;> try simp only [jw] at ax)
   all_goals refine ky ?_
   all_goals first | refine wkC (kLy H.out) ?_ | refine ky ?_
   all_goals refine ky ?_
   all_goals refine ky ?_
   all_goals (refine jy λb af=>?_;cases b <;> try simp only [jw] at af)
   all_goals refine ky ?_
   all_goals refine ky ?_
   all_goals (refine jy λb cz=>?_;cases b <;> try simp only [jw] at cz)
   iterate 7
    all_goals refine ky ?_
   all_goals (refine jy λb F=>?_;cases b <;> try simp only [jw] at F)
   all_goals refine kS ?_
   all_goals have EG:=(tQ D E)
   all_goals have ER:=(tQ o E)
   all_goals first
     | (have L:=yD (HB.out (show kFn p.length k s=true by simp only [kFn,star1,star2,decide_not,Aj,Ag,Ak,Al,Ah,Ai,Aq,Ar,Am,Ap,Au,bh,ax,af,cz,F]));clear HB HX;go_wp2;go_ret;exact ⟨kW L.out.symm,EG⟩)
     | (have L:=yD (HX.out (show kFn p.length k s=false by simp only [kFn,star1,star2,decide_not,Aj,Ag,Ak,Al,Ah,Ai,Aq,Ar,Am,Ap,Au,bh,ax,af,cz,F]));clear HB HX;go_wp2;go_roundw;(case rel=>exact ⟨k + 1,by omega,by go_num,L,ER⟩);(case measure=>simp [intOf];omega))
 have L:=yD (vPat_good HN.out hlt hk);go_wp2;go_ret;exact ⟨kW (by rw [L.out];simp;try omega),D⟩
def idxOf_ge {α:Type} {p:α->Bool} {x:Aw α} (h:¬ idxOf p x < 0):∃ j:Nat,j < x.length/\idxOf p x=(j:Int):=by
 unfold idxOf at h ⊢;cases hf:x.findIdx? p with
 | none=>rw [hf] at h;exact absurd bH2 h
 | some i=>exact ⟨i,(List.findIdx?_eq_some_iff_getElem.1 hf).1,rfl⟩
def eqS (s t:Ad):Bool:=t.toList==s.toList
def hasS (p:Aw Ad) (s:Ad):Bool:=decide (0<=idxOf (eqS s) p)
def kHn (r:kLj) (s:Ad):Bool:=isLet s && !hasS r.1 s
def kTa (r:kLj):Bool:=(kNq r.1 && kNq r.2) && zi (λj=>!kHn r (r.2.getD j Aa)) r.2.length
section
variable {r:kLj} {k:Nat}
def kYw (h:(kNq r.1 && kNq r.2)=false):kTa r=false:=by unfold kTa;rw [h];rfl
def vRule_bad (h:k < r.2.length) (q:kHn r r.2[k]=true):kTa r=false:=by
 unfold kTa;rw [kDe h sJ];simp
def vRule_next (h:k < r.2.length) (q:kHn r r.2[k]=false) (a:zi (λj=>!kHn r (r.2.getD j Aa)) k=true):zi (λj=>!kHn r (r.2.getD j Aa)) (k + 1)=true :=
  kBe a sJ
def vRule_good (v:(kNq r.1 && kNq r.2)=true) (q:zi (λj=>!kHn r (r.2.getD j Aa)) k=true) (h:¬ k < r.2.length) (hk:k<=r.2.length):kTa r=true:=by
 obtain rfl:k=r.2.length:=bH3;unfold kTa;rw [q,v];rfl
end
def jBi {w:Ab} {cl:Aw Av} {l:kBr} (hl:zf.raw w cl l) {s:Ad} :
    Az prog 221 #[.agg cl.toArray,.string s] w (bQ w (.bool (hasS l s))):=by
 obtain ⟨D,rfl,a7⟩:=kGv hl
 obtain ⟨al,pl,rfl,ll⟩:=kD.sl a7
 have HL:=yD a7
 clear a7 hl
 go_enter func221,ntmps221
 go_wp2
 generalize J:World.alloc w _=N
 have EB:Qb w N:=by rw [<- J];exact bI
 have K0:Qd N w 0 (.slice al l.length pl):=wF
 clear J
 go_loopw [5] (λi wr=>∃ k:Nat,k<=l.length/\i=.int .i64 k/\Hid (∀ j,(h:j < k)->(h2:j < l.length)->eqS s l[j]=false)/\Qb N wr) (λi _=>l.length - (intOf i).toNat)
 case atStart=>exact ⟨0,Nat.zero_le _,rfl,yD (λ_ h=>by omega),bR⟩
 obtain ⟨k,hk,rfl,HN,o⟩:=hrel
 have EG:=(tQ EB o)
 replace K0:=cL o K0
 by_cases hlt:k < l.length
 · obtain ⟨qb,qo,rfl,Y,qr,ap⟩:=kD.kCu (HL.out.below EG) hlt rfl;obtain ⟨he,U⟩:=kD.zz qr;obtain rfl:Y=_:=by simpa using he
   have R:=λq=>idxOf_hit (p:=eqS s) hlt q HN.out;have H:=λq=>kAs (p:=eqS s) hlt q HN.out;generalize l[k]=x at *;have HD:=yD R;have HX:=yD H;clear R H he qr;cases hv:eqS s x
   · have L:=yD (HX.out hv);have aw:(x.toList==s.toList)=false:=hv;clear hv HD HX;go_wp2;go_roundw;case rel=>exact ⟨k + 1,by omega,by go_num,L,o⟩
     simp [intOf];omega
   have L:=yD (HD.out hv);have aw:(x.toList==s.toList)=true:=hv;clear hv HD HX;go_wp2;go_ret;exact ⟨kW (show _=hasS l s by unfold hasS;rw [L.out];simp),EG⟩
 have L:=yD (idxOf_miss hlt HN.out)
 go_wp2
 go_ret
 exact ⟨kW (show _=hasS l s by unfold hasS;rw [L.out];rfl),EG⟩
def kTz {w:Ab} {cr:Aw Av} {r:kLj} (hr:kMx.raw w cr r):Az prog 204 #[.agg cr.toArray] w (bQ w (.bool (kTa r))):=by
 obtain ⟨gb,a1,rfl,Z,ba,bq,bm⟩:=jAo hr;obtain ⟨dx,dv,rfl,gl⟩:=kD.sl ba;obtain ⟨aq,am,rfl,a2⟩:=kD.sl bm;have H0:=yD Z;have H2:=yD bq;have H1:=yD ba;have H3:=yD bm;clear hr Z ba bq bm;go_enter func204,ntmps204;go_upto_region 1 with fail;generalize J:World.alloc w _=N;have EB:Qb w N:=by rw [<- J];exact bI
 have K0:Qd N w 0 (.slice dx r.1.length dv):=wF;have K1:Qd N w 1 (.slice aq r.2.length am):=wF;clear J;go_wp2_with fail;refine (kEa (H0.out.below EB)).mono ?_;rintro e w1 ⟨rfl,O⟩;replace K0:=cL O K0;replace K1:=cL O K1;have E1:=(tQ EB O);clear O EB;cases ac:kNq r.1
 · have L:=yD (kYw (r:=r) (by rw [ac];rfl));go_wp2;go_ret;exact ⟨kW L.out.symm,E1⟩
 go_wp2_with fail;refine (kEa (H2.out.below E1)).mono ?_;rintro e V ⟨rfl,af⟩;replace K0:=cL af K0;replace K1:=cL af K1;have E2:=(tQ E1 af);clear af E1;cases aw:kNq r.2
 · have L:=yD (kYw (r:=r) (by rw [ac,aw];rfl));clear ac aw;go_wp2;go_ret;exact ⟨kW L.out.symm,E2⟩
 have X:Hid ((kNq r.1 && kNq r.2)=true):=yD (by rw [ac,aw];rfl);clear ac aw;go_wp2;go_loopw [3] (λi wr=>∃ k:Nat,k<=r.2.length/\i=.int .i64 k/\Hid (zi (λj=>!kHn r (r.2.getD j Aa)) k=true)/\Qb V wr) (λi _=>r.2.length - (intOf i).toNat);case atStart=>exact ⟨0,Nat.zero_le _,rfl,yD rfl,bR⟩
 obtain ⟨k,hk,rfl,HN,o⟩:=hrel;have EG:=(tQ E2 o);obtain ⟨K0,K1⟩:=IJ;by_cases hlt:k < r.2.length
 · obtain ⟨qb,qo,rfl,Y,qr,ap⟩:=kD.kCu (H3.out.below EG) hlt rfl;obtain ⟨he,U⟩:=kD.zz qr;obtain rfl:Y=_:=by simpa using he
   have R:=λq=>vRule_bad hlt q;have H:=λq=>vRule_next hlt q HN.out;generalize r.2[k]=s at *;have HD:=yD R;have HX:=yD H;clear R H he qr;go_upto_region 6 with fail;have FX:=yD (λ(W:Ab) (hW:Qb wr W)=>kOb hW K0 K1 ap);refine kK (λW=>Qb wr W) [Tt,Tt,Tt,Tt,Tt,Tt,Ff,Tt,Tt,Tt,Tt,Tt,Tt,Tt,Tt,Tt,Ff,Tt,Tt] bG6 bG6 qY (bR.drew) ?_;intro wS E;iterate 6
    all_goals refine ky ?_
   all_goals first | refine wkC (kLy U) ?_ | refine ky ?_
   all_goals (refine jy λb ax=>?_;cases b <;> try simp only [jw] at ax)
   iterate 8
    all_goals refine ky ?_
   all_goals first | refine wkB (jBi (H0.out.below (tQ EG E))) (λwS1 E=>?_) | refine ky ?_
   all_goals refine ky ?_
   all_goals (refine jy λb dr=>?_;cases b <;> try simp only [jw] at dr)
   all_goals refine kS ?_
   all_goals have ER:=(tQ o E)
   all_goals have EF:=(tQ EG E)
   all_goals first
     | (have L:=yD (HD.out (show kHn r s=true by simp only [kHn,Aj,Ag,Ak,Al,Ah,Ai,Aq,Ar,Am,Ap,Au,ax,dr]));clear HD HX;go_wp2;go_ret;exact ⟨kW L.out.symm,EF⟩)
     | (have L:=yD (HX.out (show kHn r s=false by simp only [kHn,Aj,Ag,Ak,Al,Ah,Ai,Aq,Ar,Am,Ap,Au,ax,dr]));clear HD HX;go_wp2;go_roundw;(case rel=>exact ⟨k + 1,by omega,by go_num,L,ER⟩);(case measure=>simp [intOf];omega))
 have L:=yD (vRule_good X.out HN.out hlt hk);go_wp2;go_ret;exact ⟨kW L.out.symm,EG⟩
def vInt (x y:jF):Bool:=((eqN x.1 y.1 && (x.2.1==y.2.1)) && (x.2.2.1==y.2.2.1)) && (x.2.2.2==y.2.2.2)
def vInt_eq (x y:jF):vInt x y=decide (x=y):=by
 obtain ⟨U,F,x2,x3⟩:=x;obtain ⟨y0,y1,y2,y3⟩:=y;rw [Bool.eq_iff_iff];simp [vInt,eqN,and_assoc]
def kVp (x y:jT):Bool:=(((eqN x.1 y.1 && decide (x.2.1=y.2.1)) && eqN x.2.2.1 y.2.2.1) && (x.2.2.2.1==y.2.2.2.1)) && (x.2.2.2.2==y.2.2.2.2)
def vData_eq (x y:jT):kVp x y=decide (x=y):=by
 obtain ⟨U,F,x2,x3,x4⟩:=x;obtain ⟨y0,y1,y2,y3,y4⟩:=y;rw [Bool.eq_iff_iff];simp [kVp,eqN,and_assoc]
end Go.Proofs.YtjhfdpopkkmigabGreat

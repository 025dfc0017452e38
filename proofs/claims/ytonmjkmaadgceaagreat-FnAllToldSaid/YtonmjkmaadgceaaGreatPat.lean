/-
  Patterns that are valid.
-/
import Derived.Test.YtonmjkmaadgceaaGreatSig
import Derived.Test.YtonmjkmaadgceaaGreatCopyD
set_option linter.unusedVariables false
set_option linter.unusedSimpArgs false
set_option linter.unnecessarySimpa false
set_option maxRecDepth 100000
set_option maxHeartbeats 4000000
namespace Go.Proofs.YtonmjkmaadgceaaGreat
open Go _root_.Go.Proofs.Tryz
section
variable {P:Program} {l:List Oper} {S:World→Prop} {Q:Exit→Act→World→Prop} {fuel:Nat} {listed:List Bool} {a:Act} {w:World}
theorem kSb {i j m:Nat} {V N G:Oper} (hi:l[i]?=some V) (I:l[j]?=some N) (hm:l[m]?=some G) (hr:(Region.ready .any l.toArray listed.toArray==[i,j,m])=true) (F:Region.wanted V (yielded l.toArray a.tmps)=true) (E:Region.wanted N (yielded l.toArray a.tmps)=true) (D:Region.wanted G (yielded l.toArray a.tmps)=true)
    (h1:∀ K:Act→World→Prop,(∀ a' w',S w'→tree P l S Q fuel (listed.set i true) a' w'→K a' w')→V.wp P a w K Q)
    (h2:∀ K:Act→World→Prop,(∀ a' w',S w'→tree P l S Q fuel (listed.set j true) a' w'→K a' w')→N.wp P a w K Q)
    (h3:∀ K:Act→World→Prop,(∀ a' w',S w'→tree P l S Q fuel (listed.set m true) a' w'→K a' w')→G.wp P a w K Q):tree P l S Q (fuel + 1) listed a w:=by
 unfold tree
 refine wpAnyH_all wY bC0 ?_
 intro k hk
 rcases List.mem_cons.1 hk with rfl | hk
 · exact kKr hi F h1
 rcases List.mem_cons.1 hk with rfl | hk
 · exact kKr I E h2
 obtain rfl:k=m:=wR
 exact kKr hm D h3
theorem kFp (h:∀ (T:Nat→List Bool→Act→World→Prop) (A:Act),T=tree P l S Q→A=a→T fuel listed A w):tree P l S Q fuel listed a w:=h _ _ rfl rfl
end
end Go.Proofs.YtonmjkmaadgceaaGreat
namespace Go.Proofs.YtonmjkmaadgceaaGreat
open Go.RowKit _root_.Go.Proofs.Tryz
theorem kLm {w0 w:World} {p:Nat} (hc:yK w0 w p) {n:Int} (hn:256 < n) (L:n≤16777216) :
    Calls prog 14 #[.pointer (some ⟨p,0,none⟩),.int .i64 n] w fun e w'=>∃ x:Int,0≤x∧x < n∧e=.returned (.int .i64 x)∧yK w0 w' p∧Touch (fun k=>k=p) w w':=by
 go_enter func14,ntmps14
 obtain ⟨b7,cj⟩:=hc.lt
 have hne:¬ n=0:=bB9
 have J:¬ n < 0:=bB9
 have W:¬ n≤0:=bB9
 have X:¬ n≤256:=bB9
 go_wp2_with fail
 refine (kEa hc).mono ?_
 rintro e w1 ⟨x,ax,Z,rfl,G,D⟩
 have bn:=D.size
 have H:=D
 clear hc D
 have hc:=G
 clear G
 go_wp2_with fail
 refine (kEa hc).mono ?_
 rintro e V ⟨y,b6,a4,rfl,G,D⟩
 have bo:=D.size
 replace H:=H.trans D
 clear hc D
 have hc:=G
 clear G
 go_wp2_with fail
 refine (kEa hc).mono ?_
 rintro e w3 ⟨z,bb,az,rfl,G,D⟩
 have bp:=D.size
 replace H:=H.trans D
 clear hc D
 have hc:=G
 clear G
 have O:IntKind.i64.wrap (x * 65536)=x * 65536:=IntWalk.i64_in _ bB9
 have F:IntKind.i64.wrap (y * 256)=y * 256:=IntWalk.i64_in _ bB9
 have E:IntKind.i64.wrap (x * 65536 + y * 256)=x * 65536 + y * 256:=IntWalk.i64_in _ bB9
 have I:IntKind.i64.wrap (x * 65536 + y * 256 + z)=x * 65536 + y * 256 + z:=IntWalk.i64_in _ bB9
 have bq:=Int.emod_nonneg (x * 65536 + y * 256 + z) hne
 have ao:=Int.emod_lt_of_pos (x * 65536 + y * 256 + z) (show 0 < n by omega)
 go_wp2
 go_ret
 exact ⟨_,bq,ao,rfl,hc,H⟩
theorem kTy {w0 w:World} {p:Nat} (hc:yK w0 w p) {n:Nat} (hn:n≤256) :
    Calls prog 124 #[.pointer (some ⟨p,0,none⟩),.int .i64 n] w fun e w'=>∃ a c l,e=.returned (.slice a l.length c)∧l.length=n∧(kE.slice 5 kE.byte).own w' [.slice a l.length c] l (jR w.heap.size w'.heap.size)∧yK w0 w' p∧Touch (fun k=>k=p) w w':=by
 go_enter func124,ntmps124
 obtain ⟨b7,cj⟩:=hc.lt
 go_upto_region 2 with fail
 generalize F:World.alloc w _=w1
 obtain ⟨ak,bn⟩:=EB
 clear F
 obtain ⟨hc,H⟩:=q8
 clear ak
 go_wp2
 go_loopw [5,6] (fun v i wr=>∃ (j:Nat) (a:Option Addr) (c:Nat) (l:List UInt8),v=.slice a l.length c∧i=.int .i64 j∧Hid (l.length=j)∧j≤n∧Hid ((kE.slice 5 kE.byte).own wr [.slice a l.length c] l (jR w.heap.size wr.heap.size))∧w1.heap.size≤wr.heap.size∧yK w0 wr p∧Touch (fun k=>k=p) w wr) (fun _ i _=>n - (intOf i).toNat)
 case atStart=>exact ⟨0,_,0,[],rfl,rfl,yD rfl,Nat.zero_le _,yD kE.jf,Nat.le_refl _,hc,H⟩
 clear hc H
 obtain ⟨j,a,c,l,rfl,rfl,HN,I,L,dh,hc,H⟩:=hrel
 have aa:=H.size
 by_cases hlt:j < n
 · replace L:=yD (L.out.wide (T:=jR w.heap.size wr.heap.size) (fun _ h=>h))
   have cg:(j:Int) < (n:Int):=bB9
   go_wp2_with fail
   refine (kEa hc).mono ?_
   rintro e w4 ⟨x,ax,Z,rfl,G,D⟩
   have b9:=D.size
   obtain ⟨L,H⟩:=oZ
   clear hc D
   have hc:=G
   clear G
   have hw:IntKind.u8.wrap x=x:=IntWalk.u8_in _ bB9
   obtain ⟨m,rfl⟩:=Int.eq_ofNat_of_zero_le ax
   have N:(m:Int)=((UInt8.ofNat m).toNat:Int):=by rw [UInt8.toNat_ofNat'];omega
   have O:=yD N
   clear N
   go_wp2_with (at_builtin;refine kE.zO rfl _ _ 22 rfl (r:=kE.byte) (e:=5) underlying22 kBl rfl bB8 bB8 L.out bR (kIf (x:=UInt8.ofNat m) O.out) bC1 bC1 (fun _ _ h=>h) vM ?_)
   intro v9 w9 a5 an
   have R:=an.size
   have ac:=yD (show (l++[UInt8.ofNat m]).length=j + 1 by simp [HN.out])
   generalize l++[UInt8.ofNat m]=q at *
   obtain ⟨a9,c9,bb,_⟩:=kE.kAx a5.raw
   obtain rfl:v9=_:=by simpa using bb
   have br:=yD (a5.wide (T:=jR w.heap.size w9.heap.size) (fun k q=>by rcases q with q | q;exact ⟨q.1,by have:=q.2;omega⟩;exact ⟨by have:=q.1;omega,q.2⟩))
   have J:=hc.touch an tF sQ
   have E:=H.kBj an (fun k q=>q.1.1)
   clear a5 an bb L HN
   go_wp2
   go_roundw
   case rel=>exact ⟨j + 1,a9,c9,q,rfl,by go_num,ac,by omega,br,by omega,J,E⟩
   simp [intOf];omega
 have cg:¬ (j:Int) < (n:Int):=bB9
 go_wp2
 go_ret
 exact ⟨a,c,l,rfl,by have:=HN.out;omega,L.out,hc,H⟩
theorem kBs {w0 w:World} {p:Nat} (hc:yK w0 w p) {x:Int} (h0:0≤x) (h1:x≤256) :
    Calls prog 124 #[.pointer (some ⟨p,0,none⟩),.int .i64 x] w fun e w'=>∃ a c l,e=.returned (.slice a l.length c)∧(l.length:Int)=x∧(kE.slice 5 kE.byte).own w' [.slice a l.length c] l (jR w.heap.size w'.heap.size)∧yK w0 w' p∧Touch (fun k=>k=p) w w':=by
 obtain ⟨n,rfl⟩:=Int.eq_ofNat_of_zero_le h0
 refine (kTy hc (n:=n) bB9).mono ?_
 rintro e w1 ⟨a,c,l,rfl,hl,hO,h2,h3⟩
 exact ⟨a,c,l,rfl,by omega,hO,h2,h3⟩
theorem kWf {w0 w:World} {p:Nat} (hc:yK w0 w p) :
    Calls prog 122 #[.pointer (some ⟨p,0,none⟩)] w fun e w'=>∃ x:Int,e=.returned (.int .i64 x)∧-1≤x∧x≤2147483648∧yK w0 w' p∧Touch (fun k=>k=p) w w':=by
 go_enter func122,ntmps122
 obtain ⟨b7,cj⟩:=hc.lt
 go_wp2_with fail
 refine (zk (n:=10) hc bB8).mono ?_
 rintro e w1 ⟨b,rfl,G,D⟩
 have bn:=D.size
 have H:=D
 clear hc D
 have hc:=G
 clear G
 cases b
 · go_wp2_with fail
   refine (zk (n:=4) hc bB8).mono ?_
   rintro e V ⟨b2,rfl,G,D⟩
   have bo:=D.size
   replace H:=H.trans D
   clear hc D
   have hc:=G
   clear G
   cases b2
   · go_wp2_with fail
     refine (kLm (n:=1000000) hc bB8 bB8).mono ?_
     rintro e w3 ⟨x,ax,Z,rfl,G,D⟩
     have bp:=D.size
     replace H:=H.trans D
     clear hc D
     have hc:=G
     clear G
     go_wp2_with fail
     refine (kLm (n:=2000) hc bB8 bB8).mono ?_
     rintro e w4 ⟨y,b6,a4,rfl,G,D⟩
     have b9:=D.size
     replace H:=H.trans D
     clear hc D
     have hc:=G
     clear G
     have h0:0≤x * y:=Int.mul_nonneg ax b6
     have h1:x * y≤1000000 * 2000:=Int.mul_le_mul bB9 bB9 b6 bB9
     have hw:IntKind.i64.wrap (x * y)=x * y:=IntWalk.i64_in _ bB9
     exact eZ
   go_wp2_with fail
   refine (kBh (hc.below (bR.alloc nL _)) (kE.kGs _ [0,1,2147483646] bB8 bB8) bB9 bB8 bB8).mono ?_
   rintro e w3 ⟨y,al,a8,rfl,G,D⟩
   replace D:=(Touch.of_below (S:=fun k=>k=p) (bR.alloc nL _)).trans D
   have bp:=D.size
   replace H:=H.trans D
   clear hc D
   have hc:=G
   clear G
   have hy:=kE.kGq (lo:=0) (hi:=2147483646) bB8 al
   clear al
   exact eZ
 go_wp2_with fail
 refine (kBh (hc.below (bR.alloc nL _)) (kE.kGs _ [-1,2147483647,2147483648] bB8 bB8) bB9 bB8 bB8).mono ?_
 rintro e V ⟨y,al,a8,rfl,G,D⟩
 replace D:=(Touch.of_below (S:=fun k=>k=p) (bR.alloc nL _)).trans D
 have bo:=D.size
 replace H:=H.trans D
 clear hc D
 have hc:=G
 clear G
 have hy:=kE.kGq (lo:=-1) (hi:=2147483648) bB8 al
 clear al
 exact eZ
theorem kTq {w:World} {v0 v1 v2:Value} {n k:kQ} {b:List UInt8} {f s:Int} {S:Nat→Prop} (h0:kM.jY w [v0] n S) (h1:(kE.slice 5 kE.byte).jY w [v1] b S) (h2:kM.jY w [v2] k S) (hf:-9223372036854775808≤f∧f≤9223372036854775807) (hs:-9223372036854775808≤s∧s≤9223372036854775807):jA.jY w [v0,v1,v2,.int .i64 f,.int .i64 s] (n,b,k,f,s) S :=
  kE.kAi (r:=kM) (q:=.pair (kE.slice 5 kE.byte) (.pair kM (.pair .int .int))) (z:=(n,b,k,f,s)) h0 (kE.kAi (r:=(kE.slice 5 kE.byte)) (q:=.pair kM (.pair .int .int)) (z:=(b,k,f,s)) h1 (kE.kAi (r:=kM) (q:=.pair .int .int) (z:=(k,f,s)) h2 (kE.flat.jY (kE.jr (cs:=[.int .i64 f]) (kE.ky hf) (kE.ky hs)))))
theorem yN {w:World} {cs:List Value} {x:jG} (h:jA.raw w cs x):∃ a0 c0 a1 c1 a2 c2,cs=[.slice a0 x.1.length c0,.slice a1 x.2.1.length c1,.slice a2 x.2.2.1.length c2,.int .i64 x.2.2.2.1,.int .i64 x.2.2.2.2]:=by
 obtain ⟨v0,v1,v2,rfl,bw,ba,b3,b5,W,cz,cf⟩:=jN h
 obtain ⟨a0,c0,rfl,_⟩:=kE.sl ba
 obtain ⟨a1,c1,rfl,_⟩:=kE.sl b3
 obtain ⟨a2,c2,rfl,_⟩:=kE.sl W
 exact ⟨_,_,_,_,_,_,rfl⟩
theorem data_rng {w:World} {cs:List Value} {x:jG} (h:jA.raw w cs x):(-9223372036854775808≤x.2.2.2.1∧x.2.2.2.1≤9223372036854775807)∧-9223372036854775808≤x.2.2.2.2∧x.2.2.2.2≤9223372036854775807:=by
 obtain ⟨v0,v1,v2,rfl,bw,ba,b3,b5,W,cz,cf⟩:=jN h
 exact ⟨cz,cf⟩
def kXj (m:Nat) (w0 w:World) (p:Nat) (e:Ending) (w':World):Prop:=∃ ds x,e=.returned (.agg ds.toArray)∧jA.own w' ds x (jR w.heap.size w'.heap.size)∧x.2.1.length≤m∧yK w0 w' p∧Touch (fun k=>k=p) w w'
theorem kWy {w:World} {c0 c1 c2 c3 c4 v:Value} {x0 y:kQ} {x1:List UInt8} {x2:kQ} {x3 x4:Int} {S T:Nat→Prop} (h:jA.own w [c0,c1,c2,c3,c4] (x0,x1,x2,x3,x4) S) (hv:kM.own w [v] y T) (hd:∀ k,S k→T k→False):jA.own w [v,c1,c2,c3,c4] (y,x1,x2,x3,x4) (fun k=>S k∨T k) :=
  kE.set_left (r:=kM) (q:=.pair (kE.slice 5 kE.byte) (.pair kM (.pair .int .int))) (c:=[c0]) (c':=[v]) (d:=[c1,c2,c3,c4]) h rfl hv hd
theorem kRi {w:World} {c0 c1 c2 c3 c4 v:Value} {x0:kQ} {x1 y:List UInt8} {x2:kQ} {x3 x4:Int} {S T:Nat→Prop} (h:jA.own w [c0,c1,c2,c3,c4] (x0,x1,x2,x3,x4) S) (hv:(kE.slice 5 kE.byte).own w [v] y T) (hd:∀ k,S k→T k→False):jA.own w [c0,v,c2,c3,c4] (x0,y,x2,x3,x4) (fun k=>S k∨T k) :=
  kE.set_right (r:=kM) (q:=.pair (kE.slice 5 kE.byte) (.pair kM (.pair .int .int))) (c:=[c0]) (d:=[c1,c2,c3,c4]) (d':=[v,c2,c3,c4]) h rfl (fun B hB hq=>kE.set_left (r:=(kE.slice 5 kE.byte)) (q:=.pair kM (.pair .int .int)) (c:=[c1]) (c':=[v]) (d:=[c2,c3,c4]) hq rfl hv (fun k a b=>hd k (hB k a) b)) hd
theorem data_setKey {w:World} {c0 c1 c2 c3 c4 v:Value} {x0:kQ} {x1:List UInt8} {x2 y:kQ} {x3 x4:Int} {S T:Nat→Prop} (h:jA.own w [c0,c1,c2,c3,c4] (x0,x1,x2,x3,x4) S) (hv:kM.own w [v] y T) (hd:∀ k,S k→T k→False):jA.own w [c0,c1,v,c3,c4] (x0,x1,y,x3,x4) (fun k=>S k∨T k) :=
  kE.set_right (r:=kM) (q:=.pair (kE.slice 5 kE.byte) (.pair kM (.pair .int .int))) (c:=[c0]) (d:=[c1,c2,c3,c4]) (d':=[c1,v,c3,c4]) h rfl (fun B hB hq=>kE.set_right (r:=(kE.slice 5 kE.byte)) (q:=.pair kM (.pair .int .int)) (c:=[c1]) (d:=[c2,c3,c4]) (d':=[v,c3,c4]) hq rfl (fun B2 G F=>kE.set_left (r:=kM) (q:=.pair .int .int) (c:=[c2]) (c':=[v]) (d:=[c3,c4]) F rfl hv (fun k a b=>hd k (hB k (G k a)) b)) (fun k a b=>hd k (hB k a) b)) hd
theorem kWx {w:World} {c0 c1 c2 c3 c4:Value} {x0:kQ} {x1:List UInt8} {x2:kQ} {x3 x4 v:Int} {S:Nat→Prop} (h:jA.own w [c0,c1,c2,c3,c4] (x0,x1,x2,x3,x4) S) (hv:-9223372036854775808≤v∧v≤9223372036854775807):jA.own w [c0,c1,c2,.int .i64 v,c4] (x0,x1,x2,v,x4) S:=⟨RData_set3 v hv h.1,h.2⟩
theorem kQs {w:World} {c0 c1 c2 c3 c4:Value} {x0:kQ} {x1:List UInt8} {x2:kQ} {x3 x4 v:Int} {S:Nat→Prop} (h:jA.own w [c0,c1,c2,c3,c4] (x0,x1,x2,x3,x4) S) (hv:-9223372036854775808≤v∧v≤9223372036854775807):jA.own w [c0,c1,c2,c3,.int .i64 v] (x0,x1,x2,x3,v) S:=⟨RData_set4 v hv h.1,h.2⟩
theorem kFq {w:World} {s:Int} (hs:-9223372036854775808≤s∧s≤9223372036854775807) {cx:List Value} {x:jG} (hx:jA.rd w cx x) (b8:x.2.1.length≤2000000) :
    Calls prog 125 #[.int .i64 s,.agg cx.toArray] w fun e w'=>∃ sg ds,e=.returned (.agg ds.toArray)∧jA.own w' ds (x.1,x.2.1,x.2.2.1,x.2.2.2.1,sg) (jR w.heap.size w'.heap.size)∧(0≤sg∧sg < 2147483647)∧Below w.heap.size w w':=by
 obtain ⟨x0,x1,x2,x3,x4⟩:=x
 have HX:=yD hx
 have U:=yD b8
 have e7:=kSn (x0,x1,x2,x3,x4)
 simp only at e7 b8
 obtain ⟨c7,d1,dl,rfl,bw,ba,b3,b5,W,cz,cf⟩:=jN hx.1
 obtain ⟨bg,J,rfl,dq⟩:=kE.sl ba
 obtain ⟨ay,bx,rfl,du⟩:=kE.sl b3
 obtain ⟨bf,E,rfl,dr⟩:=kE.sl W
 clear hx bw ba b3 b5 W cz cf
 go_enter func125,ntmps125
 go_upto_region 1 with fail
 generalize F:World.alloc (World.alloc w _) _=w1
 have X:Below w.heap.size w w1:=by rw [← F];exact bI
 have BX:w1.heap[w.heap.size]?=some (.cells #[.slice bg x0.length J,.slice ay x1.length bx,.slice bf x2.length E,.int .i64 x3,.int .i64 x4] 43 (0,0)):=sO
 have BR:w1.heap[w.heap.size + 1]?=some (.cells #[.slice none 0 0,.slice none 0 0,.slice none 0 0,.int .i64 0,.int .i64 0] 43 (0,0)):=by rw [← F];exact kG bC0
 have bn:w.heap.size + 2≤w1.heap.size:=bA3
 clear F
 obtain ⟨aa,ab,an,ak,al⟩:=jU BX
 go_wp2_with fail
 refine (kCm (HX.out.below X)).mono ?_
 rintro e V ⟨cs,rfl,O,hb⟩
 have bo:=hb.size
 replace BX:=kD BX hb
 replace BR:=kD BR hb
 replace X:=(tQ X hb)
 clear aa ab an ak al
 clear hb
 obtain ⟨ij,bt,il,rfl,fv,gv,gu,gt,gj,gz,g4⟩:=jN O.raw
 obtain ⟨db,dc,rfl,ii⟩:=kE.sl gv
 obtain ⟨bk,R,rfl,aj⟩:=kE.sl gu
 obtain ⟨df,dn,rfl,i0⟩:=kE.sl gj
 clear fv gv gu gt gj gz g4
 have L:=yD (O.wide (T:=fun j=>w.heap.size + 2≤j∧j < V.heap.size) rJ)
 clear O
 go_upto_region 2 with fail
 generalize F:World.alloc V _=w3
 have ap:Below V.heap.size V w3:=rX
 have I:w3.heap[V.heap.size]?=some (.cells #[.slice db x0.length dc,.slice bk x1.length R,.slice df x2.length dn,.int .i64 x3,.int .i64 x4] 43 (0,0)):=tX
 have bp:V.heap.size + 1≤w3.heap.size:=bA3
 clear F
 replace BX:=kD BX ap
 obtain ⟨BR,L,X⟩:=D5
 clear ap
 obtain ⟨aa,ab,an,ak,al⟩:=jU BX
 go_wp2_with fail
 refine (kKy (HX.out.below X) U.out).mono ?_
 rintro e w4 ⟨vg,rfl,OG,hb⟩
 have b9:=hb.size
 replace BX:=kD BX hb
 obtain ⟨BR,I,L,X⟩:=qW
 clear aa ab an ak al
 clear hb
 obtain ⟨ag,ng,cg,Y,aw⟩:=OG.parts
 obtain rfl:=Y
 have RG:=yD ((OG.own vV).rd)
 clear OG
 obtain ⟨H,G,Z,D,af⟩:=jU I
 obtain ⟨ah,ai,bj,bl,bq⟩:=zh I
 go_wp2_with fail
 refine (kOq hs RG.out bB9).mono ?_
 rintro e w5 ⟨rfl,hb⟩
 have cd:=hb.size
 replace BX:=kD BX hb
 obtain ⟨BR,I,L,X⟩:=qW
 clear H G Z D af ah ai bj bl bq
 clear hb
 have ac:=kMr ([s]++signed (x0,x1,x2,x3,x4)++[s])
 have ae:0≤kTa s (signed (x0,x1,x2,x3,x4))∧kTa s (signed (x0,x1,x2,x3,x4)) < 2147483647:=ac
 generalize kTa s (signed (x0,x1,x2,x3,x4))=sg at *
 clear ac e7 RG aw U b8
 obtain ⟨H,G,Z,D,af⟩:=jU I
 obtain ⟨ah,ai,bj,bl,bq⟩:=zh I
 go_upto_region 3 with fail
 clear H G Z D af ah ai bj bl bq
 generalize F:World.setCell w5 _ _=w6
 have N:Touch (fun k=>k=V.heap.size) w5 w6:=pY
 replace I:w6.heap[V.heap.size]?=some (.cells #[.slice db x0.length dc,.slice bk x1.length R,.slice df x2.length dn,.int .i64 x3,.int .i64 sg] 43 (0,0)):=vF
 have c8:=N.size
 clear F
 replace BX:=N.kD BX bB9
 replace BR:=N.kD BR bB9
 replace L:=yD (L.out.touch N qB)
 replace X:=X.trans (N.below X.size wB)
 clear N
 replace L:=yD (kQs L.out (v:=sg) bB9)
 obtain ⟨H,G,Z,D,af⟩:=jU I
 obtain ⟨ax,a1,cq,ck,cw⟩:=jU BR
 obtain ⟨ar,aq,cj,co,cv⟩:=zh BR
 go_wp2
 refine bodyPost_ret (v:=.agg #[.slice db x0.length dc,.slice bk x1.length R,.slice df x2.length dn,.int .i64 x3,.int .i64 sg]) (by simp [results,results125,go_sem,ax,ar,a1,aq,cq,cj,ck,co,cw,cv]) rfl ⟨sg,[.slice db x0.length dc,.slice bk x1.length R,.slice df x2.length dn,.int .i64 x3,.int .i64 sg],rfl,?_,ae,?_⟩
 · exact (L.out.touch (((((kC _ _ _ _).trans (kC _ _ _ _)).trans (kC _ _ _ _)).trans (kC _ _ _ _)).trans (kC _ _ _ _)) rR).wide fM
 exact X.trans (Touch.below (((((kC _ _ _ _).trans (kC _ _ _ _)).trans (kC _ _ _ _)).trans (kC _ _ _ _)).trans (kC _ _ _ _)) X.size wB)
theorem kSe {w0 w:World} {p:Nat} (hc:yK w0 w p) :
    Calls prog 160 #[.pointer (some ⟨p,0,none⟩)] w fun e w'=>∃ s:Int,e=.returned (.int .i64 s)∧100≤s∧s≤104∧yK w0 w' p∧Touch (fun k=>k=p) w w':=by
 go_enter func160,ntmps160
 obtain ⟨b7,cj⟩:=hc.lt
 go_wp2_with fail
 refine (kV (n:=5) hc bB8).mono ?_
 rintro e w1 ⟨x,ax,Z,b4,rfl,G,D⟩
 have bn:=D.size
 have H:=D
 clear hc D
 have hc:=G
 clear G
 replace Z:=Z bB8
 have hw:IntKind.i64.wrap (100 + x)=100 + x:=IntWalk.i64_in _ bB9
 exact eZ
def isLet (s:ByteArray):Bool:=decide (s.size=2) && (decide (kBf s 0=63) && inR (kBf s 1) 97 122)
theorem isLet_no {s:ByteArray} (h:¬ s.size=2):isLet s=false:=by unfold isLet;rw [decide_eq_false h];rfl
theorem kVr {s:ByteArray} (h:¬ kBf s 0=63):isLet s=false:=by unfold isLet;rw [decide_eq_false h];simp
theorem kVq {s:ByteArray} (h:s.size=2) (h0:kBf s 0=63):isLet s=inR (kBf s 1) 97 122:=by unfold isLet;rw [decide_eq_true h,decide_eq_true h0];rfl
theorem kJx {w:World} {s:ByteArray} (hs:s.size≤maxLen):Calls prog 190 #[.string s] w fun e w'=>e=.returned (.bool (isLet s))∧w'=w:=by
 go_enter func190,ntmps190
 by_cases h2:s.size=2
 case neg =>
  exact lK
 have hz:((s.size:Int)==2)=true:=bB5
 have g0:=kEt (s:=s) (k:=0) bB9
 have g1:=kEt (s:=s) (k:=1) bB9
 have r1:=kJa s 1
 have da:0 < s.size:=bB9
 have fc:1 < s.size:=bB9
 by_cases h0:kBf s 0=63
 case neg =>
  exact lL
 have U:=yD (kVq h2 h0)
 have D:((s[0].toNat:Int)=63):=vQ
 have E:((s[0].toNat:Int)==63)=true:=bB0
 have HG:=yD g1
 clear g1 g0 h0
 go_wp2_with fail
 refine ji.mono ?_
 rintro e w1 ⟨rfl,hw⟩
 obtain rfl:=hw.symm
 go_wp2
 go_ret
 exact ⟨kR (by rw [U.out,HG.out,show wrap64 (s[1].toNat:Int)=s[1].toNat from (by have:=s[1].toNat_lt;unfold wrap64;omega)]),rfl⟩
theorem kEs {w:World} {s:ByteArray} (hs:s.size≤maxLen):Calls prog 201 #[.string s] w fun e w'=>e=.returned (.bool (isLet s))∧w'=w:=by
 go_enter func201,ntmps201
 by_cases h2:s.size=2
 case neg =>
  exact lK
 have hz:((s.size:Int)==2)=true:=bB5
 have g0:=kEt (s:=s) (k:=0) bB9
 have g1:=kEt (s:=s) (k:=1) bB9
 have r1:=kJa s 1
 have da:0 < s.size:=bB9
 have fc:1 < s.size:=bB9
 by_cases h0:kBf s 0=63
 case neg =>
  exact lL
 have U:=yD (kVq h2 h0)
 have D:((s[0].toNat:Int)=63):=vQ
 have E:((s[0].toNat:Int)==63)=true:=bB0
 have HG:=yD g1
 clear g1 g0 h0
 have HV:=yD (show inR (kBf s 1) 97 122=(decide ((s[1].toNat:Int) ≥ 97) && decide ((s[1].toNat:Int)≤122)) by rw [← HG.out];rfl)
 go_wp2
 all_goals
   go_ret
   refine ⟨kR ?_,rfl⟩
   rw [U.out,HV.out,Bool.eq_iff_iff]
   simp
   try omega
def kGk (s:ByteArray):Bool:=s.toList==[42]
def kFf (s:ByteArray):Bool:=s.toList==[42,42]
def kEf (n k:Nat) (s:ByteArray):Bool:=((!kBy s && !kGk s) && !isLet s) && (!kFf s || decide ((k:Int) < (n:Int) - 1))
def kKs (n k:Nat) (s:ByteArray):Bool:=((!kBy s && !kGk s) && !isLet s) && (!kFf s || ((k:Int) != (n:Int) - 1))
def kDi (p:zQ):Bool:=yX (fun j=>!kEf p.length j (p.getD j ByteArray.empty)) p.length && decide (p.length≤6)
theorem kSt {n k:Nat} (h:k < n) (s:ByteArray):kKs n k s=kEf n k s:=by
 unfold kKs kEf
 have:((k:Int) != (n:Int) - 1)=decide ((k:Int) < (n:Int) - 1):=by rw [Bool.eq_iff_iff];simp;omega
 rw [this]
theorem vPat_bad {p:zQ} {k:Nat} (h:k < p.length) (q:kEf p.length k p[k]=true):kDi p=false:=by
 unfold kDi;rw [kCj h rD];rfl
theorem kUp {p:zQ} {k:Nat} (h:k < p.length) (q:kEf p.length k p[k]=false) (a:yX (fun j=>!kEf p.length j (p.getD j ByteArray.empty)) k=true):yX (fun j=>!kEf p.length j (p.getD j ByteArray.empty)) (k + 1)=true :=
  kAq a rD
theorem kUq {p:zQ} {k:Nat} (q:yX (fun j=>!kEf p.length j (p.getD j ByteArray.empty)) k=true) (h:¬ k < p.length) (hk:k≤p.length):kDi p=decide (p.length≤6):=by
 obtain rfl:k=p.length:=bB9
 unfold kDi;rw [q];rfl
theorem kDl {w:World} {cp:List Value} {p:zQ} (hp:yw.raw w cp p):Calls prog 189 #[.agg cp.toArray] w (bQ w (.bool (kDi p))):=by
 obtain ⟨av,rfl,ac⟩:=kCr hp
 obtain ⟨aa,J,rfl,la⟩:=kE.sl ac
 clear hp
 go_enter func189,ntmps189
 go_wp2
 generalize H:World.alloc w _=N
 have Z:Below w.heap.size w N:=by rw [← H];exact bI
 have K0:N.cell? ⟨w.heap.size,0,none⟩=some (.slice aa p.length J):=tN
 clear H
 replace ac:=ac.below Z
 go_loopw [3] (fun i wr=>∃ k:Nat,k≤p.length∧i=.int .i64 k∧Hid (yX (fun j=>!kEf p.length j (p.getD j ByteArray.empty)) k=true)∧Below N.heap.size N wr) (fun i _=>p.length - (intOf i).toNat)
 case atStart=>exact ⟨0,Nat.zero_le _,rfl,yD rfl,bR⟩
 obtain ⟨k,hk,rfl,HN,D⟩:=hrel
 replace K0:=cL D K0
 have I:=(tQ Z D)
 by_cases hlt:k < p.length
 · obtain ⟨ba,ah,rfl,c0,hr,A0⟩:=kE.kBo (ac.below D) hlt rfl
   obtain ⟨he,b0⟩:=kE.yY hr
   obtain rfl:c0=_:=by simpa using he
   clear he hr
   have hb:=fun q=>vPat_bad hlt q
   have hx:=fun q=>kUp hlt q HN.out
   have L:=kSt hlt p[k]
   generalize p[k]=s at *
   have HB:=yD hb;have HX:=yD hx;have O:=yD b0;have HI:=yD L;clear hb hx b0 L
   have bg:IntKind.i64.wrap ((p.length:Int) - 1)=(p.length:Int) - 1:=IntWalk.i64_in _ bB9
   go_upto_region 5 with fail
   have FX:=yD (fun (W:World) (hW:Below wr.heap.size wr W)=>cL hW K0)
   refine kz (fun W=>Below wr.heap.size wr W) [true,false,true,true,true,true,true,true,true,false,true,true,true,true,true,true,true,true,true,true,true,true,true,true] bR ?_
   intro wS E
   all_goals refine kS ?_
   all_goals first | refine wkC (kJe O.out) ?_ | refine kS ?_
   all_goals refine kS ?_
   all_goals (have ag:=True.intro;first|(refine yT (fun b ag=>?_);cases b;all_goals first | exact Bool.noConfusion ag | simp only [zU,zV] at ag | skip) | refine kS ?_)
   all_goals refine kX ?_
   iterate 3
    all_goals refine kS ?_
   all_goals (have af:=True.intro;first|(refine yT (fun b af=>?_);cases b;all_goals first | exact Bool.noConfusion af | simp only [zU,zV] at af | skip) | refine kS ?_)
   all_goals refine kX ?_
   all_goals refine kS ?_
   all_goals first | refine wkC (kJx O.out) ?_ | refine kS ?_
   all_goals refine kS ?_
   all_goals refine kS ?_
   all_goals (have al:=True.intro;first|(refine yT (fun b al=>?_);cases b;all_goals first | exact Bool.noConfusion al | simp only [zU,zV] at al | skip) | refine kS ?_)
   all_goals refine kX ?_
   all_goals refine kS ?_
   all_goals refine kS ?_
   all_goals (have F:=True.intro;first|(refine yT (fun b F=>?_);cases b;all_goals first | exact Bool.noConfusion F | simp only [zU,zV] at F | skip) | refine kS ?_)
   all_goals refine kX ?_
   iterate 7
    all_goals refine kS ?_
   all_goals (have V:=True.intro;first|(refine yT (fun b V=>?_);cases b;all_goals first | exact Bool.noConfusion V | simp only [zU,zV] at V | skip) | refine kS ?_)
   all_goals refine kX ?_
   all_goals refine kZ ?_
   all_goals have G:=(tQ I E)
   all_goals have ER:=(tQ D E)
   all_goals first
     | (have U:=yD (HB.out (show kEf p.length k s=true by simp only [kEf,kGk,kFf,decide_not,Bool.not_true,Bool.not_false,Bool.and_true,Bool.true_and,Bool.and_false,Bool.false_and,Bool.or_true,Bool.true_or,Bool.or_false,Bool.false_or,Bool.not_not,ag,af,al,F,V]));clear HB HX;go_wp2;go_ret;exact ⟨kR U.out.symm,G⟩)
     | (have U:=yD (HX.out (show kEf p.length k s=false by simp only [kEf,kGk,kFf,decide_not,Bool.not_true,Bool.not_false,Bool.and_true,Bool.true_and,Bool.and_false,Bool.false_and,Bool.or_true,Bool.true_or,Bool.or_false,Bool.false_or,Bool.not_not,ag,af,al,F,V]));clear HB HX;go_wp2;go_roundw;(case rel=>exact ⟨k + 1,by omega,by go_num,U,ER⟩);(case measure=>simp [intOf];omega))
 have U:=yD (kUq HN.out hlt hk)
 go_wp2
 go_ret
 exact ⟨kR sW,I⟩
theorem kDo {w:World} {cp:List Value} {p:zQ} (hp:yw.raw w cp p):Calls prog 198 #[.agg cp.toArray] w (bQ w (.bool (kDi p))):=by
 obtain ⟨av,rfl,ac⟩:=kCr hp
 obtain ⟨aa,J,rfl,la⟩:=kE.sl ac
 clear hp
 go_enter func198,ntmps198
 go_wp2
 generalize H:World.alloc w _=N
 have Z:Below w.heap.size w N:=by rw [← H];exact bI
 have K0:N.cell? ⟨w.heap.size,0,none⟩=some (.slice aa p.length J):=tN
 clear H
 replace ac:=ac.below Z
 go_loopw [8] (fun i wr=>∃ k:Nat,k≤p.length∧i=.int .i64 k∧Hid (yX (fun j=>!kEf p.length j (p.getD j ByteArray.empty)) k=true)∧Below N.heap.size N wr) (fun i _=>p.length - (intOf i).toNat)
 case atStart=>exact ⟨0,Nat.zero_le _,rfl,yD rfl,bR⟩
 obtain ⟨k,hk,rfl,HN,D⟩:=hrel
 replace K0:=cL D K0
 have I:=(tQ Z D)
 by_cases hlt:k < p.length
 · obtain ⟨ba,ah,rfl,c0,hr,A0⟩:=kE.kBo (ac.below D) hlt rfl
   obtain ⟨he,b0⟩:=kE.yY hr
   obtain rfl:c0=_:=by simpa using he
   clear he hr
   have hb:=fun q=>vPat_bad hlt q
   have hx:=fun q=>kUp hlt q HN.out
   have L:=kSt hlt p[k]
   generalize p[k]=s at *
   have HB:=yD hb;have HX:=yD hx;have O:=yD b0;have HI:=yD L;clear hb hx b0 L
   have bg:IntKind.i64.wrap ((p.length:Int) - 1)=(p.length:Int) - 1:=IntWalk.i64_in _ bB9
   go_upto_region 4 with fail
   have FX:=yD (fun (W:World) (hW:Below wr.heap.size wr W)=>cL hW K0)
   refine kz (fun W=>Below wr.heap.size wr W) [true,false,true,true,true,true,true,true,true,false,true,true,true,true,true,true,true,true,true,true,true,true,true,true] bR ?_
   intro wS E
   all_goals refine kS ?_
   all_goals first | refine wkC (kJk O.out) ?_ | refine kS ?_
   all_goals refine kS ?_
   all_goals (have ag:=True.intro;first|(refine yT (fun b ag=>?_);cases b;all_goals first | exact Bool.noConfusion ag | simp only [zU,zV] at ag | skip) | refine kS ?_)
   all_goals refine kX ?_
   iterate 3
    all_goals refine kS ?_
   all_goals (have af:=True.intro;first|(refine yT (fun b af=>?_);cases b;all_goals first | exact Bool.noConfusion af | simp only [zU,zV] at af | skip) | refine kS ?_)
   all_goals refine kX ?_
   all_goals refine kS ?_
   all_goals first | refine wkC (kEs O.out) ?_ | refine kS ?_
   all_goals refine kS ?_
   all_goals refine kS ?_
   all_goals (have al:=True.intro;first|(refine yT (fun b al=>?_);cases b;all_goals first | exact Bool.noConfusion al | simp only [zU,zV] at al | skip) | refine kS ?_)
   all_goals refine kX ?_
   all_goals refine kS ?_
   all_goals refine kS ?_
   all_goals (have F:=True.intro;first|(refine yT (fun b F=>?_);cases b;all_goals first | exact Bool.noConfusion F | simp only [zU,zV] at F | skip) | refine kS ?_)
   all_goals refine kX ?_
   iterate 7
    all_goals refine kS ?_
   all_goals (have V:=True.intro;first|(refine yT (fun b V=>?_);cases b;all_goals first | exact Bool.noConfusion V | simp only [zU,zV] at V | skip) | refine kS ?_)
   all_goals refine kX ?_
   all_goals refine kZ ?_
   all_goals have G:=(tQ I E)
   all_goals have ER:=(tQ D E)
   all_goals first
     | (have U:=yD (HB.out (HI.out.symm.trans (show kKs p.length k s=true by simp only [kKs,kGk,kFf,decide_not,Bool.not_true,Bool.not_false,Bool.and_true,Bool.true_and,Bool.and_false,Bool.false_and,Bool.or_true,Bool.true_or,Bool.or_false,Bool.false_or,Bool.not_not,ag,af,al,F,V])));clear HB HX;go_wp2;go_ret;exact ⟨kR U.out.symm,G⟩)
     | (have U:=yD (HX.out (HI.out.symm.trans (show kKs p.length k s=false by simp only [kKs,kGk,kFf,decide_not,Bool.not_true,Bool.not_false,Bool.and_true,Bool.true_and,Bool.and_false,Bool.false_and,Bool.or_true,Bool.true_or,Bool.or_false,Bool.false_or,Bool.not_not,ag,af,al,F,V])));clear HB HX;go_wp2;go_roundw;(case rel=>exact ⟨k + 1,by omega,by go_num,U,ER⟩);(case measure=>simp [intOf];omega))
 have U:=yD (kUq HN.out hlt hk)
 go_wp2
 go_ret
 exact ⟨kR sW,I⟩
end Go.Proofs.YtonmjkmaadgceaaGreat

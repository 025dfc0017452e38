/-
  Pending interests drawn that are read only.
-/
import Derived.Test.YtonmjkmaadgceaaGreatDrawD
set_option linter.unusedVariables false
set_option linter.unusedSimpArgs false
set_option linter.unnecessarySimpa false
set_option maxRecDepth 100000
set_option maxHeartbeats 4000000
namespace Go.Proofs.YtonmjkmaadgceaaGreat
open Go.RowKit _root_.Go.Proofs.Tryz
def kHj (u:Nat):List UInt8:=if h:u=0 then [] else kHj (u / 10)++[UInt8.ofNat (48 + u % 10)]
termination_by u
decreasing_by omega
theorem kTo:kHj 0=[]:=by rw [kHj,dif_pos rfl]
theorem kWw {u:Nat} (h:0 < u):kHj u=kHj (u / 10)++[UInt8.ofNat (48 + u % 10)]:=by rw [kHj,dif_neg bB9]
theorem digs_dec (u:Nat) (h:0 < u):kHj u=Lib.decDigits u:=by
 induction u using Nat.strongRecOn with
 | _ u ih =>
   rw [kWw h,Lib.decDigits]
   by_cases q:u < 10
   · rw [dif_pos q,show u / 10=0 by omega,kTo,show u % 10=u by omega];rfl
   · rw [dif_neg q,ih (u / 10) bB9 bB9]
theorem kKl:∀ (k:Nat) {u:Nat},u < 10 ^ k→(kHj u).length≤k
  | 0,u,h=>by
    obtain rfl:u=0:=bA5
    rw [kTo];simp
  | k + 1,u,h=>by
    by_cases q:u=0
    · subst q;rw [kTo];simp
    · rw [kWw bB9,List.length_append]
      have:=kKl k (u:=u / 10) (Nat.div_lt_of_lt_mul nV)
      simp;omega
def kNs (n:Int):ByteArray:=⟨(Lib.itoa n).toArray⟩
theorem kOz {n:Nat} (h:0 < n):kNs (n:Int)=⟨(kHj n).toArray⟩:=by
 unfold kNs Lib.itoa
 rw [if_neg bB9,digs_dec n h,show (n:Int).toNat=n by omega]
theorem kPa {n:Nat} (h:0 < n):kNs (-(n:Int))=⟨#[45]⟩++⟨(kHj n).toArray⟩:=by
 unfold kNs Lib.itoa
 rw [if_pos bB9,digs_dec n h,show (-(n:Int)).natAbs=n by omega]
 apply ByteArray.ext
 simp
theorem itoaB_0:kNs 0=⟨#[48]⟩:=by
 unfold kNs Lib.itoa
 rw [if_neg bB9,show (0:Int).toNat=0 from rfl,Lib.decDigits,dif_pos bB9]
 rfl
theorem ba_size (l:List UInt8):(⟨l.toArray⟩:ByteArray).size=l.length:=by simp [ByteArray.size]
theorem itoaB_size {n:Int} (h:-9223372036854775808≤n∧n≤9223372036854775807):(kNs n).size≤20:=by
 rcases Int.lt_trichotomy n 0 with q | q | q
 · obtain ⟨m,rfl⟩:∃ m:Nat,n=-(m:Int):=⟨n.natAbs,by omega⟩
   have h1:=kKl 19 (u:=m) bB9
   have h2:=ba_size (kHj m)
   have h3:(⟨#[45]⟩:ByteArray).size=1:=rfl
   rw [kPa bB9,ByteArray.size_append]
   omega
 · subst q;rw [itoaB_0];decide
 obtain ⟨m,rfl⟩:∃ m:Nat,n=m:=⟨n.toNat,by omega⟩
 have h1:=kKl 19 (u:=m) bB9
 rw [kOz bB9,ba_size];omega
theorem dig_int {u:Nat}:(48:Int) + (u:Int) % 10=((UInt8.ofNat (48 + u % 10)).toNat:Int):=by
 rw [UInt8.toNat_ofNat']
 omega
theorem kNn {P:Program} {w:World} {src dst e:TypeId} {x:UInt8} {z:Int} (hz:z=(x.toNat:Int)) (hs:P.underlying src=some (.slice e)) (he:P.underlying e=some (.int .u8)) (hd:P.underlying dst=some .string) :
    (convert src dst (.slice (some ⟨w.heap.size,0,none⟩) 1 1)).run P (w.alloc (.cells #[.int .u8 z] e))=.ok (.string ⟨#[x]⟩) (w.alloc (.cells #[.int .u8 z] e)):=by
 have h:=run_convert_bytes_back (P:=P) (w.alloc (.cells #[.int .u8 z] e)) src dst e ⟨w.heap.size,0,none⟩ 1 [x] hs he hd (by
   intro j I
   obtain rfl:j=0:=bA6
   subst hz
   simp [go_sem])
 simpa using h
theorem kRa {w:World} {n:Int} (hn:-9223372036854775808≤n∧n≤9223372036854775807) :
    Calls prog 117 #[.int .i64 n] w (bQ w (.string (kNs n))):=by
 go_enter func117,ntmps117
 rcases Int.lt_trichotomy n 0 with q | q | q
 · obtain ⟨N,rfl⟩:∃ m:Nat,n=-(m:Int):=⟨n.natAbs,by omega⟩
   have hN:0 < N:=bB9
   go_wp2
   go_loopw [3,4] (fun sv H wr=>∃ (u:Nat) (s:ByteArray),u≤N∧H=.int .i64 (-(u:Int))∧sv=.string s∧s.size≤20∧Hid (kHj u++s.data.toList=kHj N)∧Below w.heap.size w wr) (fun _ H _=>(intOf H).natAbs)
   case atStart=>exact ⟨N,ByteArray.empty,Nat.le_refl _,rfl,rfl,by decide,yD bC0,bR⟩
   obtain ⟨u,s,hu,rfl,rfl,hs,HP,D⟩:=hrel
   by_cases hz:u=0
   · exact iP
   have J:0 < u:=bB9
   have G:=yD (kWw J)
   have hne:(((-(u:Int)):Int) != 0)=true:=bB5
   have b0:s.size + 1≤20:=by
    exact iQ
   obtain ⟨hb,R⟩:=EE
   clear hb
   obtain ⟨F,ag⟩:=y9
   have HX:=yD (show kHj (u / 10)++((⟨#[UInt8.ofNat (48 + u % 10)]⟩:ByteArray)++s).data.toList=kHj N by
     rw [← HP.out,G.out];simp)
   generalize (⟨#[UInt8.ofNat (48 + u % 10)]⟩:ByteArray)=I at R F ag HX
   by_cases hm:u % 10=0
   · have L:(u:Int) % 10=0:=bB9
     have O:=F hm
     clear F R
     exact iR
   have L:(0:Int) < (u:Int) % 10:=bB9
   clear F
   exact iR
 · subst q
   go_wp2
   go_ret
   exact ⟨by rw [itoaB_0];rfl,bR⟩
 obtain ⟨N,rfl⟩:∃ m:Nat,n=m:=⟨n.toNat,by omega⟩
 have hN:0 < N:=bB9
 go_wp2
 go_loopw [3,4] (fun sv H wr=>∃ (u:Nat) (s:ByteArray),u≤N∧H=.int .i64 (u:Int)∧sv=.string s∧s.size≤20∧Hid (kHj u++s.data.toList=kHj N)∧Below w.heap.size w wr) (fun _ H _=>(intOf H).natAbs)
 case atStart=>exact ⟨N,ByteArray.empty,Nat.le_refl _,rfl,rfl,by decide,yD bC0,bR⟩
 obtain ⟨u,s,hu,rfl,rfl,hs,HP,D⟩:=hrel
 by_cases hz:u=0
 · exact iP
 have J:0 < u:=bB9
 have G:=yD (kWw J)
 have hne:(((u:Int):Int) != 0)=true:=bB5
 have b0:s.size + 1≤20:=by
  exact iQ
 obtain ⟨hb,R⟩:=EE
 clear hb
 obtain ⟨F,ag⟩:=y9
 have HX:=yD (show kHj (u / 10)++((⟨#[UInt8.ofNat (48 + u % 10)]⟩:ByteArray)++s).data.toList=kHj N by
   rw [← HP.out,G.out];simp)
 generalize (⟨#[UInt8.ofNat (48 + u % 10)]⟩:ByteArray)=I at R F ag HX
 exact iR
theorem pend_rdB {w:World} {cs:List Value} {x:kI} {S:Nat→Prop} (h:kJ.jY w cs x S):∃ v0 v1,cs=[v0,v1,.int .i64 x.2.2]∧kM.jY w [v0] x.1 S∧(kE.slice 73 jH).jY w [v1] x.2.1 S∧-9223372036854775808≤x.2.2∧x.2.2≤9223372036854775807:=by
 obtain ⟨c,d,rfl,h1,h2⟩:=kE.kCx (r:=kM) (q:=.pair (kE.slice 73 jH) .int) h
 obtain ⟨c2,d2,rfl,h3,h4⟩:=kE.kCx (r:=(kE.slice 73 jH)) (q:=.int) h2
 have l1:=kM.len h1.1
 have l2:=(kE.slice 73 jH).len h3.1
 obtain ⟨rfl,h5,h6⟩:=h4.1
 match c,l1,c2,l2 with
 | [v0],_,[v1],_=>exact ⟨v0,v1,rfl,h1,h3,h5,h6⟩
theorem kMi {l:List kI} {m k:Nat} {y:kI} (h:kAa l m) (hk:m < k) (hy:y.2.1.length≤k∧kQp y.2.1∧yM y.1):kAa (l++[y]) k:=by
 refine ⟨by have:=h.1;simp;omega,fun z hz=>?_⟩
 rcases List.mem_append.1 hz with hz | hz
 · exact ⟨by have:=(h.2 z hz).1;omega,(h.2 z hz).2⟩
 rw [List.mem_singleton.1 hz];exact hy
theorem kSs {w:World} {v u:Value} {ps:kQ} {D:List kP} {t:Int} {A B S:Nat→Prop} (h:kM.own w [v] ps A) (k:(kE.slice 73 jH).own w [u] D B) (hA:∀ k,A k→S k) (hB:∀ k,B k→S k) (hd:∀ k,A k→B k→False) (ht:-9223372036854775808≤t∧t≤9223372036854775807):kJ.own w [v,u,.int .i64 t] (ps,D,t) S :=
  kE.ja (r:=kM) (q:=.pair (kE.slice 73 jH) .int) (cs:=[v]) (ds:=[u,.int .i64 t]) h (kE.jw (r:=(kE.slice 73 jH)) (q:=.int) (cs:=[u]) (ds:=[.int .i64 t]) k (kE.ky ht)) hA hB hd
theorem smallP_snoc {l:List kI} {m:Nat} {y:kI} (h:kAa l m) (hl:l.length < m) (hy:y.2.1.length≤m∧kQp y.2.1∧yM y.1):kAa (l++[y]) m:=by
 refine ⟨by simp;omega,fun z hz=>?_⟩
 rcases List.mem_append.1 hz with hz | hz
 · exact h.2 z hz
 rw [List.mem_singleton.1 hz];exact hy
theorem kWl {w0 w:World} {p:Nat} (hc:yK w0 w p) :
    Calls prog 77 #[.pointer (some ⟨p,0,none⟩)] w fun e w'=>∃ a c l,e=.returned (.slice a l.length c)∧kAa l 14∧(kE.slice 71 kJ).jY w' [.slice a l.length c] l (jR w.heap.size w'.heap.size)∧yK w0 w' p∧Touch (fun k=>k=p) w w':=by
 go_enter func77,ntmps77
 obtain ⟨b7,cj⟩:=hc.lt
 go_wp2_with fail
 refine (kUf hc).mono ?_
 rintro e w1 ⟨a,n,c,l,rfl,af,db,hO,G,D⟩
 have bn:=D.size
 have H:=D
 clear hc D
 have hc:=G
 clear G
 subst af
 have ah:=yD db
 have ac:=db.1
 clear db
 have L:=yD (hO)
 clear hO
 go_wp2_with fail
 refine (kV (n:=10) hc bB8).mono ?_
 rintro e V ⟨m,bq,ao,ck,rfl,G,D⟩
 have bo:=D.size
 obtain ⟨L,H⟩:=oZ
 clear hc D
 have hc:=G
 clear G
 replace ao:=ao bB8
 clear ck
 by_cases h0:m=0
 · subst h0
   go_wp2_with fail
   refine (kEy hc).mono ?_
   rintro e w3 ⟨na,nc,N,rfl,hr,cq,b1,G,D⟩
   have bp:=D.size
   obtain ⟨L,H⟩:=oZ
   clear hc D
   have hc:=G
   clear G
   have bu:=yD b1
   clear b1
   have HR:=yD (hr)
   clear hr
   go_wp2_with fail
   refine (kV (n:=9) hc bB8).mono ?_
   rintro e w4 ⟨f,el,dt,d4,rfl,G,D⟩
   have b9:=D.size
   obtain ⟨L,HR,H⟩:=xC
   clear hc D
   have hc:=G
   clear G
   replace dt:=dt bB8
   clear d4
   have am:IntKind.i64.wrap (f - 1)=f - 1:=IntWalk.i64_in _ bB9
   go_wp2_with fail
   refine (kBh (hc.below (bR.alloc nL _)) (kE.kGs _ [0,-1,1000001] bB8 bB8) bB9 bB8 bB8).mono ?_
   rintro e w5 ⟨y,al,a8,rfl,G,D⟩
   obtain ⟨D,cd⟩:=xQ
   obtain ⟨L,HR,H⟩:=xC
   clear hc D
   have hc:=G
   clear G
   have hy:=kE.kGq (lo:=-1) (hi:=1000001) bB8 al
   have ai:y < 100∨1000000 < y:=by have h:=al;simp only [List.mem_cons,List.not_mem_nil,or_false] at h;omega
   clear al
   have bi:jH.flat [.int .i64 (f - 1),.int .i64 y,.int .i64 0] (f - 1,y,0):=kE.jr (cs:=[.int .i64 (f - 1)]) (kE.ky bB9) (kE.jr (cs:=[.int .i64 y]) (kE.ky bB9) (kE.ky bB9))
   go_wp2_with (at_builtin;refine kE.zO rfl _ _ 28 rfl (r:=kJ) (e:=71) underlying28 jy rfl bB8 bB8 (w:=w5) L.out (kE.zD _ _) (c:=1) (kSs (A:=jR V.heap.size w3.heap.size) (B:=fun k=>k=w5.heap.size) (S:=fun k=>V.heap.size≤k∧k≤w5.heap.size) (HR.out.below (kE.zD _ _)) ((kE.kGr w5 bi).own bB6) rM wG (fun k q1 q2=>by have:=q1.2;omega) (t:=0) bB9) bC1 (by rw [show ∀ (o:Obj),(World.alloc w5 o).heap.size=w5.heap.size + 1 from fun o=>by simp];rfl) nW bB9 ?_)
   intro v9 w9 hQ ch
   have Y:Touch (fun k=>w.heap.size≤k∧k < w1.heap.size) w5 w9:=(Touch.of_below (kE.zD _ _)).trans (ch.wide (fun k q=>q.1))
   have z9:=Y.size
   have U:=ch.size
   have zr:w5.heap.size + 1≤w9.heap.size:=by simpa using U
   clear ch U
   obtain ⟨l2,bc⟩:∃ l2,l++[(N,[(f - 1,y,0)],0)]=l2:=⟨_,rfl⟩
   rw [bc] at hQ
   have c4:=yD (show kAa l2 10 from bc ▸ kMi ah.out bB9 ⟨by simp,kPo ai,bu.out⟩)
   have aa:=yD (show l2.length=l.length + 1 by rw [← bc];simp)
   clear bc
   obtain ⟨a9,c9,rfl,_⟩:=kE.sl hQ.raw
   have ag:=yD (hQ.wide (T:=jR w.heap.size w9.heap.size) bG)
   exact eT
 skip
 by_cases h1:m=1
 · subst h1
   go_wp2_with fail
   refine (yP (s:={ data:=#[47,113] }) bB8).mono ?_
   rintro e w3 ⟨na,nc,N,rfl,hr,dz,b1,hb⟩
   have bp:=hb.size
   replace L:=yD (L.out.below hb)
   obtain ⟨hc,H⟩:=oP
   clear hb
   have bu:=yD b1
   clear b1
   have HR:=yD (hr)
   clear hr
   go_wp2_with (at_builtin;refine kE.zO rfl _ _ 28 rfl (r:=kJ) (e:=71) underlying28 jy rfl bB8 bB8 (w:=w3) L.out bR (c:=1) (kSs (A:=jR V.heap.size w3.heap.size) (B:=fun _=>False) (S:=fun k=>V.heap.size≤k∧k < w3.heap.size) HR.out kE.jf (fun k q=>q) (fun k q=>q.elim) (fun k q1 q2=>q2) (t:=0) bB9) bC1 bC1 nW bB9 ?_)
   intro v9 w9 hQ ch
   have Y:Touch (fun k=>w.heap.size≤k∧k < w1.heap.size) w3 w9:=ch.wide (fun k q=>q.1)
   have z9:=Y.size
   clear ch
   obtain ⟨l2,bc⟩:∃ l2,l++[(N,[],0)]=l2:=⟨_,rfl⟩
   rw [bc] at hQ
   have c4:=yD (show kAa l2 10 from bc ▸ kMi ah.out bB9 ⟨by simp,goodR_nil,bu.out⟩)
   have aa:=yD (show l2.length=l.length + 1 by rw [← bc];simp)
   clear bc
   obtain ⟨a9,c9,rfl,_⟩:=kE.sl hQ.raw
   have ag:=yD (hQ.wide (T:=jR w.heap.size w9.heap.size) bL)
   exact eT
 by_cases h2:m=2
 · subst h2
   by_cases da:0 < l.length
   · obtain ⟨_,bb,off,rfl,_,bk⟩:=kE.kHv L.out da
     obtain ⟨ce,B,Z,hB,dg,ae,_,_⟩:=kE.own_get L.out (i:=0) da
     obtain ⟨v0,v1,rfl,_,p0,p1,p2⟩:=jo Z.raw
     obtain ⟨na,nc,rfl,_⟩:=kE.sl p0
     obtain ⟨ra,rc,rfl,_⟩:=kE.sl p1
     have A0:=ae 0 _ rfl
     have A1:=ae 1 _ rfl
     have A2:=ae 2 _ rfl
     simp only [Nat.zero_mul,Nat.add_zero] at A0 A1 A2
     have J:=ah.out.2 _ (List.getElem_mem da)
     have HE:=yD Z
     clear ae Z p0 p1
     have de:(0:Int) < l.length:=bB9
     generalize l[0]=y at *
     go_wp2_with (at_builtin;refine kE.kTx rfl _ _ 28 rfl (r:=kJ) (e:=71) underlying28 jy rfl bB8 bB8 (w:=V) L.out bR (c:=1) HE.out.jY bC1 bC1 (fun b_ o_ q_ h_=>by simp only [Option.some.injEq,Addr.mk.injEq,and_true] at q_;have:=(hB _ h_).2;omega) da bB9 ?_)
     intro v9 w9 hQ ch
     have Y:Touch (fun k=>w.heap.size≤k∧k < w1.heap.size) V w9:=ch.wide (fun k q=>q.1)
     have z9:=Y.size
     clear ch A0 A1 A2
     obtain ⟨l2,bc⟩:∃ l2,l++[y]=l2:=⟨_,rfl⟩
     rw [bc] at hQ
     have c4:=yD (show kAa l2 10 from bc ▸ kMi ah.out bB9 ⟨by have:=J.1;omega,J.2⟩)
     have aa:=yD (show l2.length=l.length + 1 by rw [← bc];simp)
     clear bc
     obtain ⟨a9,c9,rfl,_⟩:=kE.sl hQ.rd.1
     have ag:=yD (hQ.wide (T:=jR w.heap.size w9.heap.size) (fun k q=>by rcases q with q | q | q;exact ⟨q.1,by have:=q.2;omega⟩;(have:=(hB _ q).1;exact ⟨this.1,by have:=this.2;omega⟩);exact ⟨by have:=q.1;omega,q.2⟩))
     clear hQ
     replace hc:=hc.touch Y tT sZ
     replace H:=H.kBj Y (fun k q=>q.1)
     clear Y L HE
     go_wp2
     go_ret
     exact ⟨_,_,l2,rfl,c4.out.mono bB9,ag.out,hc,H⟩
   have de:¬ (0:Int) < l.length:=bB9
   go_wp2
   go_ret
   exact ⟨_,_,l,rfl,ah.out.mono bB9,L.out.jY.wide rM,hc,H⟩
 by_cases h3:m=3
 · subst h3
   go_wp2
   go_loopw [3,4] (fun v i wr=>∃ (j:Nat) (a:Option Addr) (n c:Nat) (l:List kI),v=.slice a n c∧i=.int .i64 j∧j≤n∧n≤13∧Hid (n=l.length)∧Hid (kAa l 13)∧Hid ((kE.slice 71 kJ).own wr [.slice a n c] l (fun q=>w.heap.size≤q∧q < wr.heap.size))∧V.heap.size≤wr.heap.size∧yK w0 wr p∧Touch (fun k=>k=p) w wr) (fun v _ _=>match v with | .slice _ n _=>14 - n | _=>0)
   case atStart=>exact ⟨0,a,l.length,c,l,rfl,rfl,by omega,by omega,yD rfl,yD (ah.out.mono bB9),yD (L.out.wide (fun q h=>⟨h.1,by have:=h.2;omega⟩)),Nat.le_refl _,hc,H⟩
   clear hc H L ah ac
   obtain ⟨j,a,n,c,l,rfl,rfl,I,aj,HN,ah,L,dh,hc,H⟩:=hrel
   replace L:=yD (L.out.wide (T:=fun q=>w.heap.size≤q∧q < wr.heap.size) (fun _ h=>h))
   go_wp2_with fail
   refine (kV (n:=3) hc bB8).mono ?_
   rintro e b3 ⟨y,b6,a4,a6,rfl,G,D⟩
   have d0:=D.size
   obtain ⟨L,H⟩:=oZ
   clear hc D
   have hc:=G
   clear G
   replace a4:=a4 bB8
   clear a6
   have hw:IntKind.i64.wrap (11 + y)=11 + y:=IntWalk.i64_in _ bB9
   by_cases hlt:(n:Int) < 11 + y
   · have ak:n≤12:=bB9
     go_wp2_with fail
     refine (yP (s:={ data:=#[47,122,122] }) bB8).mono ?_
     rintro e cf ⟨za,zc,zs,rfl,hr,dz,b1,hb⟩
     have e6:=hb.size
     replace L:=yD (L.out.below hb)
     obtain ⟨hc,H⟩:=oP
     clear hb
     have O:=yD b1
     clear b1
     have HZ:=yD (hr.wide (T:=fun q=>b3.heap.size≤q∧q < cf.heap.size) (fun _ h=>h))
     clear hr
     go_wp2_with fail
     refine (kRa (n:=(j:Int)) bB9).mono ?_
     rintro e cg ⟨rfl,hb⟩
     have e8:=hb.size
     replace L:=yD (L.out.below hb)
     replace HZ:=yD (HZ.out.below hb)
     obtain ⟨hc,H⟩:=oP
     clear hb
     have R:=itoaB_size (n:=(j:Int)) bB9
     generalize kNs (j:Int)=s at *
     have b0:(({ data:=#[112] }:ByteArray)++s).size≤21:=by rw [ByteArray.size_append];have:({ data:=#[112] }:ByteArray).size=1:=rfl;omega
     go_wp2_with fail
     clear R
     generalize ({ data:=#[112] }:ByteArray)++s=W at *
     refine (kCn (cn:=[.slice za zs.length zc]) HZ.out.rd (s:=W) bB9 vV).mono ?_
     rintro e dx ⟨na,nn,nc,b2,rfl,ab,cc,hb⟩
     have gg:=hb.size
     replace L:=yD (L.out.below hb)
     replace HZ:=yD (HZ.out.below hb)
     obtain ⟨hc,H⟩:=oP
     clear hb
     have bf:(if b2 then zs++[W] else zs).length≤65:=dE
     have bu:Hid (yM (if b2 then zs++[W] else zs)):=yD (by split;exact O.out.snoc bB9;exact O.out)
     clear O
     generalize (if b2 then zs++[W] else zs)=qs at *
     obtain ⟨_,_,_,a1,a7⟩:=cc.parts
     simp only [Value.slice.injEq] at a1
     have c2:=yD (a1.2.1.trans a7.out)
     clear a1 a7 b0
     have HB:=yD (cc.wide (T:=fun q=>cg.heap.size≤q∧q < dx.heap.size) (fun _ h=>h))
     clear cc
     clear HZ
     go_upto_region 15 with fail
     generalize F:World.alloc dx _=eh
     have E:Below dx.heap.size dx eh:=rX
     have X:eh.heap[dx.heap.size]?=some (.cells #[.slice na nn nc] 41 (0,0)):=tX
     have hu:dx.heap.size + 1≤eh.heap.size:=bA3
     clear F
     replace L:=yD (L.out.below E)
     replace HB:=yD (HB.out.below E)
     replace hc:=hc.below E
     replace H:=H.trans (Touch.of_below E)
     clear E
     have c8:eh.cell? ⟨dx.heap.size,0,none⟩=some (.slice na nn nc):=kF X rfl
     have bi:jH.flat [.int .i64 1,.int .i64 0,.int .i64 0] (1,0,0):=kE.jr (cs:=[.int .i64 1]) (kE.ky bB9) (kE.jr (cs:=[.int .i64 0]) (kE.ky bB9) (kE.ky bB9))
     go_wp2_with (at_builtin;refine kE.zO rfl _ _ 28 rfl (r:=kJ) (e:=71) underlying28 jy rfl bB8 bB8 (w:=eh) L.out (kE.zD _ _) (c:=1) (kSs (A:=fun q=>cg.heap.size≤q∧q < dx.heap.size) (B:=fun k=>k=eh.heap.size) (S:=fun k=>cg.heap.size≤k∧k≤eh.heap.size) ((HB.out.own vV).below (kE.zD _ _)) ((kE.kGr eh bi).own bB6) rM wG (fun k q1 q2=>by have:=q1.2;omega) (t:=0) bB9) bC1 (by rw [show ∀ (o:Obj),(World.alloc eh o).heap.size=eh.heap.size + 1 from fun o=>by simp];rfl) nW vM ?_)
     intro v9 w9 hQ ch
     have Y:Touch (fun k=>w.heap.size≤k∧k < wr.heap.size) eh w9:=(Touch.of_below (kE.zD _ _)).trans (ch.wide (fun k q=>q.1))
     have z9:=Y.size
     have U:=ch.size
     have zr:eh.heap.size + 1≤w9.heap.size:=by simpa using U
     clear ch U
     obtain ⟨l2,bc⟩:∃ l2,l++[(qs,[(1,0,0)],0)]=l2:=⟨_,rfl⟩
     rw [bc] at hQ
     have c4:=yD (show kAa l2 13 from bc ▸ smallP_snoc ah.out vM ⟨by simp,kPo (.inl bB8),bu.out⟩)
     have aa:=yD (show l2.length=l.length + 1 by rw [← bc];simp)
     clear bc
     obtain ⟨a9,c9,rfl,_⟩:=kE.sl hQ.raw
     have ag:=yD (hQ.wide (T:=fun q=>w.heap.size≤q∧q < w9.heap.size) bG)
     clear hQ
     have bt:=hc.touch Y tT sZ
     have br:=H.kBj Y (fun k q=>q.1)
     clear Y hc H L HB X c8
     go_wp2
     go_roundw
     case rel=>exact ⟨j + 1,a9,l2.length,_,l2,rfl,by go_num,by have h1:=aa.out;have h2:=HN.out;omega,by have h1:=aa.out;have h2:=HN.out;omega,yD rfl,c4,ag,by omega,bt,br⟩
     have h1:=aa.out;have h2:=HN.out;first | omega|(simp;omega)
   go_wp2
   go_ret
   have hn:=HN.out
   subst hn
   exact ⟨_,_,l,rfl,ah.out.mono bB9,L.out.jY.wide rM,hc,H⟩
 go_wp2
 go_ret
 exact ⟨_,_,l,rfl,ah.out.mono bB9,L.out.jY.wide rM,hc,H⟩
end Go.Proofs.YtonmjkmaadgceaaGreat

/-
  Data that is valid.
-/
import Derived.Test.YtonmjkmaadgceaaGreatDrawQ
set_option linter.unusedVariables false
set_option linter.unusedSimpArgs false
set_option linter.unnecessarySimpa false
set_option maxRecDepth 100000
set_option maxHeartbeats 4000000
namespace Go.Proofs.YtonmjkmaadgceaaGreat
open Go.RowKit _root_.Go.Proofs.Tryz
structure SR (cw w:World) (p R:Nat) (t:TypeId) (n:Nat) (W:World):Prop where
  touch:Touch (fun k=>k=p∨k=R) w W
  cur:yK cw W p
  row:∃ l:List Value,l.length=n∧W.heap[R]?=some (.cells l.toArray t (0,0))
section
variable {cw w W W':World} {p R n:Nat} {t:TypeId}
theorem SR.go (h:SR cw w p R t n W) (ht:Touch (fun k=>k=p) W W') (hc:yK cw W' p) (hne:¬ R=p):SR cw w p R t n W':=by
 obtain ⟨l,hl,hr⟩:=h.row
 exact ⟨h.touch.trans (ht.wide (fun k q=>.inl q)),hc,l,hl,ht.kD hr hne⟩
theorem SR.below (h:SR cw w p R t n W) (b:Below W.heap.size W W'):SR cw w p R t n W':=by
 obtain ⟨l,hl,hr⟩:=h.row
 exact ⟨h.touch.trans (Touch.of_below b),h.cur.below b,l,hl,kD hr b⟩
theorem SR.set (h:SR cw w p R t n W) (hne:¬ R=p) (h0:cw.heap.size≤R) (j:Nat) (v:Value):SR cw w p R t n (W.setCell ⟨R,j,none⟩ v):=by
 obtain ⟨l,hl,hr⟩:=h.row
 refine ⟨h.touch.trans ((kC W R j v).wide (fun k q=>.inr q)),h.cur.touch (kC W R j v) (fun q=>hne q.symm) (fun k q=>q ▸ h0),(l.toArray.setIfInBounds j v).toList,by simpa using hl,?_⟩
 have:=kH (v:=v) hr j
 simpa using this
end
def DrawnW (w0 w:World) (p:Nat) (e:Ending) (w':World):Prop:=∃ a c ps n h t,e=.returned (.agg #[.slice a ps.length c,.int .i64 n,.int .i64 h,.int .i64 t])∧kM.own w' [.slice a ps.length c] ps (jR w.heap.size w'.heap.size)∧(ps.length≤65∧yM ps)∧(0≤n∧n≤11)∧(0≤h∧h≤4)∧(1≤t∧t≤8)∧yK w0 w' p∧Touch (fun k=>k=p) w w'
theorem kUa {w0 w:World} {p:Nat} (hc:yK w0 w p) :
    Calls prog 111 #[.pointer (some ⟨p,0,none⟩)] w fun e w'=>DrawnW w0 w p e w':=by
 go_enter func111,ntmps111
 obtain ⟨b7,cj⟩:=hc.lt
 go_upto_region 1 with fail
 generalize F:World.alloc w _=w1
 obtain ⟨ak,R,bn⟩:=CW
 clear F
 obtain ⟨hc,H⟩:=q8
 clear ak
 go_wp2_with fail
 refine (zo (hc.below (bR.alloc nL _)) (kE.kAw _ [{ data:=#[47,97] },{ data:=#[47,98] }] bB8 bB8) bB9 bB8 bB8).mono ?_
 rintro e V ⟨y,al,a8,rfl,G,D⟩
 replace D:=(Touch.of_below (S:=fun k=>k=p) (bR.alloc nL _)).trans D
 obtain ⟨bo,R,H⟩:=xE
 clear hc D
 have hc:=G
 clear G
 go_wp2_with fail
 refine (yP (kE.kBz bB8 al)).mono ?_
 rintro e w3 ⟨za,zc,zs,rfl,hr,d1,hzs,hb⟩
 have bp:=hb.size
 replace R:=kD R hb
 obtain ⟨hc,H⟩:=oP
 clear hb
 have HZ:=yD (hr)
 clear hr al a8
 go_wp2_with fail
 refine (zo (hc.below (bR.alloc nL _)) (kE.kAw _ [{ data:=#[49] },{ data:=#[50] },{ data:=#[120,45,49] }] bB8 bB8) bB9 bB8 bB8).mono ?_
 rintro e w4 ⟨y2,al,a8,rfl,G,D⟩
 obtain ⟨D,b9⟩:=DN
 replace R:=D.kD R bB9
 replace HZ:=yD (HZ.out.touch D qB)
 replace H:=H.trans D
 clear hc D
 have hc:=G
 clear G
 have a6:=kE.kBz bB8 al
 clear al a8
 go_wp2_with fail
 refine (kCn (cn:=[.slice za zs.length zc]) HZ.out.rd (s:=y2) bB9 vV).mono ?_
 rintro e w5 ⟨a,nn,c,b2,rfl,ab,cc,hb⟩
 have cd:=hb.size
 replace R:=kD R hb
 replace HZ:=yD (HZ.out.below hb)
 obtain ⟨hc,H⟩:=oP
 clear hb
 have bf:(if b2 then zs++[y2] else zs).length≤65:=dE
 have N:Hid (yM (if b2 then zs++[y2] else zs)):=yD (by split;exact hzs.snoc a6;exact hzs)
 clear hzs
 generalize (if b2 then zs++[y2] else zs)=ps at *
 obtain ⟨_,_,_,a1,a7⟩:=cc.parts
 simp only [Value.slice.injEq] at a1
 have c2:=a1.2.1.trans a7.out
 clear a1 a7 ab
 subst c2
 have co:=cc.own vV
 have L:=yD (co)
 clear HZ
 clear cc co
 go_upto_region 2 with fail
 generalize F:World.alloc w5 _=w6
 have ba:Below w5.heap.size w5 w6:=rX
 have B:w6.heap[w5.heap.size]?=some (.cells #[.slice a ps.length c] 41 (0,0)):=tX
 have c8:w5.heap.size + 1≤w6.heap.size:=bA3
 clear F
 replace R:=kD R ba
 obtain ⟨L,hc,H⟩:=DD
 clear ba
 have FX:=yD (fun (W:World) (hW:Touch (fun k=>k=p) w6 W∧yK w0 W p)=>kF (hW.1.kD B bB9) (j:=0) (v:=.slice a ps.length c) rfl)
 refine jO (fun W=>Touch (fun k=>k=p) w6 W∧yK w0 W p) [(0,true),(1,true),(3,true),(5,true),(2,false),(4,false),(6,false),(7,true),(8,true)] bB4 bB4 qD (⟨Touch.of_below bR.drew,hc.below bR.drew⟩) ?_
 intro wS E
 simp only [jD,List.length_cons,List.length_nil,List.getElem?_cons_succ,List.getElem?_cons_zero,List.map_cons,List.map_nil,List.cons_append,List.nil_append,List.drop_succ_cons,List.drop_zero]
 iterate 4
  refine kS ?_
 refine ko rfl (fun K J=>?_);go_simp;refine (kV (n:=12) E.2 bB8).mono ?_;rintro e wS1 ⟨x,ax,Z,b4,rfl,be,a9⟩;replace Z:=Z bB8;clear b4;replace E:=And.intro (E.1.trans a9) be;clear be a9;refine J _ _ E ?_;clear J K
 refine kX ?_
 refine ko rfl (fun K J=>?_);go_simp;refine (kV (n:=5) E.2 bB8).mono ?_;rintro e wS1 ⟨y,b6,a4,a6,rfl,be,a9⟩;replace a4:=a4 bB8;clear a6;replace E:=And.intro (E.1.trans a9) be;clear be a9;refine J _ _ E ?_;clear J K
 refine kX ?_
 refine ko rfl (fun K J=>?_);go_simp;refine (kV (n:=8) E.2 bB8).mono ?_;rintro e wS1 ⟨z,bb,az,an,rfl,be,a9⟩;replace az:=az bB8;clear an;replace E:=And.intro (E.1.trans a9) be;clear be a9;have hw:IntKind.i64.wrap (1 + z)=1 + z:=IntWalk.i64_in _ bB9;refine J _ _ E ?_;clear J K
 refine kX ?_
 refine kS ?_
 refine kS ?_
 refine jq ?_
 have O:=E.1.size
 obtain ⟨R5,Y,bc,aw,aq,ar,bh,bl,ac,au,bi,bm⟩:=oQ
 go_wp2
 refine bodyPost_ret (v:=.agg #[.slice a ps.length c,.int .i64 x,.int .i64 y,.int .i64 (1 + z)]) (by simp [results,results111,go_sem,ac,au,bi,bm,aq,ar,bh,bl]) rfl ⟨a,c,ps,x,y,1 + z,rfl,?_,⟨bf,N.out⟩,by omega,by omega,by omega,bc.touch ((((kC _ _ _ _).trans (kC _ _ _ _)).trans (kC _ _ _ _)).trans (kC _ _ _ _)) bB9 wB,Y.jJ ((((kC _ _ _ _).trans (kC _ _ _ _)).trans (kC _ _ _ _)).trans (kC _ _ _ _)) bB9⟩
 exact (aw.out.touch (T:=fun k=>k=w.heap.size) ((((kC _ _ _ _).trans (kC _ _ _ _)).trans (kC _ _ _ _)).trans (kC _ _ _ _)) sK).wide fK
def modP (x:Int):Int:=(x.tmod 2147483647 + 2147483647).tmod 2147483647
def kQt (d x:Int):Int:=(d * 1000003 + modP x + 13).tmod 2147483647
def digest (l:List Int):Int:=l.foldl kQt 11
def okSec (s:Int):Bool:=inR s 1 2147483646
theorem kNa {a:Int} (h:0≤a):0≤a.tmod 2147483647∧a.tmod 2147483647 < 2147483647:=by
 rw [Int.tmod_eq_emod_of_nonneg h];omega
theorem kNb {a:Int} (h:0≤a):a % 2147483647=a.tmod 2147483647:=(Int.tmod_eq_emod_of_nonneg h).symm
theorem kSd (a:Int):-2147483647 < a.tmod 2147483647∧a.tmod 2147483647 < 2147483647:=by
 by_cases h:0≤a
 · have:=kNa h;omega
 have:=kNa (a:=-a) bB9
 rw [Int.neg_tmod] at this
 omega
theorem kKf (x:Int):0≤modP x∧modP x < 2147483647:=by
 have:=kSd x
 exact kNa bB9
theorem dStep_rng {d:Int} (x:Int) (h:0≤d):0≤kQt d x∧kQt d x < 2147483647:=by
 have:=kKf x
 exact kNa bB9
theorem foldl_rng (l:List Int):∀ d:Int,0≤d→d < 2147483647→0≤l.foldl kQt d∧l.foldl kQt d < 2147483647:=by
 induction l with
 | nil=>intro d h1 h2;exact ⟨h1,h2⟩
 | cons x l ih=>intro d h1 h2;have:=dStep_rng x h1;exact ih _ this.1 this.2
theorem kMr (l:List Int):0≤digest l∧digest l < 2147483647:=foldl_rng l 11 bB9 bB9
theorem kQr {l:List Int} {k:Nat} (h:k < l.length):digest (l.take (k + 1))=kQt (digest (l.take k)) l[k]:=by
 unfold digest
 rw [List.take_succ_eq_append_getElem h,List.foldl_append]
 rfl
theorem kTp {l:List Int} {k:Nat} (h:¬ k < l.length):digest (l.take k)=digest l:=by rw [List.take_of_length_le bB9]
theorem specMod_c {w:World} {x:Int} (hx:-9223372036854775808≤x∧x≤9223372036854775807):Calls prog 193 #[.int .i64 x,.int .i64 2147483647] w fun e w'=>e=.returned (.int .i64 (modP x))∧w'=w:=by
 have h1:=kSd x
 have h2:=kKf x
 have HE:=yD (show modP x=(x.tmod 2147483647 + 2147483647).tmod 2147483647 from rfl)
 go_enter func193,ntmps193
 go_wp2_with fail
 refine ji.mono ?_
 exact aW
theorem kNd {w:World} {vl:Value} {l:List Int} (hl:(kE.slice 3 kE.int).raw w [vl] l) :
    Calls prog 180 #[vl] w fun e w'=>e=.returned (.int .i64 (digest l))∧w'=w:=by
 obtain ⟨al,pl,rfl,ll⟩:=kE.sl hl
 go_enter func180,ntmps180
 go_wp2
 go_loop [4,3] (fun i d=>∃ k:Nat,k≤l.length∧i=.int .i64 k∧d=.int .i64 (digest (l.take k))) (fun i _=>l.length - (intOf i).toNat)
 case atStart=>exact ⟨0,Nat.zero_le _,rfl,rfl⟩
 obtain ⟨k,hk,rfl,rfl⟩:=hrel
 by_cases hlt:k < l.length
 · obtain ⟨ba,ah,rfl,c0,hr,A0⟩:=kE.kBo hl hlt rfl
   obtain ⟨he,hx⟩:=kE.yz hr
   obtain rfl:c0=_:=by simpa using he
   clear he hr
   have hd:=kMr (l.take k)
   have E:=yD (kQr hlt)
   generalize digest (l.take k)=d at *
   generalize l[k]=x at *
   have hm:=kKf x
   go_wp2_with fail
   refine (specMod_c hx).mono ?_
   exact aX
 have U:=yD (kTp hlt)
 go_wp2
 go_ret
 exact ⟨jW U.out,rfl⟩
theorem kNu {w:World} {s:Int}:Calls prog 165 #[.int .i64 s] w fun e w'=>e=.returned (.bool (okSec s))∧w'=w:=by
 go_enter func165,ntmps165
 go_wp2_with fail
 refine jh.mono ?_
 rintro e w1 ⟨rfl,hw⟩
 obtain rfl:=hw.symm
 go_wp2
 go_ret
 exact ⟨rfl,rfl⟩
theorem implMod_c {w:World} {x:Int} (hx:-9223372036854775808≤x∧x≤9223372036854775807):Calls prog 188 #[.int .i64 x,.int .i64 2147483647] w fun e w'=>e=.returned (.int .i64 (modP x))∧w'=w:=by
 have h1:=kSd x
 have h2:=kKf x
 have HE:=yD (show modP x=(x.tmod 2147483647 + 2147483647).tmod 2147483647 from rfl)
 go_enter func188,ntmps188
 go_wp2_with fail
 refine jh.mono ?_
 exact aW
theorem kNx {w:World} {vl:Value} {l:List Int} (hl:(kE.slice 3 kE.int).raw w [vl] l) :
    Calls prog 173 #[vl] w fun e w'=>e=.returned (.int .i64 (digest l))∧w'=w:=by
 obtain ⟨al,pl,rfl,ll⟩:=kE.sl hl
 go_enter func173,ntmps173
 go_wp2
 go_loop [8,3] (fun i d=>∃ k:Nat,k≤l.length∧i=.int .i64 k∧d=.int .i64 (digest (l.take k))) (fun i _=>l.length - (intOf i).toNat)
 case atStart=>exact ⟨0,Nat.zero_le _,rfl,rfl⟩
 obtain ⟨k,hk,rfl,rfl⟩:=hrel
 by_cases hlt:k < l.length
 · obtain ⟨ba,ah,rfl,c0,hr,A0⟩:=kE.kBo hl hlt rfl
   obtain ⟨he,hx⟩:=kE.yz hr
   obtain rfl:c0=_:=by simpa using he
   clear he hr
   have hd:=kMr (l.take k)
   have E:=yD (kQr hlt)
   generalize digest (l.take k)=d at *
   generalize l[k]=x at *
   have hm:=kKf x
   go_wp2_with fail
   refine (implMod_c hx).mono ?_
   exact aX
 have U:=yD (kTp hlt)
 go_wp2
 go_ret
 exact ⟨jW U.out,rfl⟩
theorem kE.yh {α:Type} {r:kE α} {e:TypeId} {w:World} {v:Value} {xs ys:List α} {S:Nat→Prop} {P:Program} {t ty:TypeId} {z:Value} {bytes:Nat} (ht:P.underlying t=some (.slice e)) (hinf:(P.info? e).map (fun i=>(i.zero,i.size,i.bytes))=some (some z,r.n,bytes)) (hzs:z.cells.size=r.n) (hn:0 < r.n) (hby:bytes≤1000) (hf:r.kDq)
    {B:Nat} (hown:ku e r w v xs S) {av:Option Addr} {len cap:Nat} (hy:(slice e r).rd w [.slice av len cap] ys) (hSB:∀ k,S k→B≤k∧k < w.heap.size) (hB:B≤w.heap.size) (hlen:xs.length + ys.length≤1000000000) :
    ∃ v' w',(Builtin.append_ #[t,t] ty #[v,.slice av len cap]).run P w=.ok v' w'∧ku e r w' v' (xs++ys) (jR B w'.heap.size)∧Below B w w'∧w.heap.size≤w'.heap.size∧∀ k,k < w.heap.size→¬ S k→w'.heap[k]?=w.heap[k]?:=by
 obtain ⟨i,hi,hz,hsize,E⟩:=info_parts hinf
 obtain ⟨cells,hsrc,hrow⟩:=kWq hy.1
 have D:row r true w cells ys (fun _=>False):=kNj hf hrow
 obtain ⟨v',w',hr,h2,h3⟩:=kEz (P:=P) (ty:=ty) ht hi hz hsize hzs hn bB9 hown hsrc (zH hrow) (row_one hrow) hlen
 refine ⟨v',w',hr,(h3 D (fun _ _ h=>h) hy.2.2).wide ?_,h2.below hB ?_,h2.size,fun k hk hs=>h2.block k hk (fun q=>hs q.2)⟩
 · exact iV
 intro k hk;exact (hSB k hk.2).1
def I64q (x:Int):Prop:=-9223372036854775808≤x∧x≤9223372036854775807
theorem row_intq {w:World} {o:Bool}:∀ (l:List Int) (S:Nat→Prop),(∀ x∈l,I64q x)→kE.row kE.int o w (l.map (Value.int .i64)) l S
  | [],_,_=>rfl
  | x :: l,S,h=>⟨[.int .i64 x],l.map (Value.int .i64),fun _=>False,fun _=>False,rfl,⟨rfl,h x bC0⟩,row_intq l _ sV,fun _ h=>h.elim,fun _ h=>h.elim,fun _ _ h=>h.elim⟩
theorem kHf {w:World} {x:Int} {e:TypeId} (hx:I64q x):kE.ku e kE.int (w.alloc (.cells #[.int .i64 x] e)) (.slice (some ⟨w.heap.size,0,none⟩) 1 1) [x] (fun k=>k=w.heap.size) :=
  kE.yV (cs:=[.int .i64 x]) (xs:=[x]) (T:=fun _=>False) (fun _ _=>trivial) (by show 1≤_;unfold maxLen;omega) (row_intq [x] _ (by intro q hq;simp only [List.mem_cons,List.not_mem_nil,or_false] at hq;subst hq;assumption)) (fun _ h=>h.elim) rfl
theorem row_three {α:Type} {r:kE α} {w:World} {v0 v1 v2:Value} {x0 x1 x2:α} (h0:r.raw w [v0] x0) (h1:r.raw w [v1] x1) (h2:r.raw w [v2] x2):kE.row r false w [v0,v1,v2] [x0,x1,x2] (fun _=>True) :=
  ⟨[v0],[v1,v2],_,_,rfl,h0,⟨[v1],[v2],_,_,rfl,h1,⟨[v2],[],_,_,rfl,h2,rfl,fun _ h=>h,fun _ h=>h,fun h=>by cases h⟩,fun _ h=>h,fun _ h=>h,fun h=>by cases h⟩,fun _ h=>h,fun _ h=>h,fun h=>by cases h⟩
theorem kDs {α:Type} {r:kE α} {w:World} {v0 v1 v2:Value} {x0 x1 x2:α} {b:Nat} {e:TypeId} (hn:r.n=1) (hb:w.heap[b]?=some (.cells #[v0,v1,v2] e (0,0))) (h0:r.raw w [v0] x0) (h1:r.raw w [v1] x1) (h2:r.raw w [v2] x2) :
    (kE.slice e r).raw w [.slice (some ⟨b,0,none⟩) 3 3] [x0,x1,x2] :=
  ⟨_,_,_,rfl,rfl,by decide,by unfold maxLen;decide,.inr ⟨b,0,rfl,#[v0,v1,v2],e,(0,0),[],[v0,v1,v2],[],hb,rfl,rfl,by rw [hn];show 0 + 3 * 1≤3;omega,(fun h=>Bool.noConfusion h),trivial,kE.yH (row_three h0 h1 h2) (fun _ _=>⟨trivial,fun h=>by cases h⟩)⟩⟩
end Go.Proofs.YtonmjkmaadgceaaGreat
namespace Go.Proofs.YtonmjkmaadgceaaGreat
open _root_.Go.Proofs.Tryz
def vlo (n:Nat):UInt8:=UInt8.ofNat (n % 128 + 128)
def kMx (n:Nat):List UInt8:=if h:n < 128 then [UInt8.ofNat n] else vlo n :: kMx (n / 128)
termination_by n
decreasing_by omega
theorem kRj {n:Nat} (h:n < 128):kMx n=[UInt8.ofNat n]:=by rw [kMx,dif_pos h]
theorem kWc {n:Nat} (h:¬ n < 128):kMx n=vlo n :: kMx (n / 128):=by rw [kMx,dif_neg h]
theorem vint_len:∀ (k:Nat) {n:Nat},n < 128 ^ (k + 1)→(kMx n).length≤k + 1
  | 0,n,h=>by rw [kRj bA5];simp
  | k + 1,n,h=>by
    by_cases c:n < 128
    · rw [kRj c];simp
    · rw [kWc c,List.length_cons]
      have:=vint_len k (n:=n / 128) (Nat.div_lt_of_lt_mul nV)
      omega
theorem kRt {n:Nat} (h:n≤1000000000000):(kMx n).length≤6:=vint_len 5 bB9
end Go.Proofs.YtonmjkmaadgceaaGreat
namespace Go.Proofs.YtonmjkmaadgceaaGreat
open Go.RowKit _root_.Go.Proofs.Tryz
def kBx (n:Int):List UInt8:=if inR n 0 1000000000000=true then kMx n.toNat else []
theorem vintI_no {n:Int} (h:inR n 0 1000000000000=false):kBx n=[]:=by unfold kBx;rw [h];rfl
theorem kUn {n:Nat} (h:inR (n:Int) 0 1000000000000=true):kBx n=kMx n:=by unfold kBx;rw [if_pos h];simp
theorem kEp (n:Int):(kBx n).length≤6:=by
 unfold kBx
 split
 · rename_i h
   have G:0≤n∧n≤1000000000000:=by simpa [inR] using h
   exact kRt bB9
 simp
theorem or128:∀ x:Fin 128,bits BinOp.or IntKind.i64 (x.val:Int) 128=(x.val:Int) + 128:=by decide +kernel
theorem or128u:∀ x:Fin 256,bits BinOp.or IntKind.u8 (x.val:Int) 128=((x.val % 128:Nat):Int) + 128:=by decide +kernel
theorem vlo_int (m:Nat):((vlo m).toNat:Int)=((m % 128:Nat):Int) + 128:=by
 unfold vlo
 rw [UInt8.toNat_ofNat']
 omega
theorem lo_spec {m:Nat} (h:m≤1000000000000):IntKind.u8.wrap (bits BinOp.or IntKind.i64 (bits BinOp.and IntKind.i64 (m:Int) 127) 128)=((vlo m).toNat:Int):=by
 have e:=bits_mask IntKind.i64 63 bB8 (fun n h0 h1=>by rw [IntKind.wrap_i64];omega) 7 bB8 (m:Int) bB9 bB9
 rw [show ((2:Int) ^ 7 - 1)=127 by decide,show ((2:Int) ^ 7)=128 by decide] at e
 rw [e,vlo_int]
 have e2:=or128 ⟨m % 128,by omega⟩
 simp only at e2
 rw [show (m:Int) % 128=((m % 128:Nat):Int) by omega,e2,IntKind.wrap_u8']
 omega
theorem lo_impl (m:Nat):bits BinOp.or IntKind.u8 (IntKind.u8.wrap (m:Int)) 128=((vlo m).toNat:Int):=by
 have e2:=or128u ⟨m % 256,by omega⟩
 simp only at e2
 rw [IntKind.wrap_u8',show (m:Int) % 256=((m % 256:Nat):Int) by omega,e2,vlo_int]
 omega
theorem hi_byte {m:Nat} (h:m < 128):IntKind.u8.wrap (m:Int)=((UInt8.ofNat m).toNat:Int):=by
 rw [IntKind.wrap_u8',UInt8.toNat_ofNat']
 omega
theorem hi_byte0 {m:Nat} (h:m < 128):(m:Int)=((UInt8.ofNat m).toNat:Int):=by
 rw [UInt8.toNat_ofNat']
 omega
theorem kIf {w:World} {z:Int} {x:UInt8} (h:z=(x.toNat:Int)):kE.byte.own w [.int .u8 z] x (fun _=>False):=⟨by show [_]=[_];rw [h],trivial⟩
theorem kOm {w:World} {va:Value} {x:List UInt8} (ha:(kE.slice 5 kE.byte).rd w [va] x):Calls prog 70 #[va] w (zz 5 kE.byte x w):=by
 obtain ⟨aa,J,rfl,la⟩:=kE.sl ha.1
 obtain ⟨HA,E⟩:=DZ
 cases aa with
 | none =>
   have hx:x=[]:=by
     cases x with
     | nil=>rfl
     | cons y ys =>
       exact aJ
   subst hx
   clear ha
   go_enter func70,ntmps70
   go_wp2
   go_ret
   exact ⟨_,rfl,kE.ku.nil,bR⟩
 | some a =>
   have hb:x.length≤16777216:=ha.2.1
   clear ha
   go_enter func70,ntmps70
   have O0:kE.ku 5 kE.byte (w.alloc (.cells #[] 5)) (.slice (some ⟨w.heap.size,0,none⟩) 0 0) [] (fun k=>k=w.heap.size):=kE.yV (cs:=[]) (xs:=[]) (T:=fun _=>False) bC0 bC0 rfl (fun _ h=>h.elim) rfl
   go_wp2_with (at_builtin;refine kE.yF rfl _ _ 22 rfl (r:=kE.byte) (e:=5) underlying22 kBl rfl bB8 bB8 kE.kCh (B:=w.heap.size) O0 bC1 bC1 (HA.out.alloc _) qZ bC0 bB5 ?_)
   exact iF
theorem kDm {w:World} {va:Value} {b:List UInt8} {n:Int} (ha:(kE.slice 5 kE.byte).rd w [va] b) :
    Calls prog 192 #[va,.int .i64 n] w (zz 5 kE.byte (b++kBx n) w):=by
 obtain ⟨aa,J,rfl,la⟩:=kE.sl ha.1
 have HA:=yD ha
 have hb:b.length≤16777216:=ha.2.1
 clear ha
 go_enter func192,ntmps192
 have O0:kE.ku 5 kE.byte (w.alloc (.cells #[] 5)) (.slice (some ⟨w.heap.size,0,none⟩) 0 0) [] (fun k=>k=w.heap.size):=kE.yV (cs:=[]) (xs:=[]) (T:=fun _=>False) bC0 bC0 rfl (fun _ h=>h.elim) rfl
 go_wp2_with (at_builtin;refine kE.yF rfl _ _ 22 rfl (r:=kE.byte) (e:=5) underlying22 kBl rfl bB8 bB8 kE.kCh (B:=w.heap.size) O0 bC1 bC1 (HA.out.alloc _) qZ bC0 bB5 ?_)
 intro v2 V hown D hz
 have L:Hid (kE.ku 5 kE.byte V v2 b (jR w.heap.size V.heap.size)):=yD (by simpa using hown)
 have G:Below w.heap.size w V:=Below.trans bI D
 clear hown O0 D
 obtain ⟨a2,n2,c2,hv,al⟩:=L.out.parts
 obtain rfl:=hv
 go_wp2_with fail
 refine ji.mono ?_
 rintro e w1 ⟨rfl,hw⟩
 obtain rfl:=hw.symm
 cases R:inR n 0 1000000000000
 · have U:=yD (vintI_no R)
   go_wp2
   go_ret
   exact ⟨_,rfl,L.out.cast wC,G⟩
 obtain ⟨W,X⟩:0≤n∧n≤1000000000000:=by simpa [inR] using R
 obtain ⟨N,rfl⟩:∃ N:Nat,n=N:=⟨n.toNat,by omega⟩
 have U:=yD (kUn R)
 clear R
 go_wp2
 go_loopw [5,1] (fun v i wr=>∃ (m:Nat) (pre:List UInt8),m≤N∧i=.int .i64 m∧Hid (pre++kMx m=kMx N)∧Hid (kE.ku 5 kE.byte wr v (b++pre) (jR w.heap.size wr.heap.size))∧Below w.heap.size w wr) (fun _ i _=>(intOf i).toNat)
 case atStart=>exact ⟨N,[],Nat.le_refl _,rfl,yD rfl,yD (by simpa using L.out),G⟩
 clear G L al
 obtain ⟨m,pre,hm,rfl,HP,L,D⟩:=hrel
 obtain ⟨oa,on,oc,ho,bl⟩:=L.out.parts;obtain rfl:=ho
 have dz:pre.length≤6:=by
  exact iG
 by_cases hlt:m < 128
 · exact iH
 have HB:=yD (lo_spec (show m≤1000000000000 by omega))
 exact iI
theorem kDp {w:World} {va:Value} {b:List UInt8} {n:Int} (ha:(kE.slice 5 kE.byte).rd w [va] b) :
    Calls prog 172 #[va,.int .i64 n] w (zz 5 kE.byte (b++kBx n) w):=by
 obtain ⟨aa,J,rfl,la⟩:=kE.sl ha.1
 have HA:=yD ha
 have hb:b.length≤16777216:=ha.2.1
 clear ha
 go_enter func172,ntmps172
 go_wp2_with fail
 refine (kOm HA.out).mono ?_
 rintro e V ⟨v2,rfl,hown,G⟩
 have L:Hid (kE.ku 5 kE.byte V v2 b (jR w.heap.size V.heap.size)):=yD hown
 clear hown
 obtain ⟨a2,n2,c2,hv,al⟩:=L.out.parts
 obtain rfl:=hv
 go_wp2_with fail
 refine jh.mono ?_
 rintro e w1 ⟨rfl,hw⟩
 obtain rfl:=hw.symm
 cases R:inR n 0 1000000000000
 · have U:=yD (vintI_no R)
   go_wp2
   go_ret
   exact ⟨_,rfl,L.out.cast wC,G⟩
 obtain ⟨W,X⟩:0≤n∧n≤1000000000000:=by simpa [inR] using R
 obtain ⟨N,rfl⟩:∃ N:Nat,n=N:=⟨n.toNat,by omega⟩
 have U:=yD (kUn R)
 clear R
 go_wp2
 go_loopw [5,1] (fun v i wr=>∃ (m:Nat) (pre:List UInt8),m≤N∧i=.int .i64 m∧Hid (pre++kMx m=kMx N)∧Hid (kE.ku 5 kE.byte wr v (b++pre) (jR w.heap.size wr.heap.size))∧Below w.heap.size w wr) (fun _ i _=>(intOf i).toNat)
 case atStart=>exact ⟨N,[],Nat.le_refl _,rfl,yD rfl,yD (by simpa using L.out),G⟩
 clear G L al
 obtain ⟨m,pre,hm,rfl,HP,L,D⟩:=hrel
 obtain ⟨oa,on,oc,ho,bl⟩:=L.out.parts;obtain rfl:=ho
 have dz:pre.length≤6:=by
  exact iG
 by_cases hlt:m < 128
 · exact iH
 have HB:=yD (lo_impl m)
 exact iI
theorem kVd (w:World):∀ (l:List UInt8) (S:Nat→Prop),kE.row kE.byte false w (l.map (fun b=>Value.int .u8 b.toNat)) l S
  | [],_=>rfl
  | b :: l,S=>⟨[.int .u8 b.toNat],l.map (fun b=>Value.int .u8 b.toNat),S,S,rfl,rfl,kVd w l S,fun _ h=>h,fun _ h=>h,fun h=>by cases h⟩
theorem kMa {w:World} {e e2:TypeId} {s:ByteArray} (hs:s.size≤16777216):(kE.slice e2 kE.byte).rd (Lib.bytesWorld w e s) [.slice (some ⟨w.heap.size,0,none⟩) s.size (grownCap w s.size 0 e)] s.data.toList:=by
 have hl:s.data.toList.length=s.size:=bC0
 refine ⟨⟨_,_,_,rfl,hl.symm,grownCap_ge _ _ _ _,grownCap_le_maxLen _ _ _ _ vI,.inr ⟨_,_,rfl,_,_,_,[],s.data.toList.map (fun b=>Value.int .u8 b.toNat),List.replicate (grownCap w s.size 0 e - s.size) (.int .u8 0),Lib.bytesWorld_at_new w e s,?_,rfl,?_,(fun h=>Bool.noConfusion h),trivial,?_⟩⟩,by rw [hl];exact hs,fun _ _=>trivial⟩
 · simp [Lib.bytesCells]
 · have:=grownCap_ge w s.size 0 e
   have O:(Lib.bytesCells w e s).size=s.size + (grownCap w s.size 0 e - s.size):=by simp [Lib.bytesCells]
   rw [O];show 0 + _ * 1≤_;omega
 exact kE.yH (kVd _ _ (fun _=>True)) (fun _ _=>⟨trivial,fun h=>by cases h⟩)
theorem bytesWorld_below' (w:World) (e:TypeId) (s:ByteArray):Below w.heap.size w (Lib.bytesWorld w e s) :=
  ⟨rfl,rfl,rfl,by rw [Lib.bytesWorld_size];omega,fun j I=>Lib.bytesWorld_at_old w e s j I⟩
def encS (s:ByteArray):List UInt8:=kBx s.data.toList.length++s.data.toList
def kGv (l:List ByteArray):List UInt8:=(l.map encS).flatten
theorem kMq {l:List ByteArray} {k:Nat} (h:k < l.length):kGv (l.take (k + 1))=kGv (l.take k)++encS l[k]:=by
 unfold kGv
 rw [List.take_succ_eq_append_getElem h,List.map_append,List.flatten_append]
 simp
def kOb (n:kQ):List UInt8:=kBx n.length++kGv n
theorem kNe {w:World} {va vs:Value} {b s:List UInt8} (ha:(kE.slice 5 kE.byte).rd w [va] b) (hs:(kE.slice 5 kE.byte).rd w [vs] s) :
    Calls prog 194 #[va,vs] w (zz 5 kE.byte (b++(kBx s.length++s)) w):=by
 obtain ⟨aa,J,rfl,la⟩:=kE.sl ha.1
 obtain ⟨ab,I,rfl,O⟩:=kE.sl hs.1
 have HA:=yD ha
 have E:=yD hs
 have hb:b.length≤16777216:=ha.2.1
 have e7:s.length≤16777216:=hs.2.1
 clear ha hs
 go_enter func194,ntmps194
 go_wp2_with fail
 refine (kDm HA.out).mono ?_
 exact iJ
theorem kNy {w:World} {va vs:Value} {b s:List UInt8} (ha:(kE.slice 5 kE.byte).rd w [va] b) (hs:(kE.slice 5 kE.byte).rd w [vs] s) :
    Calls prog 196 #[va,vs] w (zz 5 kE.byte (b++(kBx s.length++s)) w):=by
 obtain ⟨aa,J,rfl,la⟩:=kE.sl ha.1
 obtain ⟨ab,I,rfl,O⟩:=kE.sl hs.1
 have HA:=yD ha
 have E:=yD hs
 have hb:b.length≤16777216:=ha.2.1
 have e7:s.length≤16777216:=hs.2.1
 clear ha hs
 go_enter func196,ntmps196
 go_wp2_with fail
 refine (kDp HA.out).mono ?_
 exact iJ
theorem vPart_size {s:ByteArray} (h:kBy s=true):s.size≤8:=by
 unfold kBy at h
 simp only [Bool.and_eq_true] at h
 have h2:(1:Int)≤s.size∧(s.size:Int)≤8:=by simpa [inR] using h.2
 omega
theorem kOp {n:kQ} (h:yZ n=true):n.length≤6:=by
 unfold yZ at h
 simp only [Bool.and_eq_true,decide_eq_true_eq] at h
 exact h.2
theorem kIm {n:kQ} (h:yZ n=true) {k:Nat} (hk:k < n.length):n[k].size≤8:=by
 by_cases q:kBy n[k]=true
 · exact vPart_size q
 have:=kUs hk (by simpa using q)
 rw [this] at h;cases h
theorem encS_len {s:ByteArray} (h:s.size≤8):(encS s).length≤14:=by
 have h1:=kEp s.data.toList.length
 have h2:s.data.toList.length=s.size:=bC0
 unfold encS;rw [List.length_append];omega
theorem kKw {n:kQ} (h:yZ n=true):∀ {k:Nat},k≤n.length→(kGv (n.take k)).length≤14 * k
  | 0,_=>by simp [kGv]
  | k + 1,hk=>by
    have h1:=kKw h (k:=k) bB9
    have h2:=encS_len (kIm h (k:=k) bB9)
    rw [kMq bB9,List.length_append];omega
theorem encNm_len {n:kQ} (h:yZ n=true):(kOb n).length≤90:=by
 have h1:=kEp n.length
 have h2:=kKw h (k:=n.length) nL
 have h3:=kOp h
 rw [List.take_length] at h2
 unfold kOb;rw [List.length_append];omega
theorem kOs {w:World} {va:Value} {b:List UInt8} {cn:List Value} {n:kQ} (ha:(kE.slice 5 kE.byte).rd w [va] b) (hn:kM.raw w cn n) (hv:yZ n=true) (hb:b.length≤1000000) :
    Calls prog 182 #[va,.agg cn.toArray] w (zz 5 kE.byte (b++kOb n) w):=by
 obtain ⟨av,rfl,ac⟩:=kU hn
 obtain ⟨an,aj,rfl,ln⟩:=kE.sl ac
 obtain ⟨aa,J,rfl,la⟩:=kE.sl ha.1
 have HA:=yD ha
 have HN:=yD ac
 have U:=yD hn
 have HV:=yD hv
 have cq:=kOp hv
 clear ha hn ac hv
 go_enter func182,ntmps182
 have O0:kE.ku 5 kE.byte ((w.alloc (.cells #[.slice an n.length aj] 41)).alloc (.cells #[] 5)) (.slice (some ⟨w.heap.size + 1,0,none⟩) 0 0) [] (fun k=>k=w.heap.size + 1):=by
  exact iK
 go_wp2_with (at_builtin;refine kE.yF rfl _ _ 22 rfl (r:=kE.byte) (e:=5) underlying22 kBl rfl bB8 bB8 kE.kCh (B:=w.heap.size + 1) O0 bC1 bC1 (HA.out.below bI) qZ bC0 bB5 ?_)
 intro v2 V hown D hz
 have L:Hid (kE.ku 5 kE.byte V v2 b (jR w.heap.size V.heap.size)):=yD ((hown.cast bC0).wide rF)
 obtain ⟨K0,G⟩:=CO
 obtain ⟨a2,n2,c2,b5,al⟩:=L.out.parts
 obtain rfl:=b5
 have am:w.heap.size < V.heap.size:=by have:=D.size;simp at this;omega
 clear hown O0 D hz
 go_wp2_with fail
 refine (yS (U.out.below G)).mono ?_
 rintro e w3 ⟨rfl,Y⟩
 rw [HV.out]
 replace K0:=cL Y K0
 replace L:=yD (((L.out.below Y).own vV).rd)
 have X:=(tQ G Y)
 have ai:w.heap.size < w3.heap.size:=vT
 clear G Y am
 go_wp2_with fail
 refine (kDm L.out).mono ?_
 rintro e w4 ⟨v4,rfl,F,W⟩
 obtain ⟨a4,n4,c4,ab,ak⟩:=F.parts
 obtain rfl:=ab
 obtain ⟨K0,G,au,ar⟩:=CK
 have af:=yD K0
 clear F X W ai K0
 have aw:=yD (kEp n.length)
 have K0:=af.out
 go_wp2
 go_loopw [5,6] (fun v i wr=>∃ k:Nat,k≤n.length∧i=.int .i64 k∧Hid (kE.ku 5 kE.byte wr v (b++kBx n.length++kGv (n.take k)) (jR (w.heap.size + 1) wr.heap.size))∧Below (w.heap.size + 1) w4 wr) (fun _ i _=>n.length - (intOf i).toNat)
 case atStart=>exact ⟨0,Nat.zero_le _,rfl,yD (by simpa [kGv] using au.out),bR⟩
 clear K0 au
 obtain ⟨k,hk,rfl,L,D⟩:=hrel
 obtain ⟨oa,on,oc,ho,bl⟩:=L.out.parts;obtain rfl:=ho
 obtain ⟨EW,aq,K0⟩:=BI
 by_cases hlt:k < n.length
 · obtain ⟨qb,qo,rfl,c0,hr,A0⟩:=kE.kBo (HN.out.below EW) hlt rfl
   obtain ⟨he,b0⟩:=kE.yY hr
   obtain rfl:c0=_:=by simpa using he
   clear he hr
   obtain ⟨bu,ax,ap,a6⟩:=DJ
   generalize n[k]=s at *
   obtain ⟨R,E,O⟩:=BM
   obtain ⟨W1,ae⟩:∃ W1,W1=Lib.bytesWorld wr 5 s:=⟨_,rfl⟩
   rw [← ae] at R E O
   clear ae ap b0
   generalize grownCap wr s.size 0 5=gc at *
   go_wp2_with fail
   refine (kNe (a6.out.below O) E.out).mono ?_
   exact iL
 obtain rfl:k=n.length:=bB9
 go_wp2
 go_ret
 exact ⟨_,rfl,(L.out.cast nM).wide rF,EW⟩
theorem kPm {w:World} {va:Value} {b:List UInt8} {cn:List Value} {n:kQ} (ha:(kE.slice 5 kE.byte).rd w [va] b) (hn:kM.raw w cn n) (hv:yZ n=true) (hb:b.length≤1000000) :
    Calls prog 185 #[va,.agg cn.toArray] w (zz 5 kE.byte (b++kOb n) w):=by
 obtain ⟨av,rfl,ac⟩:=kU hn
 obtain ⟨an,aj,rfl,ln⟩:=kE.sl ac
 obtain ⟨aa,J,rfl,la⟩:=kE.sl ha.1
 have HA:=yD ha
 have HN:=yD ac
 have U:=yD hn
 have HV:=yD hv
 have cq:=kOp hv
 clear ha hn ac hv
 go_enter func185,ntmps185
 go_wp2_with fail
 generalize H:World.alloc w _=N
 obtain ⟨Z,K0⟩:=uN
 have am:w.heap.size < N.heap.size:=bA4
 clear H
 refine (zX (U.out.below Z)).mono ?_
 rintro e w3 ⟨rfl,Y⟩
 rw [HV.out]
 replace K0:=cL Y K0
 have X:=(tQ Z Y)
 have ai:w.heap.size < w3.heap.size:=vT
 clear Z Y am
 go_wp2_with fail
 refine (kDp (HA.out.below X)).mono ?_
 rintro e w4 ⟨v4,rfl,F,W⟩
 obtain ⟨a4,n4,c4,ab,ak⟩:=F.parts
 obtain rfl:=ab
 obtain ⟨K0,G,au,ar⟩:=CK
 have af:=yD K0
 clear F X W ai K0
 have aw:=yD (kEp n.length)
 have K0:=af.out
 go_wp2
 go_loopw [5,21] (fun v i wr=>∃ k:Nat,k≤n.length∧i=.int .i64 k∧Hid (kE.ku 5 kE.byte wr v (b++kBx n.length++kGv (n.take k)) (jR (w.heap.size + 1) wr.heap.size))∧Below (w.heap.size + 1) w4 wr) (fun _ i _=>n.length - (intOf i).toNat)
 case atStart=>exact ⟨0,Nat.zero_le _,rfl,yD (by simpa [kGv] using au.out),bR⟩
 clear K0 au
 obtain ⟨k,hk,rfl,L,D⟩:=hrel
 obtain ⟨oa,on,oc,ho,bl⟩:=L.out.parts;obtain rfl:=ho
 obtain ⟨EW,aq,K0⟩:=BI
 by_cases hlt:k < n.length
 · obtain ⟨qb,qo,rfl,c0,hr,A0⟩:=kE.kBo (HN.out.below EW) hlt rfl
   obtain ⟨he,b0⟩:=kE.yY hr
   obtain rfl:c0=_:=by simpa using he
   clear he hr
   obtain ⟨bu,ax,ap,a6⟩:=DJ
   generalize n[k]=s at *
   obtain ⟨R,E,O⟩:=BM
   obtain ⟨W1,ae⟩:∃ W1,W1=Lib.bytesWorld wr 5 s:=⟨_,rfl⟩
   rw [← ae] at R E O
   clear ae ap b0
   generalize grownCap wr s.size 0 5=gc at *
   go_wp2_with fail
   refine (kNy (a6.out.below O) E.out).mono ?_
   exact iL
 obtain rfl:k=n.length:=bB9
 go_wp2
 go_ret
 exact ⟨_,rfl,(L.out.cast nM).wide rF,EW⟩
def kBc (x:jG):Bool:=((((yZ x.1 && decide (0 < x.1.length)) && decide ((x.2.1.length:Int)≤60)) && yZ x.2.2.1) && inR x.2.2.2.1 0 100000) && inR x.2.2.2.2 0 2147483646
theorem kDa {w:World} {cx:List Value} {x:jG} (hx:jA.raw w cx x) :
    Calls prog 21 #[.agg cx.toArray] w (bQ w (.bool (kBc x))):=by
 have Hx:=yD hx
 obtain ⟨aq,a2,au,rfl,ah,ab,ai,aj,ak,ap,av⟩:=jN hx
 obtain ⟨ae,L,rfl,ao⟩:=kE.sl ab
 obtain ⟨an,X,rfl,a1⟩:=kE.sl ai
 obtain ⟨al,F,rfl,ax⟩:=kE.sl ak
 go_enter func21,ntmps21
 go_upto_region 1 with fail
 generalize H:World.alloc w _=N
 obtain ⟨Z,af,ac,O,D,R⟩:=uZ
 clear H
 have FX:=yD (fun (W:World) (hW:Below N.heap.size N W)=>cLs5 hW af ac O D R)
 refine kz (fun W=>Below N.heap.size N W) [true,true,false,true,true,true,true,true,true,true,true,true,true,true,true,true,true,true,true,false,true,true,true,true,false,true,true,true,true,false,true,true] bR ?_
 intro wS E
 all_goals refine kS ?_
 all_goals refine kS ?_
 all_goals first | refine wkB (yS (kE.raw.below ah (tQ Z E))) (fun wS1 E=>?_) | refine kS ?_
 all_goals (have ag:=True.intro;first|(refine yT (fun b ag=>?_);cases b;all_goals first | exact Bool.noConfusion ag | simp only [zU,zV] at ag | skip) | refine kS ?_)
 all_goals refine kX ?_
 iterate 6
  all_goals refine kS ?_
 all_goals (have J:=True.intro;first|(refine yT (fun b J=>?_);cases b;all_goals first | exact Bool.noConfusion J | simp only [zU,zV] at J | skip) | refine kS ?_)
 all_goals refine kX ?_
 iterate 5
  all_goals refine kS ?_
 all_goals (have V:=True.intro;first|(refine yT (fun b V=>?_);cases b;all_goals first | exact Bool.noConfusion V | simp only [zU,zV] at V | skip) | refine kS ?_)
 all_goals refine kX ?_
 all_goals refine kS ?_
 all_goals refine kS ?_
 all_goals first | refine wkB (yS (kE.raw.below aj (tQ Z E))) (fun wS1 E=>?_) | refine kS ?_
 all_goals refine kS ?_
 all_goals (have Y:=True.intro;first|(refine yT (fun b Y=>?_);cases b;all_goals first | exact Bool.noConfusion Y | simp only [zU,zV] at Y | skip) | refine kS ?_)
 all_goals refine kX ?_
 all_goals refine kS ?_
 all_goals refine kS ?_
 all_goals first | refine wkC (ji) ?_ | refine kS ?_
 all_goals refine kS ?_
 all_goals (have I:=True.intro;first|(refine yT (fun b I=>?_);cases b;all_goals first | exact Bool.noConfusion I | simp only [zU,zV] at I | skip) | refine kS ?_)
 all_goals refine kX ?_
 all_goals refine kS ?_
 all_goals refine kS ?_
 all_goals first | refine wkC (ji) ?_ | refine kS ?_
 all_goals refine kS ?_
 all_goals (have aa:=True.intro;first|(refine yT (fun b aa=>?_);cases b;all_goals first | exact Bool.noConfusion aa | simp only [zU,zV] at aa | skip) | refine kS ?_)
 all_goals refine kX ?_
 all_goals refine kZ ?_
 all_goals have G:=(tQ Z E)
 all_goals first
   | (have U:=yD (show (kBc x)=false by simp only [kBc,Bool.not_true,Bool.not_false,Bool.and_true,Bool.true_and,Bool.and_false,Bool.false_and,Bool.or_true,Bool.true_or,Bool.or_false,Bool.false_or,Bool.not_not,ag,J,V,Y,I,aa]);go_wp2;go_ret;exact ⟨kR U.out.symm,G⟩)
   | (have U:=yD (show (kBc x)=true by simp only [kBc,Bool.not_true,Bool.not_false,Bool.and_true,Bool.true_and,Bool.and_false,Bool.false_and,Bool.or_true,Bool.true_or,Bool.or_false,Bool.false_or,Bool.not_not,ag,J,V,Y,I,aa]);go_wp2;go_ret;exact ⟨kR U.out.symm,G⟩)
theorem kDf {w:World} {cx:List Value} {x:jG} (hx:jA.raw w cx x) :
    Calls prog 15 #[.agg cx.toArray] w (bQ w (.bool (kBc x))):=by
 have Hx:=yD hx
 obtain ⟨aq,a2,au,rfl,ah,ab,ai,aj,ak,ap,av⟩:=jN hx
 obtain ⟨ae,L,rfl,ao⟩:=kE.sl ab
 obtain ⟨an,X,rfl,a1⟩:=kE.sl ai
 obtain ⟨al,F,rfl,ax⟩:=kE.sl ak
 go_enter func15,ntmps15
 go_upto_region 1 with fail
 generalize H:World.alloc w _=N
 obtain ⟨Z,af,ac,O,D,R⟩:=uZ
 clear H
 have FX:=yD (fun (W:World) (hW:Below N.heap.size N W)=>cLs5 hW af ac O D R)
 refine kz (fun W=>Below N.heap.size N W) [true,true,false,true,true,true,true,true,true,true,true,true,true,true,true,true,true,true,true,false,true,true,true,true,false,true,true,true,true,false,true,true] bR ?_
 intro wS E
 all_goals refine kS ?_
 all_goals refine kS ?_
 all_goals first | refine wkB (zX (kE.raw.below ah (tQ Z E))) (fun wS1 E=>?_) | refine kS ?_
 all_goals (have ag:=True.intro;first|(refine yT (fun b ag=>?_);cases b;all_goals first | exact Bool.noConfusion ag | simp only [zU,zV] at ag | skip) | refine kS ?_)
 all_goals refine kX ?_
 iterate 6
  all_goals refine kS ?_
 all_goals (have J:=True.intro;first|(refine yT (fun b J=>?_);cases b;all_goals first | exact Bool.noConfusion J | simp only [zU,zV] at J | skip) | refine kS ?_)
 all_goals refine kX ?_
 iterate 5
  all_goals refine kS ?_
 all_goals (have V:=True.intro;first|(refine yT (fun b V=>?_);cases b;all_goals first | exact Bool.noConfusion V | simp only [zU,zV] at V | skip) | refine kS ?_)
 all_goals refine kX ?_
 all_goals refine kS ?_
 all_goals refine kS ?_
 all_goals first | refine wkB (zX (kE.raw.below aj (tQ Z E))) (fun wS1 E=>?_) | refine kS ?_
 all_goals refine kS ?_
 all_goals (have Y:=True.intro;first|(refine yT (fun b Y=>?_);cases b;all_goals first | exact Bool.noConfusion Y | simp only [zU,zV] at Y | skip) | refine kS ?_)
 all_goals refine kX ?_
 all_goals refine kS ?_
 all_goals refine kS ?_
 all_goals first | refine wkC (jh) ?_ | refine kS ?_
 all_goals refine kS ?_
 all_goals (have I:=True.intro;first|(refine yT (fun b I=>?_);cases b;all_goals first | exact Bool.noConfusion I | simp only [zU,zV] at I | skip) | refine kS ?_)
 all_goals refine kX ?_
 all_goals refine kS ?_
 all_goals refine kS ?_
 all_goals first | refine wkC (jh) ?_ | refine kS ?_
 all_goals refine kS ?_
 all_goals (have aa:=True.intro;first|(refine yT (fun b aa=>?_);cases b;all_goals first | exact Bool.noConfusion aa | simp only [zU,zV] at aa | skip) | refine kS ?_)
 all_goals refine kX ?_
 all_goals refine kZ ?_
 all_goals have G:=(tQ Z E)
 all_goals first
   | (have U:=yD (show (kBc x)=false by simp only [kBc,Bool.not_true,Bool.not_false,Bool.and_true,Bool.true_and,Bool.and_false,Bool.false_and,Bool.or_true,Bool.true_or,Bool.or_false,Bool.false_or,Bool.not_not,ag,J,V,Y,I,aa]);go_wp2;go_ret;exact ⟨kR U.out.symm,G⟩)
   | (have U:=yD (show (kBc x)=true by simp only [kBc,Bool.not_true,Bool.not_false,Bool.and_true,Bool.true_and,Bool.and_false,Bool.false_and,Bool.or_true,Bool.true_or,Bool.or_false,Bool.false_or,Bool.not_not,ag,J,V,Y,I,aa]);go_wp2;go_ret;exact ⟨kR U.out.symm,G⟩)
end Go.Proofs.YtonmjkmaadgceaaGreat

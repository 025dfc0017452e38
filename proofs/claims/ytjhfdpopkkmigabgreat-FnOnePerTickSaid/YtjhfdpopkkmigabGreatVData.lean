/-
  Data that is valid.
-/
import Derived.Test.YtjhfdpopkkmigabGreatDrawQ
set_option linter.unusedVariables false
set_option linter.defProp false
set_option linter.unusedSimpArgs false
set_option linter.unnecessarySimpa false
set_option maxRecDepth 100000
set_option maxHeartbeats 4000000
open Bool renaming true->Tt,false->Ff
open List renaming length_append->Aa,append_assoc->Ab,take_succ_eq_append_getElem->Ad,length_cons->Au,take_length->Aw
open Go renaming World->Ac,Value->Aq,TypeId->Ar
open Go.Proofs.Tryz renaming underlying22->Ae
open Int renaming tmod_eq_emod_of_nonneg->Ag
open UInt8 renaming toNat_ofNat'->Ah,ofNat->Aj
open Go.IntKind renaming i64->Ai,wrap_u8'->Av
open _root_ renaming List->Ak,ByteArray->Al,UInt8->Am
open Go.Value renaming int->Ap
namespace Go.Proofs.YtjhfdpopkkmigabGreat
open Go.RowKit _root_.Go.Proofs.Tryz
structure SR (cw w:Ac) (p R:Nat) (t:Ar) (n:Nat) (W:Ac):Prop where
  touch:Touch (λk=>k=p\/k=R) w W
  cur:yS cw W p
  row:∃ l:Ak Aq,l.length=n/\W.heap[R]?=some (.cells l.toArray t (0,0))
section
variable {cw w W W':Ac} {p R n:Nat} {t:Ar}
def SR.go (h:SR cw w p R t n W) (ht:Touch (λk=>k=p) W W') (hc:yS cw W' p) (hne:¬ R=p):SR cw w p R t n W':=by
 obtain ⟨l,hl,hr⟩:=h.row;exact ⟨h.touch.trans (ht.wide (λk q=>.inl q)),hc,l,hl,ht.kC hr hne⟩
def SR.below (h:SR cw w p R t n W) (b:Qb W W'):SR cw w p R t n W':=by
 obtain ⟨l,hl,hr⟩:=h.row;exact ⟨h.touch.trans (Touch.of_below b),h.cur.below b,l,hl,kC hr b⟩
def SR.set (h:SR cw w p R t n W) (hne:¬ R=p) (h0:cw.heap.size<=R) (j:Nat) (v:Aq):SR cw w p R t n (W.setCell ⟨R,j,none⟩ v):=by
 obtain ⟨l,hl,hr⟩:=h.row;refine ⟨h.touch.trans ((jl W R j v).wide (λk q=>.inr q)),h.cur.touch (jl W R j v) (λq=>hne q.symm) (λk q=>q ▸ h0),(l.toArray.setIfInBounds j v).toList,by simpa using hl,?_⟩;have:=kI (v:=v) hr j;simpa using this
end
def DrawnW (w0 w:Ac) (p:Nat) (e:Ending) (w':Ac):Prop:=∃ a c ps n h t,e=.returned (.agg #[Qs a ps c,Qn n,Qn h,Qn t])/\kN.own w' [Qs a ps c] ps (jb w.heap.size w'.heap.size)/\(ps.length<=65/\zF ps)/\(0<=n/\n<=11)/\(0<=h/\h<=4)/\(1<=t/\t<=8)/\yS w0 w' p/\Touch (λk=>k=p) w w'
def kOj {w0 w:Ac} {p:Nat} (hc:yS w0 w p) :
    Calls prog 65 #[.pointer (some ⟨p,0,none⟩)] w λe w'=>DrawnW w0 w p e w':=by
 go_enter func65,ntmps65
 obtain ⟨bd,bw⟩:=hc.lt
 go_upto_region 1 with fail
 generalize G:World.alloc w _=w1
 obtain ⟨U,R,bo⟩:=EI
 clear G
 obtain ⟨hc,J⟩:=xQ
 clear U
 go_wp2_with fail
 refine (kAd (hc.below (bR.alloc nL _)) (kD.kBg _ [{ data:=#[47,97] },{ data:=#[47,98] }] bH2 bH2) bH3 bH2 bH2).mono ?_
 rintro e V ⟨y,aw,b6,rfl,F,D⟩
 replace D:=(Touch.of_below (S:=λk=>k=p) (bR.alloc nL _)).trans D
 obtain ⟨bv,R,J⟩:=BP
 clear hc D
 have hc:=F
 clear F
 go_wp2_with fail
 refine (yZ (kD.kCr bH2 aw)).mono ?_
 rintro e w3 ⟨za,zc,zs,rfl,hr,dv,hzs,hb⟩
 have bt:=hb.size
 replace R:=kC R hb
 obtain ⟨hc,J⟩:=xI
 clear hb
 have HZ:=yD (hr)
 clear hr aw b6
 go_wp2_with fail
 refine (kAd (hc.below (bR.alloc nL _)) (kD.kBg _ [{ data:=#[49] },{ data:=#[50] },{ data:=#[120,45,49] }] bH2 bH2) bH3 bH2 bH2).mono ?_
 rintro e w4 ⟨y2,aw,b6,rfl,F,D⟩
 obtain ⟨D,b5⟩:=II
 replace R:=D.kC R bH3
 replace HZ:=yD (HZ.out.touch D qW)
 replace J:=J.trans D
 clear hc D
 have hc:=F
 clear F
 have a4:=kD.kCr bH2 aw
 clear aw b6
 go_wp2_with fail
 refine (kDg (cn:=[.slice za zs.length zc]) HZ.out.rd (s:=y2) bH3 bD0).mono ?_
 rintro e w5 ⟨a,nn,c,b2,rfl,af,b0,hb⟩
 have b3:=hb.size
 replace R:=kC R hb
 replace HZ:=yD (HZ.out.below hb)
 obtain ⟨hc,J⟩:=xI
 clear hb
 have bk:(if b2 then zs++[y2] else zs).length<=65:=dF
 have L:Hid (zF (if b2 then zs++[y2] else zs)):=yD (by split;exact hzs.snoc a4;exact hzs)
 clear hzs
 generalize (if b2 then zs++[y2] else zs)=ps at *
 obtain ⟨_,_,_,bl,bj⟩:=b0.parts
 simp only [Value.slice.injEq] at bl
 have cg:=bl.2.1.trans bj.out
 clear bl bj af
 subst cg
 have cc:=b0.own bD0
 have I:=yD (cc)
 clear HZ
 clear b0 cc
 go_upto_region 2 with fail
 generalize G:World.alloc w5 _=w6
 have av:Qb w5 w6:=tK
 have B:Qr w6 w5.heap.size #[Qs a ps c] 36:=wW
 have dh:w5.heap.size + 1<=w6.heap.size:=bF4
 clear G
 replace R:=kC R av
 replace I:=yD (I.out.below av)
 obtain ⟨hc,J⟩:=FV
 clear av
 have FX:=yD (λ(W:Ac) (hW:Touch (λk=>k=p) w6 W/\yS w0 W p)=>kE (hW.1.kC B bH3) (j:=0) (v:=.slice a ps.length c) rfl)
 refine jc (λW=>Touch (λk=>k=p) w6 W/\yS w0 W p) [(0,true),(1,true),(3,true),(5,true),(2,false),(4,false),(6,false),(7,true),(8,true)] bG6 bG6 qY (⟨Touch.of_below bR.drew,hc.below bR.drew⟩) ?_
 intro wS E
 simp only [jB,Au,List.length_nil,List.getElem?_cons_succ,List.getElem?_cons_zero,List.map_cons,List.map_nil,List.cons_append,List.nil_append,List.drop_succ_cons,List.drop_zero]
 iterate 4
  refine ky ?_
 refine kw rfl (λK H=>?_);go_simp;refine (ko (n:=12) E.2 bH2).mono ?_;rintro e wS1 ⟨x,au,o,be,rfl,ap,am⟩;replace o:=o bH2;clear be;replace E:=And.intro (E.1.trans am) ap;clear ap am;refine H _ _ E ?_;clear H K
 refine jG ?_
 refine kw rfl (λK H=>?_);go_simp;refine (ko (n:=5) E.2 bH2).mono ?_;rintro e wS1 ⟨y,ch,aa,a4,rfl,ap,am⟩;replace aa:=aa bH2;clear a4;replace E:=And.intro (E.1.trans am) ap;clear ap am;refine H _ _ E ?_;clear H K
 refine jG ?_
 refine kw rfl (λK H=>?_);go_simp;refine (ko (n:=8) E.2 bH2).mono ?_;rintro e wS1 ⟨z,bi,bf,a9,rfl,ap,am⟩;replace bf:=bf bH2;clear a9;replace E:=And.intro (E.1.trans am) ap;clear ap am;have hw:Ai.wrap (1 + z)=1 + z:=IntWalk.i64_in _ bH3;refine H _ _ E ?_;clear H K
 refine jG ?_
 refine ky ?_
 refine ky ?_
 refine yG ?_
 have O:=E.1.size
 obtain ⟨R5,N,ah,aj,al,an,ay,a6,ak,ao,az,a7⟩:=xL
 go_wp2
 refine bodyPost_ret (v:=.agg #[Qs a ps c,Qn x,Qn y,.int .i64 (1 + z)]) (by simp [results,results65,go_sem,ak,ao,az,a7,al,an,ay,a6]) rfl ⟨a,c,ps,x,y,1 + z,rfl,?_,⟨bk,L.out⟩,by omega,by omega,by omega,ah.touch sT4 bH3 bD5,N.jJ sT4 bH3⟩
 exact (aj.out.touch (T:=λk=>k=w.heap.size) sT4 vD).wide fE
def modP (x:Int):Int:=(x.tmod 2147483647 + 2147483647).tmod 2147483647
def kXq (d x:Int):Int:=(d * 1000003 + modP x + 13).tmod 2147483647
def digest (l:Ak Int):Int:=l.foldl kXq 11
def kPu {a:Int} (h:0<=a):0<=a.tmod 2147483647/\a.tmod 2147483647 < 2147483647:=by
 rw [Ag h];omega
def tmod_pos {a:Int} (h:0<=a):a % 2147483647=a.tmod 2147483647:=(Ag h).symm
def tmod_abs (a:Int):-2147483647 < a.tmod 2147483647/\a.tmod 2147483647 < 2147483647:=by
 by_cases h:0<=a
 · have:=kPu h;omega
 have:=kPu (a:=-a) bH3;rw [Int.neg_tmod] at this;omega
def kWr (x:Int):0<=modP x/\modP x < 2147483647:=by
 have:=tmod_abs x;exact kPu bH3
def dStep_rng {d:Int} (x:Int) (h:0<=d):0<=kXq d x/\kXq d x < 2147483647:=by
 have:=kWr x;exact kPu bH3
def foldl_rng (l:Ak Int):∀ d:Int,0<=d->d < 2147483647->0<=l.foldl kXq d/\l.foldl kXq d < 2147483647:=by
 induction l with
 | nil=>intro d h1 h2;exact ⟨h1,h2⟩
 | cons x l ih=>intro d h1 h2;have:=dStep_rng x h1;exact ih _ this.1 this.2
def kXo (l:Ak Int):0<=digest l/\digest l < 2147483647:=foldl_rng l 11 bH3 bH3
def digest_succ {l:Ak Int} {k:Nat} (h:k < l.length):digest (l.take (k + 1))=kXq (digest (l.take k)) l[k]:=by
 unfold digest;rw [Ad h,List.foldl_append];rfl
def digest_end {l:List Int} {k:Nat} (h:¬ k < l.length):digest (l.take k)=digest l:=by rw [List.take_of_length_le bH3]
def specMod_c {w:Ac} {x:Int} (hx:Qi x):Calls prog 230 #[.int .i64 x,.int .i64 2147483647] w λe w'=>e=.returned (.int .i64 (modP x))/\w'=w:=by
 have h1:=tmod_abs x;have h2:=kWr x;have HE:=yD (show modP x=(x.tmod 2147483647 + 2147483647).tmod 2147483647 from rfl);go_enter func230,ntmps230;go_wp2_with fail;refine yA.mono ?_;rintro e w1 ⟨rfl,hw⟩;obtain rfl:=hw.symm;have O:inR (2147483647:Int) 1 1000000000000=true:=bH2;rw [O];go_wp2;go_ret;exact ⟨jV (by rw [HE.out];exact tmod_pos bH3),rfl⟩
def kQc {w:Ac} {vl:Aq} {l:Ak Int} (hl:(kD.slice 3 kD.int).raw w [vl] l) :
    Calls prog 223 #[vl] w λe w'=>e=.returned (.int .i64 (digest l))/\w'=w:=by
 obtain ⟨al,pl,rfl,ll⟩:=kD.sl hl
 go_enter func223,ntmps223
 go_wp2
 go_loop [4,3] (λi d=>∃ k:Nat,k<=l.length/\i=.int .i64 k/\d=.int .i64 (digest (l.take k))) (λi _=>l.length - (intOf i).toNat)
 case atStart=>exact ⟨0,Nat.zero_le _,rfl,rfl⟩
 obtain ⟨k,hk,rfl,rfl⟩:=hrel
 by_cases hlt:k < l.length
 · obtain ⟨ba,G,rfl,c0,hr,A0⟩:=kD.kCu hl hlt rfl;obtain ⟨he,hx⟩:=kD.je hr;obtain rfl:c0=_:=by simpa using he
   clear he hr;have hd:=kXo (l.take k);have E:=yD (digest_succ hlt);generalize digest (l.take k)=d at *;generalize l[k]=x at *;have hm:=kWr x;go_wp2_with fail;refine (specMod_c hx).mono ?_;rintro e w1 ⟨rfl,hw⟩;obtain rfl:=hw.symm;have HD:=yD (show kXq d x=(d * 1000003 + modP x + 13).tmod 2147483647 from rfl);generalize modP x=m at *;go_wp2;go_round;case rel=>exact ⟨k + 1,by omega,by go_num,by rw [E.out,HD.out,<- tmod_pos bH3]⟩
   simp [intOf];omega
 have L:=yD (digest_end hlt)
 go_wp2
 go_ret
 exact ⟨jV L.out,rfl⟩
def kD.kBo {α:Type} {r:kD α} {e:Ar} {w:Ac} {v:Aq} {xs ys:Ak α} {S:Nat->Prop} {P:Program} {t ty:Ar} {z:Aq} {bytes:Nat} (ht:P.underlying t=some (.slice e)) (hinf:(P.info? e).map (λi=>(i.zero,i.size,i.bytes))=some (some z,r.n,bytes)) (hzs:z.cells.size=r.n) (hn:0 < r.n) (hby:bytes<=1000) (hf:r.kDf)
    {B:Nat} (hown:kQ e r w v xs S) {av:Option Addr} {len cap:Nat} (hy:(slice e r).rd w [.slice av len cap] ys) (hSB:∀ k,S k->B<=k/\k < w.heap.size) (hB:B<=w.heap.size) (hlen:xs.length + ys.length<=1000000000) :
    ∃ v' w',(Builtin.append_ #[t,t] ty #[v,.slice av len cap]).run P w=.ok v' w'/\kQ e r w' v' (xs++ys) (jb B w'.heap.size)/\Below B w w'/\w.heap.size<=w'.heap.size/\∀ k,k < w.heap.size->¬ S k->w'.heap[k]?=w.heap[k]?:=by
 obtain ⟨i,hi,hz,hsize,D⟩:=info_parts hinf
 obtain ⟨cells,hsrc,hrow⟩:=jBm hy.1
 have o:row r true w cells ys (λ_=>False):=kJm hf hrow
 obtain ⟨v',w',hr,h2,h3⟩:=kEt (P:=P) (ty:=ty) ht hi hz hsize hzs hn bH3 hown hsrc (zH hrow) (row_one hrow) hlen
 refine ⟨v',w',hr,(h3 o (λ_ _ h=>h) hy.2.2).wide ?_,h2.below hB ?_,h2.size,λk hk hs=>h2.block k hk (λq=>hs q.2)⟩
 · exact iV
 intro k hk;exact (hSB k hk.2).1
def I64q (x:Int):Prop:=Qi x
def row_intq {w:Ac} {o:Bool}:∀ (l:Ak Int) (S:Nat->Prop),(∀ x∈l,I64q x)->kD.row kD.int o w (l.map (Ap .i64)) l S
  | [],_,_=>rfl
  | x :: l,S,h=>⟨[Qn x],l.map (Ap .i64),λ_=>False,λ_=>False,rfl,⟨rfl,h x bH4⟩,row_intq l _ vN,λ_ h=>h.elim,λ_ h=>h.elim,λ_ _ h=>h.elim⟩
def litq {w:Ac} {x:Int} {e:Ar} (hx:I64q x):kD.kQ e kD.int (w.alloc (.cells #[.int .i64 x] e)) (.slice (some ⟨w.heap.size,0,none⟩) 1 1) [x] (λk=>k=w.heap.size) :=
  kD.yJ (cs:=[.int .i64 x]) (xs:=[x]) (T:=λ_=>False) (λ_ _=>trivial) tT (row_intq [x] _ (by intro q hq;simp only [List.mem_cons,List.not_mem_nil,or_false] at hq;subst hq;assumption)) (λ_ h=>h.elim) rfl
end Go.Proofs.YtjhfdpopkkmigabGreat
namespace Go.Proofs.YtjhfdpopkkmigabGreat
open _root_.Go.Proofs.Tryz
def vlo (n:Nat):Am:=Aj (n % 128 + 128)
def vint (n:Nat):Ak Am:=if h:n < 128 then [Aj n] else vlo n :: vint (n / 128)
termination_by n
decreasing_by omega
def jAq {n:Nat} (h:n < 128):vint n=[UInt8.ofNat n]:=by rw [vint,dif_pos h]
def vint_hi {n:Nat} (h:¬ n < 128):vint n=vlo n :: vint (n / 128):=by rw [vint,dif_neg h]
def vint_len:∀ (k:Nat) {n:Nat},n < 128 ^ (k + 1)->(vint n).length<=k + 1
  | 0,n,h=>by rw [jAq bF6];simp
  | k + 1,n,h=>by
    by_cases c:n < 128
    · rw [jAq c];simp
    · rw [vint_hi c,Au];have:=vint_len k (n:=n / 128) (Nat.div_lt_of_lt_mul qD);omega
def vint_six {n:Nat} (h:n<=1000000000000):(vint n).length<=6:=vint_len 5 bH3
end Go.Proofs.YtjhfdpopkkmigabGreat
namespace Go.Proofs.YtjhfdpopkkmigabGreat
open Go.RowKit _root_.Go.Proofs.Tryz
def kFz (n:Int):Ak Am:=if inR n 0 1000000000000=true then vint n.toNat else []
def vintI_no {n:Int} (h:inR n 0 1000000000000=false):kFz n=[]:=by unfold kFz;rw [h];rfl
def vintI_yes {n:Nat} (h:inR (n:Int) 0 1000000000000=true):kFz n=vint n:=by unfold kFz;rw [if_pos h];simp
def kJd (n:Int):(kFz n).length<=6:=by
 unfold kFz;split
 · rename_i h
   have G:0<=n/\n<=1000000000000:=by simpa [inR] using h
   exact vint_six bH3
 simp
def or128:∀ x:Fin 128,bits BinOp.or Ai (x.val:Int) 128=(x.val:Int) + 128:=by decide +kernel
def vlo_int (m:Nat):((vlo m).toNat:Int)=((m % 128:Nat):Int) + 128:=by
 unfold vlo;rw [Ah];omega
def lo_spec {m:Nat} (h:m<=1000000000000):IntKind.u8.wrap (bits BinOp.or Ai (bits BinOp.and Ai (m:Int) 127) 128)=((vlo m).toNat:Int):=by
 have e:=bits_mask Ai 63 bH2 (λn h0 h1=>by rw [IntKind.wrap_i64];omega) 7 bH2 (m:Int) bH3 bH3;rw [show ((2:Int) ^ 7 - 1)=127 by decide,show ((2:Int) ^ 7)=128 by decide] at e;rw [e,vlo_int];have e2:=or128 ⟨m % 128,by omega⟩;simp only at e2;rw [show (m:Int) % 128=((m % 128:Nat):Int) by omega,e2,Av];omega
def hi_byte {m:Nat} (h:m < 128):IntKind.u8.wrap (m:Int)=((Aj m).toNat:Int):=by
 rw [Av,Ah];omega
def hi_byte0 {m:Nat} (h:m < 128):(m:Int)=((Aj m).toNat:Int):=by
 rw [Ah];omega
def kRf {w:Ac} {z:Int} {x:Am} (h:z=(x.toNat:Int)):kD.byte.own w [.int .u8 z] x (λ_=>False):=⟨by show [_]=[_];rw [h],trivial⟩
def kEb {w:Ac} {va:Aq} {b:Ak Am} {n:Int} (ha:(kD.slice 5 kD.byte).rd w [va] b) :
    Calls prog 222 #[va,.int .i64 n] w (kBx 5 kD.byte (b++kFz n) w):=by
 obtain ⟨aa,ao,rfl,la⟩:=kD.sl ha.1
 have HA:=yD ha
 have hb:b.length<=16777216:=ha.2.1
 clear ha
 go_enter func222,ntmps222
 have O0:kD.kQ 5 kD.byte (w.alloc (.cells #[] 5)) (.slice (some ⟨w.heap.size,0,none⟩) 0 0) [] (λk=>k=w.heap.size):=kD.yJ (cs:=[]) (xs:=[]) (T:=λ_=>False) bH4 bH4 rfl (λ_ h=>h.elim) rfl
 go_wp2_with (at_builtin;refine kD.yT rfl _ _ 22 rfl (r:=kD.byte) (e:=5) Ae kFb rfl bH2 bH2 kD.kGi (B:=w.heap.size) O0 bH5 bH5 (HA.out.alloc _) sG bH4 bG7 ?_)
 intro v2 V hown o hz
 have I:Hid (kD.kQ 5 kD.byte V v2 b (jb w.heap.size V.heap.size)):=yD (by simpa using hown)
 have EG:Qb w V:=Below.trans bI o
 clear hown O0 o
 obtain ⟨a2,n2,c2,hv,bb⟩:=I.out.parts
 obtain rfl:=hv
 go_wp2_with fail
 refine yA.mono ?_
 rintro e w1 ⟨rfl,hw⟩
 obtain rfl:=hw.symm
 cases O:inR n 0 1000000000000
 · have L:=yD (vintI_no O);go_wp2;go_ret;exact ⟨_,rfl,I.out.cast (by rw [L.out];simp),EG⟩
 obtain ⟨ae,E⟩:0<=n/\n<=1000000000000:=by simpa [inR] using O
 obtain ⟨N,rfl⟩:∃ N:Nat,n=N:=⟨n.toNat,by omega⟩
 have L:=yD (vintI_yes O)
 clear O
 go_wp2
 go_loopw [5,1] (λv i wr=>∃ (m:Nat) (pre:Ak Am),m<=N/\i=.int .i64 m/\Hid (pre++vint m=vint N)/\Hid (kD.kQ 5 kD.byte wr v (b++pre) (jb w.heap.size wr.heap.size))/\Qb w wr) (λ_ i _=>(intOf i).toNat)
 case atStart=>exact ⟨N,[],Nat.le_refl _,rfl,yD rfl,yD (by simpa using I.out),EG⟩
 clear EG I bb
 obtain ⟨m,pre,hm,rfl,HP,I,o⟩:=hrel
 obtain ⟨oa,on,oc,ho,a1⟩:=I.out.parts;obtain rfl:=ho
 have db:pre.length<=6:=by
  have h1:=congrArg List.length HP.out;have h2:=vint_six (n:=N) bH3;simp only [Aa] at h1;omega
 by_cases hlt:m < 128
 · have HB:=yD (hi_byte hlt);have X:=yD (jAq hlt);go_wp2_with (at_builtin;refine kD.jP rfl _ _ 22 rfl (r:=kD.byte) (e:=5) Ae kFb rfl bH2 bH2 (B:=w.heap.size) I.out bH5 bH5 rfl (kRf (x:=Aj m) (by first | exact HB.out | exact hi_byte0 bH3)) rfl (λ_ _ h=>h) rQ (λ_ h=>h.elim) bB5 bG7 ?_);intro v3 w3 D ad ay;have ai:=yD D;obtain ⟨a3,n3,c3,Z,bg⟩:=D.parts;obtain rfl:=Z;have EG:=o.trans ad;clear D ad;go_wp2;go_ret;exact ⟨_,rfl,ai.out.cast (by rw [L.out,<- HP.out,X.out];try simp only [Ab]),EG⟩
 have HB:=yD (lo_spec (show m<=1000000000000 by omega))
 have X:=yD (vint_hi hlt)
 have a4:(127:Int) < m:=bH3
 go_wp2_with (at_builtin;refine kD.jP rfl _ _ 22 rfl (r:=kD.byte) (e:=5) Ae kFb rfl bH2 bH2 (B:=w.heap.size) I.out bH5 bH5 rfl (kRf (x:=vlo m) (by first | exact HB.out|(simp only [HB.out]))) rfl (λ_ _ h=>h) rQ (λ_ h=>h.elim) bB5 bG7 ?_)
 intro v3 w3 D ad ay
 have ai:=yD D
 obtain ⟨a3,n3,c3,Z,bg⟩:=D.parts
 obtain rfl:=Z
 have EG:=o.trans ad
 clear D ad
 go_wp2
 go_roundw
 case rel=>exact ⟨m / 128,pre++[vlo m],by omega,by go_num,yD (by rw [<- HP.out,X.out,Ab];rfl),yD (ai.out.cast (by simp only [Ab])),EG⟩
 simp [intOf];omega
def kZl (w:Ac):∀ (l:Ak Am) (S:Nat->Prop),kD.row kD.byte false w (l.map (λb=>Ap .u8 b.toNat)) l S
  | [],_=>rfl
  | b :: l,S=>⟨[.int .u8 b.toNat],l.map (λb=>Ap .u8 b.toNat),S,S,rfl,rfl,kZl w l S,λ_ h=>h,λ_ h=>h,λh=>by cases h⟩
def kYu {w:Ac} {e e2:Ar} {s:Al} (hs:s.size<=16777216):(kD.slice e2 kD.byte).rd (Lib.bytesWorld w e s) [.slice (some ⟨w.heap.size,0,none⟩) s.size (grownCap w s.size 0 e)] s.data.toList:=by
 have hl:s.data.toList.length=s.size:=bH4;refine ⟨⟨_,_,_,rfl,hl.symm,grownCap_ge _ _ _ _,grownCap_le_maxLen _ _ _ _ bA9,.inr ⟨_,_,rfl,_,_,_,[],s.data.toList.map (λb=>Ap .u8 b.toNat),List.replicate (grownCap w s.size 0 e - s.size) (.int .u8 0),Lib.bytesWorld_at_new w e s,?_,rfl,?_,(λh=>Bool.noConfusion h),trivial,?_⟩⟩,by rw [hl];exact hs,λ_ _=>trivial⟩
 · simp [Lib.bytesCells]
 · have:=grownCap_ge w s.size 0 e;have e1:(Lib.bytesCells w e s).size=s.size + (grownCap w s.size 0 e - s.size):=by simp [Lib.bytesCells]
   rw [e1];show 0 + _ * 1<=_;omega
 exact kD.yL (kZl _ _ (λ_=>True)) (λ_ _=>⟨trivial,λh=>by cases h⟩)
def bytesWorld_below' (w:Ac) (e:Ar) (s:Al):Below w.heap.size w (Lib.bytesWorld w e s) :=
  ⟨rfl,rfl,rfl,by rw [Lib.bytesWorld_size];omega,λj hj=>Lib.bytesWorld_at_old w e s j hj⟩
def encS (s:Al):Ak Am:=kFz s.data.toList.length++s.data.toList
def kOv (l:Ak Al):Ak Am:=(l.map encS).flatten
def kXm {l:Ak Al} {k:Nat} (h:k < l.length):kOv (l.take (k + 1))=kOv (l.take k)++encS l[k]:=by
 unfold kOv;rw [Ad h,List.map_append,List.flatten_append];simp
def encNm (n:kg):Ak Am:=kFz n.length++kOv n
def kQe {w:Ac} {va vs:Aq} {b s:Ak Am} (ha:(kD.slice 5 kD.byte).rd w [va] b) (hs:(kD.slice 5 kD.byte).rd w [vs] s) :
    Calls prog 231 #[va,vs] w (kBx 5 kD.byte (b++(kFz s.length++s)) w):=by
 obtain ⟨aa,ao,rfl,la⟩:=kD.sl ha.1
 obtain ⟨ab,af,rfl,G⟩:=kD.sl hs.1
 have HA:=yD ha
 have E:=yD hs
 have hb:b.length<=16777216:=ha.2.1
 have W:s.length<=16777216:=hs.2.1
 clear ha hs
 go_enter func231,ntmps231
 go_wp2_with fail
 refine (kEb HA.out).mono ?_
 rintro e V ⟨v2,rfl,hown,EG⟩
 obtain ⟨a2,n2,c2,hv,bb⟩:=hown.parts
 obtain rfl:=hv
 have I:=yD hown
 have F:(b++kFz s.length).length<=20000000:=by have:=kJd s.length;rw [Aa];omega
 clear hown
 go_wp2_with (at_builtin;refine kD.yT rfl _ _ 22 rfl (r:=kD.byte) (e:=5) Ae kFb rfl bH2 bH2 kD.kGi (B:=w.heap.size) I.out bH5 bH5 (E.out.below EG) (λk hk=>⟨hk.1,hk.2⟩) EG.size bH3 ?_)
 intro v3 w3 D ad ay
 have ai:=yD D
 obtain ⟨a3,n3,c3,Z,bg⟩:=D.parts
 obtain rfl:=Z
 have o:=EG.trans ad
 clear D ad
 go_wp2
 go_ret
 exact ⟨_,rfl,ai.out.cast (by simp only [Ab]),o⟩
def vPart_size {s:ByteArray} (h:kCp s=true):s.size<=8:=by
 unfold kCp at h;simp only [Bool.and_eq_true] at h;have h2:(1:Int)<=s.size/\(s.size:Int)<=8:=by simpa [inR] using h.2
 omega
def kYy {n:kg} (h:kAp n=true):n.length<=6:=by
 unfold kAp at h;simp only [Bool.and_eq_true,decide_eq_true_eq] at h;exact h.2
def kVo {n:kg} (h:kAp n=true) {k:Nat} (hk:k < n.length):n[k].size<=8:=by
 by_cases q:kCp n[k]=true
 · exact vPart_size q
 have:=kYz hk bF8;rw [this] at h;cases h
def encS_len {s:Al} (h:s.size<=8):(encS s).length<=14:=by
 have h1:=kJd s.data.toList.length;have h2:s.data.toList.length=s.size:=bH4;unfold encS;rw [Aa];omega
def kSr {n:kg} (h:kAp n=true):∀ {k:Nat},k<=n.length->(kOv (n.take k)).length<=14 * k
  | 0,_=>by simp [kOv]
  | k + 1,hk=>by
    have h1:=kSr h (k:=k) bH3;have h2:=encS_len (kVo h (k:=k) bH3);rw [kXm bH3,Aa];omega
def encNm_len {n:kg} (h:kAp n=true):(encNm n).length<=90:=by
 have h1:=kJd n.length;have h2:=kSr h (k:=n.length) nL;have h3:=kYy h;rw [Aw] at h2;unfold encNm;rw [Aa];omega
def kRy {w:Ac} {va:Aq} {b:Ak Am} {cn:Ak Aq} {n:kg} (ha:(kD.slice 5 kD.byte).rd w [va] b) (hn:kN.raw w cn n) (hv:kAp n=true) (hb:b.length<=1000000) :
    Calls prog 227 #[va,.agg cn.toArray] w (kBx 5 kD.byte (b++encNm n) w):=by
 obtain ⟨av,rfl,Z⟩:=kX hn
 obtain ⟨an,au,rfl,ln⟩:=kD.sl Z
 obtain ⟨aa,ao,rfl,la⟩:=kD.sl ha.1
 have HA:=yD ha
 have HN:=yD Z
 have H:=yD hn
 have X:=yD hv
 have bq:=kYy hv
 clear ha hn Z hv
 go_enter func227,ntmps227
 have O0:kD.kQ 5 kD.byte ((w.alloc (.cells #[.slice an n.length au] 36)).alloc (.cells #[] 5)) (.slice (some ⟨w.heap.size + 1,0,none⟩) 0 0) [] (λk=>k=w.heap.size + 1):=by
  exact iN
 go_wp2_with (at_builtin;refine kD.yT rfl _ _ 22 rfl (r:=kD.byte) (e:=5) Ae kFb rfl bH2 bH2 kD.kGi (B:=w.heap.size + 1) O0 bH5 bH5 (HA.out.below bI) sG bH4 bG7 ?_)
 intro v2 V hown o hz
 have I:Hid (kD.kQ 5 kD.byte V v2 b (jb w.heap.size V.heap.size)):=yD ((hown.cast bH4).wide rR)
 obtain ⟨K0,EG⟩:=IY
 obtain ⟨a2,n2,c2,aw,bb⟩:=I.out.parts
 obtain rfl:=aw
 have br:w.heap.size < V.heap.size:=by have:=o.size;simp at this;omega
 clear hown O0 o hz
 go_wp2_with fail
 refine (yg (H.out.below EG)).mono ?_
 rintro e w3 ⟨rfl,ap⟩
 rw [X.out]
 replace K0:=cL ap K0
 replace I:=yD (((I.out.below ap).own bD0).rd)
 have J:=(tQ EG ap)
 have N:w.heap.size < w3.heap.size:=by have:=ap.size;omega
 clear EG ap br
 go_wp2_with fail
 refine (kEb I.out).mono ?_
 rintro e w4 ⟨v4,rfl,D,G⟩
 obtain ⟨a4,n4,c4,ae,az⟩:=D.parts
 obtain rfl:=ae
 replace K0:=cL G K0
 have EG:=(tQ J G)
 have bl:Hid (kD.kQ 5 kD.byte w4 (.slice a4 n4 c4) (b++kFz n.length) (jb (w.heap.size + 1) w4.heap.size)):=yD (D.wide rR)
 have ag:w.heap.size < w4.heap.size:=by have:=G.size;omega
 have bx:=yD K0
 clear D J G N K0
 have Y:=yD (kJd n.length)
 have K0:=bx.out
 go_wp2
 go_loopw [5,6] (λv i wr=>∃ k:Nat,k<=n.length/\i=.int .i64 k/\Hid (kD.kQ 5 kD.byte wr v (b++kFz n.length++kOv (n.take k)) (jb (w.heap.size + 1) wr.heap.size))/\Below (w.heap.size + 1) w4 wr) (λ_ i _=>n.length - (intOf i).toNat)
 case atStart=>exact ⟨0,Nat.zero_le _,rfl,yD (by simpa [kOv] using bl.out),bR⟩
 clear K0 bl
 obtain ⟨k,hk,rfl,I,o⟩:=hrel
 obtain ⟨oa,on,oc,ho,a1⟩:=I.out.parts;obtain rfl:=ho
 have EW:Qb w wr:=EG.trans (o.mono bH3)
 have af:w.heap.size < wr.heap.size:=bB5
 have K0:Qd wr w 0 (.slice an n.length au):=(o.cell (p:=⟨w.heap.size,0,none⟩) bH4).trans bx.out
 by_cases hlt:k < n.length
 · obtain ⟨qb,qo,rfl,c0,hr,A0⟩:=kD.kCu (HN.out.below EW) hlt rfl;obtain ⟨he,U⟩:=kD.zz hr;obtain rfl:c0=_:=by simpa using he
   clear he hr;have b4:=yD (kXm hlt);have ai:=kVo X.out hlt;have ac:=kSr X.out hk;have ax:Hid ((kD.slice 5 kD.byte).rd wr [.slice oa on oc] (b++kFz n.length++kOv (n.take k))):=yD ((I.out.own (by have:=Y.out;unfold Big;simp only [Aa];omega)).rd);generalize n[k]=s at *;have F:=Lib.run_convert_string_bytes (P:=prog) wr 9 22 5 s (u:=.string) underlying9 Ae underlying5;have E:=yD (kYu (w:=wr) (e:=5) (e2:=5) (s:=s) bH3);have ab:=bytesWorld_below' wr 5 s;obtain ⟨W1,ah⟩:∃ W1,W1=Lib.bytesWorld wr 5 s:=⟨_,rfl⟩;rw [<- ah] at F E ab;clear ah ac U;generalize grownCap wr s.size 0 5=gc at *;go_wp2_with fail;refine (kQe (ax.out.below ab) E.out).mono ?_;rintro e w5 ⟨v5,rfl,hown,L⟩;obtain ⟨a5,O,c5,ad,ar⟩:=hown.parts;obtain rfl:=ad;have W:=o.trans ((ab.mono bH3).trans (L.mono (by have:=ab.size;omega)));have R:Hid (kD.kQ 5 kD.byte w5 (.slice a5 O c5) (b++kFz n.length++kOv (n.take (k + 1))) (jb (w.heap.size + 1) w5.heap.size)):=yD ((hown.cast (by rw [b4.out];simp only [encS,Ab])).wide (λj hj=>⟨by have:=hj.1;have:=ab.size;omega,hj.2⟩));clear hown L I ax A0 o F ab K0 EW;go_wp2;go_roundw;case rel=>exact ⟨k + 1,by omega,by go_num,R,W⟩
   simp [intOf];omega
 obtain rfl:k=n.length:=bH3
 go_wp2
 go_ret
 exact ⟨_,rfl,(I.out.cast (by rw [Aw,encNm,Ab])).wide rR,EW⟩
def kKk (x:jT):Bool:=((((kAp x.1 && decide (0 < x.1.length)) && decide ((x.2.1.length:Int)<=60)) && kAp x.2.2.1) && inR x.2.2.2.1 0 100000) && inR x.2.2.2.2 0 2147483646
def kDw {w:Ac} {cx:Ak Aq} {x:jT} (hx:jI.raw w cx x) :
    Calls prog 180 #[.agg cx.toArray] w (bQ w (.bool (kKk x))):=by
 have Hx:=yD hx
 obtain ⟨al,a9,a4,rfl,O,R,Y,ac,Z,ap,ao⟩:=jX hx
 obtain ⟨X,G,rfl,ak⟩:=kD.sl R
 obtain ⟨a2,a1,rfl,a8⟩:=kD.sl Y
 obtain ⟨ah,ag,rfl,a6⟩:=kD.sl Z
 go_enter func180,ntmps180
 go_upto_region 1 with fail
 generalize J:World.alloc w _=N
 have EB:Qb w N:=by rw [<- J];exact bI
 have ae:Qd N w 0 (.slice X (x.1).length G):=wF
 have I:Qd N w 1 (.slice a2 (x.2.1).length a1):=wF
 have F:Qd N w 2 (.slice ah (x.2.2.1).length ag):=wF
 have o:Qd N w 3 (.int .i64 x.2.2.2.1):=wF
 have U:Qd N w 4 (.int .i64 x.2.2.2.2):=wF
 clear J
 have FX:=yD (λ(W:Ac) (hW:Qb N W)=>cLs5 hW ae I F o U)
 refine kr (λW=>Qb N W) [Tt,Tt,Ff,Tt,Tt,Tt,Tt,Tt,Tt,Tt,Tt,Tt,Tt,Tt,Tt,Tt,Tt,Tt,Tt,Ff,Tt,Tt,Tt,Tt,Ff,Tt,Tt,Tt,Tt,Ff,Tt,Tt] bR ?_
 intro wS E
 all_goals refine ky ?_
 all_goals refine ky ?_
 all_goals first | refine wkB (yg (kD.raw.below O (tQ EB E))) (λwS1 E=>?_) | refine ky ?_
 all_goals (refine jy λb bh=>?_;cases b <;> try simp only [jw] at bh)
 iterate 6
  all_goals refine ky ?_
 all_goals (refine jy λb ad=>?_;cases b <;> try simp only [jw] at ad)
 iterate 5
  all_goals refine ky ?_
 all_goals (refine jy λb V=>?_;cases b <;> try simp only [jw] at V)
 all_goals refine ky ?_
 all_goals refine ky ?_
 all_goals first | refine wkB (yg (kD.raw.below ac (tQ EB E))) (λwS1 E=>?_) | refine ky ?_
 all_goals refine ky ?_
 all_goals (refine jy λb ab=>?_;cases b <;> try simp only [jw] at ab)
 all_goals refine ky ?_
 all_goals refine ky ?_
 all_goals first | refine wkC (yA) ?_ | refine ky ?_
 all_goals refine ky ?_
 all_goals (refine jy λb H=>?_;cases b <;> try simp only [jw] at H)
 all_goals refine ky ?_
 all_goals refine ky ?_
 all_goals first | refine wkC (yA) ?_ | refine ky ?_
 all_goals refine ky ?_
 all_goals (refine jy λb D=>?_;cases b <;> try simp only [jw] at D)
 all_goals refine kS ?_
 all_goals have EG:=(tQ EB E)
 all_goals first
   | (have L:=yD (show (kKk x)=false by simp only [kKk,Bool.not_true,Bool.not_false,Bool.and_true,Bool.true_and,Bool.and_false,Bool.false_and,Bool.or_true,Bool.true_or,Bool.or_false,Bool.false_or,Bool.not_not,bh,ad,V,ab,H,D]);go_wp2;go_ret;exact ⟨kW L.out.symm,EG⟩)
   | (have L:=yD (show (kKk x)=true by simp only [kKk,Bool.not_true,Bool.not_false,Bool.and_true,Bool.true_and,Bool.and_false,Bool.false_and,Bool.or_true,Bool.true_or,Bool.or_false,Bool.false_or,Bool.not_not,bh,ad,V,ab,H,D]);go_wp2;go_ret;exact ⟨kW L.out.symm,EG⟩)
end Go.Proofs.YtjhfdpopkkmigabGreat

/-
  Data that is valid.
-/
import Derived.Test.YtonmjkmaadgceabGreatDrawQ
set_option linter.unusedVariables false
set_option linter.defProp false
set_option linter.unusedSimpArgs false
set_option linter.unnecessarySimpa false
set_option maxRecDepth 100000
set_option maxHeartbeats 4000000
open Bool renaming true->Tt,false->Ff
open List renaming length_append->Aa,append_assoc->Ab,take_succ_eq_append_getElem->Ad,length_cons->Bg,take_length->Bi
open Go renaming World->Ac,Value->Bc,TypeId->Bf,Calls->Bj
open Go.Proofs.Tryz renaming underlying22->Ae
open Int renaming tmod_eq_emod_of_nonneg->Ag
open UInt8 renaming toNat_ofNat'->Ah,ofNat->Ap
open Bool renaming not_false->Ai,and_false->Aj,false_and->Ak,not_true->Aq,and_true->Ar,true_and->Au,or_false->Av,false_or->Aw,or_true->Az,true_or->Ba,not_not->Bb
open _root_ renaming List->Al,ByteArray->Ay,UInt8->Bd
open Go.IntKind renaming i64->Am,wrap_u8'->Bh
open Go.Value renaming int->Be
namespace Go.Proofs.YtonmjkmaadgceabGreat
open Go.RowKit _root_.Go.Proofs.Tryz
structure SR (cw w:Ac) (p R:Nat) (t:Bf) (n:Nat) (W:Ac):Prop where
  touch:Touch (λk=>k=p\/k=R) w W
  cur:yU cw W p
  row:∃ l:Al Bc,l.length=n/\W.heap[R]?=some (.cells l.toArray t (0,0))
section
variable {cw w W W':Ac} {p R n:Nat} {t:Bf}
def SR.start {cs:Array Bc} (hc:yU cw w p) (hr:w.heap[R]?=some (.cells cs t (0,0))) (hn:cs.toList.length=n):SR cw w p R t n { w with drawn:=w.drawn + 1 } :=
  ⟨Touch.of_below bR.drew,hc.below bR.drew,cs.toList,hn,by simpa using hr⟩
def SR.go (h:SR cw w p R t n W) (ht:Touch (λk=>k=p) W W') (hc:yU cw W' p) (hne:¬ R=p):SR cw w p R t n W':=by
 obtain ⟨l,hl,hr⟩:=h.row;exact ⟨h.touch.trans (ht.wide (λk q=>.inl q)),hc,l,hl,ht.kC hr hne⟩
def SR.below (h:SR cw w p R t n W) (b:Qb W W'):SR cw w p R t n W':=by
 obtain ⟨l,hl,hr⟩:=h.row;exact ⟨h.touch.trans (Touch.of_below b),h.cur.below b,l,hl,kC hr b⟩
def SR.set (h:SR cw w p R t n W) (hne:¬ R=p) (h0:cw.heap.size<=R) (j:Nat) (v:Bc):SR cw w p R t n (W.setCell ⟨R,j,none⟩ v):=by
 obtain ⟨l,hl,hr⟩:=h.row;refine ⟨h.touch.trans ((jZ W R j v).wide (λk q=>.inr q)),h.cur.touch (jZ W R j v) (λq=>hne q.symm) (λk q=>q ▸ h0),(l.toArray.setIfInBounds j v).toList,by simpa using hl,?_⟩;have:=kK (v:=v) hr j;simpa using this
end
def list8 {α:Type} {l:List α} (h:l.length=8):∃ a b c d e f g i,l=[a,b,c,d,e,f,g,i]:=by match l,h with | [a,b,c,d,e,f,g,i],_=>exact ⟨a,b,c,d,e,f,g,i,rfl⟩
def DrawnW (w0 w:Ac) (p:Nat) (e:Ending) (w':Ac):Prop:=∃ a c ps n h t,e=.returned (.agg #[Qs a ps c,Qn n,Qn h,Qn t])/\kU.own w' [Qs a ps c] ps (jX w.heap.size w'.heap.size)/\(ps.length<=65/\yj ps)/\(0<=n/\n<=11)/\(0<=h/\h<=4)/\(1<=t/\t<=8)/\yU w0 w' p/\Touch (λk=>k=p) w w'
def kWn {w0 w:Ac} {p:Nat} (hc:yU w0 w p) :
    Bj prog 138 #[.pointer (some ⟨p,0,none⟩)] w λe w'=>DrawnW w0 w p e w':=by
 go_enter func138,ntmps138
 obtain ⟨bf,b4⟩:=hc.lt
 go_upto_region 1 with fail
 generalize F:World.alloc w _=Y
 have X:Qb w Y:=rM
 have R:Qr Y w.heap.size #[.slice none 0 0,Qn 0,Qn 0,Qn 0] 159:=vB
 have bd:w.heap.size + 1<=Y.heap.size:=bB1
 clear F
 obtain ⟨hc,N⟩:=xQ
 clear X
 go_wp2_with fail
 refine (zx (hc.below (bR.alloc nL _)) (kD.kAx _ [{ data:=#[47,97] },{ data:=#[47,98] }] bC8 bC8) bC9 bC8 bC8).mono ?_
 rintro e V ⟨y,au,a5,rfl,G,D⟩
 replace D:=(Touch.of_below (S:=λk=>k=p) (bR.alloc nL _)).trans D
 obtain ⟨bk,R,N⟩:=BG
 clear hc D
 have hc:=G
 clear G
 go_wp2_with fail
 refine (yV (kD.kCn bC8 au)).mono ?_
 rintro e w3 ⟨za,zc,zs,rfl,hr,dv,hzs,hb⟩
 have bl:=hb.size
 replace R:=kC R hb
 obtain ⟨hc,N⟩:=xG
 clear hb
 have HZ:=yD (hr)
 clear hr au a5
 go_wp2_with fail
 refine (zx (hc.below (bR.alloc nL _)) (kD.kAx _ [{ data:=#[49] },{ data:=#[50] },{ data:=#[120,45,49] }] bC8 bC8) bC9 bC8 bC8).mono ?_
 rintro e w4 ⟨y2,au,a5,rfl,G,D⟩
 obtain ⟨D,bw⟩:=GQ
 replace R:=D.kC R bC9
 replace HZ:=yD (HZ.out.touch D pJ)
 replace N:=N.trans D
 clear hc D
 have hc:=G
 clear G
 have bz:=kD.kCn bC8 au
 clear au a5
 go_wp2_with fail
 refine (kCy (cn:=[.slice za zs.length zc]) HZ.out.rd (s:=y2) bC9 wH).mono ?_
 rintro e w5 ⟨a,nn,c,b2,rfl,ak,b5,hb⟩
 have bv:=hb.size
 replace R:=kC R hb
 replace HZ:=yD (HZ.out.below hb)
 obtain ⟨hc,N⟩:=xG
 clear hb
 have b9:(if b2 then zs++[y2] else zs).length<=65:=dA
 have o:Hid (yj (if b2 then zs++[y2] else zs)):=yD (by split;exact hzs.snoc bz;exact hzs)
 clear hzs
 generalize (if b2 then zs++[y2] else zs)=ps at *
 obtain ⟨_,_,_,a4,ay⟩:=b5.parts
 simp only [Value.slice.injEq] at a4
 have dc:=a4.2.1.trans ay.out
 clear a4 ay ak
 subst dc
 have bt:=b5.own wH
 have J:=yD (bt)
 clear HZ
 clear b5 bt
 go_upto_region 2 with fail
 generalize F:World.alloc w5 _=w6
 have aq:Qb w5 w6:=rM
 have B:Qr w6 w5.heap.size #[Qs a ps c] 40:=vB
 have cf:w5.heap.size + 1<=w6.heap.size:=bB1
 clear F
 replace R:=kC R aq
 obtain ⟨J,hc,N⟩:=G8
 clear aq
 have FX:=yD (λ(W:Ac) (hW:Touch (λk=>k=p) w6 W/\yU w0 W p)=>kE (hW.1.kC B bC9) (j:=0) (v:=.slice a ps.length c) rfl)
 refine jU (λW=>Touch (λk=>k=p) w6 W/\yU w0 W p) [(0,true),(1,true),(3,true),(5,true),(2,false),(4,false),(6,false),(7,true),(8,true)] bC3 bC3 pK (⟨Touch.of_below bR.drew,hc.below bR.drew⟩) ?_
 intro wS E
 simp only [kz,Bg,List.length_nil,List.getElem?_cons_succ,List.getElem?_cons_zero,List.map_cons,List.map_nil,List.cons_append,List.nil_append,List.drop_succ_cons,List.drop_zero]
 iterate 4
  refine ku ?_
 refine kw rfl (λK H=>?_);go_simp;refine (kr (n:=12) E.2 bC8).mono ?_;rintro e wS1 ⟨x,ao,L,a1,rfl,ar,ap⟩;replace L:=L bC8;clear a1;replace E:=And.intro (E.1.trans ap) ar;clear ar ap;refine H _ _ E ?_;clear H K
 refine jF ?_
 refine kw rfl (λK H=>?_);go_simp;refine (kr (n:=5) E.2 bC8).mono ?_;rintro e wS1 ⟨y,b7,bn,bz,rfl,ar,ap⟩;replace bn:=bn bC8;clear bz;replace E:=And.intro (E.1.trans ap) ar;clear ar ap;refine H _ _ E ?_;clear H K
 refine jF ?_
 refine kw rfl (λK H=>?_);go_simp;refine (kr (n:=8) E.2 bC8).mono ?_;rintro e wS1 ⟨z,bx,bq,a6,rfl,ar,ap⟩;replace bq:=bq bC8;clear a6;replace E:=And.intro (E.1.trans ap) ar;clear ar ap;have hw:Am.wrap (1 + z)=1 + z:=IntWalk.i64_in _ bC9;refine H _ _ E ?_;clear H K
 refine jF ?_
 refine ku ?_
 refine ku ?_
 refine jc ?_
 have O:=E.1.size
 obtain ⟨R5,Z,af,bc,aj,al,av,bg,ad,an,bb,bh⟩:=xH
 go_wp2
 refine bodyPost_ret (v:=.agg #[Qs a ps c,Qn x,Qn y,.int .i64 (1 + z)]) (by simp [results,results138,go_sem,ad,an,bb,bh,aj,al,av,bg]) rfl ⟨a,c,ps,x,y,1 + z,rfl,?_,⟨b9,o.out⟩,by omega,by omega,by omega,af.touch sT4 bC9 wM,Z.jO sT4 bC9⟩
 exact (bc.out.touch (T:=λk=>k=w.heap.size) sT4 rZ).wide fB
def modP (x:Int):Int:=(x.tmod 2147483647 + 2147483647).tmod 2147483647
def kVy (d x:Int):Int:=(d * 1000003 + modP x + 13).tmod 2147483647
def digest (l:Al Int):Int:=l.foldl kVy 11
def kNz {a:Int} (h:0<=a):0<=a.tmod 2147483647/\a.tmod 2147483647 < 2147483647:=by
 rw [Ag h];omega
def tmod_pos {a:Int} (h:0<=a):a % 2147483647=a.tmod 2147483647:=(Ag h).symm
def tmod_abs (a:Int):-2147483647 < a.tmod 2147483647/\a.tmod 2147483647 < 2147483647:=by
 by_cases h:0<=a
 · have:=kNz h;omega
 have:=kNz (a:=-a) bC9;rw [Int.neg_tmod] at this;omega
def kVc (x:Int):0<=modP x/\modP x < 2147483647:=by
 have:=tmod_abs x;exact kNz bC9
def dStep_rng {d:Int} (x:Int) (h:0<=d):0<=kVy d x/\kVy d x < 2147483647:=by
 have:=kVc x;exact kNz bC9
def foldl_rng (l:Al Int):∀ d:Int,0<=d->d < 2147483647->0<=l.foldl kVy d/\l.foldl kVy d < 2147483647:=by
 induction l with
 | nil=>intro d h1 h2;exact ⟨h1,h2⟩
 | cons x l ih=>intro d h1 h2;have:=dStep_rng x h1;exact ih _ this.1 this.2
def kVw (l:Al Int):0<=digest l/\digest l < 2147483647:=foldl_rng l 11 bC9 bC9
def digest_succ {l:Al Int} {k:Nat} (h:k < l.length):digest (l.take (k + 1))=kVy (digest (l.take k)) l[k]:=by
 unfold digest;rw [Ad h,List.foldl_append];rfl
def digest_end {l:List Int} {k:Nat} (h:¬ k < l.length):digest (l.take k)=digest l:=by rw [List.take_of_length_le bC9]
def specMod_c {w:Ac} {x:Int} (hx:Qi x):Bj prog 211 #[.int .i64 x,.int .i64 2147483647] w λe w'=>e=.returned (.int .i64 (modP x))/\w'=w:=by
 have h1:=tmod_abs x;have h2:=kVc x;have HE:=yD (show modP x=(x.tmod 2147483647 + 2147483647).tmod 2147483647 from rfl);go_enter func211,ntmps211;go_wp2_with fail;refine jo.mono ?_;rintro e Y ⟨rfl,hw⟩;obtain rfl:=hw.symm;have R:inR (2147483647:Int) 1 1000000000000=true:=bC8;rw [R];go_wp2;go_ret;exact ⟨jT (by rw [HE.out];exact tmod_pos bC9),rfl⟩
def kOh {w:Ac} {vl:Bc} {l:Al Int} (hl:(kD.slice 3 kD.int).raw w [vl] l) :
    Bj prog 204 #[vl] w λe w'=>e=.returned (.int .i64 (digest l))/\w'=w:=by
 obtain ⟨al,pl,rfl,ll⟩:=kD.sl hl
 go_enter func204,ntmps204
 go_wp2
 go_loop [4,3] (λi d=>∃ k:Nat,k<=l.length/\i=.int .i64 k/\d=.int .i64 (digest (l.take k))) (λi _=>l.length - (intOf i).toNat)
 case atStart=>exact ⟨0,Nat.zero_le _,rfl,rfl⟩
 obtain ⟨k,hk,rfl,rfl⟩:=hrel
 by_cases hlt:k < l.length
 · obtain ⟨ba,H,rfl,c0,hr,A0⟩:=kD.kCv hl hlt rfl;obtain ⟨he,hx⟩:=kD.jY hr;obtain rfl:c0=_:=by simpa using he
   clear he hr;have hd:=kVw (l.take k);have E:=yD (digest_succ hlt);generalize digest (l.take k)=d at *;generalize l[k]=x at *;have hm:=kVc x;go_wp2_with fail;refine (specMod_c hx).mono ?_;rintro e Y ⟨rfl,hw⟩;obtain rfl:=hw.symm;have HD:=yD (show kVy d x=(d * 1000003 + modP x + 13).tmod 2147483647 from rfl);generalize modP x=m at *;go_wp2;go_round;case rel=>exact ⟨k + 1,by omega,by go_num,by rw [E.out,HD.out,<- tmod_pos bC9]⟩
   simp [intOf];omega
 have L:=yD (digest_end hlt)
 go_wp2
 go_ret
 exact ⟨jT L.out,rfl⟩
def kD.kBg {α:Type} {r:kD α} {e:Bf} {w:Ac} {v:Bc} {xs ys:Al α} {S:Nat->Prop} {P:Program} {t ty:Bf} {z:Bc} {bytes:Nat} (ht:P.underlying t=some (.slice e)) (hinf:(P.info? e).map (λi=>(i.zero,i.size,i.bytes))=some (some z,r.n,bytes)) (hzs:z.cells.size=r.n) (hn:0 < r.n) (hby:bytes<=1000) (hf:r.kDa)
    {B:Nat} (hown:kR e r w v xs S) {av:Option Addr} {len cap:Nat} (hy:(slice e r).rd w [.slice av len cap] ys) (hSB:∀ k,S k->B<=k/\k < w.heap.size) (hB:B<=w.heap.size) (hlen:xs.length + ys.length<=1000000000) :
    ∃ v' w',(Builtin.append_ #[t,t] ty #[v,.slice av len cap]).run P w=.ok v' w'/\kR e r w' v' (xs++ys) (jX B w'.heap.size)/\Below B w w'/\w.heap.size<=w'.heap.size/\∀ k,k < w.heap.size->¬ S k->w'.heap[k]?=w.heap[k]?:=by
 obtain ⟨i,hi,hz,hsize,D⟩:=info_parts hinf
 obtain ⟨cells,hsrc,hrow⟩:=kZt hy.1
 have o:row r true w cells ys (λ_=>False):=kOm hf hrow
 obtain ⟨v',w',hr,h2,h3⟩:=kFd (P:=P) (ty:=ty) ht hi hz hsize hzs hn bC9 hown hsrc (zK hrow) (row_one hrow) hlen
 refine ⟨v',w',hr,(h3 o (λ_ _ h=>h) hy.2.2).wide ?_,h2.below hB ?_,h2.size,λk hk hs=>h2.block k hk (λq=>hs q.2)⟩
 · exact iK
 intro k hk;exact (hSB k hk.2).1
def I64q (x:Int):Prop:=Qi x
def row_intq {w:Ac} {o:Bool}:∀ (l:Al Int) (S:Nat->Prop),(∀ x∈l,I64q x)->kD.row kD.int o w (l.map (Be .i64)) l S
  | [],_,_=>rfl
  | x :: l,S,h=>⟨[Qn x],l.map (Be .i64),λ_=>False,λ_=>False,rfl,⟨rfl,h x bD0⟩,row_intq l _ sP,λ_ h=>h.elim,λ_ h=>h.elim,λ_ _ h=>h.elim⟩
def litq {w:Ac} {x:Int} {e:Bf} (hx:I64q x):kD.kR e kD.int (w.alloc (.cells #[.int .i64 x] e)) (.slice (some ⟨w.heap.size,0,none⟩) 1 1) [x] (λk=>k=w.heap.size) :=
  kD.yO (cs:=[.int .i64 x]) (xs:=[x]) (T:=λ_=>False) (λ_ _=>trivial) rR (row_intq [x] _ (by intro q hq;simp only [List.mem_cons,List.not_mem_nil,or_false] at hq;subst hq;assumption)) (λ_ h=>h.elim) rfl
end Go.Proofs.YtonmjkmaadgceabGreat
namespace Go.Proofs.YtonmjkmaadgceabGreat
open _root_.Go.Proofs.Tryz
def vlo (n:Nat):Bd:=Ap (n % 128 + 128)
def vint (n:Nat):Al Bd:=if h:n < 128 then [Ap n] else vlo n :: vint (n / 128)
termination_by n
decreasing_by omega
def kYw {n:Nat} (h:n < 128):vint n=[UInt8.ofNat n]:=by rw [vint,dif_pos h]
def vint_hi {n:Nat} (h:¬ n < 128):vint n=vlo n :: vint (n / 128):=by rw [vint,dif_neg h]
def vint_len:∀ (k:Nat) {n:Nat},n < 128 ^ (k + 1)->(vint n).length<=k + 1
  | 0,n,h=>by rw [kYw bB3];simp
  | k + 1,n,h=>by
    by_cases c:n < 128
    · rw [kYw c];simp
    · rw [vint_hi c,Bg];have:=vint_len k (n:=n / 128) (Nat.div_lt_of_lt_mul nR);omega
def vint_six {n:Nat} (h:n<=1000000000000):(vint n).length<=6:=vint_len 5 bC9
end Go.Proofs.YtonmjkmaadgceabGreat
namespace Go.Proofs.YtonmjkmaadgceabGreat
open Go.RowKit _root_.Go.Proofs.Tryz
def kFb (n:Int):Al Bd:=if inR n 0 1000000000000=true then vint n.toNat else []
def vintI_no {n:Int} (h:inR n 0 1000000000000=false):kFb n=[]:=by unfold kFb;rw [h];rfl
def vintI_yes {n:Nat} (h:inR (n:Int) 0 1000000000000=true):kFb n=vint n:=by unfold kFb;rw [if_pos h];simp
def kHr (n:Int):(kFb n).length<=6:=by
 unfold kFb;split
 · rename_i h
   have F:0<=n/\n<=1000000000000:=by simpa [inR] using h
   exact vint_six bC9
 simp
def or128:∀ x:Fin 128,bits BinOp.or Am (x.val:Int) 128=(x.val:Int) + 128:=by decide +kernel
def vlo_int (m:Nat):((vlo m).toNat:Int)=((m % 128:Nat):Int) + 128:=by
 unfold vlo;rw [Ah];omega
def lo_spec {m:Nat} (h:m<=1000000000000):IntKind.u8.wrap (bits BinOp.or Am (bits BinOp.and Am (m:Int) 127) 128)=((vlo m).toNat:Int):=by
 have e:=bits_mask Am 63 bC8 (λn h0 h1=>by rw [IntKind.wrap_i64];omega) 7 bC8 (m:Int) bC9 bC9;rw [show ((2:Int) ^ 7 - 1)=127 by decide,show ((2:Int) ^ 7)=128 by decide] at e;rw [e,vlo_int];have e2:=or128 ⟨m % 128,by omega⟩;simp only at e2;rw [show (m:Int) % 128=((m % 128:Nat):Int) by omega,e2,Bh];omega
def hi_byte {m:Nat} (h:m < 128):IntKind.u8.wrap (m:Int)=((Ap m).toNat:Int):=by
 rw [Bh,Ah];omega
def hi_byte0 {m:Nat} (h:m < 128):(m:Int)=((Ap m).toNat:Int):=by
 rw [Ah];omega
def kPk {w:Ac} {z:Int} {x:Bd} (h:z=(x.toNat:Int)):kD.byte.own w [.int .u8 z] x (λ_=>False):=⟨by show [_]=[_];rw [h],trivial⟩
def kDl {w:Ac} {va:Bc} {b:Al Bd} {n:Int} (ha:(kD.slice 5 kD.byte).rd w [va] b) :
    Bj prog 203 #[va,.int .i64 n] w (kBs 5 kD.byte (b++kFb n) w):=by
 obtain ⟨aa,al,rfl,la⟩:=kD.sl ha.1
 have HA:=yD ha
 have hb:b.length<=16777216:=ha.2.1
 clear ha
 go_enter func203,ntmps203
 have O0:kD.kR 5 kD.byte (w.alloc (.cells #[] 5)) (.slice (some ⟨w.heap.size,0,none⟩) 0 0) [] (λk=>k=w.heap.size):=kD.yO (cs:=[]) (xs:=[]) (T:=λ_=>False) bD0 bD0 rfl (λ_ h=>h.elim) rfl
 go_wp2_with (at_builtin;refine kD.yQ rfl _ _ 22 rfl (r:=kD.byte) (e:=5) Ae kEj rfl bC8 bC8 kD.kFi (B:=w.heap.size) O0 bD1 bD1 (HA.out.alloc _) qJ bD0 bC4 ?_)
 intro v2 V hown o hz
 have J:Hid (kD.kR 5 kD.byte V v2 b (jX w.heap.size V.heap.size)):=yD (by simpa using hown)
 have F:Qb w V:=Below.trans bF o
 clear hown O0 o
 obtain ⟨a2,n2,c2,hv,a7⟩:=J.out.parts
 obtain rfl:=hv
 go_wp2_with fail
 refine jo.mono ?_
 rintro e Y ⟨rfl,hw⟩
 obtain rfl:=hw.symm
 cases R:inR n 0 1000000000000
 · have L:=yD (vintI_no R);go_wp2;go_ret;exact ⟨_,rfl,J.out.cast (by rw [L.out];simp),F⟩
 obtain ⟨ck,dh⟩:0<=n/\n<=1000000000000:=by simpa [inR] using R
 obtain ⟨N,rfl⟩:∃ N:Nat,n=N:=⟨n.toNat,by omega⟩
 have L:=yD (vintI_yes R)
 clear R
 go_wp2
 go_loopw [5,1] (λv i wr=>∃ (m:Nat) (pre:Al Bd),m<=N/\i=.int .i64 m/\Hid (pre++vint m=vint N)/\Hid (kD.kR 5 kD.byte wr v (b++pre) (jX w.heap.size wr.heap.size))/\Qb w wr) (λ_ i _=>(intOf i).toNat)
 case atStart=>exact ⟨N,[],Nat.le_refl _,rfl,yD rfl,yD (by simpa using J.out),F⟩
 clear F J a7
 obtain ⟨m,pre,hm,rfl,HP,J,o⟩:=hrel
 obtain ⟨oa,on,oc,ho,bb⟩:=J.out.parts;obtain rfl:=ho
 have dm:pre.length<=6:=by
  have h1:=congrArg List.length HP.out;have h2:=vint_six (n:=N) bC9;simp only [Aa] at h1;omega
 by_cases hlt:m < 128
 · have HB:=yD (hi_byte hlt);have U:=yD (kYw hlt);go_wp2_with (at_builtin;refine kD.jL rfl _ _ 22 rfl (r:=kD.byte) (e:=5) Ae kEj rfl bC8 bC8 (B:=w.heap.size) J.out bD1 bD1 rfl (kPk (x:=Ap m) (by first | exact HB.out | exact hi_byte0 bC9)) rfl (λ_ _ h=>h) qU (λ_ h=>h.elim) vT bC4 ?_);intro v3 w3 D G bk;have ai:=yD D;obtain ⟨a3,n3,c3,ac,bn⟩:=D.parts;obtain rfl:=ac;have F:=o.trans G;clear D G;go_wp2;go_ret;exact ⟨_,rfl,ai.out.cast (by rw [L.out,<- HP.out,U.out];try simp only [Ab]),F⟩
 have HB:=yD (lo_spec (show m<=1000000000000 by omega))
 have U:=yD (vint_hi hlt)
 have bz:(127:Int) < m:=bC9
 go_wp2_with (at_builtin;refine kD.jL rfl _ _ 22 rfl (r:=kD.byte) (e:=5) Ae kEj rfl bC8 bC8 (B:=w.heap.size) J.out bD1 bD1 rfl (kPk (x:=vlo m) (by first | exact HB.out|(simp only [HB.out]))) rfl (λ_ _ h=>h) qU (λ_ h=>h.elim) vT bC4 ?_)
 intro v3 w3 D G bk
 have ai:=yD D
 obtain ⟨a3,n3,c3,ac,bn⟩:=D.parts
 obtain rfl:=ac
 have F:=o.trans G
 clear D G
 go_wp2
 go_roundw
 case rel=>exact ⟨m / 128,pre++[vlo m],by omega,by go_num,yD (by rw [<- HP.out,U.out,Ab];rfl),yD (ai.out.cast (by simp only [Ab])),F⟩
 simp [intOf];omega
def kXs (w:Ac):∀ (l:Al Bd) (S:Nat->Prop),kD.row kD.byte false w (l.map (λb=>Be .u8 b.toNat)) l S
  | [],_=>rfl
  | b :: l,S=>⟨[.int .u8 b.toNat],l.map (λb=>Be .u8 b.toNat),S,S,rfl,rfl,kXs w l S,λ_ h=>h,λ_ h=>h,λh=>by cases h⟩
def kXa {w:Ac} {e e2:Bf} {s:Ay} (hs:s.size<=16777216):(kD.slice e2 kD.byte).rd (Lib.bytesWorld w e s) [.slice (some ⟨w.heap.size,0,none⟩) s.size (grownCap w s.size 0 e)] s.data.toList:=by
 have hl:s.data.toList.length=s.size:=bD0;refine ⟨⟨_,_,_,rfl,hl.symm,grownCap_ge _ _ _ _,grownCap_le_maxLen _ _ _ _ vK,.inr ⟨_,_,rfl,_,_,_,[],s.data.toList.map (λb=>Be .u8 b.toNat),List.replicate (grownCap w s.size 0 e - s.size) (.int .u8 0),Lib.bytesWorld_at_new w e s,?_,rfl,?_,(λh=>Bool.noConfusion h),trivial,?_⟩⟩,by rw [hl];exact hs,λ_ _=>trivial⟩
 · simp [Lib.bytesCells]
 · have:=grownCap_ge w s.size 0 e;have e1:(Lib.bytesCells w e s).size=s.size + (grownCap w s.size 0 e - s.size):=by simp [Lib.bytesCells]
   rw [e1];show 0 + _ * 1<=_;omega
 exact kD.yL (kXs _ _ (λ_=>True)) (λ_ _=>⟨trivial,λh=>by cases h⟩)
def bytesWorld_below' (w:Ac) (e:Bf) (s:Ay):Below w.heap.size w (Lib.bytesWorld w e s) :=
  ⟨rfl,rfl,rfl,by rw [Lib.bytesWorld_size];omega,λj I=>Lib.bytesWorld_at_old w e s j I⟩
def encS (s:Ay):Al Bd:=kFb s.data.toList.length++s.data.toList
def kMv (l:Al Ay):Al Bd:=(l.map encS).flatten
def kVu {l:Al Ay} {k:Nat} (h:k < l.length):kMv (l.take (k + 1))=kMv (l.take k)++encS l[k]:=by
 unfold kMv;rw [Ad h,List.map_append,List.flatten_append];simp
def encNm (n:ko):Al Bd:=kFb n.length++kMv n
def kOi {w:Ac} {va vs:Bc} {b s:Al Bd} (ha:(kD.slice 5 kD.byte).rd w [va] b) (hs:(kD.slice 5 kD.byte).rd w [vs] s) :
    Bj prog 212 #[va,vs] w (kBs 5 kD.byte (b++(kFb s.length++s)) w):=by
 obtain ⟨aa,al,rfl,la⟩:=kD.sl ha.1
 obtain ⟨ab,X,rfl,H⟩:=kD.sl hs.1
 have HA:=yD ha
 have E:=yD hs
 have hb:b.length<=16777216:=ha.2.1
 have d9:s.length<=16777216:=hs.2.1
 clear ha hs
 go_enter func212,ntmps212
 go_wp2_with fail
 refine (kDl HA.out).mono ?_
 rintro e V ⟨v2,rfl,hown,F⟩
 obtain ⟨a2,n2,c2,hv,a7⟩:=hown.parts
 obtain rfl:=hv
 have J:=yD hown
 have bf:(b++kFb s.length).length<=20000000:=by have:=kHr s.length;rw [Aa];omega
 clear hown
 go_wp2_with (at_builtin;refine kD.yQ rfl _ _ 22 rfl (r:=kD.byte) (e:=5) Ae kEj rfl bC8 bC8 kD.kFi (B:=w.heap.size) J.out bD1 bD1 (E.out.below F) (λk hk=>⟨hk.1,hk.2⟩) F.size bC9 ?_)
 intro v3 w3 D G bk
 have ai:=yD D
 obtain ⟨a3,n3,c3,ac,bn⟩:=D.parts
 obtain rfl:=ac
 have o:=F.trans G
 clear D G
 go_wp2
 go_ret
 exact ⟨_,rfl,ai.out.cast (by simp only [Ab]),o⟩
def vPart_size {s:ByteArray} (h:kCk s=true):s.size<=8:=by
 unfold kCk at h;simp only [Bool.and_eq_true] at h;have h2:(1:Int)<=s.size/\(s.size:Int)<=8:=by simpa [inR] using h.2
 omega
def kXe {n:ko} (h:zM n=true):n.length<=6:=by
 unfold zM at h;simp only [Bool.and_eq_true,decide_eq_true_eq] at h;exact h.2
def kTt {n:ko} (h:zM n=true) {k:Nat} (hk:k < n.length):n[k].size<=8:=by
 by_cases q:kCk n[k]=true
 · exact vPart_size q
 have:=kXf hk bB5;rw [this] at h;cases h
def encS_len {s:Ay} (h:s.size<=8):(encS s).length<=14:=by
 have h1:=kHr s.data.toList.length;have h2:s.data.toList.length=s.size:=bD0;unfold encS;rw [Aa];omega
def kQk {n:ko} (h:zM n=true):∀ {k:Nat},k<=n.length->(kMv (n.take k)).length<=14 * k
  | 0,_=>by simp [kMv]
  | k + 1,hk=>by
    have h1:=kQk h (k:=k) bC9;have h2:=encS_len (kTt h (k:=k) bC9);rw [kVu bC9,Aa];omega
def encNm_len {n:ko} (h:zM n=true):(encNm n).length<=90:=by
 have h1:=kHr n.length;have h2:=kQk h (k:=n.length) nL;have h3:=kXe h;rw [Bi] at h2;unfold encNm;rw [Aa];omega
def kPt {w:Ac} {va:Bc} {b:Al Bd} {cn:Al Bc} {n:ko} (ha:(kD.slice 5 kD.byte).rd w [va] b) (hn:kU.raw w cn n) (hv:zM n=true) (hb:b.length<=1000000) :
    Bj prog 208 #[va,.agg cn.toArray] w (kBs 5 kD.byte (b++encNm n) w):=by
 obtain ⟨av,rfl,ad⟩:=kZ hn
 obtain ⟨an,G,rfl,ln⟩:=kD.sl ad
 obtain ⟨aa,al,rfl,la⟩:=kD.sl ha.1
 have HA:=yD ha
 have HN:=yD ad
 have N:=yD hn
 have U:=yD hv
 have b0:=kXe hv
 clear ha hn ad hv
 go_enter func208,ntmps208
 have O0:kD.kR 5 kD.byte ((w.alloc (.cells #[.slice an n.length G] 40)).alloc (.cells #[] 5)) (.slice (some ⟨w.heap.size + 1,0,none⟩) 0 0) [] (λk=>k=w.heap.size + 1):=by
  exact iE
 go_wp2_with (at_builtin;refine kD.yQ rfl _ _ 22 rfl (r:=kD.byte) (e:=5) Ae kEj rfl bC8 bC8 kD.kFi (B:=w.heap.size + 1) O0 bD1 bD1 (HA.out.below bF) qJ bD0 bC4 ?_)
 intro v2 V hown o hz
 have J:Hid (kD.kR 5 kD.byte V v2 b (jX w.heap.size V.heap.size)):=yD ((hown.cast bD0).wide qV)
 obtain ⟨K0,F⟩:=H7
 obtain ⟨a2,n2,c2,az,a7⟩:=J.out.parts
 obtain rfl:=az
 have aq:w.heap.size < V.heap.size:=by have:=o.size;simp at this;omega
 clear hown O0 o hz
 go_wp2_with fail
 refine (yY (N.out.below F)).mono ?_
 rintro e w3 ⟨rfl,ar⟩
 rw [U.out]
 replace K0:=cL ar K0
 replace J:=yD (((J.out.below ar).own wH).rd)
 have W:=(tQ F ar)
 have Z:w.heap.size < w3.heap.size:=by have:=ar.size;omega
 clear F ar aq
 go_wp2_with fail
 refine (kDl J.out).mono ?_
 rintro e w4 ⟨v4,rfl,D,L⟩
 obtain ⟨a4,n4,c4,ag,bj⟩:=D.parts
 obtain rfl:=ag
 replace K0:=cL L K0
 have F:=(tQ W L)
 have be:Hid (kD.kR 5 kD.byte w4 (.slice a4 n4 c4) (b++kFb n.length) (jX (w.heap.size + 1) w4.heap.size)):=yD (D.wide qV)
 have ai:w.heap.size < w4.heap.size:=by have:=L.size;omega
 have br:=yD K0
 clear D W L Z K0
 have ac:=yD (kHr n.length)
 have K0:=br.out
 go_wp2
 go_loopw [5,6] (λv i wr=>∃ k:Nat,k<=n.length/\i=.int .i64 k/\Hid (kD.kR 5 kD.byte wr v (b++kFb n.length++kMv (n.take k)) (jX (w.heap.size + 1) wr.heap.size))/\Below (w.heap.size + 1) w4 wr) (λ_ i _=>n.length - (intOf i).toNat)
 case atStart=>exact ⟨0,Nat.zero_le _,rfl,yD (by simpa [kMv] using be.out),bR⟩
 clear K0 be
 obtain ⟨k,hk,rfl,J,o⟩:=hrel
 obtain ⟨oa,on,oc,ho,bb⟩:=J.out.parts;obtain rfl:=ho
 have Y:Qb w wr:=F.trans (o.mono bC9)
 have ah:w.heap.size < wr.heap.size:=vT
 have K0:Qd wr w 0 (.slice an n.length G):=(o.cell (p:=⟨w.heap.size,0,none⟩) bD0).trans br.out
 by_cases hlt:k < n.length
 · obtain ⟨qb,qo,rfl,c0,hr,A0⟩:=kD.kCv (HN.out.below Y) hlt rfl;obtain ⟨he,ax⟩:=kD.zi hr;obtain rfl:c0=_:=by simpa using he
   clear he hr;have ba:=yD (kVu hlt);have aj:=kTt U.out hlt;have ae:=kQk U.out hk;have bf:Hid ((kD.slice 5 kD.byte).rd wr [.slice oa on oc] (b++kFb n.length++kMv (n.take k))):=yD ((J.out.own (by have:=ac.out;unfold Big;simp only [Aa];omega)).rd);generalize n[k]=s at *;have H:=Lib.run_convert_string_bytes (P:=prog) wr 9 22 5 s (u:=.string) underlying9 Ae underlying5;have E:=yD (kXa (w:=wr) (e:=5) (e2:=5) (s:=s) bC9);have am:=bytesWorld_below' wr 5 s;obtain ⟨W1,O⟩:∃ W1,W1=Lib.bytesWorld wr 5 s:=⟨_,rfl⟩;rw [<- O] at H E am;clear O ae ax;generalize grownCap wr s.size 0 5=gc at *;go_wp2_with fail;refine (kOi (bf.out.below am) E.out).mono ?_;rintro e w5 ⟨v5,rfl,hown,X⟩;obtain ⟨a5,n5,c5,af,bg⟩:=hown.parts;obtain rfl:=af;have ab:=o.trans ((am.mono bC9).trans (X.mono (by have:=am.size;omega)));have R:Hid (kD.kR 5 kD.byte w5 (.slice a5 n5 c5) (b++kFb n.length++kMv (n.take (k + 1))) (jX (w.heap.size + 1) w5.heap.size)):=yD ((hown.cast (by rw [ba.out];simp only [encS,Ab])).wide (λj I=>⟨by have:=I.1;have:=am.size;omega,I.2⟩));clear hown X J bf A0 o H am K0 Y;go_wp2;go_roundw;case rel=>exact ⟨k + 1,by omega,by go_num,R,ab⟩
   simp [intOf];omega
 obtain rfl:k=n.length:=bC9
 go_wp2
 go_ret
 exact ⟨_,rfl,(J.out.cast (by rw [Bi,encNm,Ab])).wide qV,Y⟩
def kBh (x:jN):Bool:=((((zM x.1 && decide (0 < x.1.length)) && decide ((x.2.1.length:Int)<=60)) && zM x.2.2.1) && inR x.2.2.2.1 0 100000) && inR x.2.2.2.2 0 2147483646
def kDf {w:Ac} {cx:Al Bc} {x:jN} (hx:jJ.raw w cx x) :
    Bj prog 164 #[.agg cx.toArray] w (bQ w (.bool (kBh x))):=by
 have Hx:=yD hx
 obtain ⟨ar,a7,a2,rfl,ab,Z,ac,ae,V,al,ap⟩:=jb hx
 obtain ⟨aa,R,rfl,an⟩:=kD.sl Z
 obtain ⟨aj,ah,rfl,a5⟩:=kD.sl ac
 obtain ⟨ag,X,rfl,a3⟩:=kD.sl V
 go_enter func164,ntmps164
 go_upto_region 1 with fail
 generalize D:World.alloc w _=N
 obtain ⟨EB,af,J,I,o,O⟩:=DR
 clear D
 have FX:=yD (λ(W:Ac) (hW:Qb N W)=>cLs5 hW af J I o O)
 refine jE (λW=>Qb N W) [Tt,Tt,Ff,Tt,Tt,Tt,Tt,Tt,Tt,Tt,Tt,Tt,Tt,Tt,Tt,Tt,Tt,Tt,Tt,Ff,Tt,Tt,Tt,Tt,Ff,Tt,Tt,Tt,Tt,Ff,Tt,Tt] bR ?_
 intro wS E
 all_goals refine ku ?_
 all_goals refine ku ?_
 all_goals first | refine wkB (yY (kD.raw.below ab (tQ EB E))) (λwS1 E=>?_) | refine ku ?_
 all_goals (refine jy λb a1=>?_;cases b <;> try simp only [jw] at a1)
 iterate 6
  all_goals refine ku ?_
 all_goals (refine jy λb Y=>?_;cases b <;> try simp only [jw] at Y)
 iterate 5
  all_goals refine ku ?_
 all_goals (refine jy λb G=>?_;cases b <;> try simp only [jw] at G)
 all_goals refine ku ?_
 all_goals refine ku ?_
 all_goals first | refine wkB (yY (kD.raw.below ae (tQ EB E))) (λwS1 E=>?_) | refine ku ?_
 all_goals refine ku ?_
 all_goals (refine jy λb ad=>?_;cases b <;> try simp only [jw] at ad)
 all_goals refine ku ?_
 all_goals refine ku ?_
 all_goals first | refine wkC (jo) ?_ | refine ku ?_
 all_goals refine ku ?_
 all_goals (refine jy λb H=>?_;cases b <;> try simp only [jw] at H)
 all_goals refine ku ?_
 all_goals refine ku ?_
 all_goals first | refine wkC (jo) ?_ | refine ku ?_
 all_goals refine ku ?_
 all_goals (refine jy λb aw=>?_;cases b <;> try simp only [jw] at aw)
 all_goals refine kS ?_
 all_goals have F:=(tQ EB E)
 all_goals first
   | (have L:=yD (show (kBh x)=false by simp only [kBh,Aq,Ai,Ar,Au,Aj,Ak,Az,Ba,Av,Aw,Bb,a1,Y,G,ad,H,aw]);go_wp2;go_ret;exact ⟨kX L.out.symm,F⟩)
   | (have L:=yD (show (kBh x)=true by simp only [kBh,Aq,Ai,Ar,Au,Aj,Ak,Az,Ba,Av,Aw,Bb,a1,Y,G,ad,H,aw]);go_wp2;go_ret;exact ⟨kX L.out.symm,F⟩)
def kJu {w:Ac} {cx:Al Bc} {x:jN} (hx:jJ.raw w cx x) :
    Bj prog 35 #[.agg cx.toArray] w (bQ w (.bool (kBh x))):=by
 have Hx:=yD hx
 obtain ⟨ar,a7,a2,rfl,ab,Z,ac,ae,V,al,ap⟩:=jb hx
 obtain ⟨aa,R,rfl,an⟩:=kD.sl Z
 obtain ⟨aj,ah,rfl,a5⟩:=kD.sl ac
 obtain ⟨ag,X,rfl,a3⟩:=kD.sl V
 go_enter func35,ntmps35
 go_upto_region 1 with fail
 generalize D:World.alloc w _=N
 obtain ⟨EB,af,J,I,o,O⟩:=DR
 clear D
 have FX:=yD (λ(W:Ac) (hW:Qb N W)=>cLs5 hW af J I o O)
 refine jE (λW=>Qb N W) [Tt,Tt,Ff,Tt,Tt,Tt,Tt,Tt,Tt,Tt,Tt,Tt,Tt,Tt,Tt,Tt,Tt,Tt,Tt,Ff,Tt,Tt,Tt,Tt,Ff,Tt,Tt,Tt,Tt,Ff,Tt,Tt] bR ?_
 intro wS E
 all_goals refine ku ?_
 all_goals refine ku ?_
 all_goals first | refine wkB (kAs (kD.raw.below ab (tQ EB E))) (λwS1 E=>?_) | refine ku ?_
 all_goals (refine jy λb a1=>?_;cases b <;> try simp only [jw] at a1)
 iterate 6
  all_goals refine ku ?_
 all_goals (refine jy λb Y=>?_;cases b <;> try simp only [jw] at Y)
 iterate 5
  all_goals refine ku ?_
 all_goals (refine jy λb G=>?_;cases b <;> try simp only [jw] at G)
 all_goals refine ku ?_
 all_goals refine ku ?_
 all_goals first | refine wkB (kAs (kD.raw.below ae (tQ EB E))) (λwS1 E=>?_) | refine ku ?_
 all_goals refine ku ?_
 all_goals (refine jy λb ad=>?_;cases b <;> try simp only [jw] at ad)
 all_goals refine ku ?_
 all_goals refine ku ?_
 all_goals first | refine wkC (yJ) ?_ | refine ku ?_
 all_goals refine ku ?_
 all_goals (refine jy λb H=>?_;cases b <;> try simp only [jw] at H)
 all_goals refine ku ?_
 all_goals refine ku ?_
 all_goals first | refine wkC (yJ) ?_ | refine ku ?_
 all_goals refine ku ?_
 all_goals (refine jy λb aw=>?_;cases b <;> try simp only [jw] at aw)
 all_goals refine kS ?_
 all_goals have F:=(tQ EB E)
 all_goals first
   | (have L:=yD (show (kBh x)=false by simp only [kBh,Aq,Ai,Ar,Au,Aj,Ak,Az,Ba,Av,Aw,Bb,a1,Y,G,ad,H,aw]);go_wp2;go_ret;exact ⟨kX L.out.symm,F⟩)
   | (have L:=yD (show (kBh x)=true by simp only [kBh,Aq,Ai,Ar,Au,Aj,Ak,Az,Ba,Av,Aw,Bb,a1,Y,G,ad,H,aw]);go_wp2;go_ret;exact ⟨kX L.out.symm,F⟩)
end Go.Proofs.YtonmjkmaadgceabGreat

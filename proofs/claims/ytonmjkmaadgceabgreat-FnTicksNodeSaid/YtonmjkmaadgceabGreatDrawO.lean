/-
  Routes as the reference draws them.
-/
import Derived.Test.YtonmjkmaadgceabGreatVStoreI
set_option linter.unusedVariables false
set_option linter.defProp false
set_option linter.unusedSimpArgs false
set_option linter.unnecessarySimpa false
set_option maxRecDepth 100000
set_option maxHeartbeats 4000000
open _root_ renaming List->Aa
open List.cons renaming injEq->Ab
open Go renaming World->Ac,Value->Ad
open Int renaming eq_ofNat_of_zero_le->Ae,toNat_natCast->Ai
open List renaming mem_append->Ag,mem_singleton->Ah
open Go.Proofs.Tryz renaming underlying30->Aj
namespace Go.Proofs.YtonmjkmaadgceabGreat
open Go.RowKit _root_.Go.Proofs.Tryz
def kJf {l:Aa jH} {n:ko} {x:Int}:(yK l n x).length<=max l.length 24:=by
 unfold yK;split
 · simp;omega
 simp at *;omega
def kOk {n:ko}:∀ (o:Aa kW) (s:Aa jH),(o.foldl (λs r=>yK s n r.2.1) s).length<=max s.length 24
  | [],s=>by simp;omega
  | r :: o,s=>by
    have h1:=kOk (n:=n) o (yK s n r.2.1);have h2:=kJf (l:=s) (n:=n) (x:=r.2.1);simp only [List.foldl_cons];omega
def kMs {n:ko} {o:Aa kW} {s:Aa jH} {j:Nat} (h:j < o.length):(o.take (j + 1)).foldl (λs r=>yK s n r.2.1) s=yK ((o.take j).foldl (λs r=>yK s n r.2.1) s) n o[j].2.1:=by
 rw [List.take_succ_eq_append_getElem h,List.foldl_append];rfl
def kLo {w:Ac} {c0 c1 c2 c3 c4 c5 O o:Ad} {x0:Aa jN} {x1:kg} {x2:Aa kF} {x3:Aa jH} {x4:Aa ky} {x5:Aa kJ} {x6:Int} (h:jr.raw w [c0,c1,c2,c3,c4,c5,O,o] (x0,x1,x2,x3,x4,x5,x6)):(kD.slice 43 kH).raw w [c3] x2:=by
 obtain ⟨v0,v2,v3,v4,v5,v6,he,a0,a1,a2,a3,a4,a5,a6,a7,D⟩:=yS h;simp only [Ab,and_true] at he;obtain ⟨rfl,rfl,rfl,rfl,rfl,rfl,rfl,rfl⟩:=he;exact a4
def kYd {w:Ac} {c0 c1 c2 c3 c4 c5 O o:Ad} {x0:Aa jN} {x1:kg} {x2:Aa kF} {x3:Aa jH} {x4:Aa ky} {x5:Aa kJ} {x6:Int} (h:jr.rd w [c0,c1,c2,c3,c4,c5,O,o] (x0,x1,x2,x3,x4,x5,x6)):(kD.slice 99 jG).rd w [c4] x3:=by
 obtain ⟨v0,v2,v3,v4,v5,v6,he,a0,a1,a2,a3,a4,a5,a6,a7,D⟩:=yS h.1;simp only [Ab,and_true] at he;obtain ⟨rfl,rfl,rfl,rfl,rfl,rfl,rfl,rfl⟩:=he;exact ⟨a5,h.2.2.2.2.1⟩
def kAl {w:Ac} {c0 c1 c2 c3 c4 c5 O o:Ad} {x0:Aa jN} {x1:kg} {x2:Aa kF} {x3:Aa jH} {x4:Aa ky} {x5:Aa kJ} {x6:Int} (h:jr.rd w [c0,c1,c2,c3,c4,c5,O,o] (x0,x1,x2,x3,x4,x5,x6)):(kD.slice 77 kY).rd w [c5] x4:=by
 obtain ⟨v0,v2,v3,v4,v5,v6,he,a0,a1,a2,a3,a4,a5,a6,a7,D⟩:=yS h.1;simp only [Ab,and_true] at he;obtain ⟨rfl,rfl,rfl,rfl,rfl,rfl,rfl,rfl⟩:=he;exact ⟨a6,h.2.2.2.2.2.1⟩
def kYe {w:Ac} {c0 c1 c2 c3 c4 c5 O o:Ad} {x0:Aa jN} {x1:kg} {x2:Aa kF} {x3:Aa jH} {x4:Aa ky} {x5:Aa kJ} {x6:Int} (h:jr.rd w [c0,c1,c2,c3,c4,c5,O,o] (x0,x1,x2,x3,x4,x5,x6)):(kD.slice 108 kL).rd w [O] x5:=by
 obtain ⟨v0,v2,v3,v4,v5,v6,he,a0,a1,a2,a3,a4,a5,a6,a7,D⟩:=yS h.1;simp only [Ab,and_true] at he;obtain ⟨rfl,rfl,rfl,rfl,rfl,rfl,rfl,rfl⟩:=he;exact ⟨a7,h.2.2.2.2.2.2.1⟩
def kUz {w:Ac} {c0 c2 c3 c4 c5 O o:Ad} {x0:Aa jN} {xc:Int} {xe:Aa kT} {x2:Aa kF} {x3:Aa jH} {x4:Aa ky} {x5:Aa kJ} {x6:Int} (h:jr.rd w [c0,Qn xc,c2,c3,c4,c5,O,o] (x0,(xc,xe),x2,x3,x4,x5,x6)):kN.rd w [Qn xc,c2] (xc,xe):=by
 obtain ⟨v0,v2,v3,v4,v5,v6,he,a0,a1,a2,a3,a4,a5,a6,a7,D⟩:=yS h.1;simp only [Ab,and_true] at he;obtain ⟨rfl,h2,rfl,rfl,rfl,rfl,rfl,rfl⟩:=he;exact ⟨a1,h.2.2.1⟩
def kIy {w:Ac} {c0 c1 c2 c3 c4 c5 O o v:Ad} {x0:Aa jN} {x1:kg} {x2 y:Aa kF} {x3:Aa jH} {x4:Aa ky} {x5:Aa kJ} {x6:Int} {S T:Nat->Prop}
    (h:jr.own w [c0,c1,c2,c3,c4,c5,O,o] (x0,x1,x2,x3,x4,x5,x6) S) (hv:(kD.slice 43 kH).own w [v] y T) (hd:∀ k,S k->T k->False):jr.own w [c0,c1,c2,v,c4,c5,O,o] (x0,x1,y,x3,x4,x5,x6) (λk=>S k\/T k) :=
  kD.set_right (c:=[c0]) h rfl (λB hB hq=>kD.set_right (c:=[c1,c2]) hq rfl (λU E az=>kD.set_left (c:=[c3]) (c':=[v]) az rfl hv (λk a b=>hd k (hB k (E k a)) b)) (λk a b=>hd k (hB k a) b)) hd
def kIx {w:Ac} {c0 c1 c2 c3 c4 c5 O o v:Ad} {x0:Aa jN} {x1:kg} {x2:Aa kF} {x3 y:Aa jH} {x4:Aa ky} {x5:Aa kJ} {x6:Int} {S T:Nat->Prop}
    (h:jr.own w [c0,c1,c2,c3,c4,c5,O,o] (x0,x1,x2,x3,x4,x5,x6) S) (hv:(kD.slice 99 jG).own w [v] y T) (hd:∀ k,S k->T k->False):jr.own w [c0,c1,c2,c3,v,c5,O,o] (x0,x1,x2,y,x4,x5,x6) (λk=>S k\/T k) :=
  kD.set_right (c:=[c0]) h rfl (λB hB hq=>kD.set_right (c:=[c1,c2]) hq rfl (λU E az=>kD.set_right (c:=[c3]) az rfl (λB3 F H=>kD.set_left (c:=[c4]) (c':=[v]) H rfl hv (λk a b=>hd k (hB k (E k (F k a))) b)) (λk a b=>hd k (hB k (E k a)) b)) (λk a b=>hd k (hB k a) b)) hd
def kIz {w:Ac} {c0 c1 c2 c3 c4 c5 O o v:Ad} {x0:Aa jN} {x1:kg} {x2:Aa kF} {x3:Aa jH} {x4:Aa ky} {x5 y:Aa kJ} {x6:Int} {S T:Nat->Prop}
    (h:jr.own w [c0,c1,c2,c3,c4,c5,O,o] (x0,x1,x2,x3,x4,x5,x6) S) (hv:(kD.slice 108 kL).own w [v] y T) (hd:∀ k,S k->T k->False):jr.own w [c0,c1,c2,c3,c4,c5,v,o] (x0,x1,x2,x3,x4,y,x6) (λk=>S k\/T k) :=
  kD.set_right (c:=[c0]) h rfl (λB hB hq=>kD.set_right (c:=[c1,c2]) hq rfl (λU E az=>kD.set_right (c:=[c3]) az rfl (λB3 F H=>kD.set_right (c:=[c4]) H rfl (λZ D I=>kD.set_right (c:=[c5]) I rfl (λB5 G J=>kD.set_left (c:=[O]) (c':=[v]) J rfl hv (λk a b=>hd k (hB k (E k (F k (D k (G k a))))) b)) (λk a b=>hd k (hB k (E k (F k (D k a)))) b)) (λk a b=>hd k (hB k (E k (F k a))) b)) (λk a b=>hd k (hB k (E k a)) b)) (λk a b=>hd k (hB k a) b)) hd
def kHk {w:Ac} {c0 c1 c2 c3 c4 c5 O o v u:Ad} {x0:Aa jN} {x1 y:kg} {x2:Aa kF} {x3:Aa jH} {x4:Aa ky} {x5:Aa kJ} {x6:Int} {S T:Nat->Prop}
    (h:jr.own w [c0,c1,c2,c3,c4,c5,O,o] (x0,x1,x2,x3,x4,x5,x6) S) (hv:kN.own w [u,v] y T) (hd:∀ k,S k->T k->False):jr.own w [c0,u,v,c3,c4,c5,O,o] (x0,y,x2,x3,x4,x5,x6) (λk=>S k\/T k) :=
  kD.set_right (c:=[c0]) h rfl (λB hB hq=>kD.set_left (c:=[c1,c2]) (c':=[u,v]) hq rfl hv (λk a b=>hd k (hB k a) b)) hd
def kYy (x y:kJ):Bool:=!((x.2.1 != y.2.1) || ((x.2.2 != y.2.2) || !eqN x.1 y.1))
def vMeasS_eq (x y:kJ):kYy x y=decide (x=y):=by
 obtain ⟨x0,x1,x2⟩:=x;obtain ⟨y0,y1,y2⟩:=y;rw [Bool.eq_iff_iff];simp [kYy,eqN];exact l7
def kDu {α:Type} {p:α->Bool} {x:Aa α} (h:¬ idxOf p x < 0):∃ k:Nat,k < x.length/\idxOf p x=k:=by
 unfold idxOf at *;cases e:x.findIdx? p with
 | none=>rw [e] at h;simp at h
 | some i=>exact ⟨i,(List.findIdx?_eq_some_iff_getElem.1 e).1,rfl⟩
def ym (l:Aa kJ) (n:ko) (f:Int):Int:=if idxOf (yA n f) l < 0 then 0 else (l.getD (idxOf (yA n f) l).toNat ([],0,0)).2.2
def kYk {l:List kJ} {n:ko} {f:Int} (h:idxOf (yA n f) l < 0):ym l n f=0:=by unfold ym;rw [if_pos h]
def kVs {l:Aa kJ} {n:ko} {f:Int} {k:Nat} (hk:k < l.length) (h:idxOf (yA n f) l=k):ym l n f=l[k].2.2:=by
 unfold ym;rw [h,if_neg bC9,Ai,jS hk]
def kPp {w:Ac} {vl:Ad} {l:Aa kJ} (hl:(kD.slice 108 kL).raw w [vl] l) {cn:Aa Ad} {n:ko} (hn:kU.raw w cn n) {f:Int} :
    Calls prog 124 #[vl,.agg cn.toArray,.int .i64 f] w (bQ w (.int .i64 (ym l n f))):=by
 have HN:=yD hn
 have HL:=yD hl
 obtain ⟨av,rfl,_⟩:=kZ hn
 obtain ⟨aa,al,rfl,la⟩:=kD.sl hl
 clear hn hl
 go_enter func124,ntmps124
 go_wp2_with fail
 refine (kEu (HL.out.below bF) (HN.out.below bF)).mono ?_
 exact l8
def kQh {w:Ac} {vl:Ad} {l:Aa kJ} (hl:(kD.slice 108 kL).raw w [vl] l) {cn:Aa Ad} {n:ko} (hn:kU.raw w cn n) {f:Int} :
    Calls prog 116 #[vl,.agg cn.toArray,.int .i64 f] w (bQ w (.int .i64 (ym l n f))):=by
 have HN:=yD hn
 have HL:=yD hl
 obtain ⟨av,rfl,_⟩:=kZ hn
 obtain ⟨aa,al,rfl,la⟩:=kD.sl hl
 clear hn hl
 go_enter func116,ntmps116
 go_wp2_with fail
 refine (kEs (HL.out.below bF) (HN.out.below bF)).mono ?_
 exact l8
def kSz (x y:ky):Bool:=!((x.2.1 != y.2.1) || ((x.2.2 != y.2.2) || !eqN x.1 y.1))
def vRouteS_eq (x y:ky):kSz x y=decide (x=y):=by
 obtain ⟨x0,x1,x2⟩:=x;obtain ⟨y0,y1,y2⟩:=y;rw [Bool.eq_iff_iff];simp [kSz,eqN];exact l7
def kIm (r:ky) (l:Aa ky):Aa ky :=
  if idxOf (zn r.1 r.2.1) l < 0 then l++[r] else l.set (idxOf (zn r.1 r.2.1) l).toNat (kIv (l.getD (idxOf (zn r.1 r.2.1) l).toNat ([],0,0)) r.2.2)
def kWd (r:ky) (l:Aa ky):Bool:=kBe (kIm r l)
def addR (r:ky) (l:Aa ky):Aa ky:=if kWd r l then kIm r l else l
def kYt {r:ky} {l:List ky} (h:idxOf (zn r.1 r.2.1) l < 0):kIm r l=l++[r]:=by unfold kIm;rw [if_pos h]
def kYs {r:ky} {l:Aa ky} {k:Nat} (h:idxOf (zn r.1 r.2.1) l=k) (hk:k < l.length):kIm r l=l.set k (kIv l[k] r.2.2):=by
 unfold kIm;simp only [h,Ai,jS hk];rw [if_neg bC9]
def jAg {r:ky} {l:List ky} (h:kBe (kIm r l)=false):addR r l=l/\kWd r l=false:=by unfold addR kWd;rw [h];exact ⟨rfl,rfl⟩
def kWb {r:ky} {l:List ky} (h:kBe (kIm r l)=true):addR r l=kIm r l/\kWd r l=true:=by unfold addR kWd;rw [h];exact ⟨rfl,rfl⟩
def kKf {l:List ky} (h:kBe l=true):l.length<=24:=by unfold kBe at h;simp at h;exact h.2
def kUg {w:Ac} {vl:Ad} {l:Aa ky} (hl:(kD.slice 77 kY).rd w [vl] l) {cr:Aa Ad} {r:ky} (hr:kY.rd w cr r) :
    Calls prog 167 #[vl,.agg cr.toArray] w λe w'=>∃ v,e=.returned (.tuple #[v,.bool (kWd r l)])/\(kD.slice 77 kY).own w' [v] (addR r l) (jX w.heap.size w'.heap.size)/\Qb w w':=by
 have HL:=yD hl
 have a5:l.length<=16777216:=hl.2.1
 obtain ⟨nv,rfl,bj,ai,bd,bm⟩:=jM hr.1
 obtain ⟨n,f,c⟩:=r
 have HN:Hid (kU.rd w [nv] n):=yD ⟨bj,hr.2.1⟩
 obtain ⟨na,np,rfl,_⟩:=kD.sl ai
 obtain ⟨va,vp,rfl,av⟩:=kD.sl hl.1
 have HF:=yD bd
 have HC:=yD bm
 clear bj ai bd bm hl hr
 go_enter func167,ntmps167
 go_wp2_with fail
 generalize D:World.alloc w _=N
 have EB:Qb w N:=rP
 have K0:Qd N w 0 (.slice na n.length np):=tK
 have K1:Qd N w 1 (.int .i64 f):=tK
 have K2:Qd N w 2 (.int .i64 c):=tK
 have bu:N.heap.size=w.heap.size + 1:=bB2
 clear D
 refine (kDb (HL.out.below EB)).mono ?_
 rintro e Y ⟨v1,rfl,O1,O⟩
 replace K0:=cL O K0
 replace K1:=cL O K1
 replace K2:=cL O K2
 obtain ⟨E1,bq,J⟩:=DT
 obtain ⟨oa,on,oc,ho,bb⟩:=O1.parts;obtain rfl:=ho
 clear O1 O EB
 go_wp2_with fail
 refine (kMm (HL.out.1.below E1) (HN.out.1.below E1)).mono ?_
 rintro e w4 ⟨rfl,an⟩
 replace K0:=cL an K0
 replace K1:=cL an K1
 replace K2:=cL an K2
 have E4:=(tQ E1 an)
 obtain ⟨bw,J⟩:=D9
 clear an E1
 by_cases hk:idxOf (zn n f) l < 0
 · have L:=yD (kYt (r:=(n,f,c)) hk);have dr:¬ (0<=idxOf (zn n f) l):=bC9;generalize hq:idxOf (zn n f) l=q at *;clear hq hk;go_wp2_with fail;refine (zJ (HN.out.below E4)).mono ?_;rintro e wT ⟨tc,rfl,OT,aq⟩;obtain ⟨cf,rfl,al⟩:=kZ OT.raw;obtain ⟨a7,br,rfl,_⟩:=kD.sl al;clear al;go_upto_region 6 with fail;generalize X:World.alloc wT _=wC;have EC:Qb wT wC:=rO;have W:Qd wC wT 0 (.slice a7 n.length br):=tL;clear X;have ER:=(tQ aq EC);have bo:=aq.size;have bi:=EC.size;have H:=OT.below EC;replace K0:=cL ER K0;replace K1:=cL ER K1;replace K2:=cL ER K2;replace J:=yD (J.out.below ER);go_wp2_with (at_builtin;refine kD.jL rfl _ _ 30 rfl (r:=kY) (e:=77) Aj kCt rfl bC8 bC8 (B:=w.heap.size) J.out bD1 bD1 rfl (kD.own.wide (T:=jX w4.heap.size wT.heap.size) (kD.jv (r:=kU) (q:=kD.pair kD.int kD.int) (cs:=[.slice a7 n.length br]) (ds:=[.int .i64 f,.int .i64 c]) (x:=n) (y:=(f,c)) (H) (kD.yC (kD.jB HF.out) (kD.jB HC.out))) (λj I=>I)) rfl mM qU mH bC9 vQ ?_);intro v5 w5 F R bv;have bc:=yD (F.cast L.out.symm);have E5:=(tQ E4 ER).trans R;clear F R J;go_wp2_with fail;refine (kDz bc.out.kBc).mono ?_;rintro e w7 ⟨rfl,E⟩;have G:=(tQ E5 E);have aj:=E.size;have V:=E5.size;have ax:=yD (bc.out.below E);clear E;cases hv:kBe (kIm (n,f,c) l)
   · exact aB
   have HQ:=yD (kWb hv);have ar:=yD (kKf hv);clear hv;go_wp2;go_ret2;exact ⟨v5,by rw [HQ.out.2];rfl,((ax.out.cast HQ.out.1.symm).own nC).wide mH,G⟩
 obtain ⟨k,aa,ac⟩:=kDu hk
 have U:=yD ac
 rw [ac]
 clear hk ac
 obtain ⟨b,cap,hv,ab,aw,a3,az⟩:=kD.kAn J.out aa
 simp only [Value.slice.injEq] at hv
 obtain ⟨rfl,o,rfl⟩:=hv
 obtain ⟨ag,bt,bx,bf⟩:=DK
 obtain ⟨c0,c1,c2,hr,A0,A1,A2⟩:=kD.at3 bf.out.raw aa rfl
 clear hr
 have ah:=kD.kFf J.out bC9 (k * 3 + 2)
 have L:=yD (kYs (r:=(n,f,c)) U.out aa)
 obtain ⟨s1,s2⟩:=kD.kEf (i:=k) (j:=2) (p:=k * 3 + 2) (u:=.int .i64 c) J.out a5 aa bC8 (λh=>RRoute_set2 _ HC.out h) (show kY.bdd Big (kIv l[k] c) from kD.yX bf.out.rd aa) rfl
 have ae:=yD (s1.cast L.out.symm)
 have E5:Below w.heap.size w (w4.setCell ⟨b,k * 3 + 2,none⟩ (.int .i64 c)):=E4.setCell ab.1 _
 have bv:(w4.setCell ⟨b,k * 3 + 2,none⟩ (.int .i64 c)).heap.size=w4.heap.size:=by simp [World.setCell]
 clear s1 s2 o bf
 go_upto_region 7 with fail
 generalize a9:w4.setCell ⟨b,k * 3 + 2,none⟩ (.int .i64 c)=w5 at *
 clear a9
 go_wp2_with fail
 refine (kDz ae.out.kBc).mono ?_
 rintro e w7 ⟨rfl,E⟩
 have G:=(tQ E5 E)
 have aj:=E.size
 have V:=E5.size
 have ax:=yD (ae.out.below E)
 clear E
 cases hv:kBe (kIm (n,f,c) l)
 · exact aB
 have HQ:=yD (kWb hv)
 have ar:=yD (kKf hv)
 clear hv
 go_wp2
 go_ret2
 exact ⟨.slice (some ⟨b,0,none⟩) on oc,by rw [HQ.out.2];rfl,((ax.out.cast HQ.out.1.symm).own nC).wide mH,G⟩
def sumL {α:Type} (f:α->Nat) (l:Aa α):Nat:=(l.map f).sum
def wN (n:ko):Nat:=n.length + sumL ByteArray.size n
def kAr (m:Nat) (l:Aa ky):Prop:=l.length<=m/\∀ r∈l,yj r.1/\r.1.length<=64
def kAr.addR {l:Aa ky} {r:ky} (h:kAr 24 l) (hr:yj r.1/\r.1.length<=64):kAr 24 (addR r l):=by
 have key:∀ x∈kIm r l,yj x.1/\x.1.length<=64:=by
  intro x hx;by_cases q:idxOf (zn r.1 r.2.1) l < 0
  · rw [kYt q] at hx;rcases Ag.1 hx with hx | hx
    · exact h.2 x hx
    rw [Ah.1 hx];exact hr
  obtain ⟨k,hk,e⟩:=kDu q;rw [kYs e hk] at hx;rcases List.mem_or_eq_of_mem_set hx with hx | hx
  · exact h.2 x hx
  rw [hx];exact h.2 l[k] (List.getElem_mem hk)
 cases q:kBe (kIm r l)
 · rw [(jAg q).1];exact h
 rw [(kWb q).1];exact ⟨kKf q,key⟩
def kAr.snoc {m:Nat} {l:Aa ky} {r:ky} (h:kAr m l) (hr:yj r.1/\r.1.length<=64):kAr (m + 1) (l++[r]):=by
 refine ⟨by have:=h.1;simp;omega,λx hx=>?_⟩;rcases Ag.1 hx with hx | hx
 · exact h.2 x hx
 rw [Ah.1 hx];exact hr
def kAr.twice {m:Nat} {l:Aa ky} (h:kAr m l):kAr (m + m) (l++l):=by
 refine ⟨by have:=h.1;simp;omega,λx hx=>?_⟩;rcases Ag.1 hx with hx | hx <;> exact h.2 x hx
def kAr.mono {m k:Nat} {l:Aa ky} (h:kAr m l) (hk:m<=k):kAr k l:=⟨Nat.le_trans h.1 hk,h.2⟩
def kAr.nil:kAr 24 []:=⟨by simp,λr hr=>by simp at hr⟩
def kXu {w:Ac} {v:Ad} {ps:ko} {f c:Int} {S:Nat->Prop} (k:kU.own w [v] ps S) (hf:Qi f) (hc:Qi c):kY.own w [v,Qn f,Qn c] (ps,f,c) S :=
  kD.jv (r:=kU) (cs:=[v]) (ds:=[.int .i64 f,.int .i64 c]) k (kD.yC (cs:=[.int .i64 f]) (kD.jB hf) (kD.jB hc))
def kZk {w0 w:Ac} {p:Nat} (hc:yU w0 w p) :
    Calls prog 168 #[.pointer (some ⟨p,0,none⟩)] w λe w'=>∃ a c ps f Z,e=.returned (.agg #[Qs a ps c,Qn f,Qn Z])/\kU.own w' [Qs a ps c] ps (jX w.heap.size w'.heap.size)/\yj ps/\ps.length<=64/\(1<=f/\f<=4)/\(0<=Z/\Z<=4)/\yU w0 w' p/\Touch (λk=>k=p) w w':=by
 go_enter func168,ntmps168
 obtain ⟨bf,b4⟩:=hc.lt
 go_upto_region 1 with fail
 generalize F:World.alloc w _=Y
 have X:Qb w Y:=rM
 have R:Qr Y w.heap.size #[.slice none 0 0,Qn 0,Qn 0] 77:=vB
 have bd:w.heap.size + 1<=Y.heap.size:=bB1
 clear F
 obtain ⟨hc,N⟩:=xQ
 clear X
 go_wp2_with fail
 refine (zx (hc.below (bR.alloc nL _)) (kD.kAx _ [{ data:=#[47] },{ data:=#[47,97] },{ data:=#[47,98] },{ data:=#[47,97,47,110,101,119,115] },{ data:=#[47,110,101,119,115] }] bC8 bC8) bC9 bC8 bC8).mono ?_
 rintro e V ⟨y,au,a5,rfl,G,D⟩
 replace D:=(Touch.of_below (S:=λk=>k=p) (bR.alloc nL _)).trans D
 obtain ⟨bk,R,N⟩:=BG
 clear hc D
 have hc:=G
 clear G
 go_wp2_with fail
 refine (yV (kD.kCn bC8 au)).mono ?_
 rintro e w3 ⟨a,c,ps,rfl,hr,hl,be,hb⟩
 have bl:=hb.size
 replace R:=kC R hb
 obtain ⟨hc,N⟩:=xG
 clear hb
 have HR:=yD (hr)
 clear hr
 go_wp2_with fail
 refine (kr (n:=4) hc bC8).mono ?_
 rintro e w4 ⟨x,ao,L,a1,rfl,G,D⟩
 have bw:=D.size
 replace R:=D.kC R bC9
 replace HR:=yD (HR.out.touch D pJ)
 replace N:=N.trans D
 clear hc D
 have hc:=G
 clear G
 replace L:=L bC8
 clear a1
 have hw:IntKind.i64.wrap (1 + x)=1 + x:=IntWalk.i64_in _ bC9
 go_wp2_with fail
 refine (kr (n:=5) hc bC8).mono ?_
 rintro e w5 ⟨y,b7,bn,bz,rfl,G,D⟩
 have bv:=D.size
 replace R:=D.kC R bC9
 replace HR:=yD (HR.out.touch D pJ)
 replace N:=N.trans D
 clear hc D
 have hc:=G
 clear G
 replace bn:=bn bC8
 clear bz
 obtain ⟨ad,an,bb⟩:=kOn R
 obtain ⟨aj,al,av⟩:=rowF3 R
 go_wp2
 refine bodyPost_ret (v:=.agg #[Qs a ps c,.int .i64 (1 + x),Qn y]) (by simp [results,results168,go_sem,ad,an,bb,aj,al,av]) rfl ⟨_,_,ps,1 + x,y,rfl,?_,be,hl,by omega,by omega,hc.touch sT3 bC9 wM,N.jO sT3 bC9⟩
 exact (HR.out.touch sT3 sD).wide fB
def kMn {w0 w:Ac} {p:Nat} (hc:yU w0 w p) :
    Calls prog 135 #[.pointer (some ⟨p,0,none⟩)] w λe w'=>∃ a c l,e=.returned (.slice a l.length c)/\(kD.slice 77 kY).own w' [Qs a l c] l (jX w.heap.size w'.heap.size)/\kAr 24 l/\yU w0 w' p/\Touch (λk=>k=p) w w':=by
 go_enter func135,ntmps135
 obtain ⟨bf,b4⟩:=hc.lt
 go_upto_region 2 with fail
 generalize F:World.alloc w _=Y
 have X:Qb w Y:=rM
 have bd:w.heap.size + 1<=Y.heap.size:=bB1
 clear F
 obtain ⟨hc,N⟩:=xQ
 clear X
 go_wp2_with fail
 refine (kr (n:=8) hc bC8).mono ?_
 rintro e V ⟨m,bt,ah,b1,rfl,G,D⟩
 have bk:=D.size
 replace N:=N.trans D
 clear hc D
 have hc:=G
 clear G
 replace ah:=ah bC8
 clear b1
 obtain ⟨m,rfl⟩:=Ae bt
 go_wp2
 go_loopw [3,4] (λv i wr=>∃ (j:Nat) (a:Option Addr) (n c:Nat) (l:Aa ky),v=.slice a n c/\i=.int .i64 j/\Hid (kAr 24 l)/\Hid (n=l.length)/\j < 8/\Hid ((kD.slice 77 kY).own wr [.slice a n c] l (jX w.heap.size wr.heap.size))/\V.heap.size<=wr.heap.size/\yU w0 wr p/\Touch (λk=>k=p) w wr) (λ_ i _=>(intOf i).toNat)
 case atStart=>exact ⟨m,_,0,0,[],rfl,rfl,yD kAr.nil,yD rfl,by omega,yD kD.jd,Nat.le_refl _,hc,N⟩
 clear hc N
 obtain ⟨j,a,n,c,l,rfl,rfl,ae,HN,I,J,dt,hc,N⟩:=hrel
 have bq:=N.size
 cases j with
 | zero =>
   go_wp2;go_ret;have hn:=HN.out;subst hn;exact ⟨_,_,l,rfl,J.out,ae.out,hc,N⟩
 | succ j =>
   have ce:(0:Int) < (j:Int) + 1:=bC9;go_wp2_with fail;refine (kZk hc).mono ?_;rintro e w4 ⟨na,nc,ps,f,Z,rfl,hr,be,dm,hf,o,G,D⟩;have bw:=D.size;obtain ⟨J,N⟩:=xM;clear hc D;have hc:=G;clear G;have HR:=yD (kXu hr (f:=f) (c:=Z) bC9 bC9);clear hr;go_wp2_with fail;refine (kUg J.out.rd HR.out.rd).mono ?_;rintro e w5 ⟨v2,rfl,b5,hb⟩;have bv:=hb.size;replace J:=yD (J.out.below hb);replace HR:=yD (HR.out.below hb);obtain ⟨hc,N⟩:=xG;clear hb;have af:=yD (ae.out.addR (r:=(ps,f,Z)) ⟨be,dm⟩);generalize addR (ps,f,Z) l=l2 at *;generalize kWd (ps,f,Z) l=ok at *;obtain ⟨a2,c2,rfl,_⟩:=kD.sl b5.raw;have R:=yD (b5.wide (T:=jX w.heap.size w5.heap.size) qC);clear b5 J HR;go_wp2;go_roundw;case rel=>exact ⟨j,a2,l2.length,c2,l2,rfl,by go_num,af,yD rfl,by omega,R,by omega,hc,N⟩
   case measure=>simp [intOf]
def kZl {w0 w:Ac} {p:Nat} (hc:yU w0 w p) :
    Calls prog 94 #[.pointer (some ⟨p,0,none⟩)] w λe w'=>∃ a c l,e=.returned (.slice a l.length c)/\(kD.slice 77 kY).own w' [Qs a l c] l (jX w.heap.size w'.heap.size)/\kAr 48 l/\yU w0 w' p/\Touch (λk=>k=p) w w':=by
 go_enter func94,ntmps94
 obtain ⟨bf,b4⟩:=hc.lt
 go_wp2_with fail
 refine (kMn hc).mono ?_
 rintro e Y ⟨a,c,l,rfl,hO,be,G,D⟩
 have bd:=D.size
 have N:=D
 clear hc D
 have hc:=G
 clear G
 have J:=yD (hO)
 clear hO
 have U:=be.1
 have ae:=yD be
 clear be
 go_wp2_with fail
 refine (kr (n:=10) hc bC8).mono ?_
 rintro e V ⟨m,bt,ah,b1,rfl,G,D⟩
 have bk:=D.size
 obtain ⟨J,N⟩:=xM
 clear hc D
 have hc:=G
 clear G
 replace ah:=ah bC8
 clear b1
 obtain ⟨m,rfl⟩:=Ae bt
 by_cases b8:m=0
 · subst b8;go_wp2_with fail;refine (kFc hc).mono ?_;rintro e w3 ⟨na,nc,O,rfl,hr,b0,L,G,D⟩;have bl:=D.size;obtain ⟨J,N⟩:=xM;clear hc D;have hc:=G;clear G;have HR:=yD (hr);clear hr;go_wp2_with fail;refine (kBp (hc.below (bR.alloc nL _)) (kD.kGy _ [0,1,6,7] bC8 bC8) bC9 bC8 bC8).mono ?_;rintro e w4 ⟨f,I,W,rfl,G,D⟩;obtain ⟨D,bw⟩:=GQ;obtain ⟨J,HR,N⟩:=AV;clear hc D;have hc:=G;clear G;have hf:=kD.kGx (lo:=0) (hi:=7) bC8 I;clear I;go_wp2_with fail;refine (kBp (hc.below (bR.alloc nL _)) (kD.kGy _ [-1,0,1000,1001] bC8 bC8) bC9 bC8 bC8).mono ?_;rintro e w5 ⟨y,au,a5,rfl,G,D⟩;obtain ⟨D,bv⟩:=CJ;obtain ⟨J,HR,N⟩:=AV;clear hc D;have hc:=G;clear G;have hy:=kD.kGx (lo:=-1) (hi:=1001) bC8 au;clear au;go_wp2_with (at_builtin;refine kD.yZ rfl _ _ 30 rfl (r:=kY) (e:=77) Aj kCt rfl bC8 bC8 J.out bR (kXu HR.out bC9 bC9) bD1 bD1 nS bC9 ?_);intro v9 w9 bp ap;have Z:=ap.size;have b2:=yD ((ae.out.snoc (r:=(O,f,y)) ⟨L,by show O.length<=64;omega⟩).mono (k:=48) bC9);generalize l++[(O,f,y)]=q at *;obtain ⟨a9,c9,b7,_⟩:=kD.kAy bp.raw;obtain rfl:v9=_:=by simpa using b7
   have b5:=yD (bp.wide (T:=jX w.heap.size w9.heap.size) bH);have E:=hc.touch ap sZ sK;have o:=N.kBv ap (λk q=>q.1.1);clear bp ap b7;go_wp2;go_ret;exact ⟨_,_,q,rfl,b5.out,b2.out,E,o⟩
 have H:¬ (m:Int)=0:=bC9
 by_cases b9:m=1
 · subst b9;go_wp2_with fail;refine (kDb J.out.rd).mono ?_;rintro e w3 ⟨vc,rfl,hr,hb⟩;have bl:=hb.size;replace J:=yD (J.out.below hb);obtain ⟨hc,N⟩:=xG;clear hb;have HR:=yD (hr);clear hr;obtain ⟨ya,yn,X,hv,R⟩:=HR.out.parts;obtain rfl:=hv;go_wp2_with (at_builtin;refine kD.kMf rfl _ _ 30 rfl (r:=kY) (e:=77) Aj kCt rfl bC8 bC8 J.out HR.out bD1 bD1 nS bC9 ?_);intro v9 w9 bp ap;have Z:=ap.size;have b2:=yD (ae.out.twice);generalize l++l=q at *;obtain ⟨a9,c9,b7,_⟩:=kD.kAy bp.raw;obtain rfl:v9=_:=by simpa using b7
   have b5:=yD (bp.wide (T:=jX w.heap.size w9.heap.size) bH);have E:=hc.touch ap tN sU;have o:=N.kBv ap (λk q=>q.1);clear bp ap b7;go_wp2;go_ret;exact ⟨_,_,q,rfl,b5.out,b2.out,E,o⟩
 have F:¬ (m:Int)=1:=bC9
 go_wp2
 go_ret
 exact ⟨_,_,l,rfl,J.out.wide rA,ae.out.mono bC9,hc,N⟩
end Go.Proofs.YtonmjkmaadgceabGreat

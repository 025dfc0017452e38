/-
  Routes as the reference draws them.
-/
import Derived.Test.YtjhfdpopkkmigabGreatAddL
set_option linter.unusedVariables false
set_option linter.defProp false
set_option linter.unusedSimpArgs false
set_option linter.unnecessarySimpa false
set_option maxRecDepth 100000
set_option maxHeartbeats 4000000
open _root_ renaming List->Aa
open Int renaming eq_ofNat_of_zero_le->Ab,toNat_natCast->Ah
open Go renaming World->Ac,Value->Ad
open List renaming mem_append->Ae,mem_singleton->Ag
open Go.Proofs.Tryz renaming underlying30->Ai
open List.cons renaming injEq->Aj
namespace Go.Proofs.YtjhfdpopkkmigabGreat
open Go.RowKit _root_.Go.Proofs.Tryz
def kNk {w:Ac} {c0 c1 c2 c3 c4 c5 L o:Ad} {U:Aa jT} {F:kz} {x2:Aa kF} {x3:Aa jL} {x4:Aa jA} {x5:Aa kZ} {x6:Int} (h:yB.raw w [c0,c1,c2,c3,c4,c5,L,o] (U,F,x2,x3,x4,x5,x6)):(kD.slice 93 kH).raw w [c3] x2:=by
 obtain ⟨v0,v2,v3,v4,v5,v6,he,a0,a1,a2,a3,a4,a5,Y,a7,D⟩:=yY h;simp only [Aj,and_true] at he;obtain ⟨rfl,rfl,rfl,rfl,rfl,rfl,rfl,rfl⟩:=he;exact a4
def node_cache {w:Ac} {c0 c2 c3 c4 c5 L o:Ad} {U:Aa jT} {xc:Int} {xe:Aa jC} {x2:Aa kF} {x3:Aa jL} {x4:Aa jA} {x5:Aa kZ} {x6:Int} (h:yB.rd w [c0,Qn xc,c2,c3,c4,c5,L,o] (U,(xc,xe),x2,x3,x4,x5,x6)):kT.rd w [Qn xc,c2] (xc,xe):=by
 obtain ⟨v0,v2,v3,v4,v5,v6,he,a0,a1,a2,a3,a4,a5,Y,a7,D⟩:=yY h.1;simp only [Aj,and_true] at he;obtain ⟨rfl,h2,rfl,rfl,rfl,rfl,rfl,rfl⟩:=he;exact ⟨a1,h.2.2.1⟩
def kEy {w:Ac} {c0 c1 c2 c3 c4 c5 L o v:Ad} {U:Aa jT} {F:kz} {x2 y:Aa kF} {x3:Aa jL} {x4:Aa jA} {x5:Aa kZ} {x6:Int} {S T:Nat->Prop}
    (h:yB.own w [c0,c1,c2,c3,c4,c5,L,o] (U,F,x2,x3,x4,x5,x6) S) (hv:(kD.slice 93 kH).own w [v] y T) (hd:∀ k,S k->T k->False):yB.own w [c0,c1,c2,v,c4,c5,L,o] (U,F,y,x3,x4,x5,x6) (λk=>S k\/T k) :=
  kD.set_right (c:=[c0]) h rfl (λB hB hq=>kD.set_right (c:=[c1,c2]) hq rfl (λX E a9=>kD.set_left (c:=[c3]) (c':=[v]) a9 rfl hv (λk a b=>hd k (hB k (E k a)) b)) (λk a b=>hd k (hB k a) b)) hd
def kKl {w:Ac} {c0 c1 c2 c3 c4 c5 L o v:Ad} {U:Aa jT} {F:kz} {x2:Aa kF} {x3 y:Aa jL} {x4:Aa jA} {x5:Aa kZ} {x6:Int} {S T:Nat->Prop}
    (h:yB.own w [c0,c1,c2,c3,c4,c5,L,o] (U,F,x2,x3,x4,x5,x6) S) (hv:(kD.slice 121 jD).own w [v] y T) (hd:∀ k,S k->T k->False):yB.own w [c0,c1,c2,c3,v,c5,L,o] (U,F,x2,y,x4,x5,x6) (λk=>S k\/T k) :=
  kD.set_right (c:=[c0]) h rfl (λB hB hq=>kD.set_right (c:=[c1,c2]) hq rfl (λX E a9=>kD.set_right (c:=[c3]) a9 rfl (λB3 I G=>kD.set_left (c:=[c4]) (c':=[v]) G rfl hv (λk a b=>hd k (hB k (E k (I k a))) b)) (λk a b=>hd k (hB k (E k a)) b)) (λk a b=>hd k (hB k a) b)) hd
def jBq {w:Ac} {c0 c1 c2 c3 c4 c5 L o v:Ad} {U:Aa jT} {F:kz} {x2:Aa kF} {x3:Aa jL} {x4:Aa jA} {x5 y:Aa kZ} {x6:Int} {S T:Nat->Prop}
    (h:yB.own w [c0,c1,c2,c3,c4,c5,L,o] (U,F,x2,x3,x4,x5,x6) S) (hv:(kD.slice 166 kR).own w [v] y T) (hd:∀ k,S k->T k->False):yB.own w [c0,c1,c2,c3,c4,c5,v,o] (U,F,x2,x3,x4,y,x6) (λk=>S k\/T k) :=
  kD.set_right (c:=[c0]) h rfl (λB hB hq=>kD.set_right (c:=[c1,c2]) hq rfl (λX E a9=>kD.set_right (c:=[c3]) a9 rfl (λB3 I G=>kD.set_right (c:=[c4]) G rfl (λB4 aa H=>kD.set_right (c:=[c5]) H rfl (λB5 af D=>kD.set_left (c:=[L]) (c':=[v]) D rfl hv (λk a b=>hd k (hB k (E k (I k (aa k (af k a))))) b)) (λk a b=>hd k (hB k (E k (I k (aa k a)))) b)) (λk a b=>hd k (hB k (E k (I k a))) b)) (λk a b=>hd k (hB k (E k a)) b)) (λk a b=>hd k (hB k a) b)) hd
def kIu {w:Ac} {c0 c1 c2 c3 c4 c5 L o v u:Ad} {U:Aa jT} {F y:kz} {x2:Aa kF} {x3:Aa jL} {x4:Aa jA} {x5:Aa kZ} {x6:Int} {S T:Nat->Prop}
    (h:yB.own w [c0,c1,c2,c3,c4,c5,L,o] (U,F,x2,x3,x4,x5,x6) S) (hv:kT.own w [u,v] y T) (hd:∀ k,S k->T k->False):yB.own w [c0,u,v,c3,c4,c5,L,o] (U,y,x2,x3,x4,x5,x6) (λk=>S k\/T k) :=
  kD.set_right (c:=[c0]) h rfl (λB hB hq=>kD.set_left (c:=[c1,c2]) (c':=[u,v]) hq rfl hv (λk a b=>hd k (hB k a) b)) hd
def jAu (x y:kZ):Bool:=!((x.2.1 != y.2.1) || ((x.2.2 != y.2.2) || !eqN x.1 y.1))
def vMeasS_eq (x y:kZ):jAu x y=decide (x=y):=by
 obtain ⟨U,F,x2⟩:=x;obtain ⟨y0,y1,y2⟩:=y;rw [Bool.eq_iff_iff];simp [jAu,eqN];exact lU
def kHb {α:Type} {p:α->Bool} {x:Aa α} (h:¬ idxOf p x < 0):∃ k:Nat,k < x.length/\idxOf p x=k:=by
 unfold idxOf at *;cases e:x.findIdx? p with
 | none=>rw [e] at h;simp at h
 | some i=>exact ⟨i,(List.findIdx?_eq_some_iff_getElem.1 e).1,rfl⟩
def zG (l:Aa kZ) (n:kg) (f:Int):Int:=if idxOf (yf n f) l < 0 then 0 else (l.getD (idxOf (yf n f) l).toNat ([],0,0)).2.2
def jAd {l:List kZ} {n:kg} {f:Int} (h:idxOf (yf n f) l < 0):zG l n f=0:=by unfold zG;rw [if_pos h]
def kXl {l:Aa kZ} {n:kg} {f:Int} {k:Nat} (hk:k < l.length) (h:idxOf (yf n f) l=k):zG l n f=l[k].2.2:=by
 unfold zG;rw [h,if_neg bH3,Ah,ja hk]
def kRv {w:Ac} {vl:Ad} {l:Aa kZ} (hl:(kD.slice 166 kR).raw w [vl] l) {cn:Aa Ad} {n:kg} (hn:kN.raw w cn n) {f:Int} :
    Calls prog 167 #[vl,.agg cn.toArray,.int .i64 f] w (bQ w (.int .i64 (zG l n f))):=by
 have HN:=yD hn
 have HL:=yD hl
 obtain ⟨av,rfl,_⟩:=kX hn
 obtain ⟨aa,ao,rfl,la⟩:=kD.sl hl
 clear hn hl
 go_enter func167,ntmps167
 go_wp2_with fail
 refine (kFt (HL.out.below bI) (HN.out.below bI)).mono ?_
 exact lV
def kSo {w:Ac} {vl:Ad} {l:Aa kZ} (hl:(kD.slice 166 kR).raw w [vl] l) {cn:Aa Ad} {n:kg} (hn:kN.raw w cn n) {f:Int} :
    Calls prog 128 #[vl,.agg cn.toArray,.int .i64 f] w (bQ w (.int .i64 (zG l n f))):=by
 have HN:=yD hn
 have HL:=yD hl
 obtain ⟨av,rfl,_⟩:=kX hn
 obtain ⟨aa,ao,rfl,la⟩:=kD.sl hl
 clear hn hl
 go_enter func128,ntmps128
 go_wp2_with fail
 refine (kSi (HL.out.below bI) (HN.out.below bI)).mono ?_
 exact lV
def kUy (x y:jA):Bool:=!((x.2.1 != y.2.1) || ((x.2.2 != y.2.2) || !eqN x.1 y.1))
def vRouteS_eq (x y:jA):kUy x y=decide (x=y):=by
 obtain ⟨U,F,x2⟩:=x;obtain ⟨y0,y1,y2⟩:=y;rw [Bool.eq_iff_iff];simp [kUy,eqN];exact lU
def kJu (r:jA) (l:Aa jA):Aa jA :=
  if idxOf (kCs r.1 r.2.1) l < 0 then l++[r] else l.set (idxOf (kCs r.1 r.2.1) l).toNat (kKg (l.getD (idxOf (kCs r.1 r.2.1) l).toNat ([],0,0)) r.2.2)
def kXu (r:jA) (l:Aa jA):Bool:=kCo (kJu r l)
def addR (r:jA) (l:Aa jA):Aa jA:=if kXu r l then kJu r l else l
def jAn {r:jA} {l:List jA} (h:idxOf (kCs r.1 r.2.1) l < 0):kJu r l=l++[r]:=by unfold kJu;rw [if_pos h]
def jAm {r:jA} {l:Aa jA} {k:Nat} (h:idxOf (kCs r.1 r.2.1) l=k) (hk:k < l.length):kJu r l=l.set k (kKg l[k] r.2.2):=by
 unfold kJu;simp only [h,Ah,ja hk];rw [if_neg bH3]
def jCc {r:jA} {l:List jA} (h:kCo (kJu r l)=false):addR r l=l/\kXu r l=false:=by unfold addR kXu;rw [h];exact ⟨rfl,rfl⟩
def kXs {r:jA} {l:List jA} (h:kCo (kJu r l)=true):addR r l=kJu r l/\kXu r l=true:=by unfold addR kXu;rw [h];exact ⟨rfl,rfl⟩
def kLw {l:List jA} (h:kCo l=true):l.length<=24:=by unfold kCo at h;simp at h;exact h.2
def kWa {w:Ac} {vl:Ad} {l:Aa jA} (hl:(kD.slice 144 kY).rd w [vl] l) {cr:Aa Ad} {r:jA} (hr:kY.rd w cr r) :
    Calls prog 182 #[vl,.agg cr.toArray] w λe w'=>∃ v,e=.returned (.tuple #[v,.bool (kXu r l)])/\(kD.slice 144 kY).own w' [v] (addR r l) (jb w.heap.size w'.heap.size)/\Qb w w':=by
 have HL:=yD hl
 have bc:l.length<=16777216:=hl.2.1
 obtain ⟨nv,rfl,az,ai,ay,bl⟩:=jS hr.1
 obtain ⟨n,f,c⟩:=r
 have HN:Hid (kN.rd w [nv] n):=yD ⟨az,hr.2.1⟩
 obtain ⟨na,np,rfl,_⟩:=kD.sl ai
 obtain ⟨va,vp,rfl,bv⟩:=kD.sl hl.1
 have HF:=yD ay
 have HC:=yD bl
 clear az ai ay bl hl hr
 go_enter func182,ntmps182
 go_wp2_with fail
 generalize J:World.alloc w _=N
 have EB:Qb w N:=tO
 have K0:Qd N w 0 (.slice na n.length np):=wF
 have K1:Qd N w 1 (.int .i64 f):=wF
 have K2:Qd N w 2 (.int .i64 c):=wF
 have bk:N.heap.size=w.heap.size + 1:=bF5
 clear J
 refine (kDm (HL.out.below EB)).mono ?_
 rintro e w1 ⟨v1,rfl,O1,O⟩
 obtain ⟨K0,K1,K2⟩:=DZ
 obtain ⟨E1,bf,I⟩:=EN
 obtain ⟨oa,on,oc,ho,a1⟩:=O1.parts;obtain rfl:=ho
 clear O1 O EB
 go_wp2_with fail
 refine (kOm (HL.out.1.below E1) (HN.out.1.below E1)).mono ?_
 rintro e w4 ⟨rfl,ad⟩
 replace K0:=cL ad K0
 replace K1:=cL ad K1
 replace K2:=cL ad K2
 have E4:=(tQ E1 ad)
 have b1:=ad.size
 replace I:=yD ((I.out.below ad).wide (T:=jb w.heap.size w4.heap.size) rQ)
 clear ad E1
 by_cases hk:idxOf (kCs n f) l < 0
 · have L:=yD (jAn (r:=(n,f,c)) hk);have dl:¬ (0<=idxOf (kCs n f) l):=bH3;generalize hq:idxOf (kCs n f) l=q at *;clear hq hk;go_wp2_with fail;refine (zX (HN.out.below E4)).mono ?_;rintro e wT ⟨tc,rfl,OT,al⟩;obtain ⟨fp,rfl,b6⟩:=kX OT.raw;obtain ⟨bi,cv,rfl,_⟩:=kD.sl b6;clear b6;go_upto_region 6 with fail;generalize D:World.alloc wT _=wC;have EC:Qb wT wC:=tL;have W:Qd wC wT 0 (.slice bi n.length cv):=wG;clear D;have ER:=(tQ al EC);have f2:=al.size;have an:=EC.size;have H:=OT.below EC;replace K0:=cL ER K0;replace K1:=cL ER K1;replace K2:=cL ER K2;replace I:=yD (I.out.below ER);go_wp2_with (at_builtin;refine kD.jP rfl _ _ 30 rfl (r:=kY) (e:=144) Ai kDa rfl bH2 bH2 (B:=w.heap.size) I.out bH5 bH5 rfl (kD.own.wide (T:=jb w4.heap.size wT.heap.size) (kD.yF (r:=kN) (q:=kD.pair kD.int kD.int) (cs:=[.slice bi n.length cv]) (ds:=[.int .i64 f,.int .i64 c]) (x:=n) (y:=(f,c)) (H) (kD.jW (kD.ku HF.out) (kD.ku HC.out))) (λj hj=>hj)) rfl nX rQ mV bH3 bB7 ?_);intro v5 w5 R ap bz;have aj:=yD (R.cast L.out.symm);have E5:=(tQ E4 ER).trans ap;clear R ap I;go_wp2_with fail;refine (kEp aj.out.kBi).mono ?_;rintro e w7 ⟨rfl,X⟩;have E:=(tQ E5 X);have c3:=X.size;have F:=E5.size;have a5:=yD (aj.out.below X);clear X;cases hv:kCo (kJu (n,f,c) l)
   · exact aG
   have HQ:=yD (kXs hv);have bg:=yD (kLw hv);clear hv;go_wp2;go_ret2;exact ⟨v5,by rw [HQ.out.2];rfl,((a5.out.cast HQ.out.1.symm).own pM).wide mV,E⟩
 obtain ⟨k,hkl,ac⟩:=kHb hk
 have au:=yD ac
 rw [ac]
 clear hk ac
 obtain ⟨b,cap,hv,Z,a8,a4,U⟩:=kD.zy I.out hkl
 simp only [Value.slice.injEq] at hv
 obtain ⟨rfl,o,rfl⟩:=hv
 have bt:k < on:=bH3
 obtain ⟨b4,a2⟩:=GU
 have ax:=yD (I.out.own bc)
 obtain ⟨c0,c1,c2,hr,A0,A1,A2⟩:=kD.at3 ax.out.raw hkl rfl
 clear hr
 have ah:=kD.kGg I.out bH3 (k * 3 + 2)
 have L:=yD (jAm (r:=(n,f,c)) au.out hkl)
 obtain ⟨s1,s2⟩:=kD.kEv (i:=k) (j:=2) (p:=k * 3 + 2) (u:=.int .i64 c) I.out bc hkl bH2 (λh=>RRoute_set2 _ HC.out h) (show kY.bdd Big (kKg l[k] c) from kD.yX ax.out.rd hkl) rfl
 have ae:=yD (s1.cast L.out.symm)
 have E5:Below w.heap.size w (w4.setCell ⟨b,k * 3 + 2,none⟩ (.int .i64 c)):=E4.setCell Z.1 _
 have bz:(w4.setCell ⟨b,k * 3 + 2,none⟩ (.int .i64 c)).heap.size=w4.heap.size:=by simp [World.setCell]
 clear s1 s2 o ax
 go_upto_region 7 with fail
 generalize ba:w4.setCell ⟨b,k * 3 + 2,none⟩ (.int .i64 c)=w5 at *
 clear ba
 go_wp2_with fail
 refine (kEp ae.out.kBi).mono ?_
 rintro e w7 ⟨rfl,X⟩
 have E:=(tQ E5 X)
 have c3:=X.size
 have F:=E5.size
 have a5:=yD (ae.out.below X)
 clear X
 cases hv:kCo (kJu (n,f,c) l)
 · exact aG
 have HQ:=yD (kXs hv)
 have bg:=yD (kLw hv)
 clear hv
 go_wp2
 go_ret2
 exact ⟨.slice (some ⟨b,0,none⟩) on oc,by rw [HQ.out.2];rfl,((a5.out.cast HQ.out.1.symm).own pM).wide mV,E⟩
def sumL {α:Type} (f:α->Nat) (l:Aa α):Nat:=(l.map f).sum
def wN (n:kg):Nat:=n.length + sumL ByteArray.size n
def kBc (m:Nat) (l:Aa jA):Prop:=l.length<=m/\∀ r∈l,zF r.1/\r.1.length<=64
def kBc.addR {l:Aa jA} {r:jA} (h:kBc 24 l) (hr:zF r.1/\r.1.length<=64):kBc 24 (addR r l):=by
 have key:∀ x∈kJu r l,zF x.1/\x.1.length<=64:=by
  intro x hx;by_cases q:idxOf (kCs r.1 r.2.1) l < 0
  · rw [jAn q] at hx;rcases Ae.1 hx with hx | hx
    · exact h.2 x hx
    rw [Ag.1 hx];exact hr
  obtain ⟨k,hk,e⟩:=kHb q;rw [jAm e hk] at hx;rcases List.mem_or_eq_of_mem_set hx with hx | hx
  · exact h.2 x hx
  rw [hx];exact h.2 l[k] (List.getElem_mem hk)
 cases q:kCo (kJu r l)
 · rw [(jCc q).1];exact h
 rw [(kXs q).1];exact ⟨kLw q,key⟩
def kBc.snoc {m:Nat} {l:Aa jA} {r:jA} (h:kBc m l) (hr:zF r.1/\r.1.length<=64):kBc (m + 1) (l++[r]):=by
 refine ⟨by have:=h.1;simp;omega,λx hx=>?_⟩;rcases Ae.1 hx with hx | hx
 · exact h.2 x hx
 rw [Ag.1 hx];exact hr
def kBc.twice {m:Nat} {l:Aa jA} (h:kBc m l):kBc (m + m) (l++l):=by
 refine ⟨by have:=h.1;simp;omega,λx hx=>?_⟩;rcases Ae.1 hx with hx | hx <;> exact h.2 x hx
def kBc.mono {m k:Nat} {l:Aa jA} (h:kBc m l) (hk:m<=k):kBc k l:=⟨Nat.le_trans h.1 hk,h.2⟩
def kBc.nil:kBc 24 []:=⟨by simp,λr hr=>by simp at hr⟩
def kZn {w:Ac} {v:Ad} {ps:kg} {f c:Int} {S:Nat->Prop} (k:kN.own w [v] ps S) (hf:Qi f) (hc:Qi c):kY.own w [v,Qn f,Qn c] (ps,f,c) S :=
  kD.yF (r:=kN) (cs:=[v]) (ds:=[.int .i64 f,.int .i64 c]) k (kD.jW (cs:=[.int .i64 f]) (kD.ku hf) (kD.ku hc))
def jBd {w0 w:Ac} {p:Nat} (hc:yS w0 w p) :
    Calls prog 183 #[.pointer (some ⟨p,0,none⟩)] w λe w'=>∃ a c ps f Z,e=.returned (.agg #[Qs a ps c,Qn f,Qn Z])/\kN.own w' [Qs a ps c] ps (jb w.heap.size w'.heap.size)/\zF ps/\ps.length<=64/\(1<=f/\f<=4)/\(0<=Z/\Z<=4)/\yS w0 w' p/\Touch (λk=>k=p) w w':=by
 go_enter func183,ntmps183
 obtain ⟨bd,bw⟩:=hc.lt
 go_upto_region 1 with fail
 generalize G:World.alloc w _=w1
 have U:Qb w w1:=tK
 have R:Qr w1 w.heap.size #[.slice none 0 0,Qn 0,Qn 0] 144:=wW
 have bo:w.heap.size + 1<=w1.heap.size:=bF4
 clear G
 obtain ⟨hc,J⟩:=xQ
 clear U
 go_wp2_with fail
 refine (kAd (hc.below (bR.alloc nL _)) (kD.kBg _ [{ data:=#[47] },{ data:=#[47,97] },{ data:=#[47,98] },{ data:=#[47,97,47,110,101,119,115] },{ data:=#[47,110,101,119,115] }] bH2 bH2) bH3 bH2 bH2).mono ?_
 rintro e V ⟨y,aw,b6,rfl,F,D⟩
 replace D:=(Touch.of_below (S:=λk=>k=p) (bR.alloc nL _)).trans D
 obtain ⟨bv,R,J⟩:=BP
 clear hc D
 have hc:=F
 clear F
 go_wp2_with fail
 refine (yZ (kD.kCr bH2 aw)).mono ?_
 rintro e w3 ⟨a,c,ps,rfl,hr,hl,a3,hb⟩
 have bt:=hb.size
 replace R:=kC R hb
 obtain ⟨hc,J⟩:=xI
 clear hb
 have HR:=yD (hr)
 clear hr
 go_wp2_with fail
 refine (ko (n:=4) hc bH2).mono ?_
 rintro e w4 ⟨x,au,o,be,rfl,F,D⟩
 have b5:=D.size
 replace R:=D.kC R bH3
 replace HR:=yD (HR.out.touch D qW)
 replace J:=J.trans D
 clear hc D
 have hc:=F
 clear F
 replace o:=o bH2
 clear be
 have hw:IntKind.i64.wrap (1 + x)=1 + x:=IntWalk.i64_in _ bH3
 go_wp2_with fail
 refine (ko (n:=5) hc bH2).mono ?_
 rintro e w5 ⟨y,ch,aa,a4,rfl,F,D⟩
 have b3:=D.size
 replace R:=D.kC R bH3
 replace HR:=yD (HR.out.touch D qW)
 replace J:=J.trans D
 clear hc D
 have hc:=F
 clear F
 replace aa:=aa bH2
 clear a4
 obtain ⟨ak,ao,az⟩:=rowC3 R
 obtain ⟨al,an,ay⟩:=rowF3 R
 go_wp2
 refine bodyPost_ret (v:=.agg #[Qs a ps c,.int .i64 (1 + x),Qn y]) (by simp [results,results183,go_sem,ak,ao,az,al,an,ay]) rfl ⟨_,_,ps,1 + x,y,rfl,?_,a3,hl,by omega,by omega,hc.touch sT3 bH3 bD5,J.jJ sT3 bH3⟩
 exact (HR.out.touch sT3 vE).wide fE
def kOn {w0 w:Ac} {p:Nat} (hc:yS w0 w p) :
    Calls prog 134 #[.pointer (some ⟨p,0,none⟩)] w λe w'=>∃ a c l,e=.returned (.slice a l.length c)/\(kD.slice 144 kY).own w' [Qs a l c] l (jb w.heap.size w'.heap.size)/\kBc 24 l/\yS w0 w' p/\Touch (λk=>k=p) w w':=by
 go_enter func134,ntmps134
 obtain ⟨bd,bw⟩:=hc.lt
 go_upto_region 2 with fail
 generalize G:World.alloc w _=w1
 have U:Qb w w1:=tK
 have bo:w.heap.size + 1<=w1.heap.size:=bF4
 clear G
 obtain ⟨hc,J⟩:=xQ
 clear U
 go_wp2_with fail
 refine (ko (n:=8) hc bH2).mono ?_
 rintro e V ⟨m,bc,ax,b7,rfl,F,D⟩
 have bv:=D.size
 replace J:=J.trans D
 clear hc D
 have hc:=F
 clear F
 replace ax:=ax bH2
 clear b7
 obtain ⟨m,rfl⟩:=Ab bc
 go_wp2
 go_loopw [3,4] (λv i wr=>∃ (j:Nat) (a:Option Addr) (n c:Nat) (l:Aa jA),v=.slice a n c/\i=.int .i64 j/\Hid (kBc 24 l)/\Hid (n=l.length)/\j < 8/\Hid ((kD.slice 144 kY).own wr [.slice a n c] l (jb w.heap.size wr.heap.size))/\V.heap.size<=wr.heap.size/\yS w0 wr p/\Touch (λk=>k=p) w wr) (λ_ i _=>(intOf i).toNat)
 case atStart=>exact ⟨m,_,0,0,[],rfl,rfl,yD kBc.nil,yD rfl,by omega,yD kD.jm,Nat.le_refl _,hc,J⟩
 clear hc J
 obtain ⟨j,a,n,c,l,rfl,rfl,b8,HN,hj,I,da,hc,J⟩:=hrel
 have bn:=J.size
 cases j with
 | zero =>
   go_wp2;go_ret;have hn:=HN.out;subst hn;exact ⟨_,_,l,rfl,I.out,b8.out,hc,J⟩
 | succ j =>
   have c8:(0:Int) < (j:Int) + 1:=bH3;go_wp2_with fail;refine (jBd hc).mono ?_;rintro e w4 ⟨na,nc,ps,f,Z,rfl,hr,a3,db,hf,o,F,D⟩;have b5:=D.size;obtain ⟨I,J⟩:=xK;clear hc D;have hc:=F;clear F;have HR:=yD (kZn hr (f:=f) (c:=Z) bH3 bH3);clear hr;go_wp2_with fail;refine (kWa I.out.rd HR.out.rd).mono ?_;rintro e w5 ⟨v2,rfl,b0,hb⟩;have b3:=hb.size;replace I:=yD (I.out.below hb);replace HR:=yD (HR.out.below hb);obtain ⟨hc,J⟩:=xI;clear hb;have ab:=yD (b8.out.addR (r:=(ps,f,Z)) ⟨a3,db⟩);generalize addR (ps,f,Z) l=O at *;generalize kXu (ps,f,Z) l=ok at *;obtain ⟨a2,c2,rfl,_⟩:=kD.sl b0.raw;have R:=yD (b0.wide (T:=jb w.heap.size w5.heap.size) rU);clear b0 I HR;go_wp2;go_roundw;case rel=>exact ⟨j,a2,O.length,c2,O,rfl,by go_num,ab,yD rfl,by omega,R,by omega,hc,J⟩
   case measure=>simp [intOf]
def jBe {w0 w:Ac} {p:Nat} (hc:yS w0 w p) :
    Calls prog 61 #[.pointer (some ⟨p,0,none⟩)] w λe w'=>∃ a c l,e=.returned (.slice a l.length c)/\(kD.slice 144 kY).own w' [Qs a l c] l (jb w.heap.size w'.heap.size)/\kBc 48 l/\yS w0 w' p/\Touch (λk=>k=p) w w':=by
 go_enter func61,ntmps61
 obtain ⟨bd,bw⟩:=hc.lt
 go_wp2_with fail
 refine (kOn hc).mono ?_
 rintro e w1 ⟨a,c,l,rfl,hO,a3,F,D⟩
 have bo:=D.size
 have J:=D
 clear hc D
 have hc:=F
 clear F
 have I:=yD (hO)
 clear hO
 have W:=a3.1
 have b8:=yD a3
 clear a3
 go_wp2_with fail
 refine (ko (n:=10) hc bH2).mono ?_
 rintro e V ⟨m,bc,ax,b7,rfl,F,D⟩
 have bv:=D.size
 obtain ⟨I,J⟩:=xK
 clear hc D
 have hc:=F
 clear F
 replace ax:=ax bH2
 clear b7
 obtain ⟨m,rfl⟩:=Ab bc
 by_cases b1:m=0
 · subst b1;go_wp2_with fail;refine (kGb hc).mono ?_;rintro e w3 ⟨na,nc,nm,rfl,hr,bq,R,F,D⟩;have bt:=D.size;obtain ⟨I,J⟩:=xK;clear hc D;have hc:=F;clear F;have HR:=yD (hr);clear hr;go_wp2_with fail;refine (zn (hc.below (bR.alloc nL _)) (kD.kDz _ [0,1,6,7] bH2 bH2) bH3 bH2 bH2).mono ?_;rintro e w4 ⟨f,O,X,rfl,F,D⟩;obtain ⟨D,b5⟩:=II;obtain ⟨I,HR,J⟩:=BZ;clear hc D;have hc:=F;clear F;have hf:=kD.kId (lo:=0) (hi:=7) bH2 O;clear O;go_wp2_with fail;refine (zn (hc.below (bR.alloc nL _)) (kD.kDz _ [-1,0,1000,1001] bH2 bH2) bH3 bH2 bH2).mono ?_;rintro e w5 ⟨y,aw,b6,rfl,F,D⟩;obtain ⟨D,b3⟩:=AA;obtain ⟨I,HR,J⟩:=BZ;clear hc D;have hc:=F;clear F;have hy:=kD.kId (lo:=-1) (hi:=1001) bH2 aw;clear aw;go_wp2_with (at_builtin;refine kD.zh rfl _ _ 30 rfl (r:=kY) (e:=144) Ai kDa rfl bH2 bH2 I.out bR (kZn HR.out bH3 bH3) bH5 bH5 qE bH3 ?_);intro v9 w9 a5 Z;have N:=Z.size;have br:=yD ((b8.out.snoc (r:=(nm,f,y)) ⟨R,by show nm.length<=64;omega⟩).mono (k:=48) bH3);generalize l++[(nm,f,y)]=q at *;obtain ⟨a9,c9,ce,_⟩:=kD.kBd a5.raw;obtain rfl:v9=_:=by simpa using ce
   have bp:=yD (a5.wide (T:=jb w.heap.size w9.heap.size) bL);have H:=hc.touch Z vU vK;have E:=J.kBz Z (λk q=>q.1.1);clear a5 Z ce;go_wp2;go_ret;exact ⟨_,_,q,rfl,bp.out,br.out,H,E⟩
 have G:¬ (m:Int)=0:=bH3
 by_cases L:m=1
 · subst L;go_wp2_with fail;refine (kDm I.out.rd).mono ?_;rintro e w3 ⟨vc,rfl,hr,hb⟩;have bt:=hb.size;replace I:=yD (I.out.below hb);obtain ⟨hc,J⟩:=xI;clear hb;have HR:=yD (hr);clear hr;obtain ⟨ya,Y,yc,hv,U⟩:=HR.out.parts;obtain rfl:=hv;go_wp2_with (at_builtin;refine kD.kOc rfl _ _ 30 rfl (r:=kY) (e:=144) Ai kDa rfl bH2 bH2 I.out HR.out bH5 bH5 qE bH3 ?_);intro v9 w9 a5 Z;have N:=Z.size;have br:=yD (b8.out.twice);generalize l++l=q at *;obtain ⟨a9,c9,ce,_⟩:=kD.kBd a5.raw;obtain rfl:v9=_:=by simpa using ce
   have bp:=yD (a5.wide (T:=jb w.heap.size w9.heap.size) bL);have H:=hc.touch Z wH vR;have E:=J.kBz Z (λk q=>q.1);clear a5 Z ce;go_wp2;go_ret;exact ⟨_,_,q,rfl,bp.out,br.out,H,E⟩
 have o:¬ (m:Int)=1:=bH3
 go_wp2
 go_ret
 exact ⟨_,_,l,rfl,I.out.wide sU,b8.out.mono bH3,hc,J⟩
end Go.Proofs.YtjhfdpopkkmigabGreat

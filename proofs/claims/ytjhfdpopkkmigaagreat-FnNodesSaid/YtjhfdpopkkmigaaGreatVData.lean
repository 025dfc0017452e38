/-
  Data that is valid.
-/
import Derived.Test.YtjhfdpopkkmigaaGreatEncP
set_option linter.unusedVariables false
set_option linter.defProp false
set_option linter.unusedSimpArgs false
set_option linter.unnecessarySimpa false
set_option maxRecDepth 100000
set_option maxHeartbeats 4000000
open Bool renaming true->Tt,false->Ff
open List renaming length_append->Aa,append_assoc->Ab,take_length->Bb
open Go.Proofs.Tryz renaming underlying22->Ac
open UInt8 renaming toNat_ofNat'->Ad,ofNat->Bc
open Bool renaming not_false->Ae,and_false->Ag,false_and->Ah,not_true->Ai,and_true->Aj,true_and->Ak,or_false->Al,false_or->Am,or_true->Aq,true_or->Ar,not_not->Au
open _root_ renaming ByteArray->Ap,UInt8->Ay,List->Az
open Go.IntKind renaming i64->Av,wrap_u8'->Ba
open Go renaming World->Aw
open Go.Value renaming int->Bd
namespace Go.Proofs.YtjhfdpopkkmigaaGreat
open Go.RowKit _root_.Go.Proofs.Tryz
def kEz (n:Int):Az Ay:=if inR n 0 1000000000000=true then vint n.toNat else []
def vintI_no {n:Int} (h:inR n 0 1000000000000=false):kEz n=[]:=by unfold kEz;rw [h];rfl
def vintI_yes {n:Nat} (h:inR (n:Int) 0 1000000000000=true):kEz n=vint n:=by unfold kEz;rw [if_pos h];simp
def kHy (n:Int):(kEz n).length<=6:=by
 unfold kEz;split
 · rename_i h
   have E:0<=n/\n<=1000000000000:=by simpa [inR] using h
   exact vint_six bD1
 simp
def or128:∀ x:Fin 128,bits BinOp.or Av (x.val:Int) 128=(x.val:Int) + 128:=by decide +kernel
def vlo_int (m:Nat):((vlo m).toNat:Int)=((m % 128:Nat):Int) + 128:=by
 unfold vlo;rw [Ad];omega
def lo_spec {m:Nat} (h:m<=1000000000000):IntKind.u8.wrap (bits BinOp.or Av (bits BinOp.and Av (m:Int) 127) 128)=((vlo m).toNat:Int):=by
 have e:=bits_mask Av 63 bD0 (λn h0 h1=>by rw [IntKind.wrap_i64];omega) 7 bD0 (m:Int) bD1 bD1;rw [show ((2:Int) ^ 7 - 1)=127 by decide,show ((2:Int) ^ 7)=128 by decide] at e;rw [e,vlo_int];have e2:=or128 ⟨m % 128,by omega⟩;simp only at e2;rw [show (m:Int) % 128=((m % 128:Nat):Int) by omega,e2,Ba];omega
def hi_byte {m:Nat} (h:m < 128):IntKind.u8.wrap (m:Int)=((Bc m).toNat:Int):=by
 rw [Ba,Ad];omega
def hi_byte0 {m:Nat} (h:m < 128):(m:Int)=((Bc m).toNat:Int):=by
 rw [Ad];omega
def kPp {w:Aw} {z:Int} {x:Ay} (h:z=(x.toNat:Int)):kD.byte.own w [.int .u8 z] x (λ_=>False):=⟨by show [_]=[_];rw [h],trivial⟩
def kDh {w:Aw} {va:Value} {b:Az Ay} {n:Int} (ha:(kD.slice 5 kD.byte).rd w [va] b) :
    Calls prog 227 #[va,.int .i64 n] w (kCl 5 kD.byte (b++kEz n) w):=by
 obtain ⟨aa,am,rfl,la⟩:=kD.sl ha.1
 have HA:=yD ha
 have hb:b.length<=16777216:=ha.2.1
 clear ha
 go_enter func227,ntmps227
 have O0:kD.kU 5 kD.byte (w.alloc (.cells #[] 5)) (.slice (some ⟨w.heap.size,0,none⟩) 0 0) [] (λk=>k=w.heap.size):=kD.yO (cs:=[]) (xs:=[]) (T:=λ_=>False) bD2 bD2 rfl (λ_ h=>h.elim) rfl
 go_wp2_with (at_builtin;refine kD.yU rfl _ _ 22 rfl (r:=kD.byte) (e:=5) Ac kEh rfl bD0 bD0 kD.kFg (B:=w.heap.size) O0 bD3 bD3 (HA.out.alloc _) qV bD2 bC6 ?_)
 intro v2 V hown o hz
 have L:Hid (kD.kU 5 kD.byte V v2 b (jU w.heap.size V.heap.size)):=yD (by simpa using hown)
 have F:Qb w V:=Below.trans bG o
 clear hown O0 o
 obtain ⟨a2,n2,c2,hv,a8⟩:=L.out.parts
 obtain rfl:=hv
 go_wp2_with fail
 refine jw.mono ?_
 rintro e w1 ⟨rfl,hw⟩
 obtain rfl:=hw.symm
 cases X:inR n 0 1000000000000
 · have U:=yD (vintI_no X);go_wp2;go_ret;exact ⟨_,rfl,L.out.cast (by rw [U.out];simp),F⟩
 obtain ⟨af,E⟩:0<=n/\n<=1000000000000:=by simpa [inR] using X
 obtain ⟨N,rfl⟩:∃ N:Nat,n=N:=⟨n.toNat,by omega⟩
 have U:=yD (vintI_yes X)
 clear X
 go_wp2
 go_loopw [5,1] (λv i wr=>∃ (m:Nat) (pre:Az Ay),m<=N/\i=.int .i64 m/\Hid (pre++vint m=vint N)/\Hid (kD.kU 5 kD.byte wr v (b++pre) (jU w.heap.size wr.heap.size))/\Qb w wr) (λ_ i _=>(intOf i).toNat)
 case atStart=>exact ⟨N,[],Nat.le_refl _,rfl,yD rfl,yD (by simpa using L.out),F⟩
 clear F L a8
 obtain ⟨m,pre,hm,rfl,HP,L,o⟩:=hrel
 obtain ⟨oa,on,oc,ho,bh⟩:=L.out.parts;obtain rfl:=ho
 have d6:pre.length<=6:=by
  have h1:=congrArg List.length HP.out;have h2:=vint_six (n:=N) bD1;simp only [Aa] at h1;omega
 by_cases hlt:m < 128
 · have HB:=yD (hi_byte hlt);have Y:=yD (kZj hlt);go_wp2_with (at_builtin;refine kD.jO rfl _ _ 22 rfl (r:=kD.byte) (e:=5) Ac kEh rfl bD0 bD0 (B:=w.heap.size) L.out bD3 bD3 rfl (kPp (x:=Bc m) (by first | exact HB.out | exact hi_byte0 bD1)) rfl (λ_ _ h=>h) rC (λ_ h=>h.elim) vU bC6 ?_);intro v3 w3 D O ar;have ai:=yD D;obtain ⟨a3,n3,c3,av,be⟩:=D.parts;obtain rfl:=av;have F:=o.trans O;clear D O;go_wp2;go_ret;exact ⟨_,rfl,ai.out.cast (by rw [U.out,<- HP.out,Y.out];try simp only [Ab]),F⟩
 have HB:=yD (lo_spec (show m<=1000000000000 by omega))
 have Y:=yD (vint_hi hlt)
 have ab:(127:Int) < m:=bD1
 go_wp2_with (at_builtin;refine kD.jO rfl _ _ 22 rfl (r:=kD.byte) (e:=5) Ac kEh rfl bD0 bD0 (B:=w.heap.size) L.out bD3 bD3 rfl (kPp (x:=vlo m) (by first | exact HB.out|(simp only [HB.out]))) rfl (λ_ _ h=>h) rC (λ_ h=>h.elim) vU bC6 ?_)
 intro v3 w3 D O ar
 have ai:=yD D
 obtain ⟨a3,n3,c3,av,be⟩:=D.parts
 obtain rfl:=av
 have F:=o.trans O
 clear D O
 go_wp2
 go_roundw
 case rel=>exact ⟨m / 128,pre++[vlo m],by omega,by go_num,yD (by rw [<- HP.out,Y.out,Ab];rfl),yD (ai.out.cast (by simp only [Ab])),F⟩
 simp [intOf];omega
def kYh (w:Aw):∀ (l:Az Ay) (S:Nat->Prop),kD.row kD.byte false w (l.map (λb=>Bd .u8 b.toNat)) l S
  | [],_=>rfl
  | b :: l,S=>⟨[.int .u8 b.toNat],l.map (λb=>Bd .u8 b.toNat),S,S,rfl,rfl,kYh w l S,λ_ h=>h,λ_ h=>h,λh=>by cases h⟩
def kXp {w:Aw} {e e2:TypeId} {s:Ap} (hs:s.size<=16777216):(kD.slice e2 kD.byte).rd (Lib.bytesWorld w e s) [.slice (some ⟨w.heap.size,0,none⟩) s.size (grownCap w s.size 0 e)] s.data.toList:=by
 have hl:s.data.toList.length=s.size:=bD2;refine ⟨⟨_,_,_,rfl,hl.symm,grownCap_ge _ _ _ _,grownCap_le_maxLen _ _ _ _ vN,.inr ⟨_,_,rfl,_,_,_,[],s.data.toList.map (λb=>Bd .u8 b.toNat),List.replicate (grownCap w s.size 0 e - s.size) (.int .u8 0),Lib.bytesWorld_at_new w e s,?_,rfl,?_,(λh=>Bool.noConfusion h),trivial,?_⟩⟩,by rw [hl];exact hs,λ_ _=>trivial⟩
 · simp [Lib.bytesCells]
 · have:=grownCap_ge w s.size 0 e;have e1:(Lib.bytesCells w e s).size=s.size + (grownCap w s.size 0 e - s.size):=by simp [Lib.bytesCells]
   rw [e1];show 0 + _ * 1<=_;omega
 exact kD.yK (kYh _ _ (λ_=>True)) (λ_ _=>⟨trivial,λh=>by cases h⟩)
def bytesWorld_below' (w:Aw) (e:TypeId) (s:Ap):Below w.heap.size w (Lib.bytesWorld w e s) :=
  ⟨rfl,rfl,rfl,by rw [Lib.bytesWorld_size];omega,λj I=>Lib.bytesWorld_at_old w e s j I⟩
def encS (s:Ap):Az Ay:=kEz s.data.toList.length++s.data.toList
def kMz (l:Az Ap):Az Ay:=(l.map encS).flatten
def kWk {l:Az Ap} {k:Nat} (h:k < l.length):kMz (l.take (k + 1))=kMz (l.take k)++encS l[k]:=by
 unfold kMz;rw [List.take_succ_eq_append_getElem h,List.map_append,List.flatten_append];simp
def encNm (n:kr):Az Ay:=kEz n.length++kMz n
def kOq {w:Aw} {va vs:Value} {b s:Az Ay} (ha:(kD.slice 5 kD.byte).rd w [va] b) (hs:(kD.slice 5 kD.byte).rd w [vs] s) :
    Calls prog 228 #[va,vs] w (kCl 5 kD.byte (b++(kEz s.length++s)) w):=by
 obtain ⟨aa,am,rfl,la⟩:=kD.sl ha.1
 obtain ⟨ab,aq,rfl,H⟩:=kD.sl hs.1
 have HA:=yD ha
 have E:=yD hs
 have hb:b.length<=16777216:=ha.2.1
 have ah:s.length<=16777216:=hs.2.1
 clear ha hs
 go_enter func228,ntmps228
 go_wp2_with fail
 refine (kDh HA.out).mono ?_
 rintro e V ⟨v2,rfl,hown,F⟩
 obtain ⟨a2,n2,c2,hv,a8⟩:=hown.parts
 obtain rfl:=hv
 have L:=yD hown
 have G:(b++kEz s.length).length<=20000000:=by have:=kHy s.length;rw [Aa];omega
 clear hown
 go_wp2_with (at_builtin;refine kD.yU rfl _ _ 22 rfl (r:=kD.byte) (e:=5) Ac kEh rfl bD0 bD0 kD.kFg (B:=w.heap.size) L.out bD3 bD3 (E.out.below F) (λk hk=>⟨hk.1,hk.2⟩) F.size bD1 ?_)
 intro v3 w3 D O ar
 have ai:=yD D
 obtain ⟨a3,n3,c3,av,be⟩:=D.parts
 obtain rfl:=av
 have o:=F.trans O
 clear D O
 go_wp2
 go_ret
 exact ⟨_,rfl,ai.out.cast (by simp only [Ab]),o⟩
def vPart_size {s:ByteArray} (h:kCh s=true):s.size<=8:=by
 unfold kCh at h;simp only [Bool.and_eq_true] at h;have h2:(1:Int)<=s.size/\(s.size:Int)<=8:=by simpa [inR] using h.2
 omega
def kXu {n:kr} (h:zf n=true):n.length<=6:=by
 unfold zf at h;simp only [Bool.and_eq_true,decide_eq_true_eq] at h;exact h.2
def kUj {n:kr} (h:zf n=true) {k:Nat} (hk:k < n.length):n[k].size<=8:=by
 by_cases q:kCh n[k]=true
 · exact vPart_size q
 have:=kXv hk bB7;rw [this] at h;cases h
def encS_len {s:Ap} (h:s.size<=8):(encS s).length<=14:=by
 have h1:=kHy s.data.toList.length;have h2:s.data.toList.length=s.size:=bD2;unfold encS;rw [Aa];omega
def kQr {n:kr} (h:zf n=true):∀ {k:Nat},k<=n.length->(kMz (n.take k)).length<=14 * k
  | 0,_=>by simp [kMz]
  | k + 1,hk=>by
    have h1:=kQr h (k:=k) bD1;have h2:=encS_len (kUj h (k:=k) bD1);rw [kWk bD1,Aa];omega
def encNm_len {n:kr} (h:zf n=true):(encNm n).length<=90:=by
 have h1:=kHy n.length;have h2:=kQr h (k:=n.length) nL;have h3:=kXu h;rw [Bb] at h2;unfold encNm;rw [Aa];omega
def kPx {w:Aw} {va:Value} {b:Az Ay} {cn:Az Value} {n:kr} (ha:(kD.slice 5 kD.byte).rd w [va] b) (hn:kW.raw w cn n) (hv:zf n=true) (hb:b.length<=1000000) :
    Calls prog 219 #[va,.agg cn.toArray] w (kCl 5 kD.byte (b++encNm n) w):=by
 obtain ⟨av,rfl,G⟩:=ko hn
 obtain ⟨an,a7,rfl,ln⟩:=kD.sl G
 obtain ⟨aa,am,rfl,la⟩:=kD.sl ha.1
 have HA:=yD ha
 have HN:=yD G
 have N:=yD hn
 have Y:=yD hv
 have bw:=kXu hv
 clear ha hn G hv
 go_enter func219,ntmps219
 have O0:kD.kU 5 kD.byte ((w.alloc (.cells #[.slice an n.length a7] 36)).alloc (.cells #[] 5)) (.slice (some ⟨w.heap.size + 1,0,none⟩) 0 0) [] (λk=>k=w.heap.size + 1):=by
  exact iF
 go_wp2_with (at_builtin;refine kD.yU rfl _ _ 22 rfl (r:=kD.byte) (e:=5) Ac kEh rfl bD0 bD0 kD.kFg (B:=w.heap.size + 1) O0 bD3 bD3 (HA.out.below bG) qV bD2 bC6 ?_)
 intro v2 V hown o hz
 have L:Hid (kD.kU 5 kD.byte V v2 b (jU w.heap.size V.heap.size)):=yD ((hown.cast bD2).wide rD)
 obtain ⟨K0,F⟩:=J3
 obtain ⟨a2,n2,c2,a6,a8⟩:=L.out.parts
 obtain rfl:=a6
 have en:w.heap.size < V.heap.size:=by have:=o.size;simp at this;omega
 clear hown O0 o hz
 go_wp2_with fail
 refine (yZ (N.out.below F)).mono ?_
 rintro e w3 ⟨rfl,ap⟩
 rw [Y.out]
 replace K0:=cL ap K0
 replace L:=yD (((L.out.below ap).own wM).rd)
 have R:=(tQ F ap)
 have W:w.heap.size < w3.heap.size:=by have:=ap.size;omega
 clear F ap en
 go_wp2_with fail
 refine (kDh L.out).mono ?_
 rintro e w4 ⟨v4,rfl,D,J⟩
 obtain ⟨a4,n4,c4,ae,bv⟩:=D.parts
 obtain rfl:=ae
 replace K0:=cL J K0
 have F:=(tQ R J)
 have bm:Hid (kD.kU 5 kD.byte w4 (.slice a4 n4 c4) (b++kEz n.length) (jU (w.heap.size + 1) w4.heap.size)):=yD (D.wide rD)
 have ag:w.heap.size < w4.heap.size:=by have:=J.size;omega
 have cd:=yD K0
 clear D R J W K0
 have ab:=yD (kHy n.length)
 have K0:=cd.out
 go_wp2
 go_loopw [5,6] (λv i wr=>∃ k:Nat,k<=n.length/\i=.int .i64 k/\Hid (kD.kU 5 kD.byte wr v (b++kEz n.length++kMz (n.take k)) (jU (w.heap.size + 1) wr.heap.size))/\Below (w.heap.size + 1) w4 wr) (λ_ i _=>n.length - (intOf i).toNat)
 case atStart=>exact ⟨0,Nat.zero_le _,rfl,yD (by simpa [kMz] using bm.out),bR⟩
 clear K0 bm
 obtain ⟨k,hk,rfl,L,o⟩:=hrel
 obtain ⟨oa,on,oc,ho,bh⟩:=L.out.parts;obtain rfl:=ho
 have EW:Qb w wr:=F.trans (o.mono bD1)
 have af:w.heap.size < wr.heap.size:=vU
 have K0:Qd wr w 0 (.slice an n.length a7):=(o.cell (p:=⟨w.heap.size,0,none⟩) bD2).trans cd.out
 by_cases hlt:k < n.length
 · obtain ⟨qb,qo,rfl,c0,hr,A0⟩:=kD.kCa (HN.out.below EW) hlt rfl;obtain ⟨he,az⟩:=kD.zi hr;obtain rfl:c0=_:=by simpa using he
   clear he hr;have bl:=yD (kWk hlt);have ah:=kUj Y.out hlt;have ac:=kQr Y.out hk;have ba:Hid ((kD.slice 5 kD.byte).rd wr [.slice oa on oc] (b++kEz n.length++kMz (n.take k))):=yD ((L.out.own (by have:=ab.out;unfold Big;simp only [Aa];omega)).rd);generalize n[k]=s at *;have H:=Lib.run_convert_string_bytes (P:=prog) wr 9 22 5 s (u:=.string) underlying9 Ac underlying5;have E:=yD (kXp (w:=wr) (e:=5) (e2:=5) (s:=s) bD1);have aq:=bytesWorld_below' wr 5 s;obtain ⟨W1,O⟩:∃ W1,W1=Lib.bytesWorld wr 5 s:=⟨_,rfl⟩;rw [<- O] at H E aq;clear O ac az;generalize grownCap wr s.size 0 5=gc at *;go_wp2_with fail;refine (kOq (ba.out.below aq) E.out).mono ?_;rintro e w5 ⟨v5,rfl,hown,U⟩;obtain ⟨a5,n5,c5,ad,bk⟩:=hown.parts;obtain rfl:=ad;have X:=o.trans ((aq.mono bD1).trans (U.mono (by have:=aq.size;omega)));have Z:Hid (kD.kU 5 kD.byte w5 (.slice a5 n5 c5) (b++kEz n.length++kMz (n.take (k + 1))) (jU (w.heap.size + 1) w5.heap.size)):=yD ((hown.cast (by rw [bl.out];simp only [encS,Ab])).wide (λj I=>⟨by have:=I.1;have:=aq.size;omega,I.2⟩));clear hown U L ba A0 o H aq K0 EW;go_wp2;go_roundw;case rel=>exact ⟨k + 1,by omega,by go_num,Z,X⟩
   simp [intOf];omega
 obtain rfl:k=n.length:=bD1
 go_wp2
 go_ret
 exact ⟨_,rfl,(L.out.cast (by rw [Bb,encNm,Ab])).wide rD,EW⟩
def kBi (x:jL):Bool:=((((zf x.1 && decide (0 < x.1.length)) && decide ((x.2.1.length:Int)<=60)) && zf x.2.2.1) && inR x.2.2.2.1 0 100000) && inR x.2.2.2.2 0 2147483646
def kDc {w:Aw} {cx:Az Value} {x:jL} (hx:jF.raw w cx x) :
    Calls prog 82 #[.agg cx.toArray] w (bQ w (.bool (kBi x))):=by
 have Hx:=yD hx
 obtain ⟨ax,bg,bb,rfl,I,o,ad,ah,am,aw,az⟩:=jM hx
 obtain ⟨ac,Y,rfl,av⟩:=kD.sl o
 obtain ⟨au,ap,rfl,bf⟩:=kD.sl ad
 obtain ⟨ar,ao,rfl,bd⟩:=kD.sl am
 go_enter func82,ntmps82
 go_upto_region 1 with fail
 generalize J:World.alloc w _=N
 obtain ⟨R,ae,O,L,D,Z⟩:=EU
 clear J
 have FX:=yD (λ(W:Aw) (hW:Qb N W)=>cLs5 hW ae O L D Z)
 refine ky (λW=>Qb N W) [Tt,Tt,Ff,Tt,Tt,Tt,Tt,Tt,Tt,Tt,Tt,Tt,Tt,Tt,Tt,Tt,Tt,Tt,Tt,Ff,Tt,Tt,Tt,Tt,Ff,Tt,Tt,Tt,Tt,Ff,Tt,Tt] bR ?_
 intro wS E
 all_goals refine kX ?_
 all_goals refine kX ?_
 all_goals first | refine wkB (yZ (kD.raw.below I (tQ R E))) (λwS1 E=>?_) | refine kX ?_
 all_goals (refine jd λb a1=>?_;cases b <;> try simp only [jc] at a1)
 iterate 6
  all_goals refine kX ?_
 all_goals (refine jd λb aq=>?_;cases b <;> try simp only [jc] at aq)
 iterate 5
  all_goals refine kX ?_
 all_goals (refine jd λb V=>?_;cases b <;> try simp only [jc] at V)
 all_goals refine kX ?_
 all_goals refine kX ?_
 all_goals first | refine wkB (yZ (kD.raw.below ah (tQ R E))) (λwS1 E=>?_) | refine kX ?_
 all_goals refine kX ?_
 all_goals (refine jd λb H=>?_;cases b <;> try simp only [jc] at H)
 all_goals refine kX ?_
 all_goals refine kX ?_
 all_goals first | refine wkC (jw) ?_ | refine kX ?_
 all_goals refine kX ?_
 all_goals (refine jd λb G=>?_;cases b <;> try simp only [jc] at G)
 all_goals refine kX ?_
 all_goals refine kX ?_
 all_goals first | refine wkC (jw) ?_ | refine kX ?_
 all_goals refine kX ?_
 all_goals (refine jd λb X=>?_;cases b <;> try simp only [jc] at X)
 all_goals refine kR ?_
 all_goals have F:=(tQ R E)
 all_goals first
   | (have U:=yD (show (kBi x)=false by simp only [kBi,Ai,Ae,Aj,Ak,Ag,Ah,Aq,Ar,Al,Am,Au,a1,aq,V,H,G,X]);go_wp2;go_ret;exact ⟨kK U.out.symm,F⟩)
   | (have U:=yD (show (kBi x)=true by simp only [kBi,Ai,Ae,Aj,Ak,Ag,Ah,Aq,Ar,Al,Am,Au,a1,aq,V,H,G,X]);go_wp2;go_ret;exact ⟨kK U.out.symm,F⟩)
def kJw {w:Aw} {cx:Az Value} {x:jL} (hx:jF.raw w cx x) :
    Calls prog 77 #[.agg cx.toArray] w (bQ w (.bool (kBi x))):=by
 have Hx:=yD hx
 obtain ⟨ax,bg,bb,rfl,I,o,ad,ah,am,aw,az⟩:=jM hx
 obtain ⟨ac,Y,rfl,av⟩:=kD.sl o
 obtain ⟨au,ap,rfl,bf⟩:=kD.sl ad
 obtain ⟨ar,ao,rfl,bd⟩:=kD.sl am
 go_enter func77,ntmps77
 go_upto_region 1 with fail
 generalize J:World.alloc w _=N
 obtain ⟨R,ae,O,L,D,Z⟩:=EU
 clear J
 have FX:=yD (λ(W:Aw) (hW:Qb N W)=>cLs5 hW ae O L D Z)
 refine ky (λW=>Qb N W) [Tt,Tt,Ff,Tt,Tt,Tt,Tt,Tt,Tt,Tt,Tt,Tt,Tt,Tt,Tt,Tt,Tt,Tt,Tt,Ff,Tt,Tt,Tt,Tt,Ff,Tt,Tt,Tt,Tt,Ff,Tt,Tt] bR ?_
 intro wS E
 all_goals refine kX ?_
 all_goals refine kX ?_
 all_goals first | refine wkB (kBz (kD.raw.below I (tQ R E))) (λwS1 E=>?_) | refine kX ?_
 all_goals (refine jd λb a1=>?_;cases b <;> try simp only [jc] at a1)
 iterate 6
  all_goals refine kX ?_
 all_goals (refine jd λb aq=>?_;cases b <;> try simp only [jc] at aq)
 iterate 5
  all_goals refine kX ?_
 all_goals (refine jd λb V=>?_;cases b <;> try simp only [jc] at V)
 all_goals refine kX ?_
 all_goals refine kX ?_
 all_goals first | refine wkB (kBz (kD.raw.below ah (tQ R E))) (λwS1 E=>?_) | refine kX ?_
 all_goals refine kX ?_
 all_goals (refine jd λb H=>?_;cases b <;> try simp only [jc] at H)
 all_goals refine kX ?_
 all_goals refine kX ?_
 all_goals first | refine wkC (yF) ?_ | refine kX ?_
 all_goals refine kX ?_
 all_goals (refine jd λb G=>?_;cases b <;> try simp only [jc] at G)
 all_goals refine kX ?_
 all_goals refine kX ?_
 all_goals first | refine wkC (yF) ?_ | refine kX ?_
 all_goals refine kX ?_
 all_goals (refine jd λb X=>?_;cases b <;> try simp only [jc] at X)
 all_goals refine kR ?_
 all_goals have F:=(tQ R E)
 all_goals first
   | (have U:=yD (show (kBi x)=false by simp only [kBi,Ai,Ae,Aj,Ak,Ag,Ah,Aq,Ar,Al,Am,Au,a1,aq,V,H,G,X]);go_wp2;go_ret;exact ⟨kK U.out.symm,F⟩)
   | (have U:=yD (show (kBi x)=true by simp only [kBi,Ai,Ae,Aj,Ak,Ag,Ah,Aq,Ar,Al,Am,Au,a1,aq,V,H,G,X]);go_wp2;go_ret;exact ⟨kK U.out.symm,F⟩)
end Go.Proofs.YtjhfdpopkkmigaaGreat

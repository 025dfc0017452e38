/-
  A pattern and a name: what the letters stand for.
-/
import Derived.Test.YtlfblpgkegeaeaaGreatEncN
set_option linter.unusedVariables false
set_option linter.unusedSimpArgs false
set_option linter.unnecessarySimpa false
set_option maxRecDepth 100000
set_option maxHeartbeats 4000000
namespace Go.Proofs.YtlfblpgkegeaeaaGreat
open Go.RowKit
def isB (s:ByteArray) (b:yf):Bool:=b.1.toList==s.toList
def kBk (s:ByteArray) (n:kW) (i:Nat) (out:List yf):Nat × List yf :=
  if kEg s=true then (1,out) else
  if n.length≤i then (2,out) else
  if kFa s=true then (0,out) else
  if isLet s=true then
    (if idxOf (isB s) out < 0 then (0,out++[(s,n.getD i ByteArray.empty)]) else
     if ((out.getD (idxOf (isB s) out).toNat (ByteArray.empty,ByteArray.empty)).2.toList==(n.getD i ByteArray.empty).toList)=true then (0,out) else (2,out)) else
  if (s.toList==(n.getD i ByteArray.empty).toList)=true then (0,out) else (2,out)
def mAt (p:yV) (n:kW) (l:List yf):Nat→Nat × List yf
  | 0=>(0,l)
  | k + 1=>if (mAt p n l k).1=0 then kBk (p.getD k ByteArray.empty) n k (mAt p n l k).2 else mAt p n l k
def kDl (p:yV) (n:kW) (l:List yf):Bool:=(kCl p && kAu n) && (((mAt p n l p.length).1==1) || (((mAt p n l p.length).1==0) && (n.length==p.length)))
def ptB (p:yV) (n:kW) (l:List yf):List yf:=if kDl p n l=true then (mAt p n l p.length).2 else l
section
variable {p:yV} {n:kW} {l out out2:List yf} {k:Nat} {s:ByteArray}
theorem mAt_stay (h:(mAt p n l k).1≠0):∀ d,mAt p n l (k + d)=mAt p n l k
  | 0=>rfl
  | d + 1=>by
    have ih:=mAt_stay h d
    show (if (mAt p n l (k + d)).1=0 then _ else mAt p n l (k + d))=_
    rw [ih,if_neg h]
theorem mAt_go {t3:Nat} {out3:List yf} (hk:k < p.length) (h:mAt p n l k=(0,out)) (hs:kBk p[k] n k out=(t3,out3)):mAt p n l (k + 1)=(t3,out3):=by
 show (if (mAt p n l k).1=0 then kBk (p.getD k ByteArray.empty) n k (mAt p n l k).2 else _)=_
 rw [h,jr hk]
 exact hs
theorem mAt_end (hk:k < p.length) (h:mAt p n l k=(0,out)) {t:Nat} (ht:t≠0) (hs:kBk p[k] n k out=(t,out2)):mAt p n l p.length=(t,out2):=by
 have h1:=mAt_go hk h hs
 have h2:=mAt_stay (p:=p) (n:=n) (l:=l) (k:=k + 1) (by rw [h1];exact ht) (p.length - (k + 1))
 rw [show k + 1 + (p.length - (k + 1))=p.length by omega] at h2
 rw [h2,h1]
theorem kJd (h:(kCl p && kAu n)=false):kDl p n l=false∧ptB p n l=l:=by
 have:kDl p n l=false:=by unfold kDl;rw [h];rfl
 exact ⟨this,by unfold ptB;rw [if_neg mG]⟩
theorem m_fail (hk:k < p.length) (h:mAt p n l k=(0,out)) (hs:kBk p[k] n k out=(2,out2)):kDl p n l=false∧ptB p n l=l:=by
 have e:=mAt_end hk h rM hs
 have:kDl p n l=false:=by unfold kDl;rw [e];simp
 exact ⟨this,by unfold ptB;rw [if_neg mG]⟩
theorem m_done (hv:(kCl p && kAu n)=true) (hk:k < p.length) (h:mAt p n l k=(0,out)) (hs:kBk p[k] n k out=(1,out2)):kDl p n l=true∧ptB p n l=out2:=by
 have e:=mAt_end hk h rM hs
 have:kDl p n l=true:=by unfold kDl;rw [e,hv];rfl
 exact ⟨this,by unfold ptB;rw [if_pos this,e]⟩
theorem m_over (hv:(kCl p && kAu n)=true) (hk:¬ k < p.length) (hk2:k≤p.length) (h:mAt p n l k=(0,out)) (hn:n.length=p.length):kDl p n l=true∧ptB p n l=out:=by
 obtain rfl:k=p.length:=rP
 have:kDl p n l=true:=by unfold kDl;rw [h,hv,hn];simp
 exact ⟨this,by unfold ptB;rw [if_pos this,h]⟩
theorem m_long (hk:¬ k < p.length) (hk2:k≤p.length) (h:mAt p n l k=(0,out)) (hn:n.length≠p.length):kDl p n l=false∧ptB p n l=l:=by
 obtain rfl:k=p.length:=rP
 have:kDl p n l=false:=by unfold kDl;rw [h];simp [hn]
 exact ⟨this,by unfold ptB;rw [if_neg mG]⟩
theorem ms_star2 (h:kEg s=true):kBk s n k out=(1,out):=by unfold kBk;rw [if_pos h]
theorem ms_short (h:kEg s=false) (h2:n.length≤k):kBk s n k out=(2,out):=by unfold kBk;rw [if_neg mU,if_pos h2]
theorem ms_star1 (h:kEg s=false) (h2:k < n.length) (h3:kFa s=true):kBk s n k out=(0,out):=by unfold kBk;rw [if_neg mU,if_neg rP,if_pos h3]
theorem ms_new (h:kEg s=false) (h2:k < n.length) (h3:kFa s=false) (h4:isLet s=true) (h5:idxOf (isB s) out < 0):kBk s n k out=(0,out++[(s,n[k])]):=by
 unfold kBk;rw [if_neg mU,if_neg rP,if_neg mM,if_pos h4,if_pos h5,jr h2]
theorem ms_old (h:kEg s=false) (h2:k < n.length) (h3:kFa s=false) (h4:isLet s=true) {j:Nat} (hj:j < out.length) (h5:idxOf (isB s) out=j) (h6:(out[j].2.toList==n[k].toList)=true):kBk s n k out=(0,out):=by
 unfold kBk;rw [if_neg mU,if_neg rP,if_neg mM,if_pos h4,if_neg (by rw [h5];omega),h5,Int.toNat_natCast,jr hj,jr h2,if_pos h6]
theorem ms_other (h:kEg s=false) (h2:k < n.length) (h3:kFa s=false) (h4:isLet s=true) {j:Nat} (hj:j < out.length) (h5:idxOf (isB s) out=j) (h6:(out[j].2.toList==n[k].toList)=false):kBk s n k out=(2,out):=by
 unfold kBk;rw [if_neg mU,if_neg rP,if_neg mM,if_pos h4,if_neg (by rw [h5];omega),h5,Int.toNat_natCast,jr hj,jr h2,if_neg (by rw [h6];exact Bool.false_ne_true)]
theorem ms_same (h:kEg s=false) (h2:k < n.length) (h3:kFa s=false) (h4:isLet s=false) (h6:(s.toList==n[k].toList)=true):kBk s n k out=(0,out):=by
 unfold kBk;rw [if_neg mU,if_neg rP,if_neg mM,if_neg (by rw [h4];exact Bool.false_ne_true),jr h2,if_pos h6]
theorem ms_diff (h:kEg s=false) (h2:k < n.length) (h3:kFa s=false) (h4:isLet s=false) (h6:(s.toList==n[k].toList)=false):kBk s n k out=(2,out):=by
 unfold kBk;rw [if_neg mU,if_neg rP,if_neg mM,if_neg (by rw [h4];exact Bool.false_ne_true),jr h2,if_neg (by rw [h6];exact Bool.false_ne_true)]
theorem mStep_len:(kBk s n k out).2.length≤out.length + 1:=by
 unfold kBk
 split
 · simp
 split
 · simp
 split
 · simp
 split
 · split
   · simp
   split <;> simp
 split <;> simp
theorem mAt_len:∀ k,(mAt p n l k).2.length≤l.length + k
  | 0=>Nat.le_refl _
  | k + 1=>by
    have ih:=mAt_len k
    show (if (mAt p n l k).1=0 then kBk (p.getD k ByteArray.empty) n k (mAt p n l k).2 else mAt p n l k).2.length≤_
    split
    · have:=mStep_len (s:=p.getD k ByteArray.empty) (n:=n) (k:=k) (out:=(mAt p n l k).2);omega
    · omega
theorem mB_len (hp:p.length≤6∨kCl p=false):(ptB p n l).length≤l.length + 6:=by
 unfold ptB
 split
 · rename_i h
   have:=mAt_len (p:=p) (n:=n) (l:=l) p.length
   rcases hp with hp | hp
   · omega
   unfold kDl at h;rw [hp] at h;cases h
 omega
theorem kQr (h:kCl p=true):p.length≤6:=by unfold kCl at h;simp only [Bool.and_eq_true,decide_eq_true_eq] at h;exact h.2
theorem mB_len6:(ptB p n l).length≤l.length + 6:=by
 cases h:kCl p
 · exact mB_len (.inr h)
 exact mB_len (.inl (kQr h))
end
theorem kJw {w:World} {va:Value} {x:List yf} {g:FuncId} {cp:Array Value} (p:yf→Bool) (hg:jm Tryz.prog g) (ha:(Rep.slice 284 yL).raw w [va] x)
    (hcl:∀ wr,Below w.heap.size w wr→∀ (i:Nat) (h:i < x.length) cs,yL.raw wr cs x[i]→Calls Tryz.prog g (#[.agg cs.toArray]++cp) wr (fun e w'=>e=.returned (.bool (p x[i]))∧Below wr.heap.size wr w')) :
    Calls Tryz.prog 261 #[va,.func (.func g) #[] cp] w fun e w'=>e=.returned (.int .i64 (idxOf p x))∧Below w.heap.size w w':=by
 obtain ⟨aa,capa,rfl,la⟩:=Rep.sl ha
 have HCL:=yD hcl;clear hcl
 unfold jm at hg
 go_enter Tryz.func261,Tryz.ntmps261
 go_wp2
 go_loopw [8] (fun i wr=>∃ k:Nat,k≤x.length∧i=.int .i64 k∧(∀ j,(h:j < k)→(h2:j < x.length)→p x[j]=false)∧Below w.heap.size w wr) (fun i _=>x.length - (intOf i).toNat)
 case atStart=>exact ⟨0,Nat.zero_le _,rfl,fun _ h=>by omega,bR⟩
 obtain ⟨k,hk,rfl,hno,hbel⟩:=hrel
 have HN:=yD hno;clear hno
 by_cases hlt:k < x.length
 · obtain ⟨ba,offa,rfl,c0,c1,hr,A0,A1⟩:=Rep.kEk (ha.below hbel) hlt rfl
   have C:=HCL.out wr hbel k hlt _ hr
   by_cases hp:p x[k]=true
   · rw [hp] at C
     have HC:=yD C;clear C
     have HT:=yD (idxOf_hit hlt hp HN.out);clear hp
     go_wp2_with fail
     refine HC.out.mono ?_
     rintro e w1 ⟨rfl,hb1⟩
     go_wp2
     go_ret
     exact ⟨ku HT.out.symm,(tQ hbel hb1)⟩
   have hp:p x[k]=false:=qX
   rw [hp] at C
   have HC:=yD C;clear C
   have HT:=yD (kAk hlt hp HN.out);clear hp
   go_wp2_with fail
   refine HC.out.mono ?_
   rintro e w1 ⟨rfl,hb1⟩
   go_wp2
   go_roundw
   case rel=>exact ⟨k + 1,by omega,by go_num,HT.out,(tQ hbel hb1)⟩
   simp [intOf];omega
 have HT:=yD (idxOf_miss hlt HN.out)
 go_wp2
 go_ret
 exact ⟨ku HT.out.symm,hbel⟩
theorem kIp:yL.kEc:=Rep.kIl Rep.kFf Rep.kFf
theorem kBo {w:World} {va:Value} {x:List yf} (ha:(Rep.slice 284 yL).rd w [va] x):Calls Tryz.prog 259 #[va] w (kAt 284 yL x w):=by
 obtain ⟨aa,capa,rfl,la⟩:=Rep.sl ha.1
 have HA:=yD ha
 have hnil:=fun (W:World) (a:Option Addr) (n c:Nat)=>Lib.run_eql_slice_nil (P:=Tryz.prog) W 276 284 a n c 0 0 Tryz.underlying276
 cases aa with
 | none =>
   have hx:x=[]:=by
     cases x with
     | nil=>rfl
     | cons y ys =>
       obtain ⟨b,off,h,_⟩:=Rep.kDo ha.1 (i:=0) rQ
       cases h
   subst hx
   clear ha
   go_enter Tryz.func259,Tryz.ntmps259
   go_wp2
   go_ret
   exact ⟨_,rfl,Rep.kg.nil,bR⟩
 | some a =>
   have hb:x.length≤16777216:=ha.2.1
   clear ha
   go_enter Tryz.func259,Tryz.ntmps259
   have O0:Rep.kg 284 yL (w.alloc (.cells #[] 284)) (.slice (some ⟨w.heap.size,0,none⟩) 0 0) [] (fun k=>k=w.heap.size):=Rep.yj (cs:=[]) (xs:=[]) (T:=fun _=>False) rQ rQ rfl (fun _ h=>h.elim) rfl
   go_wp2_with (at_builtin;refine Rep.je rfl _ _ 276 rfl (r:=yL) (e:=284) Tryz.underlying276 kFg rfl rM rM kIp (B:=w.heap.size) O0 rR rR (HA.out.alloc _) mQ rQ rG ?_)
   intro v2 w2 hown hbel hz
   have HO:=yD hown
   obtain ⟨a2,c2,hv⟩:=hown.ym
   obtain rfl:=hv
   have EG:Below w.heap.size w w2:=Below.trans bH hbel
   clear hown O0 hbel
   go_wp2
   go_ret
   exact ⟨_,rfl,by simpa using HO.out,EG⟩
theorem kVv {w:World} {cb:List Value} {b:yf} (hb:yL.raw w cb b) {s:ByteArray} {Bs:Nat} (A:w.cell? ⟨Bs,0,none⟩=some (.string s)) :
    Calls Tryz.prog 262 (#[.agg cb.toArray]++#[.pointer (some ⟨Bs,0,none⟩)]) w fun e w'=>e=.returned (.bool (isB s b))∧Below w.heap.size w w':=by
 obtain ⟨b0,b1⟩:=b
 obtain ⟨rfl,b_0,b_1⟩:=kEu hb
 clear hb
 have HT:=yD (show isB s (b0,b1)=(b0.toList==s.toList) from rfl)
 show Calls Tryz.prog 262 #[_,_] w _
 go_enter Tryz.func262,Tryz.ntmps262
 go_upto_region 1 with fail
 generalize hwB:World.alloc w _=wB
 have EB:Below w.heap.size w wB:=by rw [← hwB];exact bH
 have K0:wB.cell? ⟨w.heap.size,0,none⟩=some (.string b0):=nV
 clear hwB
 replace A:=cL EB A
 go_wp2
 go_ret
 exact ⟨kG HT.out.symm,EB⟩
theorem kHx:jm Tryz.prog 262:=kAn Tryz.func262 rF rF
theorem kVn {w:World} {vl:Value} {l:List yf} (hl:(Rep.slice 284 yL).raw w [vl] l) {s:ByteArray} :
    Calls Tryz.prog 255 #[vl,.string s] w fun e w'=>e=.returned (.int .i64 (idxOf (isB s) l))∧w'=w:=by
 obtain ⟨al,pl,rfl,ll⟩:=Rep.sl hl
 go_enter Tryz.func255,Tryz.ntmps255
 go_wp2
 go_loop [5] (fun i=>∃ k:Nat,k≤l.length∧i=.int .i64 k∧Hid (∀ j,(h:j < k)→(h2:j < l.length)→isB s l[j]=false)) (fun i=>l.length - (intOf i).toNat)
 case atStart=>exact ⟨0,Nat.zero_le _,rfl,yD (fun _ h=>by omega)⟩
 obtain ⟨k,hk,rfl,HN⟩:=hrel
 by_cases hlt:k < l.length
 · obtain ⟨qb,qo,rfl,qc0,qc1,qr,Aq0,Aq1⟩:=Rep.kEk hl hlt rfl
   have hhit:=fun q=>idxOf_hit (p:=isB s) hlt q HN.out
   have hmis:=fun q=>kAk (p:=isB s) hlt q HN.out
   generalize l[k]=x at *
   have HD:=yD hhit;have HX:=yD hmis;clear hhit hmis
   obtain ⟨x0,x1⟩:=x
   obtain ⟨qhe,q_0,q_1⟩:=kEu qr
   simp only [List.cons.injEq,and_true] at qhe
   obtain ⟨rfl,rfl⟩:=qhe
   cases hv:isB s (x0,x1)
   · have HT:=yD (HX.out hv)
     have hv2:(x0.toList==s.toList)=false:=hv
     clear hv HD HX
     go_wp2
     go_round
     case rel=>exact ⟨k + 1,by omega,by go_num,HT⟩
     simp [intOf];omega
   have HT:=yD (HD.out hv)
   have hv2:(x0.toList==s.toList)=true:=hv
   clear hv HD HX
   go_wp2
   go_ret
   exact ⟨ku HT.out.symm,rfl⟩
 have HT:=yD (idxOf_miss hlt HN.out)
 go_wp2
 go_ret
 exact ⟨ku HT.out.symm,rfl⟩
theorem kIn {α:Type} {p:α→Bool} {x:List α} (h:¬ idxOf p x < 0):∃ j:Nat,j < x.length∧idxOf p x=(j:Int):=by
 unfold idxOf at h ⊢
 cases hf:x.findIdx? p with
 | none=>rw [hf] at h;exact absurd rM h
 | some i=>exact ⟨i,(List.findIdx?_eq_some_iff_getElem.1 hf).1,rfl⟩
theorem kSa {s:ByteArray} (h:isLet s=true):s.size=2:=by unfold isLet at h;simp only [Bool.and_eq_true,decide_eq_true_eq] at h;exact h.1
theorem kVj {s t:ByteArray} (hs:s.size≤Big) (ht:t.size≤Big):yL.flat [.string s,.string t] (s,t):=Rep.kAw (cs:=[.string s]) (ds:=[.string t]) (Rep.kSh hs) (Rep.kSh ht)
theorem litB {w:World} {e:TypeId}:Rep.kg e yL (w.alloc (.cells #[] e)) (.slice (some ⟨w.heap.size,0,none⟩) 0 0) [] (fun k=>k=w.heap.size) :=
  Rep.yj (e:=e) (r:=yL) (w:=w) (cs:=[]) (xs:=[]) (T:=fun _=>False) (S:=fun k=>k=w.heap.size) rQ rQ rfl (fun _ h=>h.elim) rfl
theorem kOu {w:World} {cp:List Value} {p:yV} (hp:yU.raw w cp p) {cn:List Value} {n:kW} (hn:kL.raw w cn n) {vl:Value} {l:List yf} (hl:(Rep.slice 284 yL).rd w [vl] l) (hll:l.length≤1000) :
    Calls Tryz.prog 243 #[.agg cp.toArray,.agg cn.toArray,vl] w fun e w'=>∃ v,e=.returned (.tuple #[v,.bool (kDl p n l)])∧Rep.kg 284 yL w' v (ptB p n l) (Btw w.heap.size w'.heap.size)∧Below w.heap.size w w':=by
 obtain ⟨pv,rfl,p_0⟩:=yc hp
 obtain ⟨ap,capp,rfl,lp⟩:=Rep.sl p_0
 obtain ⟨nv,rfl,n_0⟩:=kM hn
 obtain ⟨an,capn,rfl,ln⟩:=Rep.sl n_0
 obtain ⟨al,cal,rfl,ll⟩:=Rep.sl hl.1
 have HP:=yD p_0
 have HN:=yD n_0
 have HPR:=yD hp
 have HNR:=yD hn
 have HL:=yD hl
 clear hp hn p_0 n_0 hl
 go_enter Tryz.func243,Tryz.ntmps243
 go_upto_region 1 with fail
 generalize hwB:World.alloc (World.alloc w _) _=wB
 have EB:Below w.heap.size w wB:=by rw [← hwB];exact bH
 have zB:w.heap.size + 2≤wB.heap.size:=qK
 have K0:wB.cell? ⟨w.heap.size,0,none⟩=some (.slice ap p.length capp):=nV
 have K1:wB.cell? ⟨w.heap.size + 1,0,none⟩=some (.slice an n.length capn):=nV
 clear hwB
 have O0:=litB (w:=wB) (e:=284)
 go_wp2_with (at_builtin;refine Rep.je rfl _ _ 276 rfl (r:=yL) (e:=284) Tryz.underlying276 kFg rfl rM rM kIp (B:=wB.heap.size) O0 rR rR (HL.out.below (by repeat (first|(with_reducible exact EB) | refine Below.alloc ?_ (by have:=Below.size EB;simp;try omega) _ | refine Below.drew ?_ | refine Below.setCell ?_ (by have:=Below.size EB;simp;try omega) _))) mQ rQ rG ?_)
 intro v2 w2 hown hbel hz
 have HO8:Hid (Rep.kg 284 yL w2 v2 l (Btw wB.heap.size w2.heap.size)):=yD (by simpa using hown)
 have E2:Below wB.heap.size wB w2:=Below.trans (bR.alloc nL _) hbel
 obtain ⟨a8,n8,c8,hv8,HN8⟩:=hown.parts
 obtain rfl:=hv8
 replace K0:=cL E2 K0
 replace K1:=cL E2 K1
 have E:=(tQ EB E2)
 have z2:=E2.size
 clear hown hbel O0 E2 hz EB
 go_wp2_with fail
 refine (kCr (HPR.out.below E)).mono ?_
 rintro e w3 ⟨rfl,hb3⟩
 replace K0:=cL hb3 K0
 replace K1:=cL hb3 K1
 have HO8_:=HO8.out.below hb3
 clear HO8
 have HO8:=yD HO8_
 clear HO8_
 replace E:=(tQ E hb3)
 have z3:=hb3.size
 clear hb3
 cases hvp:kCl p
 · have M:=yD (kJd (p:=p) (n:=n) (l:=l) (by rw [hvp];rfl))
   go_wp2
   refine bodyPost_ret (v:=.tuple #[.slice a8 n8 c8,.bool false]) gT rfl ?_
   exact ⟨_,by rw [M.out.1],(HO8.out.cast M.out.2.symm).wide fG,E⟩
 go_wp2_with fail
 refine (kBi (HNR.out.below E)).mono ?_
 rintro e w4 ⟨rfl,hb4⟩
 replace K0:=cL hb4 K0
 replace K1:=cL hb4 K1
 have HO8_:=HO8.out.below hb4
 clear HO8
 have HO8:=yD HO8_
 clear HO8_
 replace E:=(tQ E hb4)
 have z4:=hb4.size
 clear hb4
 cases hvn:kAu n
 · have M:=yD (kJd (p:=p) (n:=n) (l:=l) (by rw [hvn];simp))
   go_wp2
   refine bodyPost_ret (v:=.tuple #[.slice a8 n8 c8,.bool false]) gT rfl ?_
   exact ⟨_,by rw [M.out.1],(HO8.out.cast M.out.2.symm).wide fG,E⟩
 have HV:Hid ((kCl p && kAu n)=true):=yD (by rw [hvp,hvn];rfl)
 have hp6:=kQr hvp
 have HVN:=yD hvn
 have O0:=litB (w:=w4) (e:=284)
 go_wp2_with (at_builtin;refine Rep.je rfl _ _ 276 rfl (r:=yL) (e:=284) Tryz.underlying276 kFg rfl rM rM kIp (B:=w4.heap.size) O0 rR rR (HL.out.below (by repeat (first|(with_reducible exact E) | refine Below.alloc ?_ (by have:=Below.size E;simp;try omega) _ | refine Below.drew ?_ | refine Below.setCell ?_ (by have:=Below.size E;simp;try omega) _))) mQ rQ rG ?_)
 intro v5 w5 hown hbel hz
 have HO9:Hid (Rep.kg 284 yL w5 v5 l (Btw w4.heap.size w5.heap.size)):=yD (by simpa using hown)
 have E5:Below w4.heap.size w4 w5:=Below.trans (bR.alloc nL _) hbel
 have HK0:=yD (cL E5 K0)
 have HK1:=yD (cL E5 K1)
 have HO8_:=HO8.out.below E5
 clear HO8
 have HO8:=yD HO8_
 have EE:=(tQ E E5)
 have z5:=E5.size
 clear hown hbel O0 E5 hz K0 K1 HO8_ E
 go_wp2
 go_loopw [9,10] (fun v i wr=>∃ (k:Nat) (out:List yf),k≤p.length∧k≤n.length∧i=.int .i64 k∧Hid (mAt p n l k=(0,out))∧out.length≤l.length + k∧Hid (Rep.kg 284 yL wr v out (Btw w4.heap.size wr.heap.size))∧Below w4.heap.size w5 wr) (fun _ i _=>p.length - (intOf i).toNat)
 case atStart=>exact ⟨0,l,Nat.zero_le _,Nat.zero_le _,rfl,yD rfl,by omega,HO9,bR⟩
 clear HO9
 obtain ⟨k,out,hk,hkn,rfl,HA,hol,HO,hbel⟩:=hrel
 obtain ⟨oa,on,oc,ho,HON⟩:=HO.out.parts;obtain rfl:=ho
 have ER:=EE.trans (hbel.mono rP)
 have zr:=hbel.size
 have K0:=(hbel.cell (p:=⟨w.heap.size,0,none⟩) (by simp only;omega)).trans HK0.out
 have K1:=(hbel.cell (p:=⟨w.heap.size + 1,0,none⟩) (by simp only;omega)).trans HK1.out
 have HO8r:=yD (HO8.out.keep (w':=wr) (fun j hj _=>hbel.block j (by have:=hj.2;omega)))
 by_cases hlt:k < p.length
 · obtain ⟨sb,so,rfl,c0,sr,As⟩:=Rep.kAy (HP.out.below ER) hlt rfl
   obtain ⟨he,hsz⟩:=Rep.yQ sr
   obtain rfl:c0=_:=by simpa using he
   have mf:=fun o2 q=>m_fail (out2:=o2) hlt HA.out q
   have md:=fun o2 q=>m_done (out2:=o2) HV.out hlt HA.out q
   have mg:=fun o2 q=>mAt_go (t3:=0) (out3:=o2) hlt HA.out q
   generalize p[k]=s at *
   have MF:=yD mf;have MD:=yD md;have MGO:=yD mg
   clear mf md mg he sr
   cases h2:kEg s
   case true =>
    have hs2:(s.toList==[42,42])=true:=h2
    have M:=yD (MD.out _ (ms_star2 h2))
    go_wp2
    refine bodyPost_ret (v:=.tuple #[.slice oa on oc,.bool true]) gT rfl ?_
    exact ⟨_,by rw [M.out.1],(HO.out.cast M.out.2.symm).wide mI,ER⟩
   have hs2:(s.toList==[42,42])=false:=h2
   have H2:=yD h2;clear h2
   by_cases hkl:k < n.length
   case neg =>
    have hge:(k:Int) ≥ n.length:=rP
    have M:=yD (MF.out _ (ms_short (s:=s) H2.out (show n.length≤k by omega)))
    go_wp2
    refine bodyPost_ret (v:=.tuple #[.slice a8 n8 c8,.bool false]) gT rfl ?_
    exact ⟨_,by rw [M.out.1],(HO8r.out.cast M.out.2.symm).wide fG,ER⟩
   have hge:¬ ((k:Int) ≥ n.length):=rP
   obtain ⟨tb_,to_,rfl,c1,tr,Bn⟩:=Rep.kAy (HN.out.below ER) hkl rfl
   obtain ⟨he,htz⟩:=Rep.yQ tr
   obtain rfl:c1=_:=by simpa using he
   have ht8:=kEz HVN.out hkl
   have HX1:=yD (fun q1=>ms_star1 (s:=s) (out:=out) H2.out hkl q1)
   have HX2:=yD (fun q1 q2 q3=>ms_new (s:=s) (out:=out) H2.out hkl q1 q2 q3)
   have HX3:=yD (fun q1 q2 j q3 q4 q5=>ms_old (s:=s) (out:=out) (j:=j) H2.out hkl q1 q2 q3 q4 q5)
   have HX4:=yD (fun q1 q2 j q3 q4 q5=>ms_other (s:=s) (out:=out) (j:=j) H2.out hkl q1 q2 q3 q4 q5)
   have HX5:=yD (fun q1 q2 q3=>ms_same (s:=s) (out:=out) H2.out hkl q1 q2 q3)
   have HX6:=yD (fun q1 q2 q3=>ms_diff (s:=s) (out:=out) H2.out hkl q1 q2 q3)
   generalize n[k]=t at *
   clear he tr
   cases h1:kFa s
   case true =>
    have hs1:(s.toList==[42])=true:=h1
    have MG:=yD (MGO.out _ (HX1.out h1))
    clear h1
    go_wp2
    go_roundw
    case rel=>exact ⟨k + 1,_,by omega,by omega,by go_num,MG,by omega,HO,hbel⟩
    simp [intOf];omega
   have hs1:(s.toList==[42])=false:=h1
   have H1:=yD h1;clear h1
   go_wp2_with fail
   refine (kFb hsz).mono ?_
   rintro e w6 ⟨rfl,hw⟩
   obtain rfl:=hw.symm
   cases hL:isLet s
   case false =>
    cases hq:(s.toList==t.toList)
    · have M:=yD (MF.out _ (HX6.out H1.out hL hq))
      clear hL
      go_wp2
      refine bodyPost_ret (v:=.tuple #[.slice a8 n8 c8,.bool false]) gT rfl ?_
      exact ⟨_,by rw [M.out.1],(HO8r.out.cast M.out.2.symm).wide fG,ER⟩
    have MG:=yD (MGO.out _ (HX5.out H1.out hL hq))
    clear hL
    go_wp2
    go_roundw
    case rel=>exact ⟨k + 1,_,by omega,by omega,by go_num,MG,by omega,HO,hbel⟩
    simp [intOf];omega
   have HLt:=yD hL;clear hL
   have hs22:=kSa HLt.out
   go_wp2_with fail
   refine (kVn ((HO.out.own qF).raw)).mono ?_
   rintro e w7 ⟨rfl,hw⟩
   obtain rfl:=hw.symm
   by_cases hi:idxOf (isB s) out < 0
   · have MG:=yD (MGO.out _ (HX2.out H1.out HLt.out hi))
     go_wp2_with (at_builtin;refine Rep.jZ rfl _ _ 276 rfl (r:=yL) (e:=284) Tryz.underlying276 kFg rfl rM rM (B:=w4.heap.size) HO.out rR rR rfl ((kVj (s:=s) (t:=t) qF qF) _) rfl (fun _ _ h=>h) mH (fun _ h=>h.elim) rP rP ?_)
     intro v8 w8 ho8 hb8 hz8
     obtain ⟨oa8,on8,oc8,hv8,HON8⟩:=ho8.parts;obtain rfl:=hv8
     have HO2:=yD ho8
     have hbel8:=hbel.trans hb8
     clear ho8 hb8 HO hbel hi
     go_wp2
     go_roundw
     case rel=>exact ⟨k + 1,_,by omega,by omega,by go_num,MG,by simp;omega,HO2,hbel8⟩
     simp [intOf];omega
   obtain ⟨j,hj,hji⟩:=kIn hi
   have HX3':=yD (fun q=>HX3.out H1.out HLt.out j hj hji q)
   have HX4':=yD (fun q=>HX4.out H1.out HLt.out j hj hji q)
   obtain ⟨qb,qo,hqe,qc0,qc1,qr,Aq0,Aq1⟩:=Rep.kEk (HO.out.own qF).raw hj rfl
   obtain rfl:=hqe
   rw [hji]
   clear HX3 HX4 hji hi
   generalize out[j]=q at *
   obtain ⟨q0,q1⟩:=q
   obtain ⟨qhe,q_0,q_1⟩:=kEu qr
   simp only [List.cons.injEq,and_true] at qhe
   obtain ⟨rfl,rfl⟩:=qhe
   have hjl:=HON.out
   have hj2:(j:Int) < on:=rP
   have hj0:=Int.natCast_nonneg j
   have hjo:¬ ((j:Int) < 0):=rP
   clear hjl
   go_upto_region 18 with fail
   have FX:=yD (fun (W:World) (hW:Below wr.heap.size wr W)=>cLs3 hW K1 Bn Aq1)
   refine jB (fun W=>Below wr.heap.size wr W) [true,true,true,true,true,true,true,true,true,true,true] rF rF gX (bR.drew) ?_
   intro wS HS
   iterate 10
    all_goals refine wkR ?_
   all_goals (have hg10:=True.intro;first|(refine wkG (fun b hg10=>?_);cases b;all_goals first | exact Bool.noConfusion hg10 | simp only [zU,zV] at hg10 | skip) | refine wkR ?_)
   all_goals refine wkP ?_
   all_goals refine jA ?_
   all_goals have HO_:=HO.out.below HS
   all_goals have HO8_:=HO8r.out.below HS
   all_goals have ER2:=(tQ ER HS)
   all_goals have hbel2:=hbel.trans (HS.mono rP)
   all_goals have zS:=HS.size
   all_goals clear HO HO8r hbel ER HS
   all_goals first
     | (have M:=yD (MF.out _ (HX4'.out (show (q1.toList==t.toList)=false by simp only [hg10,Bool.not_true,Bool.not_false])));(try clear hg10);go_wp2;(refine bodyPost_ret (v:=.tuple #[.slice a8 n8 c8,.bool false]) gT rfl ?_);exact ⟨_,by rw [M.out.1],(HO8_.cast M.out.2.symm).wide fG,ER2⟩)
     | (have MG:=yD (MGO.out _ (HX3'.out (show (q1.toList==t.toList)=true by simp only [hg10,Bool.not_true,Bool.not_false])));(try clear hg10);go_wp2;go_roundw;(case rel=>exact ⟨k + 1,_,by omega,by omega,by go_num,MG,by omega,yD (HO_.wide mH),hbel2⟩);(case measure=>simp [intOf];omega))
 by_cases hnl:n.length=p.length
 · have M:=yD (m_over HV.out hlt hk HA.out hnl)
   have hnI:((n.length:Int) != p.length)=false:=rG
   have hnN:(n.length != p.length)=false:=rG
   clear hnl
   go_wp2
   refine bodyPost_ret (v:=.tuple #[.slice oa on oc,.bool true]) gT rfl ?_
   exact ⟨_,by rw [M.out.1],(HO.out.cast M.out.2.symm).wide mI,ER⟩
 have M:=yD (m_long hlt hk HA.out hnl)
 have hnI:((n.length:Int) != p.length)=true:=rG
 have hnN:(n.length != p.length)=true:=rG
 go_wp2
 refine bodyPost_ret (v:=.tuple #[.slice a8 n8 c8,.bool false]) gT rfl ?_
 exact ⟨_,by rw [M.out.1],(HO8r.out.cast M.out.2.symm).wide fG,ER⟩
theorem kOy {w:World} {cp:List Value} {p:yV} (hp:yU.raw w cp p) {cn:List Value} {n:kW} (hn:kL.raw w cn n) {vl:Value} {l:List yf} (hl:(Rep.slice 284 yL).rd w [vl] l) (hll:l.length≤1000) :
    Calls Tryz.prog 249 #[.agg cp.toArray,.agg cn.toArray,vl] w fun e w'=>∃ v,e=.returned (.tuple #[v,.bool (kDl p n l)])∧Rep.kg 284 yL w' v (ptB p n l) (Btw w.heap.size w'.heap.size)∧Below w.heap.size w w':=by
 obtain ⟨pv,rfl,p_0⟩:=yc hp
 obtain ⟨ap,capp,rfl,lp⟩:=Rep.sl p_0
 obtain ⟨nv,rfl,n_0⟩:=kM hn
 obtain ⟨an,capn,rfl,ln⟩:=Rep.sl n_0
 obtain ⟨al,cal,rfl,ll⟩:=Rep.sl hl.1
 have HP:=yD p_0
 have HN:=yD n_0
 have HPR:=yD hp
 have HNR:=yD hn
 have HL:=yD hl
 clear hp hn p_0 n_0 hl
 go_enter Tryz.func249,Tryz.ntmps249
 go_upto_region 1 with fail
 generalize hwB:World.alloc (World.alloc w _) _=wB
 have EB:Below w.heap.size w wB:=by rw [← hwB];exact bH
 have zB:w.heap.size + 2≤wB.heap.size:=qK
 have K0:wB.cell? ⟨w.heap.size,0,none⟩=some (.slice ap p.length capp):=nV
 have K1:wB.cell? ⟨w.heap.size + 1,0,none⟩=some (.slice an n.length capn):=nV
 clear hwB
 go_wp2_with fail
 refine (kBo (HL.out.below EB)).mono ?_
 rintro e w2 ⟨v2,rfl,hown,E2⟩
 obtain ⟨a8,n8,c8,hv8,HN8⟩:=hown.parts
 obtain rfl:=hv8
 have HO8:=yD hown
 replace K0:=cL E2 K0
 replace K1:=cL E2 K1
 have E:=(tQ EB E2)
 have z2:=E2.size
 clear hown E2 EB
 go_wp2_with fail
 refine (kCw (HPR.out.below E)).mono ?_
 rintro e w3 ⟨rfl,hb3⟩
 replace K0:=cL hb3 K0
 replace K1:=cL hb3 K1
 have HO8_:=HO8.out.below hb3
 clear HO8
 have HO8:=yD HO8_
 clear HO8_
 replace E:=(tQ E hb3)
 have z3:=hb3.size
 clear hb3
 cases hvp:kCl p
 · have M:=yD (kJd (p:=p) (n:=n) (l:=l) (by rw [hvp];rfl))
   go_wp2
   refine bodyPost_ret (v:=.tuple #[.slice a8 n8 c8,.bool false]) gU rfl ?_
   exact ⟨_,by rw [M.out.1],(HO8.out.cast M.out.2.symm).wide fG,E⟩
 go_wp2_with fail
 refine (kBl (HNR.out.below E)).mono ?_
 rintro e w4 ⟨rfl,hb4⟩
 replace K0:=cL hb4 K0
 replace K1:=cL hb4 K1
 have HO8_:=HO8.out.below hb4
 clear HO8
 have HO8:=yD HO8_
 clear HO8_
 replace E:=(tQ E hb4)
 have z4:=hb4.size
 clear hb4
 cases hvn:kAu n
 · have M:=yD (kJd (p:=p) (n:=n) (l:=l) (by rw [hvn];simp))
   go_wp2
   refine bodyPost_ret (v:=.tuple #[.slice a8 n8 c8,.bool false]) gU rfl ?_
   exact ⟨_,by rw [M.out.1],(HO8.out.cast M.out.2.symm).wide fG,E⟩
 have HV:Hid ((kCl p && kAu n)=true):=yD (by rw [hvp,hvn];rfl)
 have hp6:=kQr hvp
 have HVN:=yD hvn
 have HK0:=yD K0
 have HK1:=yD K1
 have HO8w:=yD (HO8.out.wide (T:=Btw wB.heap.size w4.heap.size) mH)
 clear HO8
 go_wp2
 clear K0 K1
 go_loopw [8,27] (fun v i wr=>∃ (k:Nat) (out:List yf),k≤p.length∧k≤n.length∧i=.int .i64 k∧Hid (mAt p n l k=(0,out))∧out.length≤l.length + k∧Hid (Rep.kg 284 yL wr v out (Btw wB.heap.size wr.heap.size))∧Below wB.heap.size w4 wr) (fun _ i _=>p.length - (intOf i).toNat)
 case atStart=>exact ⟨0,l,Nat.zero_le _,Nat.zero_le _,rfl,yD rfl,by omega,HO8w,bR⟩
 clear HO8w
 obtain ⟨k,out,hk,hkn,rfl,HA,hol,HO,hbel⟩:=hrel
 obtain ⟨oa,on,oc,ho,HON⟩:=HO.out.parts;obtain rfl:=ho
 have ER:=E.trans (hbel.mono rP)
 have zr:=hbel.size
 have K0:=(hbel.cell (p:=⟨w.heap.size,0,none⟩) (by simp only;omega)).trans HK0.out
 have K1:=(hbel.cell (p:=⟨w.heap.size + 1,0,none⟩) (by simp only;omega)).trans HK1.out
 by_cases hlt:k < p.length
 · obtain ⟨sb,so,rfl,c0,sr,As⟩:=Rep.kAy (HP.out.below ER) hlt rfl
   obtain ⟨he,hsz⟩:=Rep.yQ sr
   obtain rfl:c0=_:=by simpa using he
   have mf:=fun o2 q=>m_fail (out2:=o2) hlt HA.out q
   have md:=fun o2 q=>m_done (out2:=o2) HV.out hlt HA.out q
   have mg:=fun o2 q=>mAt_go (t3:=0) (out3:=o2) hlt HA.out q
   generalize p[k]=s at *
   have MF:=yD mf;have MD:=yD md;have MGO:=yD mg
   clear mf md mg he sr
   go_upto_region 7 with fail
   generalize hwC:World.alloc wr _=wC
   have EC:Below wr.heap.size wr wC:=by rw [← hwC];exact bH
   have KC:wC.cell? ⟨wr.heap.size,0,none⟩=some (.string s):=nW
   have zC:wr.heap.size + 1≤wC.heap.size:=qN
   clear hwC As
   replace K0:=cL EC K0
   replace K1:=cL EC K1
   replace HO:=yD ((HO.out.below EC).wide (T:=Btw wB.heap.size wC.heap.size) mH)
   replace ER:=(tQ ER EC)
   replace hbel:=hbel.trans (EC.mono rP)
   clear EC
   cases h2:kEg s
   case true =>
    have hs2:(s.toList==[42,42])=true:=h2
    have M:=yD (MD.out _ (ms_star2 h2))
    go_wp2
    refine bodyPost_ret (v:=.tuple #[.slice oa on oc,.bool true]) gU rfl ?_
    exact ⟨_,by rw [M.out.1],(HO.out.cast M.out.2.symm).wide mI,ER⟩
   have hs2:(s.toList==[42,42])=false:=h2
   have H2:=yD h2;clear h2
   by_cases hkl:k < n.length
   case neg =>
    have hge:(k:Int) ≥ n.length:=rP
    have M:=yD (MF.out _ (ms_short (s:=s) H2.out (show n.length≤k by omega)))
    go_wp2_with fail
    refine (kBo (HL.out.below ER)).mono ?_
    rintro e w9 ⟨v9,rfl,O9,hb9⟩
    obtain ⟨a9,n9,c9,hv9,HN9⟩:=O9.parts
    obtain rfl:=hv9
    have E9:=ER.trans (hb9.mono (ER).size)
    have z9:=(ER).size
    have z99:=hb9.size
    go_wp2
    refine bodyPost_ret (v:=.tuple #[.slice a9 n9 c9,.bool false]) gU rfl ?_
    exact ⟨_,by rw [M.out.1],(O9.cast M.out.2.symm).wide mI,E9⟩
   have hge:¬ ((k:Int) ≥ n.length):=rP
   have hklI:(k:Int) < n.length:=rP
   obtain ⟨tb_,to_,rfl,c1,tr,Bn⟩:=Rep.kAy (HN.out.below ER) hkl rfl
   obtain ⟨he,htz⟩:=Rep.yQ tr
   obtain rfl:c1=_:=by simpa using he
   have ht8:=kEz HVN.out hkl
   have HX1:=yD (fun q1=>ms_star1 (s:=s) (out:=out) H2.out hkl q1)
   have HX2:=yD (fun q1 q2 q3=>ms_new (s:=s) (out:=out) H2.out hkl q1 q2 q3)
   have HX3:=yD (fun q1 q2 j q3 q4 q5=>ms_old (s:=s) (out:=out) (j:=j) H2.out hkl q1 q2 q3 q4 q5)
   have HX4:=yD (fun q1 q2 j q3 q4 q5=>ms_other (s:=s) (out:=out) (j:=j) H2.out hkl q1 q2 q3 q4 q5)
   have HX5:=yD (fun q1 q2 q3=>ms_same (s:=s) (out:=out) H2.out hkl q1 q2 q3)
   have HX6:=yD (fun q1 q2 q3=>ms_diff (s:=s) (out:=out) H2.out hkl q1 q2 q3)
   generalize n[k]=t at *
   clear he tr
   go_wp2_with fail
   refine (kJw (isB s) kHx ((HO.out.own qF).raw) ?_).mono ?_
   · intro wx hb i h cs hr
     exact kVv hr (cL hb KC)
   rintro e w6 ⟨rfl,hb6⟩
   have z6:=hb6.size
   replace KC:=cL hb6 KC
   replace K0:=cL hb6 K0
   replace K1:=cL hb6 K1
   replace HO:=yD ((HO.out.below hb6).wide (T:=Btw wB.heap.size w6.heap.size) mH)
   replace ER:=(tQ ER hb6)
   replace hbel:=hbel.trans (hb6.mono rP)
   clear hb6 Bn
   cases h1:kFa s
   case true =>
    have hs1:(s.toList==[42])=true:=h1
    have MG:=yD (MGO.out _ (HX1.out h1))
    clear h1
    go_wp2
    go_roundw
    case rel=>exact ⟨k + 1,_,by omega,by omega,by go_num,MG,by omega,HO,hbel⟩
    simp [intOf];omega
   have hs1:(s.toList==[42])=false:=h1
   have H1:=yD h1;clear h1
   go_wp2_with fail
   refine (kDy hsz).mono ?_
   rintro e w7 ⟨rfl,hw⟩
   obtain rfl:=hw.symm
   cases hL:isLet s
   case false =>
    cases hq:(s.toList==t.toList)
    · have M:=yD (MF.out _ (HX6.out H1.out hL hq))
      clear hL
      go_wp2_with fail
      refine (kBo (HL.out.below ER)).mono ?_
      rintro e w9 ⟨v9,rfl,O9,hb9⟩
      obtain ⟨a9,n9,c9,hv9,HN9⟩:=O9.parts
      obtain rfl:=hv9
      have E9:=ER.trans (hb9.mono (ER).size)
      have z9:=(ER).size
      have z99:=hb9.size
      go_wp2
      refine bodyPost_ret (v:=.tuple #[.slice a9 n9 c9,.bool false]) gU rfl ?_
      exact ⟨_,by rw [M.out.1],(O9.cast M.out.2.symm).wide mI,E9⟩
    have MG:=yD (MGO.out _ (HX5.out H1.out hL hq))
    clear hL
    go_wp2
    go_roundw
    case rel=>exact ⟨k + 1,_,by omega,by omega,by go_num,MG,by omega,HO,hbel⟩
    simp [intOf];omega
   have HLt:=yD hL;clear hL
   have hs22:=kSa HLt.out
   by_cases hi:idxOf (isB s) out < 0
   · have MG:=yD (MGO.out _ (HX2.out H1.out HLt.out hi))
     go_wp2_with (at_builtin;refine Rep.jZ rfl _ _ 276 rfl (r:=yL) (e:=284) Tryz.underlying276 kFg rfl rM rM (B:=wB.heap.size) HO.out rR rR rfl ((kVj (s:=s) (t:=t) qF qF) _) rfl (fun _ _ h=>h) mH (fun _ h=>h.elim) rP rP ?_)
     intro v8 w8 ho8 hb8 hz8
     obtain ⟨oa8,on8,oc8,hv8,HON8⟩:=ho8.parts;obtain rfl:=hv8
     have HO2:=yD ho8
     have hbel8:=hbel.trans hb8
     clear ho8 hb8 HO hbel hi
     go_wp2
     go_roundw
     case rel=>exact ⟨k + 1,_,by omega,by omega,by go_num,MG,by simp;omega,HO2,hbel8⟩
     simp [intOf];omega
   obtain ⟨j,hj,hji⟩:=kIn hi
   have HX3':=yD (fun q=>HX3.out H1.out HLt.out j hj hji q)
   have HX4':=yD (fun q=>HX4.out H1.out HLt.out j hj hji q)
   obtain ⟨qb,qo,hqe,qc0,qc1,qr,Aq0,Aq1⟩:=Rep.kEk (HO.out.own qF).raw hj rfl
   obtain rfl:=hqe
   rw [hji]
   clear HX3 HX4 hji hi
   generalize out[j]=q at *
   obtain ⟨q0,q1⟩:=q
   obtain ⟨qhe,q_0,q_1⟩:=kEu qr
   simp only [List.cons.injEq,and_true] at qhe
   obtain ⟨rfl,rfl⟩:=qhe
   have hjl:=HON.out
   have hj2:(j:Int) < on:=rP
   have hj3:j < on:=rP
   have hj0:=Int.natCast_nonneg j
   have hjo:¬ ((j:Int) < 0):=rP
   clear hjl
   cases hq:(q1.toList==t.toList)
   · have M:=yD (MF.out _ (HX4'.out hq))
     go_wp2_with fail
     refine (kBo (HL.out.below ER)).mono ?_
     rintro e w9 ⟨v9,rfl,O9,hb9⟩
     obtain ⟨a9,n9,c9,hv9,HN9⟩:=O9.parts
     obtain rfl:=hv9
     have E9:=ER.trans (hb9.mono (ER).size)
     have z9:=(ER).size
     have z99:=hb9.size
     go_wp2
     refine bodyPost_ret (v:=.tuple #[.slice a9 n9 c9,.bool false]) gU rfl ?_
     exact ⟨_,by rw [M.out.1],(O9.cast M.out.2.symm).wide mI,E9⟩
   have MG:=yD (MGO.out _ (HX3'.out hq))
   clear HX3' HX4'
   go_wp2
   go_roundw
   case rel=>exact ⟨k + 1,_,by omega,by omega,by go_num,MG,by omega,HO,hbel⟩
   simp [intOf];omega
 by_cases hnl:n.length=p.length
 · have M:=yD (m_over HV.out hlt hk HA.out hnl)
   have hnI:¬ ((n.length:Int) > p.length):=rP
   clear hnl
   go_wp2
   refine bodyPost_ret (v:=.tuple #[.slice oa on oc,.bool true]) gU rfl ?_
   exact ⟨_,by rw [M.out.1],(HO.out.cast M.out.2.symm).wide mI,ER⟩
 have M:=yD (m_long hlt hk HA.out hnl)
 have hnI:((n.length:Int) > p.length):=rP
 go_wp2_with fail
 refine (kBo (HL.out.below ER)).mono ?_
 rintro e w9 ⟨v9,rfl,O9,hb9⟩
 obtain ⟨a9,n9,c9,hv9,HN9⟩:=O9.parts
 obtain rfl:=hv9
 have E9:=ER.trans (hb9.mono (ER).size)
 have z9:=(ER).size
 have z99:=hb9.size
 go_wp2
 refine bodyPost_ret (v:=.tuple #[.slice a9 n9 c9,.bool false]) gU rfl ?_
 exact ⟨_,by rw [M.out.1],(O9.cast M.out.2.symm).wide mI,E9⟩
end Go.Proofs.YtlfblpgkegeaeaaGreat

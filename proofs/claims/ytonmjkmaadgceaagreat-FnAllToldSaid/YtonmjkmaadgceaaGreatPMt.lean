/-
  A pattern and a name: what the letters stand for.
-/
import Derived.Test.YtonmjkmaadgceaaGreatPat
set_option linter.unusedVariables false
set_option linter.unusedSimpArgs false
set_option linter.unnecessarySimpa false
set_option maxRecDepth 100000
set_option maxHeartbeats 4000000
namespace Go.Proofs.YtonmjkmaadgceaaGreat
open Go.RowKit _root_.Go.Proofs.Tryz
def isB (s:ByteArray) (b:zR):Bool:=b.1.toList==s.toList
def kBn (s:ByteArray) (n:kQ) (i:Nat) (out:List zR):Nat × List zR :=
  if kFf s=true then (1,out) else
  if n.length≤i then (2,out) else
  if kGk s=true then (0,out) else
  if isLet s=true then
    (if idxOf (isB s) out < 0 then (0,out++[(s,n.getD i ByteArray.empty)]) else
     if ((out.getD (idxOf (isB s) out).toNat (ByteArray.empty,ByteArray.empty)).2.toList==(n.getD i ByteArray.empty).toList)=true then (0,out) else (2,out)) else
  if (s.toList==(n.getD i ByteArray.empty).toList)=true then (0,out) else (2,out)
def mAt (p:zQ) (n:kQ) (l:List zR):Nat→Nat × List zR
  | 0=>(0,l)
  | k + 1=>if (mAt p n l k).1=0 then kBn (p.getD k ByteArray.empty) n k (mAt p n l k).2 else mAt p n l k
def kFj (p:zQ) (n:kQ) (l:List zR):Bool:=(kDi p && yZ n) && (((mAt p n l p.length).1==1) || (((mAt p n l p.length).1==0) && (n.length==p.length)))
def ptB (p:zQ) (n:kQ) (l:List zR):List zR:=if kFj p n l=true then (mAt p n l p.length).2 else l
section
variable {p:zQ} {n:kQ} {l out out2:List zR} {k:Nat} {s:ByteArray}
theorem mAt_stay (h:(mAt p n l k).1≠0):∀ d,mAt p n l (k + d)=mAt p n l k
  | 0=>rfl
  | d + 1=>by
    have ih:=mAt_stay h d
    show (if (mAt p n l (k + d)).1=0 then _ else mAt p n l (k + d))=_
    rw [ih,if_neg h]
theorem mAt_go {t3:Nat} {out3:List zR} (hk:k < p.length) (h:mAt p n l k=(0,out)) (hs:kBn p[k] n k out=(t3,out3)):mAt p n l (k + 1)=(t3,out3):=by
 show (if (mAt p n l k).1=0 then kBn (p.getD k ByteArray.empty) n k (mAt p n l k).2 else _)=_
 rw [h,jM hk]
 exact hs
theorem mAt_end (hk:k < p.length) (h:mAt p n l k=(0,out)) {t:Nat} (ht:t≠0) (hs:kBn p[k] n k out=(t,out2)):mAt p n l p.length=(t,out2):=by
 have h1:=mAt_go hk h hs
 have h2:=mAt_stay (p:=p) (n:=n) (l:=l) (k:=k + 1) (by rw [h1];exact ht) (p.length - (k + 1))
 rw [show k + 1 + (p.length - (k + 1))=p.length by omega] at h2
 rw [h2,h1]
theorem kVn (h:(kDi p && yZ n)=false):kFj p n l=false∧ptB p n l=l:=by
 have:kFj p n l=false:=by unfold kFj;rw [h];rfl
 exact ⟨this,by unfold ptB;rw [if_neg qP]⟩
theorem m_fail (hk:k < p.length) (h:mAt p n l k=(0,out)) (hs:kBn p[k] n k out=(2,out2)):kFj p n l=false∧ptB p n l=l:=by
 have e:=mAt_end hk h bB8 hs
 have:kFj p n l=false:=by unfold kFj;rw [e];simp
 exact ⟨this,by unfold ptB;rw [if_neg qP]⟩
theorem m_done (hv:(kDi p && yZ n)=true) (hk:k < p.length) (h:mAt p n l k=(0,out)) (hs:kBn p[k] n k out=(1,out2)):kFj p n l=true∧ptB p n l=out2:=by
 have e:=mAt_end hk h bB8 hs
 have:kFj p n l=true:=by unfold kFj;rw [e,hv];rfl
 exact ⟨this,by unfold ptB;rw [if_pos this,e]⟩
theorem m_over (hv:(kDi p && yZ n)=true) (hk:¬ k < p.length) (en:k≤p.length) (h:mAt p n l k=(0,out)) (hn:n.length=p.length):kFj p n l=true∧ptB p n l=out:=by
 obtain rfl:k=p.length:=bB9
 have:kFj p n l=true:=by unfold kFj;rw [h,hv,hn];simp
 exact ⟨this,by unfold ptB;rw [if_pos this,h]⟩
theorem m_long (hk:¬ k < p.length) (en:k≤p.length) (h:mAt p n l k=(0,out)) (hn:n.length≠p.length):kFj p n l=false∧ptB p n l=l:=by
 obtain rfl:k=p.length:=bB9
 have:kFj p n l=false:=by unfold kFj;rw [h];simp [hn]
 exact ⟨this,by unfold ptB;rw [if_neg qP]⟩
theorem ms_star2 (h:kFf s=true):kBn s n k out=(1,out):=by unfold kBn;rw [if_pos h]
theorem ms_short (h:kFf s=false) (h2:n.length≤k):kBn s n k out=(2,out):=by unfold kBn;rw [if_neg rC,if_pos h2]
theorem ms_star1 (h:kFf s=false) (h2:k < n.length) (h3:kGk s=true):kBn s n k out=(0,out):=by unfold kBn;rw [if_neg rC,if_neg bB9,if_pos h3]
theorem ms_new (h:kFf s=false) (h2:k < n.length) (h3:kGk s=false) (h4:isLet s=true) (h5:idxOf (isB s) out < 0):kBn s n k out=(0,out++[(s,n[k])]):=by
 unfold kBn;rw [if_neg rC,if_neg bB9,if_neg qX,if_pos h4,if_pos h5,jM h2]
theorem ms_old (h:kFf s=false) (h2:k < n.length) (h3:kGk s=false) (h4:isLet s=true) {j:Nat} (I:j < out.length) (h5:idxOf (isB s) out=j) (h6:(out[j].2.toList==n[k].toList)=true):kBn s n k out=(0,out):=by
 unfold kBn;rw [if_neg rC,if_neg bB9,if_neg qX,if_pos h4,if_neg (by rw [h5];omega),h5,Int.toNat_natCast,jM I,jM h2,if_pos h6]
theorem ms_other (h:kFf s=false) (h2:k < n.length) (h3:kGk s=false) (h4:isLet s=true) {j:Nat} (I:j < out.length) (h5:idxOf (isB s) out=j) (h6:(out[j].2.toList==n[k].toList)=false):kBn s n k out=(2,out):=by
 unfold kBn;rw [if_neg rC,if_neg bB9,if_neg qX,if_pos h4,if_neg (by rw [h5];omega),h5,Int.toNat_natCast,jM I,jM h2,if_neg (by rw [h6];exact Bool.false_ne_true)]
theorem ms_same (h:kFf s=false) (h2:k < n.length) (h3:kGk s=false) (h4:isLet s=false) (h6:(s.toList==n[k].toList)=true):kBn s n k out=(0,out):=by
 unfold kBn;rw [if_neg rC,if_neg bB9,if_neg qX,if_neg (by rw [h4];exact Bool.false_ne_true),jM h2,if_pos h6]
theorem ms_diff (h:kFf s=false) (h2:k < n.length) (h3:kGk s=false) (h4:isLet s=false) (h6:(s.toList==n[k].toList)=false):kBn s n k out=(2,out):=by
 unfold kBn;rw [if_neg rC,if_neg bB9,if_neg qX,if_neg (by rw [h4];exact Bool.false_ne_true),jM h2,if_neg (by rw [h6];exact Bool.false_ne_true)]
theorem mStep_len:(kBn s n k out).2.length≤out.length + 1:=by
 unfold kBn
 split
 · simp
 split
 · simp
 split
 · simp
 split
 · split
   · simp
   split <;> simp
 split <;> simp
theorem mAt_len:∀ k,(mAt p n l k).2.length≤l.length + k
  | 0=>Nat.le_refl _
  | k + 1=>by
    have ih:=mAt_len k
    show (if (mAt p n l k).1=0 then kBn (p.getD k ByteArray.empty) n k (mAt p n l k).2 else mAt p n l k).2.length≤_
    split
    · have:=mStep_len (s:=p.getD k ByteArray.empty) (n:=n) (k:=k) (out:=(mAt p n l k).2);omega
    · omega
theorem mB_len (hp:p.length≤6∨kDi p=false):(ptB p n l).length≤l.length + 6:=by
 unfold ptB
 split
 · rename_i h
   have:=mAt_len (p:=p) (n:=n) (l:=l) p.length
   rcases hp with hp | hp
   · omega
   unfold kFj at h;rw [hp] at h;cases h
 omega
theorem vPat_len (h:kDi p=true):p.length≤6:=by unfold kDi at h;simp only [Bool.and_eq_true,decide_eq_true_eq] at h;exact h.2
theorem mB_len6:(ptB p n l).length≤l.length + 6:=by
 cases h:kDi p
 · exact mB_len (.inr h)
 exact mB_len (.inl (vPat_len h))
end
theorem kLe {w:World} {va:Value} {x:List zR} {g:FuncId} {cp:Array Value} (p:zR→Bool) (hg:jb prog g) (ha:(kE.slice 223 kAk).raw w [va] x)
    (N:∀ wr,Below w.heap.size w wr→∀ (i:Nat) (h:i < x.length) cs,kAk.raw wr cs x[i]→Calls prog g (#[.agg cs.toArray]++cp) wr (fun e w'=>e=.returned (.bool (p x[i]))∧Below wr.heap.size wr w')) :
    Calls prog 199 #[va,.func (.func g) #[] cp] w (bQ w (.int .i64 (idxOf p x))):=by
 obtain ⟨aa,J,rfl,la⟩:=kE.sl ha
 have bf:=yD N;clear N
 unfold jb at hg
 go_enter func199,ntmps199
 exact l8
theorem flatBinding:kAk.kDq:=kE.kKi kE.kCg kE.kCg
theorem kBr {w:World} {va:Value} {x:List zR} (ha:(kE.slice 223 kAk).rd w [va] x):Calls prog 197 #[va] w (zz 223 kAk x w):=by
 obtain ⟨aa,J,rfl,la⟩:=kE.sl ha.1
 have HA:=yD ha
 have E:=fun (W:World) (a:Option Addr) (n c:Nat)=>Lib.run_eql_slice_nil (P:=prog) W 213 223 a n c 0 0 underlying213
 cases aa with
 | none =>
   have hx:x=[]:=by
     cases x with
     | nil=>rfl
     | cons y ys =>
       exact aJ
   subst hx
   clear ha
   go_enter func197,ntmps197
   go_wp2
   go_ret
   exact ⟨_,rfl,kE.ku.nil,bR⟩
 | some a =>
   have hb:x.length≤16777216:=ha.2.1
   clear ha
   go_enter func197,ntmps197
   have O0:kE.ku 223 kAk (w.alloc (.cells #[] 223)) (.slice (some ⟨w.heap.size,0,none⟩) 0 0) [] (fun k=>k=w.heap.size):=kE.yV (cs:=[]) (xs:=[]) (T:=fun _=>False) bC0 bC0 rfl (fun _ h=>h.elim) rfl
   go_wp2_with (at_builtin;refine kE.yF rfl _ _ 213 rfl (r:=kAk) (e:=223) underlying213 kTg rfl bB8 bB8 flatBinding (B:=w.heap.size) O0 bC1 bC1 (HA.out.alloc _) qZ bC0 bB5 ?_)
   exact iF
theorem kWu {w:World} {cb:List Value} {b:zR} (hb:kAk.raw w cb b) {s:ByteArray} {E:Nat} (A:w.cell? ⟨E,0,none⟩=some (.string s)) :
    Calls prog 200 (#[.agg cb.toArray]++#[.pointer (some ⟨E,0,none⟩)]) w (bQ w (.bool (isB s b))):=by
 obtain ⟨D,b1⟩:=b
 obtain ⟨rfl,a4,dg⟩:=kOk hb
 clear hb
 have U:=yD (show isB s (D,b1)=(D.toList==s.toList) from rfl)
 show Calls prog 200 #[_,_] w _
 go_enter func200,ntmps200
 go_upto_region 1 with fail
 generalize H:World.alloc w _=N
 have Z:Below w.heap.size w N:=by rw [← H];exact bI
 have K0:N.cell? ⟨w.heap.size,0,none⟩=some (.string D):=tN
 clear H
 replace A:=cL Z A
 go_wp2
 go_ret
 exact ⟨kR U.out.symm,Z⟩
theorem kJr:jb prog 200:=zY func200 bB4 bB4
theorem kNz {α:Type} {p:α→Bool} {x:List α} (h:¬ idxOf p x < 0):∃ j:Nat,j < x.length∧idxOf p x=(j:Int):=by
 unfold idxOf at h ⊢
 cases hf:x.findIdx? p with
 | none=>rw [hf] at h;exact absurd bB8 h
 | some i=>exact ⟨i,(List.findIdx?_eq_some_iff_getElem.1 hf).1,rfl⟩
theorem isLet_size {s:ByteArray} (h:isLet s=true):s.size=2:=by unfold isLet at h;simp only [Bool.and_eq_true,decide_eq_true_eq] at h;exact h.1
theorem bind_flat {s t:ByteArray} (hs:s.size≤Big) (ht:t.size≤Big):kAk.flat [.string s,.string t] (s,t):=kE.jr (cs:=[.string s]) (ds:=[.string t]) (kE.kCy hs) (kE.kCy ht)
theorem kQn {w:World} {cp:List Value} {p:zQ} (hp:yw.raw w cp p) {cn:List Value} {n:kQ} (hn:kM.raw w cn n) {vl:Value} {l:List zR} (hl:(kE.slice 223 kAk).rd w [vl] l) (b5:l.length≤1000) :
    Calls prog 186 #[.agg cp.toArray,.agg cn.toArray,vl] w fun e w'=>∃ v,e=.returned (.tuple #[v,.bool (kFj p n l)])∧kE.ku 223 kAk w' v (ptB p n l) (jR w.heap.size w'.heap.size)∧Below w.heap.size w w':=by
 obtain ⟨pv,rfl,a5⟩:=kCr hp
 obtain ⟨ap,bk,rfl,lp⟩:=kE.sl a5
 obtain ⟨nv,rfl,am⟩:=kU hn
 obtain ⟨an,aj,rfl,ln⟩:=kE.sl am
 obtain ⟨al,ce,rfl,ll⟩:=kE.sl hl.1
 have HP:=yD a5
 have HN:=yD am
 have bn:=yD hp
 have U:=yD hn
 have HL:=yD hl
 clear hp hn a5 am hl
 go_enter func186,ntmps186
 go_upto_region 1 with fail
 generalize H:World.alloc (World.alloc w _) _=N
 have Z:Below w.heap.size w N:=by rw [← H];exact bI
 have zB:w.heap.size + 2≤N.heap.size:=bA4
 have K0:N.cell? ⟨w.heap.size,0,none⟩=some (.slice ap p.length bk):=tN
 have K1:N.cell? ⟨w.heap.size + 1,0,none⟩=some (.slice an n.length aj):=tN
 clear H
 go_wp2_with fail
 refine (kBr (HL.out.below Z)).mono ?_
 rintro e V ⟨v2,rfl,hown,E2⟩
 obtain ⟨a8,n8,c8,a3,cd⟩:=hown.parts
 obtain rfl:=a3
 have bf:=yD hown
 replace K0:=cL E2 K0
 replace K1:=cL E2 K1
 have E:=(tQ Z E2)
 have z2:=E2.size
 clear hown E2 Z
 go_wp2_with fail
 refine (kDo (bn.out.below E)).mono ?_
 rintro e w3 ⟨rfl,Y⟩
 replace K0:=cL Y K0
 replace K1:=cL Y K1
 have W:=bf.out.below Y
 clear bf
 have bf:=yD W
 clear W
 replace E:=(tQ E Y)
 have z3:=Y.size
 clear Y
 cases ba:kDi p
 · have M:=yD (kVn (p:=p) (n:=n) (l:=l) (by rw [ba];rfl))
   exact lF
 go_wp2_with fail
 refine (zX (U.out.below E)).mono ?_
 rintro e w4 ⟨rfl,X⟩
 replace K0:=cL X K0
 replace K1:=cL X K1
 have W:=bf.out.below X
 clear bf
 have bf:=yD W
 clear W
 replace E:=(tQ E X)
 have z4:=X.size
 clear X
 cases bu:yZ n
 · have M:=yD (kVn (p:=p) (n:=n) (l:=l) (by rw [bu];simp))
   exact lF
 have HV:Hid ((kDi p && yZ n)=true):=yD (by rw [ba,bu];rfl)
 have b9:=vPat_len ba
 have be:=yD bu
 have af:=yD K0
 have br:=yD K1
 have aw:=yD (bf.out.wide (T:=jR N.heap.size w4.heap.size) rE)
 clear bf
 go_wp2
 clear K0 K1
 go_loopw [8,27] (fun v i wr=>∃ (k:Nat) (out:List zR),k≤p.length∧k≤n.length∧i=.int .i64 k∧Hid (mAt p n l k=(0,out))∧out.length≤l.length + k∧Hid (kE.ku 223 kAk wr v out (jR N.heap.size wr.heap.size))∧Below N.heap.size w4 wr) (fun _ i _=>p.length - (intOf i).toNat)
 case atStart=>exact ⟨0,l,Nat.zero_le _,Nat.zero_le _,rfl,yD rfl,by omega,aw,bR⟩
 clear aw
 obtain ⟨k,out,hk,a6,rfl,HA,cf,L,D⟩:=hrel
 obtain ⟨oa,on,oc,ho,bl⟩:=L.out.parts;obtain rfl:=ho
 have ER:=E.trans (D.mono bB9)
 have zr:=D.size
 have K0:=(D.cell (p:=⟨w.heap.size,0,none⟩) (by simp only;omega)).trans af.out
 have K1:=(D.cell (p:=⟨w.heap.size + 1,0,none⟩) (by simp only;omega)).trans br.out
 by_cases hlt:k < p.length
 · obtain ⟨sb,so,rfl,c0,sr,As⟩:=kE.kBo (HP.out.below ER) hlt rfl
   obtain ⟨he,b0⟩:=kE.yY sr
   obtain rfl:c0=_:=by simpa using he
   have mf:=fun o2 q=>m_fail (out2:=o2) hlt HA.out q
   have md:=fun o2 q=>m_done (out2:=o2) HV.out hlt HA.out q
   have mg:=fun o2 q=>mAt_go (t3:=0) (out3:=o2) hlt HA.out q
   generalize p[k]=s at *
   have MF:=yD mf;have MD:=yD md;have ao:=yD mg
   clear mf md mg he sr
   go_upto_region 7 with fail
   generalize F:World.alloc wr _=R
   have EC:Below wr.heap.size wr R:=by rw [← F];exact bI
   have KC:R.cell? ⟨wr.heap.size,0,none⟩=some (.string s):=tO
   have zC:wr.heap.size + 1≤R.heap.size:=bA3
   clear F As
   replace K0:=cL EC K0
   replace K1:=cL EC K1
   replace L:=yD ((L.out.below EC).wide (T:=jR N.heap.size R.heap.size) rE)
   replace ER:=(tQ ER EC)
   replace D:=D.trans (EC.mono bB9)
   clear EC
   cases h2:kFf s
   case true =>
    have c7:(s.toList==[42,42])=true:=h2
    have M:=yD (MD.out _ (ms_star2 h2))
    exact lG
   have c7:(s.toList==[42,42])=false:=h2
   have H2:=yD h2;clear h2
   by_cases aa:k < n.length
   case neg =>
    have ak:(k:Int) ≥ n.length:=bB9
    have M:=yD (MF.out _ (ms_short (s:=s) H2.out (show n.length≤k by omega)))
    exact lH
   have ak:¬ ((k:Int) ≥ n.length):=bB9
   have bj:(k:Int) < n.length:=bB9
   obtain ⟨bw,cc,rfl,c1,tr,Bn⟩:=kE.kBo (HN.out.below ER) aa rfl
   obtain ⟨he,bz⟩:=kE.yY tr
   obtain rfl:c1=_:=by simpa using he
   have ab:=kIm be.out aa
   have bp:=yD (fun q1=>ms_star1 (s:=s) (out:=out) H2.out aa q1)
   have b6:=yD (fun q1 q2 q3=>ms_new (s:=s) (out:=out) H2.out aa q1 q2 q3)
   have bi:=yD (fun q1 q2 j q3 q4 q5=>ms_old (s:=s) (out:=out) (j:=j) H2.out aa q1 q2 q3 q4 q5)
   have bh:=yD (fun q1 q2 j q3 q4 q5=>ms_other (s:=s) (out:=out) (j:=j) H2.out aa q1 q2 q3 q4 q5)
   have bm:=yD (fun q1 q2 q3=>ms_same (s:=s) (out:=out) H2.out aa q1 q2 q3)
   have bo:=yD (fun q1 q2 q3=>ms_diff (s:=s) (out:=out) H2.out aa q1 q2 q3)
   generalize n[k]=t at *
   clear he tr
   go_wp2_with fail
   refine (kLe (isB s) kJr ((L.out.own vV).raw) ?_).mono ?_
   · intro wx hb i h cs hr
     exact kWu hr (cL hb KC)
   rintro e w6 ⟨rfl,bd⟩
   have z6:=bd.size
   replace KC:=cL bd KC
   replace K0:=cL bd K0
   replace K1:=cL bd K1
   replace L:=yD ((L.out.below bd).wide (T:=jR N.heap.size w6.heap.size) rE)
   replace ER:=(tQ ER bd)
   replace D:=D.trans (bd.mono bB9)
   clear bd Bn
   cases h1:kGk s
   case true =>
    have b3:(s.toList==[42])=true:=h1
    have MG:=yD (ao.out _ (bp.out h1))
    clear h1
    exact lI
   have b3:(s.toList==[42])=false:=h1
   have H1:=yD h1;clear h1
   go_wp2_with fail
   refine (kEs b0).mono ?_
   rintro e w7 ⟨rfl,hw⟩
   obtain rfl:=hw.symm
   cases J:isLet s
   case false =>
    cases hq:(s.toList==t.toList)
    · have M:=yD (MF.out _ (bo.out H1.out J hq))
      clear J
      exact lH
    have MG:=yD (ao.out _ (bm.out H1.out J hq))
    clear J
    exact lI
   have ae:=yD J;clear J
   have bt:=isLet_size ae.out
   by_cases hi:idxOf (isB s) out < 0
   · have MG:=yD (ao.out _ (b6.out H1.out ae.out hi))
     go_wp2_with (at_builtin;refine kE.jK rfl _ _ 213 rfl (r:=kAk) (e:=223) underlying213 kTg rfl bB8 bB8 (B:=N.heap.size) L.out bC1 bC1 rfl ((bind_flat (s:=s) (t:=t) vV vV) _) rfl (fun _ _ h=>h) rE (fun _ h=>h.elim) bB9 bB9 ?_)
     intro v8 w8 a7 bc bx
     obtain ⟨b2,b4,b7,a3,bv⟩:=a7.parts;obtain rfl:=a3
     have ag:=yD a7
     have bg:=D.trans bc
     clear a7 bc L D hi
     go_wp2
     go_roundw
     case rel=>exact ⟨k + 1,_,by omega,by omega,by go_num,MG,by simp;omega,ag,bg⟩
     simp [intOf];omega
   obtain ⟨j,I,G⟩:=kNz hi
   have az:=yD (fun q=>bi.out H1.out ae.out j I G q)
   have ay:=yD (fun q=>bh.out H1.out ae.out j I G q)
   obtain ⟨qb,qo,cl,ah,ai,qr,a1,a4⟩:=kE.get2 (L.out.own vV).raw I rfl
   obtain rfl:=cl
   rw [G]
   clear bi bh G hi
   generalize out[j]=q at *
   obtain ⟨q0,q1⟩:=q
   obtain ⟨aq,ar,ax⟩:=kOk qr
   simp only [List.cons.injEq,and_true] at aq
   obtain ⟨rfl,rfl⟩:=aq
   have av:=bl.out
   have bq:(j:Int) < on:=bB9
   have b8:j < on:=bB9
   have da:=Int.natCast_nonneg j
   have b1:¬ ((j:Int) < 0):=bB9
   clear av
   cases hq:(q1.toList==t.toList)
   · have M:=yD (MF.out _ (ay.out hq))
     exact lH
   have MG:=yD (ao.out _ (az.out hq))
   clear az ay
   exact lI
 by_cases cq:n.length=p.length
 · have M:=yD (m_over HV.out hlt hk HA.out cq)
   have au:¬ ((n.length:Int) > p.length):=bB9
   clear cq
   exact lG
 have M:=yD (m_long hlt hk HA.out cq)
 have au:((n.length:Int) > p.length):=bB9
 exact lH
end Go.Proofs.YtonmjkmaadgceaaGreat

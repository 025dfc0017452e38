/-
  An action: a node and what it sends.
-/
import Derived.Test.YtonmjkmaadgceaaGreatDrawF
set_option linter.unusedVariables false
set_option linter.unusedSimpArgs false
set_option linter.unnecessarySimpa false
set_option maxRecDepth 100000
set_option maxHeartbeats 4000000
namespace Go.Proofs.YtonmjkmaadgceaaGreat.Srt
section
variable {α:Type} (key:α→Int)
def Asc (l:List α):Prop:=l.Pairwise (fun a b=>key a≤key b)
def Same (l E:List α):Prop:=∀ v,l.filter (fun x=>decide (key x=v))=E.filter (fun x=>decide (key x=v))
variable {key}
theorem Same.refl (l:List α):Same key l l:=fun _=>rfl
theorem Same.symm {l E:List α} (h:Same key l E):Same key E l:=fun v=>(h v).symm
theorem Same.trans {a b c:List α} (h:Same key a b) (k:Same key b c):Same key a c:=fun v=>(h v).trans (k v)
theorem Same.append {a a' b b':List α} (h:Same key a a') (k:Same key b b'):Same key (a++b) (a'++b'):=fun v=>by
  rw [List.filter_append,List.filter_append,h v,k v]
theorem Same.mem {l E:List α} (h:Same key l E) {x:α} (hx:x∈l):x∈E:=by
 have h1:x∈l.filter (fun y=>decide (key y=key x)):=by simp [hx]
 rw [h] at h1
 exact (List.mem_filter.1 h1).1
theorem Same.nil {l:List α} (h:Same key [] l):l=[]:=by
 cases l with
 | nil=>rfl
 | cons y ys=>exact absurd (h.symm.mem (List.mem_cons_self)) bC0
theorem Asc.append {a b:List α} (h:Asc key a) (k:Asc key b) (q:∀ x∈a,∀ y∈b,key x≤key y):Asc key (a++b):=List.pairwise_append.2 ⟨h,k,q⟩
theorem Asc.left {a b:List α} (h:Asc key (a++b)):Asc key a:=(List.pairwise_append.1 h).1
theorem Asc.right {a b:List α} (h:Asc key (a++b)):Asc key b:=(List.pairwise_append.1 h).2.1
variable (key)
def kAt (xs:List α) (i:Nat):Int:=((xs[i]?).map key).getD 0
variable {key}
def sw (xs:List α) (i j:Nat):List α:=match xs[i]?,xs[j]? with
  | some x,some y=>(xs.set i y).set j x
  | _,_=>xs
variable (key)
variable {key}
def swr:Nat→Nat→Nat→List α→List α
  | 0,_,_,xs=>xs
  | n + 1,a,b,xs=>swr n (a + 1) (b + 1) (sw xs a b)
def rot (m i j:Nat) (xs:List α):List α :=
  if i=j then swr i (m - i) m xs
  else if h:0 < i∧0 < j then
    if j < i then rot m (i - j) j (swr j (m - i) m xs) else rot m i (j - i) (swr i (m - i) (m + j - i) xs)
  else xs
  termination_by i + j
  decreasing_by all_goals omega
def bs (p:Nat→Bool) (i j:Nat):Nat :=
  if h:i < j then (if p ((i + j) / 2) then bs p ((i + j) / 2 + 1) j else bs p i ((i + j) / 2)) else i
  termination_by j - i
  decreasing_by all_goals omega
def up:Nat→Nat→List α→List α
  | 0,_,xs=>xs
  | n + 1,k,xs=>up n (k + 1) (sw xs k (k + 1))
def down (i:Nat):Nat→List α→List α
  | 0,xs=>xs
  | k + 1,xs=>if i < k + 1 then down i k (sw xs (k + 1) k) else xs
variable (key)
def symm:Nat→Nat→Nat→Nat→List α→List α
  | 0,_,_,_,xs=>xs
  | f + 1,a,m,b,xs =>
    if m - a=1 then up (bs (fun h=>decide (kAt key xs h < kAt key xs a)) m b - 1 - a) a xs
    else if b - m=1 then down (bs (fun h=>!decide (kAt key xs m < kAt key xs h)) a m) m xs
    else
      let mid:=(a + b) / 2
      let n:=mid + m
      let s:=bs (fun c=>!decide (kAt key xs (n - 1 - c) < kAt key xs c)) (if mid < m then n - b else a) (if mid < m then mid else m)
      let e:=n - s
      let y:=if s < m∧m < e then rot m (m - s) (e - m) xs else xs
      let z:=if a < s∧s < mid then symm f a s mid y else y
      if mid < e∧e < b then symm f mid e b z else z
variable {key}
def Runs (key:α→Int) (s:Nat) (l:List α):Prop:=∀ k,Asc key ((l.drop (k * s)).take s)
theorem Runs.cons {s:Nat} {A R:List α} (hA:A.length=s) (h:Asc key A) (hR:Runs key s R):Runs key s (A++R):=by
 intro k
 cases k with
 | zero=>simp;rw [← hA,List.take_append_of_le_length bB9,List.take_length];exact h
 | succ k =>
   have:(A++R).drop ((k + 1) * s)=R.drop (k * s):=by
     rw [Nat.add_mul,Nat.one_mul,Nat.add_comm,← List.drop_drop,← hA,List.drop_left]
   rw [this];exact hR k
theorem Runs.one {s:Nat} {A:List α} (hA:A.length≤s) (h:Asc key A):Runs key s A:=by
 intro k
 cases k with
 | zero=>simp;rw [List.take_of_length_le hA];exact h
 | succ k=>rw [List.drop_eq_nil_of_le (by rw [Nat.add_mul];omega)];simp [Asc]
variable (key)
variable {key}
variable (key)
def place:Nat→List α→α→Nat
  | 0,_,_=>0
  | k + 1,l,x=>if key x < kAt key l k then place k l x else k + 1
def put (l:List α) (x:α):List α:=l.take (place key l.length l x)++[x]++l.drop (place key l.length l x)
variable {key}
theorem Same.filter {l E:List α} (h:Same key l E) {p:α→Bool}:Same key (l.filter p) (E.filter p):=fun v=>by
  have:=congrArg (fun z=>z.filter p) (h v)
  simp only [List.filter_filter] at this ⊢
  simpa [Bool.and_comm] using this
theorem Asc.filter {l:List α} (h:Asc key l) {p:α→Bool}:Asc key (l.filter p):=List.Pairwise.filter p h
end
end Go.Proofs.YtonmjkmaadgceaaGreat.Srt
namespace Go.Proofs.YtonmjkmaadgceaaGreat
open Go.RowKit _root_.Go.Proofs.Tryz
theorem keyed_iff {α κ:Type} {P:α→Prop} {key:α→κ} {ok:List α→Nat→α→Bool} {d:α}
    (D:∀ l k x,ok l k x=true↔P x∧∀ y∈l.take k,key y≠key x) {l:List α} :
    yX (fun j=>ok l j (l.getD j d)) l.length=true↔(∀ p∈l,P p)∧l.Pairwise (fun a b=>key a≠key b):=by
 rw [kOh]
 constructor
 · intro h
   have hk:∀ k (hk:k < l.length),P l[k]∧∀ y∈l.take k,key y≠key l[k]:=by
    intro k hk
    have q:=h k hk
    rw [jM hk] at q
    exact (D _ _ _).1 q
   refine ⟨fun p hp=>?_,List.pairwise_iff_getElem.2 (fun i j hi I E=>?_)⟩
   · obtain ⟨k,aa,rfl⟩:=List.getElem_of_mem hp
     exact (hk k aa).1
   exact (hk j I).2 _ (List.mem_take_iff_getElem.2 ⟨i,by omega,rfl⟩)
 rintro ⟨h1,h2⟩ k hk
 rw [jM hk]
 refine (D _ _ _).2 ⟨h1 _ (List.getElem_mem hk),fun y hy=>?_⟩
 exact lJ
theorem idx_take {α:Type} {p:α→Bool} {l:List α}:(decide (idxOf p l ≥ 0)=false)↔∀ y∈l,p y=false:=by
 rw [decide_eq_false_iff_not,show (¬ idxOf p l ≥ 0)↔idxOf p l < 0 by omega,kPn]
theorem okLoc_iff {l:List jG} {k:Nat} {x:jG}:kGp l k x=true↔kBc x=true∧∀ y∈l.take k,y.1≠x.1:=by
 unfold kGp
 rw [Bool.not_eq_true',Bool.or_eq_false_iff,idx_take,Bool.not_eq_false']
 simp [isD,eqN]
theorem nodeOk_iff {x:yI}:kBd x=true↔((∀ d∈x.1,kBc d=true)∧x.1.Pairwise (fun a b=>a.1≠b.1))∧x.1.length≤8∧kDg x.2.1=true∧kDh x.2.2.1=true∧kAz x.2.2.2.2.1=true∧kJw x.2.2.2.2.2.1=true∧x.2.2.2.1.length≤24∧0≤x.2.2.2.2.2.2:=by
 unfold kBd kQg
 rw [Bool.and_eq_true,keyed_iff (P:=fun d:jG=>kBc d=true) (key:=fun d:jG=>d.1) (fun l k x=>okLoc_iff)]
 simp only [Bool.and_eq_true,decide_eq_true_eq]
 constructor
 · rintro ⟨a,⟨⟨⟨⟨⟨b,c⟩,d⟩,e⟩,f⟩,g⟩,h⟩;exact ⟨a,by omega,c,d,e,f,by omega,h⟩
 rintro ⟨a,b,c,d,e,f,g,h⟩;exact ⟨a,⟨⟨⟨⟨⟨by omega,c⟩,d⟩,e⟩,f⟩,by omega⟩,h⟩
end Go.Proofs.YtonmjkmaadgceaaGreat
namespace Go.Proofs.YtonmjkmaadgceaaGreat
open Go.RowKit _root_.Go.Proofs.Tryz
theorem kPi {w:World} {vl:Value} {l:List kI} (hl:(kE.slice 71 kJ).raw w [vl] l) {cn:List Value} {n:kQ} (hn:kM.raw w cn n) :
    Calls prog 27 #[vl,.agg cn.toArray] w (bQ w (.bool (decide (0≤idxOf (jV n) l)))):=by
 have HL:=yD hl
 have HN:=yD hn
 obtain ⟨la,lp,rfl,ll⟩:=kE.sl hl
 obtain ⟨av,rfl,ac⟩:=kU hn
 obtain ⟨na,np,rfl,_⟩:=kE.sl ac
 clear hl hn ac
 go_enter func27,ntmps27
 go_wp2_with fail
 refine (kDd (HL.out.below bI) (HN.out.below bI)).mono ?_
 rintro e w1 ⟨rfl,O⟩
 have EF:Below w.heap.size w w1:=Below.trans bI (O.mono bC0)
 clear O
 go_wp2
 go_ret
 exact ⟨kR bC0,EF⟩
end Go.Proofs.YtonmjkmaadgceaaGreat
namespace Go.Proofs.YtonmjkmaadgceaaGreat
open Go.RowKit _root_.Go.Proofs.Tryz
def kLu (n p:kQ):Bool:=decide ((p.length:Int)≤n.length) && eqN (n.take p.length) p
theorem prefN_no {n p:kQ} (h:¬ p.length≤n.length):kLu n p=false:=by unfold kLu;rw [decide_eq_false bB9];rfl
theorem prefN_yes {n p:kQ} (h:p.length≤n.length):kLu n p=eqN (n.take p.length) p:=by unfold kLu;rw [decide_eq_true bB9];rfl
def mB (n:kQ) (l:List jL):Nat→Int
  | 0=>-1
  | k + 1=>if kLu n (l.getD k ([],0,0)).1=true∧(mB n l k < 0∨(l.getD (mB n l k).toNat ([],0,0)).1.length < (l.getD k ([],0,0)).1.length) then k else mB n l k
theorem mB_no {n:kQ} {l:List jL} {k:Nat} (hk:k < l.length) (h:kLu n l[k].1=false):mB n l (k + 1)=mB n l k:=by
 conv=>lhs;unfold mB
 rw [jM hk,if_neg (by simp [h])]
theorem mB_new {n:kQ} {l:List jL} {k:Nat} (hk:k < l.length) (h:kLu n l[k].1=true) (h2:mB n l k=-1):mB n l (k + 1)=k:=by
 conv=>lhs;unfold mB
 rw [jM hk,if_pos ⟨h,.inl bB9⟩]
theorem mB_up {n:kQ} {l:List jL} {k j:Nat} (hk:k < l.length) (h:kLu n l[k].1=true) (I:j < l.length) (h2:mB n l k=j) (h3:l[j].1.length < l[k].1.length):mB n l (k + 1)=k:=by
 conv=>lhs;unfold mB
 rw [jM hk,h2,Int.toNat_natCast,jM I,if_pos ⟨h,.inr h3⟩]
theorem mB_keep {n:kQ} {l:List jL} {k j:Nat} (hk:k < l.length) (I:j < l.length) (h2:mB n l k=j) (h3:¬ l[j].1.length < l[k].1.length):mB n l (k + 1)=j:=by
 conv=>lhs;unfold mB
 rw [jM hk,h2,Int.toNat_natCast,jM I,if_neg (fun q=>by rcases q.2 with h | h;omega;exact h3 h)]
def mOk (n:kQ) (l:List jL):Bool:=!decide (mB n l l.length < 0)
def kNp (n:kQ) (l:List jL):kQ:=if mB n l l.length < 0 then [] else (l.getD (mB n l l.length).toNat ([],0,0)).1
theorem m_no {n:kQ} {l:List jL} (h:mB n l l.length=-1):mOk n l=false∧kNp n l=[]:=by simp [mOk,kNp,h]
theorem m_yes {n:kQ} {l:List jL} {j:Nat} (I:j < l.length) (h:mB n l l.length=j):mOk n l=true∧kNp n l=l[j].1:=by
 unfold mOk kNp
 rw [h,Int.toNat_natCast,jM I,if_neg bB9,decide_eq_false bB9]
 exact ⟨rfl,rfl⟩
theorem kFe {w:World} {ca cb:List Value} {a b:kQ} (ha:kM.rd w ca a) (hb:kM.rd w cb b) :
    Calls prog 74 #[.agg ca.toArray,.agg cb.toArray] w (bQ w (.bool (kLu a b))):=by
 have HA:=yD ha
 have HB:=yD hb
 obtain ⟨av,rfl,ac⟩:=kU ha.1
 obtain ⟨bv,rfl,a4⟩:=kU hb.1
 clear ha hb
 obtain ⟨aa,J,rfl,la⟩:=kE.sl ac
 obtain ⟨ab,I,rfl,lb⟩:=kE.sl a4
 have ak:=kE.kCq ac
 go_enter func74,ntmps74
 go_wp2_with fail
 generalize H:World.alloc (World.alloc w _) _=N
 obtain ⟨Z,K0,K1⟩:=CE
 clear H
 by_cases hc:b.length≤a.length
 · have hd:decide ((b.length:Int)≤a.length)=true:=wN
   have e0:decide (b.length≤a.length)=true:=wN
   have D:(b.length:Int)≤a.length:=bB9
   have ag:(b.length:Int)≤J:=bB9
   have U:=yD (prefN_yes hc)
   have FX:=yD (fun (W:World) (hW:Below N.heap.size N W)=>cLs2 hW K0 K1)
   refine kW (fun W=>Below N.heap.size N W) [true,true,true,true,true,true,true,true,true,true,true,true,true,true,true,true,false,true,true] bB4 bB4 qD (bR.drew) ?_
   intro wS E
   iterate 7
    all_goals refine kS ?_
   all_goals (have af:=True.intro;first|(refine yT (fun b af=>?_);cases b;all_goals first | exact Bool.noConfusion af | simp only [zU,zV] at af | skip) | refine kS ?_)
   all_goals refine kX ?_
   iterate 8
    all_goals refine kS ?_
   all_goals first | refine wkB (kKo (kE.kCc (e:=9) (r:=kE.str) (HA.out.1.below (tQ Z E)) hc) (HB.out.1.below (tQ Z E))) (fun wS1 E=>?_) | refine kS ?_
   all_goals refine kS ?_
   all_goals refine kS ?_
   all_goals refine kZ ?_
   have G:=(tQ Z E)
   exact iN
 have hd:decide ((b.length:Int)≤a.length)=false:=wN
 have e0:decide (b.length≤a.length)=false:=wN
 have U:=yD (prefN_no hc)
 have FX:=yD (fun (W:World) (hW:Below N.heap.size N W)=>cLs2 hW K0 K1)
 refine kW (fun W=>Below N.heap.size N W) [true,true,true,true,true,true,true,true,true,true,true,true,true,true,true,true,false,true,true] bB4 bB4 qD (bR.drew) ?_
 intro wS E
 iterate 7
  all_goals refine kS ?_
 all_goals (have af:=True.intro;first|(refine yT (fun b af=>?_);cases b;all_goals first | exact Bool.noConfusion af | simp only [zU,zV] at af | skip) | refine kS ?_)
 all_goals refine kX ?_
 iterate 8
  all_goals refine kS ?_
 all_goals first|(refine kK rfl E ?_)|(fail)
 all_goals refine kX ?_
 all_goals refine kS ?_
 all_goals refine kS ?_
 all_goals refine kZ ?_
 have G:=(tQ Z E)
 exact iN
theorem kFa {w:World} {vl:Value} {l:List jL} (hl:(kE.slice 102 jT).rd w [vl] l) {cn:List Value} {n:kQ} (hn:kM.rd w cn n) :
    Calls prog 35 #[vl,.agg cn.toArray] w fun e w'=>∃ cs,e=.returned (.tuple #[.agg cs.toArray,.bool (mOk n l)])∧kM.own w' cs (kNp n l) (jR w.heap.size w'.heap.size)∧Below w.heap.size w w':=by
 have HN:=yD hn
 have HL:=yD hl
 obtain ⟨av,rfl,am⟩:=kU hn.1
 obtain ⟨an,aj,rfl,ln⟩:=kE.sl am
 obtain ⟨aa,J,rfl,la⟩:=kE.sl hl.1
 clear hn hl am
 go_enter func35,ntmps35
 go_wp2
 generalize H:World.alloc (World.alloc w _) _=N
 have Z:Below w.heap.size w N:=by rw [← H];exact bI
 have b0:N.heap.size=w.heap.size + 2:=bA4
 have K0:N.cell? ⟨w.heap.size,0,none⟩=some (.slice an n.length aj):=tN
 have K1:N.cell? ⟨w.heap.size + 1,0,none⟩=some (.slice none 0 0):=tN
 have F1:N.frozen? ⟨w.heap.size + 1,0,none⟩=false:=tN
 clear H
 go_loopw [6,11] (fun b i wr=>∃ (k:Nat) (m:Int),k≤l.length∧i=.int .i64 k∧b=.int .i64 m∧Hid (mB n l k=m)∧Hid (m=-1∨∃ j:Nat,j < k∧m=j)∧Below N.heap.size N wr) (fun _ i _=>l.length - (intOf i).toNat)
 case atStart=>exact ⟨0,-1,Nat.zero_le _,rfl,rfl,yD rfl,yD (.inl rfl),bR⟩
 obtain ⟨k,m,hk,rfl,rfl,HM,HR,D⟩:=hrel
 have ae:=kE.rd.below HL.out (tQ Z D)
 by_cases hlt:k < l.length
 · have di:=Int.natCast_nonneg k
   have en:=Int.ofNat_lt.2 hlt
   obtain ⟨xb,xo,rfl,dc,c6,db,xr,ax,az,au⟩:=kE.kDv ae.1 hlt rfl
   obtain ⟨c7,ao,bw,ba,b3,b5⟩:=kAy xr
   simp only [List.cons.injEq,and_true] at ao
   obtain ⟨rfl,rfl,rfl⟩:=ao
   obtain ⟨xa,xp,rfl,xl⟩:=kE.sl ba
   have px:kM.rd wr _ l[k].1:=⟨bw,(kE.zM HL.out hlt).1⟩
   clear xr b3 b5 ba bw
   rcases HR.out with rfl|⟨j,hjk,rfl⟩
   · have X:=fun q=>(mB_no (n:=n) hlt q).trans HM.out
     have ai:=fun q=>mB_new (n:=n) hlt q HM.out
     clear ae
     generalize l[k]=x at *
     have bf:=yD X;have ap:=yD ai;clear X ai
     replace K0:=cL D K0
     go_upto_region 5 with fail
     generalize F:World.alloc wr _=R
     obtain ⟨EC,M0,M1,M2,K0⟩:=uI
     (try replace ac:=cL EC ac);(try replace aw:=cL EC aw);(try replace ag:=cL EC ag);clear F
     have FX:=yD (fun (W:World) (hW:Below R.heap.size R W)=>kLd hW K0 M0 M1 M2)
     refine kW (fun W=>Below R.heap.size R W) [true,true,true,false,true,true,true,true,true,true,true,true,true,true,true,true,true,true,true,true,true,true] bB4 bB4 qD (bR.drew) ?_
     intro wS E
     iterate 3
      all_goals refine kS ?_
     all_goals first | refine wkB (kFe (HN.out.below ((tQ Z ((tQ D (tQ EC E)))))) (px.below (tQ EC E))) (fun wS1 E=>?_) | refine kS ?_
     all_goals (have O:=True.intro;first|(refine yT (fun b O=>?_);cases b;all_goals first | exact Bool.noConfusion O | simp only [zU,zV] at O | skip) | refine kS ?_)
     all_goals refine kX ?_
     all_goals refine kS ?_
     all_goals refine kS ?_
     all_goals (have af:=True.intro;first|(refine yT (fun b af=>?_);cases b;all_goals first | exact Bool.noConfusion af | simp only [zU,zV] at af | skip) | refine kS ?_)
     all_goals refine kX ?_
     iterate 13
      all_goals refine kS ?_
     all_goals (have Y:=True.intro;first|(refine yT (fun b Y=>?_);cases b;all_goals first | exact Bool.noConfusion Y | simp only [zU,zV] at Y | skip) | refine kS ?_)
     all_goals refine kX ?_
     all_goals refine kZ ?_
     all_goals have G:=(tQ D (tQ EC E))
     all_goals first
       | (have U:=yD (bf.out O);go_wp2;go_roundw;(case rel=>exact ⟨k + 1,-1,by omega,by go_num,rfl,U,yD (.inl rfl),G⟩);(case measure=>simp [intOf];omega))
       | (have U:=yD (ap.out O);go_wp2;go_roundw;(case rel=>exact ⟨k + 1,(k:Int),by omega,by go_num,rfl,U,yD (.inr ⟨k,by omega,rfl⟩),G⟩);(case measure=>simp [intOf];omega))
   have I:j < l.length:=bB9
   have da:=Int.natCast_nonneg j
   have bq:=Int.ofNat_lt.2 I
   obtain ⟨yb,yo,yE,ay,bd,a9,yr,ac,aw,ag⟩:=kE.kDv ae.1 I rfl
   simp only [Option.some.injEq,Addr.mk.injEq,and_true] at yE
   obtain ⟨rfl,rfl⟩:=yE
   obtain ⟨dp,b2,bj,bu,b1,ce⟩:=kAy yr
   simp only [List.cons.injEq,and_true] at b2
   obtain ⟨rfl,rfl,rfl⟩:=b2
   obtain ⟨ya,yp,rfl,yl⟩:=kE.sl bu
   have py:kM.rd wr _ l[j].1:=⟨bj,(kE.zM HL.out I).1⟩
   clear yr b1 ce bu bj
   have X:=fun q=>(mB_no (n:=n) hlt q).trans HM.out
   have aq:=fun q q2=>mB_up (n:=n) hlt q I HM.out q2
   have ah:=fun q2=>mB_keep (n:=n) hlt I HM.out q2
   clear ae py
   generalize l[k]=x at *
   generalize l[j]=y at *
   have bf:=yD X;have ar:=yD aq;have ak:=yD ah;clear X aq ah
   by_cases h3:y.1.length < x.1.length
   · have hd:decide ((y.1.length:Int) < x.1.length)=true:=wP
     have al:decide ((x.1.length:Int) > y.1.length)=true:=wP
     have e0:decide (y.1.length < x.1.length)=true:=wP
     replace K0:=cL D K0
     go_upto_region 5 with fail
     generalize F:World.alloc wr _=R
     obtain ⟨EC,M0,M1,M2,K0⟩:=uI
     (try replace ac:=cL EC ac);(try replace aw:=cL EC aw);(try replace ag:=cL EC ag);clear F
     have FX:=yD (fun (W:World) (hW:Below R.heap.size R W)=>cLs5 hW K0 M0 M1 M2 ac)
     refine kW (fun W=>Below R.heap.size R W) [true,true,true,false,true,true,true,true,true,true,true,true,true,true,true,true,true,true,true,true,true,true] bB4 bB4 qD (bR.drew) ?_
     intro wS E
     iterate 3
      all_goals refine kS ?_
     all_goals first | refine wkB (kFe (HN.out.below ((tQ Z ((tQ D (tQ EC E)))))) (px.below (tQ EC E))) (fun wS1 E=>?_) | refine kS ?_
     all_goals (have O:=True.intro;first|(refine yT (fun b O=>?_);cases b;all_goals first | exact Bool.noConfusion O | simp only [zU,zV] at O | skip) | refine kS ?_)
     all_goals refine kX ?_
     all_goals refine kS ?_
     all_goals refine kS ?_
     all_goals (have af:=True.intro;first|(refine yT (fun b af=>?_);cases b;all_goals first | exact Bool.noConfusion af | simp only [zU,zV] at af | skip) | refine kS ?_)
     all_goals refine kX ?_
     iterate 13
      all_goals refine kS ?_
     all_goals (have Y:=True.intro;first|(refine yT (fun b Y=>?_);cases b;all_goals first | exact Bool.noConfusion Y | simp only [zU,zV] at Y | skip) | refine kS ?_)
     all_goals refine kX ?_
     all_goals refine kZ ?_
     all_goals have G:=(tQ D (tQ EC E))
     all_goals first
       | (have U:=yD (bf.out O);go_wp2;go_roundw;(case rel=>exact ⟨k + 1,(j:Int),by omega,by go_num,rfl,U,yD (.inr ⟨j,by omega,rfl⟩),G⟩);(case measure=>simp [intOf];omega))
       | (have U:=yD ((fun q=>ar.out q h3) O);go_wp2;go_roundw;(case rel=>exact ⟨k + 1,(k:Int),by omega,by go_num,rfl,U,yD (.inr ⟨k,by omega,rfl⟩),G⟩);(case measure=>simp [intOf];omega))
   have hd:decide ((y.1.length:Int) < x.1.length)=false:=wP
   have al:decide ((x.1.length:Int) > y.1.length)=false:=wP
   have e0:decide (y.1.length < x.1.length)=false:=wP
   replace K0:=cL D K0
   go_upto_region 5 with fail
   generalize F:World.alloc wr _=R
   obtain ⟨EC,M0,M1,M2,K0⟩:=uI
   (try replace ac:=cL EC ac);(try replace aw:=cL EC aw);(try replace ag:=cL EC ag);clear F
   have FX:=yD (fun (W:World) (hW:Below R.heap.size R W)=>cLs5 hW K0 M0 M1 M2 ac)
   refine kW (fun W=>Below R.heap.size R W) [true,true,true,false,true,true,true,true,true,true,true,true,true,true,true,true,true,true,true,true,true,true] bB4 bB4 qD (bR.drew) ?_
   intro wS E
   iterate 3
    all_goals refine kS ?_
   all_goals first | refine wkB (kFe (HN.out.below ((tQ Z ((tQ D (tQ EC E)))))) (px.below (tQ EC E))) (fun wS1 E=>?_) | refine kS ?_
   all_goals (have O:=True.intro;first|(refine yT (fun b O=>?_);cases b;all_goals first | exact Bool.noConfusion O | simp only [zU,zV] at O | skip) | refine kS ?_)
   all_goals refine kX ?_
   all_goals refine kS ?_
   all_goals refine kS ?_
   all_goals (have af:=True.intro;first|(refine yT (fun b af=>?_);cases b;all_goals first | exact Bool.noConfusion af | simp only [zU,zV] at af | skip) | refine kS ?_)
   all_goals refine kX ?_
   iterate 13
    all_goals refine kS ?_
   all_goals (have Y:=True.intro;first|(refine yT (fun b Y=>?_);cases b;all_goals first | exact Bool.noConfusion Y | simp only [zU,zV] at Y | skip) | refine kS ?_)
   all_goals refine kX ?_
   all_goals refine kZ ?_
   all_goals have G:=(tQ D (tQ EC E))
   all_goals first
     | (have U:=yD (bf.out O);go_wp2;go_roundw;(case rel=>exact ⟨k + 1,(j:Int),by omega,by go_num,rfl,U,yD (.inr ⟨j,by omega,rfl⟩),G⟩);(case measure=>simp [intOf];omega))
     | (have U:=yD ((fun (_:kLu n x.1=true)=>ak.out h3) O);go_wp2;go_roundw;(case rel=>exact ⟨k + 1,(j:Int),by omega,by go_num,rfl,U,yD (.inr ⟨j,by omega,rfl⟩),G⟩);(case measure=>simp [intOf];omega))
 obtain rfl:k=l.length:=bB9
 have G:=(tQ Z D)
 have R0:=cL D K1
 have F0:wr.frozen? ⟨w.heap.size + 1,0,none⟩=false:=(D.frozen (p:=⟨w.heap.size + 1,0,none⟩) bB5).trans F1
 rcases HR.out with rfl|⟨j,I,rfl⟩
 · have U:=yD (m_no HM.out)
   clear ae
   go_wp2
   refine bodyPost_ret (v:=.tuple #[.agg #[.slice none 0 0],.bool false]) nT rfl ⟨[.slice none 0 0],by rw [U.out.1],?_,?_⟩
   · rw [U.out.2];exact kE.jf
   exact G.setCell bC0 _
 have da:=Int.natCast_nonneg j
 have bq:=Int.ofNat_lt.2 I
 have U:=yD (m_yes I HM.out)
 obtain ⟨yb,yo,rfl,ay,bd,a9,yr,ac,aw,ag⟩:=kE.kDv ae.1 I rfl
 obtain ⟨dp,b2,bj,bu,b1,ce⟩:=kAy yr
 simp only [List.cons.injEq,and_true] at b2
 obtain ⟨rfl,rfl,rfl⟩:=b2
 obtain ⟨ya,yp,rfl,yl⟩:=kE.sl bu
 have py:kM.rd wr _ l[j].1:=⟨bj,(kE.zM HL.out I).1⟩
 clear yr b1 ce bu bj
 clear ae
 generalize l[j]=y at *
 go_wp2_with fail
 refine (zG (py.below bI)).mono ?_
 rintro e V ⟨cs,rfl,O2,ab⟩
 obtain ⟨cv,rfl,e4⟩:=kU O2.raw
 obtain ⟨a2,c2,hv,_⟩:=kE.kAx e4
 obtain rfl:cv=_:=by simpa using hv
 have L:Hid (kM.own V [.slice a2 y.1.length c2] y.1 (jR (w.heap.size + 1 + 1) V.heap.size)):=yD (O2.wide nN)
 have EF:Below w.heap.size w V:=G.trans (Below.mono (Below.trans bI ab) G.size)
 replace R0:=cL ab R0
 replace F0:V.frozen? ⟨w.heap.size + 1,0,none⟩=false:=(ab.frozen (p:=⟨w.heap.size + 1,0,none⟩) (by have:=D.size;simp;omega)).trans F0
 clear hv O2 e4 ab G
 go_wp2
 refine bodyPost_ret (v:=.tuple #[.agg #[.slice a2 y.1.length c2],.bool true]) nT rfl ⟨[.slice a2 y.1.length c2],by rw [U.out.1],?_,?_⟩
 · rw [U.out.2]
   exact (L.out.setCell fI).wide gD
 exact EF.setCell bC0 _
end Go.Proofs.YtonmjkmaadgceaaGreat
namespace Go.Proofs.YtonmjkmaadgceaaGreat
open Go.RowKit _root_.Go.Proofs.Tryz
theorem Touch.cell {S:Nat→Prop} {w w':World} {b i:Nat} {v:Value} (h:Touch S w w') (hb:¬ S b) (k:w.cell? ⟨b,i,none⟩=some v):w'.cell? ⟨b,i,none⟩=some v:=by
 exact aA
end Go.Proofs.YtonmjkmaadgceaaGreat
namespace Go.Proofs.YtonmjkmaadgceaaGreat
open Go.RowKit _root_.Go.Proofs.Tryz
theorem kGj.lenN {x:yI} (h:kGj x):lenN 1048576 x:=by
 obtain ⟨a,b,c,d,e,f,_⟩:=h
 exact lenN_mk bB9 bB9 (by have:=c.1;omega) (fun y hy=>by have:=(c.2 y hy).1;omega) (by have:=d.1;omega) bB9 bB9
end Go.Proofs.YtonmjkmaadgceaaGreat
namespace Go.Proofs.YtonmjkmaadgceaaGreat
open Go.RowKit _root_.Go.Proofs.Tryz
def From (W w:World):Prop:=Below W.heap.size W w
theorem From.below {W w w':World} (h:From W w) (b:Below w.heap.size w w'):From W w':=Below.trans h (b.mono (Below.size h))
theorem data_nm {w:World} {c0 c1 c2 c3 c4:Value} {x:jG} {S:Nat→Prop} (h:jA.jY w [c0,c1,c2,c3,c4] x S):kM.jY w [c0] x.1 S:=by
 obtain ⟨a,d,he,h1,_⟩:=kE.kCx (r:=kM) (q:=.pair (kE.slice 5 kE.byte) (.pair kM (.pair .int .int))) h
 have l1:=kM.len h1.1
 match a,l1 with
 | [v],_=>simp only [List.singleton_append,List.cons.injEq] at he;obtain ⟨rfl,_⟩:=he;exact h1
theorem act_form {w:World} {cs:List Value} {n:yI} {l:List yO} {S:Nat→Prop} (h:kXg.own w cs (n,l) S) :
    ∃ a0 c0 a1 c1 a2 c2 a3 c3 a4 c4 a5 c5 oa oc,cs=[.slice a0 n.1.length c0,.int .i64 n.2.1.1,.slice a1 n.2.1.2.length c1,.slice a2 n.2.2.1.length c2,.slice a3 n.2.2.2.1.length c3,.slice a4 n.2.2.2.2.1.length c4,.slice a5 n.2.2.2.2.2.1.length c5,.int .i64 n.2.2.2.2.2.2,.slice oa l.length oc] ∧
      yA.own w [.slice a0 n.1.length c0,.int .i64 n.2.1.1,.slice a1 n.2.1.2.length c1,.slice a2 n.2.2.1.length c2,.slice a3 n.2.2.2.1.length c3,.slice a4 n.2.2.2.2.1.length c4,.slice a5 n.2.2.2.2.2.1.length c5,.int .i64 n.2.2.2.2.2.2] n S∧(kE.slice 81 ze).own w [.slice oa l.length oc] l S:=by
 obtain ⟨a,d,A,B,he,h1,h2,hA,hB,_⟩:=kE.kCe (r:=yA) (q:=(kE.slice 81 ze)) h
 obtain ⟨a0,c0,a1,c1,a2,c2,a3,c3,a4,c4,a5,c5,rfl⟩:=kDu h1.raw
 obtain ⟨oa,oc,hd,_⟩:=kE.kAx h2.raw
 subst hd
 exact ⟨a0,c0,a1,c1,a2,c2,a3,c3,a4,c4,a5,c5,oa,oc,he,h1.wide hA,h2.wide hB⟩
end Go.Proofs.YtonmjkmaadgceaaGreat
namespace Go.Proofs.YtonmjkmaadgceaaGreat
open Go.RowKit _root_.Go.Proofs.Tryz
theorem wrap_rng (z:Int):-9223372036854775808≤wrap64 z∧wrap64 z≤9223372036854775807:=by unfold wrap64;omega
def zI:yt:=([],0,0,0)
def dropN (x:yI):yI:=kUx x (wrap64 (x.2.2.2.2.2.2 + 1))
theorem dropN_eq {x0:List jG} {x1:kg} {x2:List kI} {x3:List jI} {x4:List jL} {x5:List kT} {x6:Int}:dropN (x0,x1,x2,x3,x4,x5,x6)=(x0,x1,x2,x3,x4,x5,wrap64 (x6 + 1)):=rfl
theorem zI_own {w:World} {S:Nat→Prop}:zg.own w [.slice none 0 0,.int .i64 0,.int .i64 0,.int .i64 0] zI S :=
  own_voidL (kE.kBe (cs:=[.int .i64 0]) (kE.ky bB9) (kE.kBe (cs:=[.int .i64 0]) (kE.ky bB9) (kE.flat.own (kE.ky bB9))))
theorem out1_own {w:World} {f:Int} {dc:List Value} {D:jG} {S:Nat→Prop} (hf:-9223372036854775808≤f∧f≤9223372036854775807) (h:jA.own w dc D S) :
    ze.own w ([.int .i64 f,.bool false,.slice none 0 0,.int .i64 0,.int .i64 0,.int .i64 0]++dc) (f,false,zI,D) S :=
  kE.kBe (r:=kE.int) (q:=kE.pair kE.bool (kE.pair zg jA)) (cs:=[.int .i64 f]) (kE.ky hf) (kE.kBe (r:=kE.bool) (q:=kE.pair zg jA) (cs:=[.bool false]) (kE.kVu false)
    (kE.ja (r:=zg) (q:=jA) (cs:=[.slice none 0 0,.int .i64 0,.int .i64 0,.int .i64 0]) (A:=fun _=>False) (B:=S) zI_own h (fun _ h=>h.elim) (fun _ h=>h) (fun _ h _=>h)))
theorem kTu {w:World} {c0 c1 c2 c3 c4 c5 N D v:Value} {x:yI} {l:List yO} {A B S:Nat→Prop} (h:yA.own w [c0,c1,c2,c3,c4,c5,N,D] x A) (k:(kE.slice 81 ze).own w [v] l B) (hA:∀ j,A j→S j) (hB:∀ j,B j→S j) (hd:∀ j,A j→B j→False) :
    kXg.own w [c0,c1,c2,c3,c4,c5,N,D,v] (x,l) S:=kE.ja (r:=yA) (q:=(kE.slice 81 ze)) (cs:=[c0,c1,c2,c3,c4,c5,N,D]) (ds:=[v]) h k hA hB hd
theorem kWs {w:World} {c0 c1 c2 c3 c4 c5 N D:Value} {x0:List jG} {x1:kg} {x2:List kI} {x3:List jI} {x4:List jL} {x5:List kT} {x6 y:Int} {S:Nat→Prop} (h:yA.own w [c0,c1,c2,c3,c4,c5,N,D] (x0,x1,x2,x3,x4,x5,x6) S) (hy:-9223372036854775808≤y∧y≤9223372036854775807) :
    yA.own w [c0,c1,c2,c3,c4,c5,N,.int .i64 y] (x0,x1,x2,x3,x4,x5,y) S:=⟨RNode_set7 y hy h.1,h.2⟩
end Go.Proofs.YtonmjkmaadgceaaGreat

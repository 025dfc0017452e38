/-
  A region that draws its order, walked in the order of its text: operations that only read are taken first; at each other operation it alone may come up. No program in sight.
-/
import Derived.Test.YtonmjkmaadgceaaGreatRows
import Derived.Test.YtonmjkmaadgceaaGreatTypes
set_option linter.unusedVariables false
set_option linter.unusedSimpArgs false
set_option linter.unnecessarySimpa false
set_option maxHeartbeats 4000000
namespace Go.Proofs.YtonmjkmaadgceaaGreat
open Go.ChangeShapes Go.WideShapes Go.ChangeAt Go.RowKit Go.Deep _root_.Go.Proofs.Tryz
section
variable {H:Type} {enc:TypeId × Value→H} {P:Program} {w:World}
theorem bridge_byte {T:TypeId} (Y:P.underlying T=some (.int .u8)) {fuel:Nat} {cs:List Value} {y:DataW H × List MemPlace} (h:DataW.trod enc P w 0 (fun _=>true) true fuel T cs=some y):∃ x,kE.byte.raw w cs x:=by
 obtain ⟨n,rfl,_,hw⟩:=DataW.trod_int Y h
 have hn:0≤n∧n≤255:=by simpa [Lit.wf,IntKind.min,IntKind.max,IntKind.signed,IntKind.bits] using hw
 refine ⟨UInt8.ofNat n.toNat,?_⟩
 show _=_
 have:(UInt8.ofNat n.toNat).toNat=n.toNat:=by rw [UInt8.toNat_ofNat'];omega
 rw [this,Int.toNat_of_nonneg hn.1]
theorem kWz {α:Type} {r:kE α} {e T E:TypeId} (Y:P.underlying T=some (.slice E)) (hn:P.cellsOf E=r.n) (J:0 < r.n)
    (ih:∀ {fuel:Nat} {cs:List Value} {y:DataW H × List MemPlace},DataW.trod enc P w 0 (fun _=>true) true fuel E cs=some y→∃ x,r.raw w cs x)
    {fuel:Nat} {cs:List Value} {y:DataW H × List MemPlace} (h:DataW.trod enc P w 0 (fun _=>true) true fuel T cs=some y):∃ xs,(kE.slice e r).raw w cs xs:=by
 rcases open_slice Y h with ⟨rfl,_⟩|⟨a,len,cap,m,n,D,Pl,rfl,_,hl,hm,hmm,_,hx⟩
 · exact ⟨[],none,0,0,rfl,rfl,Nat.le_refl _,Nat.zero_le _,.inl ⟨rfl,by simp⟩⟩
 simp only [if_true] at hmm
 subst hmm
 rw [hn] at hx
 rcases Nat.eq_zero_or_pos len with rfl | hlen
 · exact ⟨[],some a,0,m,rfl,rfl,hl,hm,.inl ⟨rfl,by simp⟩⟩
 have ae:∀ i,i < m→∀ j,j < r.n→∃ v,w.cell? ((a.add (i * r.n)).add j)=some v:=by
  intro i hi j I
  obtain ⟨cs',h1,h2⟩:=hx i hi
  obtain ⟨_,G,hc⟩:=World.cells?_some h1
  rw [hc j I,List.getElem?_eq_getElem bB9]
  exact ⟨_,rfl⟩
 obtain ⟨v0,N⟩:=ae 0 bB9 0 J
 have V:(a.add (0 * r.n)).add 0=a:=by simp [Addr.add]
 rw [V] at N
 have R:∃ cur e' fr,w.heap[a.block]?=some (.cells cur e' fr)∧a.spot=none:=by
  unfold World.cell? at N
  split at N
  · rename_i c e' fr hb
    refine ⟨c,e',fr,hb,?_⟩
    cases hs:a.spot with
    | none=>rfl
    | some s=>simp [hs] at N
  cases N
 obtain ⟨cur,e',fr,hb,hs⟩:=R
 obtain ⟨b,off,W⟩:=a
 simp only at hs hb
 subst hs
 have F:∀ i j,(((⟨b,off,none⟩:Addr).add (i * r.n)).add j)=⟨b,off + i * r.n + j,none⟩:=by
  intro i j
  unfold Addr.add
  split <;> split <;> simp_all
 have L:∀ i,i < m→∀ j,j < r.n→∃ v,cur[off + i * r.n + j]?=some v:=by
  intro i hi j I
  obtain ⟨v,hv⟩:=ae i hi j I
  rw [F,cell_of_row w b _ cur e' fr hb] at hv
  exact ⟨v,hv⟩
 have hsize:off + m * r.n≤cur.size:=by
  obtain ⟨v,hv⟩:=L (m - 1) bB9 (r.n - 1) bB9
  have:=(Array.getElem?_eq_some_iff.1 hv).1
  have O:m * r.n=(m - 1) * r.n + r.n:=by
   conv=>lhs;rw [show m=(m - 1) + 1 by omega]
   rw [Nat.add_mul,Nat.one_mul]
  omega
 have hcut:∀ i,i < m→∃ x,r.raw w ((cur.toList.drop (off + i * r.n)).take r.n) x:=by
  intro i hi
  obtain ⟨cs',h1,h2⟩:=hx i hi
  obtain ⟨_,G,hc⟩:=World.cells?_some h1
  have:cs'=(cur.toList.drop (off + i * r.n)).take r.n:=by
   apply List.ext_getElem?
   intro j
   by_cases I:j < r.n
   · rw [← hc j I,F,cell_of_row w b _ cur e' fr hb]
     simp [I,List.getElem?_drop]
   rw [List.getElem?_eq_none bB9,List.getElem?_eq_none bB5]
  rw [← this]
  exact ih h2
 have hrow:∀ k,k≤len→∃ xs:List α,xs.length=k∧kE.row r false w ((cur.toList.drop off).take (k * r.n)) xs (fun _=>True):=by
  intro k
  induction k with
  | zero=>intro _;exact ⟨[],rfl,by simp [kE.row]⟩
  | succ k U =>
    intro hk
    obtain ⟨xs,ci,hr⟩:=U bB9
    obtain ⟨x,am⟩:=hcut k bB9
    refine ⟨xs++[x],by simp [ci],?_⟩
    have:(cur.toList.drop off).take ((k + 1) * r.n)=(cur.toList.drop off).take (k * r.n)++(cur.toList.drop (off + k * r.n)).take r.n:=by
      rw [Nat.add_mul,Nat.one_mul,List.take_add,List.drop_drop]
    rw [this]
    exact kE.kAg hr (kE.kFv am) (fun _ h=>h) (fun _ h=>h) bC0
 obtain ⟨xs,ci,hr⟩:=hrow len nL
 refine ⟨xs,some ⟨b,off,none⟩,len,m,rfl,ci.symm,hl,hm,.inr ⟨b,off,rfl,cur,e',fr,cur.toList.take off,_,(cur.toList.drop off).drop (len * r.n),hb,?_,?_,hsize,by simp,trivial,kE.yH hr (fun _ _=>⟨trivial,by simp⟩)⟩⟩
 · rw [List.take_append_drop,List.take_append_drop]
 simp;omega
theorem kLj (hl:laidOutB P=true) {W W':World} (hb:Below W.heap.size W W'):∀ {D:List TypeId} {vs:List Value} {ds:List (DataW H)} {ps:List MemPlace},(∀ t∈D,P.readableRec t=true∧t < P.types.size) →
    DataW.TrodAll enc P W 0 (fun _=>true) true D vs ds ps→(∀ x∈ps,x.block < W.heap.size)→DataW.TrodAll enc P W' 0 (fun b=>decide (b < W.heap.size)) true D vs ds ps
  | [],[],[],ps,_,h,_=>h
  | t :: D,v :: vs,d :: ds,ps,ht,⟨p,q,h1,h2,h3⟩,hlt=>by
    subst h3
    exact ⟨p,q,Below.trod hl (ht t bC0).1 (ht t bC0).2 h1 hb sG,kLj hl hb (fun u hu=>ht u (by simp [hu])) h2 sG,rfl⟩
end
theorem law_own:ownKnob prog.godebug=none:=by kernel_rfl
theorem law_laidOut:laidOutB prog=true:=by kernel_rfl
def LawPost (w:World) (e:Ending) (w':World):Prop:=e=.returned (.bool true)∧Below w.heap.size w w'
theorem law_post {H:Type} {enc:TypeId × Value→H} {G:Func} {s:ChangeSpec} {W W':World} {args:Array Value} {ds F:List (DataW H)} {D:List MemPlace} {tb:TypeId}
    (hW:DataW.Whole enc prog G.params.toList s.vars false W args.toList ds F D) (E:s.vars=[]) (I:G.resultTypes=#[tb]) (ek:prog.underlying tb=some .bool)
    (ak:(s.fn H (ds++F)).results=[.lit (.bool true)]∧(s.fn H (ds++F)).args=ds∧(s.fn H (ds++F)).vars=[])
    (R:∀ t∈G.params.toList,prog.readableRec t=true∧t < prog.types.size) (hb:Below W.heap.size W W') :
    s.post enc prog G false true false false W args (.bool true) W':=by
 have hlt:∀ p∈D,p.block < W.heap.size:=fun p hp=>by simpa using hW.lt p hp
 have J:=hW
 obtain ⟨p,q,hA,hV,rfl,_,_⟩:=hW
 rw [E] at hV
 have L:F=[]∧q=[]:=by
  cases F with
  | nil=>exact ⟨rfl,hV⟩
  | cons g F=>exact hV.elim
 obtain ⟨rfl,rfl⟩:=L
 refine ⟨ds,[],_,[],p,[],J,?_,?_,?_,hb.frame _,fun h=>by cases h⟩
 · rw [ak.1,I]
   exact trodAll_cons_mk (shut_bool ek true) trodAll_mk0
 · rw [ak.2.1]
   exact kLj law_laidOut hb R hA sG
 rw [ak.2.2,E]
 rfl
theorem kXa {H:Type} {enc:TypeId × Value→H} {w:World} {fuel:Nat} {cs:List Value} {y:DataW H × List MemPlace} (h:DataW.trod enc prog w 0 (fun _=>true) true fuel 22 cs=some y):∃ x,(kE.slice 5 kE.byte).raw w cs x :=
  kWz underlying22 bB4 bB8 (fun h=>bridge_byte underlying5 h) h
end Go.Proofs.YtonmjkmaadgceaaGreat
namespace Go.Proofs.YtonmjkmaadgceaaGreat
open Go.RowKit _root_.Go.Proofs.Tryz
theorem lawsbig_c {w:World} {v:Value} {ac:List UInt8} (N:(kE.slice 5 kE.byte).raw w [v] ac) :
    Calls prog 4 #[v] w (bQ w (.bool (decide ((ac.length:Int) > 1048576)))):=by
 obtain ⟨ca,cc,rfl,_⟩:=kE.sl N
 go_enter func4,ntmps4
 go_wp2
 go_ret
 exact ⟨by simp,bR⟩
def idxOf {α:Type} (p:α→Bool) (l:List α):Int:=match l.findIdx? p with | some i=>i | none=>-1
theorem idxOf_hit {α:Type} {p:α→Bool} {x:List α} {k:Nat} (hlt:k < x.length) (hp:p x[k]=true) (X:∀ j,(h:j < k)→(h2:j < x.length)→p x[j]=false):idxOf p x=k:=by
 unfold idxOf
 have:x.findIdx? p=some k:=by
  rw [List.findIdx?_eq_some_iff_getElem]
  exact ⟨hlt,hp,fun j I=>by simpa using X j I bB9⟩
 rw [this]
theorem idxOf_miss {α:Type} {p:α→Bool} {x:List α} {k:Nat} (hlt:¬ k < x.length) (X:∀ j,(h:j < k)→(h2:j < x.length)→p x[j]=false):idxOf p x=-1:=by
 unfold idxOf
 have:x.findIdx? p=none:=by
  rw [List.findIdx?_eq_none_iff]
  intro y hy
  obtain ⟨j,I,rfl⟩:=List.getElem_of_mem hy
  simpa using X j bB9 I
 rw [this]
theorem kAm {α:Type} {p:α→Bool} {x:List α} {k:Nat} (hlt:k < x.length) (hp:p x[k]=false) (X:∀ j,(h:j < k)→(h2:j < x.length)→p x[j]=false):∀ j,(h:j < k + 1)→(h2:j < x.length)→p x[j]=false:=by
 intro j h h2
 by_cases q:j=k
 · subst q;exact hp
 exact X j bB9 h2
def jb (P:Program) (g:FuncId):Prop:=∀ vs W,(callFunc g vs).run P W=.ok (.enter g vs) W
theorem zY {P:Program} {g:FuncId} {G:Func} (hf:P.funcs[g]?=some G) (hn:(G.name == "runtime.NumGoroutine")=false) (hb:G.body.isNone=false):jb P g:=by
 intro vs W
 have hp:(program:Sem Program).run P W=.ok P W:=rfl
 have D:¬ (G.name = "runtime.NumGoroutine"):=by simpa using hn
 unfold callFunc
 simp only [Sem.run_bind,hp,Result.andThen_ok,hf,hn,hb,Bool.false_eq_true,if_false,Sem.run_pure]
theorem kMw {w:World} {va:Value} {x:List ByteArray} {g:FuncId} {cp:Array Value} (p:ByteArray→Bool) (hg:jb prog g) (ha:(kE.slice 9 kE.str).raw w [va] x)
    (N:∀ wr,Below w.heap.size w wr→∀ (i:Nat) (h:i < x.length) c,kE.str.raw wr [c] x[i]→Calls prog g (#[c]++cp) wr (fun e w'=>e=.returned (.bool (p x[i]))∧Below wr.heap.size wr w')) :
    Calls prog 128 #[va,.func (.func g) #[] cp] w (bQ w (.int .i64 (idxOf p x))):=by
 obtain ⟨aa,J,rfl,la⟩:=kE.sl ha
 have bf:=yD N;clear N
 unfold jb at hg
 go_enter func128,ntmps128
 go_wp2
 go_loopw [8] (fun i wr=>∃ k:Nat,k≤x.length∧i=.int .i64 k∧(∀ j,(h:j < k)→(h2:j < x.length)→p x[j]=false)∧Below w.heap.size w wr) (fun i _=>x.length - (intOf i).toNat)
 case atStart=>exact ⟨0,Nat.zero_le _,rfl,fun _ h=>by omega,bR⟩
 obtain ⟨k,hk,rfl,X,D⟩:=hrel
 have HN:=yD X;clear X
 by_cases hlt:k < x.length
 · obtain ⟨ba,ah,rfl,c0,hr,A0⟩:=kE.kBo (ha.below D) hlt rfl
   have C:=bf.out wr D k hlt _ hr
   obtain ⟨he,_⟩:=kE.yY hr
   obtain rfl:c0=_:=by simpa using he
   clear he hr
   by_cases hp:p x[k]=true
   · rw [hp] at C
     have HC:=yD C;clear C
     have U:=yD (idxOf_hit hlt hp HN.out);clear hp
     go_wp2_with fail
     refine HC.out.mono ?_
     rintro e w1 ⟨rfl,O⟩
     go_wp2
     go_ret
     exact ⟨jW U.out.symm,(tQ D O)⟩
   have hp:p x[k]=false:=wJ
   rw [hp] at C
   have HC:=yD C;clear C
   have U:=yD (kAm hlt hp HN.out);clear hp
   go_wp2_with fail
   refine HC.out.mono ?_
   rintro e w1 ⟨rfl,O⟩
   go_wp2
   go_roundw
   case rel=>exact ⟨k + 1,by omega,by go_num,U.out,(tQ D O)⟩
   simp [intOf];omega
 exact iY
theorem kJt {w:World} {va:Value} {x:List ByteArray} {g:FuncId} {cp:Array Value} (p:ByteArray→Bool) (hg:jb prog g) (ha:(kE.slice 9 kE.str).raw w [va] x)
    (N:∀ wr,Below w.heap.size w wr→∀ (i:Nat) (h:i < x.length) c,kE.str.raw wr [c] x[i]→Calls prog g (#[c]++cp) wr (fun e w'=>e=.returned (.bool (p x[i]))∧Below wr.heap.size wr w')) :
    Calls prog 86 #[va,.func (.func g) #[] cp] w (bQ w (.bool (decide (0≤idxOf p x)))):=by
 have bf:=yD N;clear N
 go_enter func86,ntmps86
 go_wp2_with fail
 refine (kMw p hg ha bf.out).mono ?_
 exact iZ
theorem kPt {w:World} {va:Value} {x:List kQ} {g:FuncId} {cp:Array Value} (p:kQ→Bool) (hg:jb prog g) (ha:(kE.slice 41 kM).raw w [va] x)
    (N:∀ wr,Below w.heap.size w wr→∀ (i:Nat) (h:i < x.length) cs,kM.raw wr cs x[i]→Calls prog g (#[.agg cs.toArray]++cp) wr (fun e w'=>e=.returned (.bool (p x[i]))∧Below wr.heap.size wr w')) :
    Calls prog 171 #[va,.func (.func g) #[] cp] w (bQ w (.int .i64 (idxOf p x))):=by
 obtain ⟨aa,J,rfl,la⟩:=kE.sl ha
 have bf:=yD N;clear N
 unfold jb at hg
 go_enter func171,ntmps171
 go_wp2
 go_loopw [8] (fun i wr=>∃ k:Nat,k≤x.length∧i=.int .i64 k∧(∀ j,(h:j < k)→(h2:j < x.length)→p x[j]=false)∧Below w.heap.size w wr) (fun i _=>x.length - (intOf i).toNat)
 case atStart=>exact ⟨0,Nat.zero_le _,rfl,fun _ h=>by omega,bR⟩
 obtain ⟨k,hk,rfl,X,D⟩:=hrel
 have HN:=yD X;clear X
 by_cases hlt:k < x.length
 · obtain ⟨ba,ah,rfl,c0,hr,A0⟩:=kE.kBo (ha.below D) hlt rfl
   exact l6
 exact iY
theorem kLg {w:World} {va:Value} {x:List kQ} {g:FuncId} {cp:Array Value} (p:kQ→Bool) (hg:jb prog g) (ha:(kE.slice 41 kM).raw w [va] x)
    (N:∀ wr,Below w.heap.size w wr→∀ (i:Nat) (h:i < x.length) cs,kM.raw wr cs x[i]→Calls prog g (#[.agg cs.toArray]++cp) wr (fun e w'=>e=.returned (.bool (p x[i]))∧Below wr.heap.size wr w')) :
    Calls prog 133 #[va,.func (.func g) #[] cp] w (bQ w (.bool (decide (0≤idxOf p x)))):=by
 have bf:=yD N;clear N
 go_enter func133,ntmps133
 go_wp2_with fail
 refine (kPt p hg ha bf.out).mono ?_
 exact iZ
theorem kIj {w:World} {va:Value} {x:List kT} {g:FuncId} {cp:Array Value} (p:kT→Bool) (hg:jb prog g) (ha:(kE.slice 105 kL).raw w [va] x)
    (N:∀ wr,Below w.heap.size w wr→∀ (i:Nat) (h:i < x.length) cs,kL.raw wr cs x[i]→Calls prog g (#[.agg cs.toArray]++cp) wr (fun e w'=>e=.returned (.bool (p x[i]))∧Below wr.heap.size wr w')) :
    Calls prog 93 #[va,.func (.func g) #[] cp] w (bQ w (.int .i64 (idxOf p x))):=by
 obtain ⟨aa,J,rfl,la⟩:=kE.sl ha
 have bf:=yD N;clear N
 unfold jb at hg
 go_enter func93,ntmps93
 exact l7
theorem kOl {w:World} {va:Value} {x:List jL} {g:FuncId} {cp:Array Value} (p:jL→Bool) (hg:jb prog g) (ha:(kE.slice 102 jT).raw w [va] x)
    (N:∀ wr,Below w.heap.size w wr→∀ (i:Nat) (h:i < x.length) cs,jT.raw wr cs x[i]→Calls prog g (#[.agg cs.toArray]++cp) wr (fun e w'=>e=.returned (.bool (p x[i]))∧Below wr.heap.size wr w')) :
    Calls prog 91 #[va,.func (.func g) #[] cp] w (bQ w (.int .i64 (idxOf p x))):=by
 obtain ⟨aa,J,rfl,la⟩:=kE.sl ha
 have bf:=yD N;clear N
 unfold jb at hg
 go_enter func91,ntmps91
 exact l7
theorem kFk {w:World} {va:Value} {x:List kI} {g:FuncId} {cp:Array Value} (p:kI→Bool) (hg:jb prog g) (ha:(kE.slice 71 kJ).raw w [va] x)
    (N:∀ wr,Below w.heap.size w wr→∀ (i:Nat) (h:i < x.length) cs,kJ.raw wr cs x[i]→Calls prog g (#[.agg cs.toArray]++cp) wr (fun e w'=>e=.returned (.bool (p x[i]))∧Below wr.heap.size wr w')) :
    Calls prog 60 #[va,.func (.func g) #[] cp] w (bQ w (.int .i64 (idxOf p x))):=by
 obtain ⟨aa,J,rfl,la⟩:=kE.sl ha
 have bf:=yD N;clear N
 unfold jb at hg
 go_enter func60,ntmps60
 exact l7
theorem kIk {w:World} {va:Value} {x:List jG} {g:FuncId} {cp:Array Value} (p:jG→Bool) (hg:jb prog g) (ha:(kE.slice 43 jA).raw w [va] x)
    (N:∀ wr,Below w.heap.size w wr→∀ (i:Nat) (h:i < x.length) cs,jA.raw wr cs x[i]→Calls prog g (#[.agg cs.toArray]++cp) wr (fun e w'=>e=.returned (.bool (p x[i]))∧Below wr.heap.size wr w')) :
    Calls prog 44 #[va,.func (.func g) #[] cp] w (bQ w (.int .i64 (idxOf p x))):=by
 obtain ⟨aa,J,rfl,la⟩:=kE.sl ha
 have bf:=yD N;clear N
 unfold jb at hg
 go_enter func44,ntmps44
 go_wp2
 go_loopw [8] (fun i wr=>∃ k:Nat,k≤x.length∧i=.int .i64 k∧(∀ j,(h:j < k)→(h2:j < x.length)→p x[j]=false)∧Below w.heap.size w wr) (fun i _=>x.length - (intOf i).toNat)
 case atStart=>exact ⟨0,Nat.zero_le _,rfl,fun _ h=>by omega,bR⟩
 obtain ⟨k,hk,rfl,X,D⟩:=hrel
 have HN:=yD X;clear X
 by_cases hlt:k < x.length
 · obtain ⟨ba,ah,rfl,c0,c1,c2,c3,c4,hr,A0,A1,A2,A3,A4⟩:=kE.get5 (ha.below D) hlt rfl
   exact l6
 exact iY
theorem kJc {w:World} {va:Value} {x:List kr} {g:FuncId} {cp:Array Value} (p:kr→Bool) (hg:jb prog g) (ha:(kE.slice 98 kw).raw w [va] x)
    (N:∀ wr,Below w.heap.size w wr→∀ (i:Nat) (h:i < x.length) cs,kw.raw wr cs x[i]→Calls prog g (#[.agg cs.toArray]++cp) wr (fun e w'=>e=.returned (.bool (p x[i]))∧Below wr.heap.size wr w')) :
    Calls prog 90 #[va,.func (.func g) #[] cp] w (bQ w (.int .i64 (idxOf p x))):=by
 obtain ⟨aa,J,rfl,la⟩:=kE.sl ha
 have bf:=yD N;clear N
 unfold jb at hg
 go_enter func90,ntmps90
 go_wp2
 go_loopw [8] (fun i wr=>∃ k:Nat,k≤x.length∧i=.int .i64 k∧(∀ j,(h:j < k)→(h2:j < x.length)→p x[j]=false)∧Below w.heap.size w wr) (fun i _=>x.length - (intOf i).toNat)
 case atStart=>exact ⟨0,Nat.zero_le _,rfl,fun _ h=>by omega,bR⟩
 obtain ⟨k,hk,rfl,X,D⟩:=hrel
 have HN:=yD X;clear X
 by_cases hlt:k < x.length
 · obtain ⟨ba,ah,rfl,c0,c1,c2,c3,c4,c5,hr,A0,A1,A2,A3,A4,A5⟩:=kE.get6 (ha.below D) hlt rfl
   exact l6
 exact iY
theorem kGi {w:World} {va:Value} {x:List kr} {g:FuncId} {cp:Array Value} (p:kr→Bool) (hg:jb prog g) (ha:(kE.slice 98 kw).raw w [va] x)
    (N:∀ wr,Below w.heap.size w wr→∀ (i:Nat) (h:i < x.length) cs,kw.raw wr cs x[i]→Calls prog g (#[.agg cs.toArray]++cp) wr (fun e w'=>e=.returned (.bool (p x[i]))∧Below wr.heap.size wr w')) :
    Calls prog 47 #[va,.func (.func g) #[] cp] w (bQ w (.bool (decide (0≤idxOf p x)))):=by
 have bf:=yD N;clear N
 go_enter func47,ntmps47
 go_wp2_with fail
 refine (kJc p hg ha bf.out).mono ?_
 exact iZ
theorem kPs {w:World} {va:Value} {x:List kCt} {g:FuncId} {cp:Array Value} (p:kCt→Bool) (hg:jb prog g) (ha:(kE.slice 184 kEo).raw w [va] x)
    (N:∀ wr,Below w.heap.size w wr→∀ (i:Nat) (h:i < x.length) cs,kEo.raw wr cs x[i]→Calls prog g (#[.agg cs.toArray]++cp) wr (fun e w'=>e=.returned (.bool (p x[i]))∧Below wr.heap.size wr w')) :
    Calls prog 168 #[va,.func (.func g) #[] cp] w (bQ w (.int .i64 (idxOf p x))):=by
 obtain ⟨aa,J,rfl,la⟩:=kE.sl ha
 have bf:=yD N;clear N
 unfold jb at hg
 go_enter func168,ntmps168
 exact l8
end Go.Proofs.YtonmjkmaadgceaaGreat
namespace Go.Proofs.YtonmjkmaadgceaaGreat
open Go Go.RowKit _root_.Go.Proofs.Tryz
def kSm (md:Region.Mode) (ops:Array Oper):Nat→List Bool→Array Bool→Bool
  | _,[],listed=>(Region.ready md ops listed).isEmpty
  | k,true :: p,listed=>(Region.ready md ops listed).contains k && Region.free md ops listed k && kSm md ops (k + 1) p (listed.setIfInBounds k true)
  | k,false :: p,listed=>(Region.ready md ops listed==[k]) && kSm md ops (k + 1) p (listed.setIfInBounds k true)
def softOk (md:Region.Mode) (ops:Array Oper) (p:List Bool):Bool:=Region.noSelect ops && (p.length==ops.size && kSm md ops 0 p (Array.replicate ops.size false))
section
variable {P:Program} {ops:Array Oper} {S:World→Prop} {Q:Exit→Act→World→Prop}
def kCs (P:Program) (ops:Array Oper) (S:World→Prop) (Q:Exit→Act→World→Prop):Nat→List Oper→List Bool→Act→World→Prop
  | k,o :: l,true :: p,a,w=>∃ v,YieldsIf P ops S o v a∧kCs P ops S Q (k + 1) l p (a.put o.dst v) w
  | k,o :: l,false :: p,a,w=>if Region.wanted o (yielded ops a.tmps) then o.wp P a w (fun a' w'=>S w'∧kCs P ops S Q (k + 1) l p a' w') Q∨(o.asks P a w∧LetsOut Q) else S w∧kCs P ops S Q (k + 1) l p (a.put o.dst undef) w
  | _,l,_,a,w=>wpList P ops Q l a w
@[irreducible] def soft (P:Program) (ops:Array Oper) (S:World→Prop) (Q:Exit→Act→World→Prop) (k:Nat) (l:List Oper) (p:List Bool) (a:Act) (w:World):Prop:=kCs P ops S Q k l p a w
theorem kJu (hs:Region.noSelect ops=true) (hQ:∀ c a d v w,Q (.panic c) (Act.put a d v) w→Q (.panic c) a w):∀ (p:List Bool) (l:List Oper) (k:Nat) (fuel:Nat) (listed:Array Bool) (a:Act) (w:World),
    l.length=p.length→(∀ j,l[j]?=ops[k + j]?)→p.length≤fuel→kSm .any ops k p listed=true→S w→kCs P ops S Q k l p a w→wpAnyH P .any ops Q S fuel listed a w
  | [],[],k,fuel,listed,a,w,_,_,_,hB,_,h=>wpAnyH_done (by simpa [kSm] using hB) (by simpa [kCs,wpList] using h) fuel
  | [],o :: l,k,fuel,listed,a,w,hl,_,_,hB,_,h=>by simp at hl
  | b :: p,[],k,fuel,listed,a,w,hl,_,_,hB,_,h=>by simp at hl
  | b :: p,o :: l,k,0,listed,a,w,hl,_,hf,hB,_,h=>by simp at hf
  | true :: p,o :: l,k,fuel + 1,listed,a,w,hl,ho,hf,hB,hS,h=>by
    obtain ⟨v,hy,h⟩:=h
    simp only [kSm,Bool.and_eq_true] at hB
    have h0:ops[k]?=some o:=tL
    exact wpAnyH_take h0 hs hB.1.2 hB.1.1 (fun c a w=>hQ c a _ _ w) hy hS (kJu hs hQ p l (k + 1) fuel _ _ _ wI dW wX hB.2 hS h)
  | false :: p,o :: l,k,fuel + 1,listed,a,w,hl,ho,hf,hB,hS,h=>by
    simp only [kSm,Bool.and_eq_true,beq_iff_eq] at hB
    have h0:ops[k]?=some o:=tL
    refine wpAnyH_all hB.1 bC0 ?_
    intro j I
    obtain rfl:j=k:=bA6
    have go:∀ a' w',S w'∧kCs P ops S Q (j + 1) l p a' w'→S w'∧wpAnyH P .any ops Q S fuel (listed.setIfInBounds j true) a' w':=fun a' w' G =>
      ⟨G.1,kJu hs hQ p l (j + 1) fuel _ _ _ wI dX wX hB.2 G.1 G.2⟩
    exact lX
theorem kW {id:Nat} {a:Act} {w:World} {l:List Oper} (S:World→Prop) (p:List Bool) (hm:P.follows .mixedOrders=true) (hB:softOk .any l.toArray p=true)
    (hQ:∀ c a d v w,Q (.panic c) (Act.put a d v) w→Q (.panic c) a w) (hS:S { w with drawn:=w.drawn + 1 })
    (h:∀ w',S w'→soft P l.toArray S Q 0 l p a w'):(Code.region id l.toArray true).wp P Q a w:=by
 simp only [softOk,Bool.and_eq_true,beq_iff_eq] at hB
 have h:=h _ hS
 unfold soft at h
 exact wp_region_held (S:=S) hm (kJu hB.1 hQ p l 0 _ _ a _ (by simpa using hB.2.1.symm) (fun j=>by simp) (by rw [hB.2.1];exact Nat.le_refl _) hB.2.2 hS h)
def kCl (P:Program) (md:Region.Mode) (ops:Array Oper) (Q:Exit→Act→World→Prop) (S:World→Prop) (n:Nat) (L:Array Bool→Act→World→Prop):Nat→Array Bool→Act→World→Prop
  | 0,listed,a,w=>L listed a w
  | f + 1,listed,a,w =>
    Region.ready md ops listed≠[]∧∀ i∈Region.ready md ops listed,i < n∧wpOp P ops Q i (fun a' w'=>S w'∧kCl P md ops Q S n L f (listed.setIfInBounds i true) a' w') a w
theorem kCb {md:Region.Mode} {n g:Nat} {L:Array Bool→Act→World→Prop} (J:∀ listed a w,L listed a w→wpAny P md ops Q g listed a w) :
    ∀ (f:Nat) (listed:Array Bool) (a:Act) (w:World),kCl P md ops Q S n L f listed a w→wpAny P md ops Q (f + g) listed a w
  | 0,listed,a,w,h=>by rw [Nat.zero_add];exact J _ _ _ h
  | f + 1,listed,a,w,h=>by
    rw [show f + 1 + g=(f + g) + 1 by omega]
    exact ⟨fun h0=>absurd h0 h.1,fun i hi=>wpOp_mono (fun a' w' G=>kCb J f _ a' w' G.2) (h.2 i hi).2⟩
theorem kLi {md:Region.Mode} {n i:Nat} {V:Oper} {v:Value} {L:Array Bool→Act→World→Prop} (hi:ops[i]?=some V) (D:∀ (j:Nat) (o:Oper) cs b,ops[j]?=some o→o.op≠.select cs b)
    (hQ:∀ c a w,Q (.panic c) (a.put V.dst v) w→Q (.panic c) a w)
    (hs:Region.sinkB md ops n=true) (hc:Region.chainB md ops n=true) (hn:n < ops.size) (R:i < n)
    (Z:∀ listed a w,L listed a w→∀ j∈Region.ready md ops listed,n≤j) :
    ∀ (f:Nat) (listed:Array Bool) (a:Act) (w:World),HeadInv md ops n listed →
      (∀ j N,ops[j]?=some N→j≠i→listed.getD j true=false→(∀ e∈N.after,Region.binds md e=true→e.on≠i)→V.apart ops N=true) →
      i∈Region.ready md ops listed→YieldsIf P ops S V v a→S w →
      kCl P md ops Q S n L f (listed.setIfInBounds i true) (a.put V.dst v) w→kCl P md ops Q S n L (f + 1) listed a w:=by
 intro f
 induction f with
 | zero =>
   intro listed a w inv _ hr hy hS H
   have F:=(mem_ready.1 hr).1
   refine ⟨fun h=>vC,fun j I=>?_⟩
   have ab:j < n:=by
     rcases Nat.lt_or_ge j n with h | h
     · exact h
     · exact absurd I (tail_waits hs hc hn inv _ i rfl R F j h)
   exact lY
 | succ f ih =>
   intro listed a w inv U hr hy hS H
   have F:=(mem_ready.1 hr).1
   refine ⟨fun h=>vC,fun j I=>?_⟩
   have ab:j < n:=by
     rcases Nat.lt_or_ge j n with h | h
     · exact h
     · exact absurd I (tail_waits hs hc hn inv _ i rfl R F j h)
   exact lZ
def kMh (md:Region.Mode) (ops:Array Oper) (g:Nat):Nat→List Bool→Array Bool→Bool
  | k,[],listed=>Region.seqB md ops g k listed
  | k,true :: p,listed=>(Region.ready md ops listed).contains k && Region.free md ops listed k && kMh md ops g (k + 1) p (listed.setIfInBounds k true)
  | k,false :: p,listed=>(Region.ready md ops listed==[k]) && kMh md ops g (k + 1) p (listed.setIfInBounds k true)
def softTOk (md:Region.Mode) (ops:Array Oper) (p:List Bool):Bool :=
  Region.noSelect ops && (decide (p.length < ops.size) && (Region.sinkB md ops p.length && (Region.chainB md ops p.length && kMh md ops (ops.size - p.length) 0 p (Array.replicate ops.size false))))
theorem kIl {n g:Nat} (D:Region.noSelect ops=true) (hQ:∀ c a d v w,Q (.panic c) (Act.put a d v) w→Q (.panic c) a w)
    (hs:Region.sinkB .any ops n=true) (hc:Region.chainB .any ops n=true) (hn:n < ops.size):∀ (p:List Bool) (l:List Oper) (k:Nat) (listed:Array Bool) (a:Act) (w:World),
    k + p.length=n→(∀ j,l[j]?=ops[k + j]?)→HeadInv .any ops n listed→kMh .any ops g k p listed=true→l.length=p.length + g→S w→kCs P ops S Q k l p a w →
    kCl P .any ops Q S n (fun listed a w=>Region.seqB .any ops g n listed=true∧∃ l,(∀ j,l[j]?=ops[n + j]?)∧l.length=g∧wpList P ops Q l a w) p.length listed a w
  | [],l,k,listed,a,w,hk,ho,inv,hB,hl,hS,h=>by
    obtain rfl:k=n:=wR
    refine ⟨by simpa [kMh] using hB,l,ho,by simpa using hl,?_⟩
    cases l <;> exact h
  | b :: p,[],k,listed,a,w,hk,ho,inv,hB,hl,hS,h=>by simp at hl;omega
  | true :: p,o :: l,k,listed,a,w,hk,ho,inv,hB,hl,hS,h=>by
    obtain ⟨v,hy,h⟩:=h
    simp only [kMh,Bool.and_eq_true] at hB
    have h0:ops[k]?=some o:=tL
    have hr:k∈Region.ready .any ops listed:=vO
    have a6:k < n:=vZ
    exact kLi h0 (Region.noSelect_spec D) (fun c a w=>hQ c a _ _ w) hs hc hn a6 (fun F a' w' J=>seqB_ready J.1) p.length listed a w inv (Region.free_spec h0 hB.1.2) hr hy hS
      (kIl D hQ hs hc hn p l (k + 1) _ _ _ vZ dW (inv.set hr a6) hB.2 (by simp at hl;omega) hS h)
  | false :: p,o :: l,k,listed,a,w,hk,ho,inv,hB,hl,hS,h=>by
    simp only [kMh,Bool.and_eq_true,beq_iff_eq] at hB
    have h0:ops[k]?=some o:=tL
    have hr:k∈Region.ready .any ops listed:=bA2
    have a6:k < n:=vZ
    refine ⟨by rw [hB.1];simp,fun j I=>?_⟩
    rw [hB.1] at I
    obtain rfl:j=k:=bA6
    refine ⟨a6,?_⟩
    have go:∀ a' w',S w'∧kCs P ops S Q (j + 1) l p a' w'→S w'∧kCl P .any ops Q S n (fun listed a w=>Region.seqB .any ops g n listed=true∧∃ l,(∀ j,l[j]?=ops[n + j]?)∧l.length=g∧wpList P ops Q l a w) p.length (listed.setIfInBounds j true) a' w':=fun a' w' G =>
      ⟨G.1,kIl D hQ hs hc hn p l (j + 1) _ _ _ vZ dX (inv.set hr a6) hB.2 (by simp at hl;omega) G.1 G.2⟩
    exact lX
theorem jd {id:Nat} {a:Act} {w:World} {l:List Oper} (S:World→Prop) (p:List Bool) (hm:P.follows .mixedOrders=true) (hB:softTOk .any l.toArray p=true)
    (hQ:∀ c a d v w,Q (.panic c) (Act.put a d v) w→Q (.panic c) a w) (hS:S { w with drawn:=w.drawn + 1 })
    (h:∀ w',S w'→soft P l.toArray S Q 0 l p a w'):(Code.region id l.toArray true).wp P Q a w:=by
 simp only [softTOk,Bool.and_eq_true,decide_eq_true_eq] at hB
 have h:=h _ hS
 unfold soft at h
 have b0:l.toArray.size=l.length:=bC0
 have D:HeadInv .any l.toArray p.length (Array.replicate l.toArray.size false) :=
   ⟨by simp,fun j N _ hl=>pF,fun t _ ht=>getD_in bA0 (getD_replicate_false _ _)⟩
 have H:=kIl (g:=l.toArray.size - p.length) hB.1 hQ hB.2.2.1 hB.2.2.2.1 hB.2.1 p l 0 _ a _ bC0 (fun j=>by simp) D hB.2.2.2.2 (by have:=hB.2.1;omega) hS h
 refine wp_region_any hm ?_
 have:=kCb (Q:=Q) (g:=l.toArray.size - p.length) (fun listed a' w' J=>by
   obtain ⟨hq,E,ho,G,hw⟩:=J
   have:=wpAny_of_seq (md:=.any) (Q':=Q) E p.length listed a' w' ho (by rw [G];exact hq) hw
   rwa [G] at this) _ _ _ _ H
 rw [show p.length + (l.toArray.size - p.length)=l.toArray.size by have:=hB.2.1;omega] at this
 exact this
theorem kFi:∀ (p:List Bool) (l:List Oper) (k:Nat) (a:Act) (w:World),S w→kCs P ops S Q k l p a w→wpList P ops Q l a w
  | [],l,k,a,w,_,h=>by cases l <;> exact h
  | b :: p,[],k,a,w,_,h=>by cases b <;> exact h
  | true :: p,o :: l,k,a,w,hS,h=>by
    obtain ⟨v,hy,h⟩:=h
    have:=kFi p l (k + 1) _ w hS h
    unfold wpList
    rcases hy with ⟨hw,hv⟩|⟨hw,rfl⟩
    · rw [if_pos hw];left;unfold Oper.wp;rw [hv w hS,Oper.upon_value];exact this
    · rw [if_neg (by rw [hw];exact Bool.false_ne_true)];exact this
  | false :: p,o :: l,k,a,w,hS,h=>by
    unfold wpList
    have h:if Region.wanted o (yielded ops a.tmps) then o.wp P a w (fun a' w'=>S w'∧kCs P ops S Q (k + 1) l p a' w') Q∨(o.asks P a w∧LetsOut Q) else S w∧kCs P ops S Q (k + 1) l p (a.put o.dst undef) w:=h
    split at h
    · rename_i hw;rw [if_pos hw];exact h.imp (Oper.wp_mono fun a' w' G=>kFi p l (k + 1) a' w' G.1 G.2) id
    · rename_i hw;rw [if_neg hw];exact kFi p l (k + 1) _ w h.1 h.2
theorem kz {id:Nat} {a:Act} {w:World} {l:List Oper} (S:World→Prop) (p:List Bool) (hS:S w)
    (h:∀ w',S w'→soft P l.toArray S Q 0 l p a w'):(Code.region id l.toArray false).wp P Q a w:=by
 have h:=h _ hS
 unfold soft at h
 exact wp_region_lit (kFi p l 0 a w hS h)
def kHd (md:Region.Mode) (ops:Array Oper):List (Nat × Bool)→Array Bool→Bool
  | [],listed=>(Region.ready md ops listed).isEmpty
  | (k,true) :: p,listed=>(Region.ready md ops listed).contains k && Region.free md ops listed k && kHd md ops p (listed.setIfInBounds k true)
  | (k,false) :: p,listed=>(Region.ready md ops listed==[k]) && kHd md ops p (listed.setIfInBounds k true)
def jD (l:List Oper):List (Nat × Bool)→List Oper
  | []=>[]
  | (k,_) :: q=>match l[k]? with
    | some o=>o :: jD l q
    | none=>[]
def softPOk (md:Region.Mode) (ops:Array Oper) (q:List (Nat × Bool)):Bool:=Region.noSelect ops && (decide (q.length≤ops.size) && (q.all (fun x=>decide (x.1 < ops.size)) && kHd md ops q (Array.replicate ops.size false)))
theorem kDy {l:List Oper} (hs:Region.noSelect l.toArray=true) (hQ:∀ c a d v w,Q (.panic c) (Act.put a d v) w→Q (.panic c) a w):∀ (q:List (Nat × Bool)) (k:Nat) (fuel:Nat) (listed:Array Bool) (a:Act) (w:World),
    q.all (fun x=>decide (x.1 < l.toArray.size))=true→q.length≤fuel→kHd .any l.toArray q listed=true→S w→kCs P l.toArray S Q k (jD l q) (q.map (·.2)) a w→wpAnyH P .any l.toArray Q S fuel listed a w
  | [],k,fuel,listed,a,w,_,_,hB,_,h=>wpAnyH_done (by simpa [kHd] using hB) (by simpa [kCs,wpList,jD] using h) fuel
  | (i,b) :: q,k,0,listed,a,w,_,hf,hB,_,h=>by simp at hf
  | (i,true) :: q,k,fuel + 1,listed,a,w,hi,hf,hB,hS,h=>by
    simp only [List.all_cons,Bool.and_eq_true,decide_eq_true_eq] at hi
    have h0:l.toArray[i]?=some l.toArray[i]:=Array.getElem?_eq_getElem hi.1
    have hp:jD l ((i,true) :: q)=l.toArray[i] :: jD l q:=by
      exact mD
    rw [hp] at h
    obtain ⟨v,hy,h⟩:=h
    simp only [kHd,Bool.and_eq_true] at hB
    exact wpAnyH_take h0 hs hB.1.2 hB.1.1 (fun c a w=>hQ c a _ _ w) hy hS (kDy hs hQ q (k + 1) fuel _ _ _ hi.2 wX hB.2 hS h)
  | (i,false) :: q,k,fuel + 1,listed,a,w,hi,hf,hB,hS,h=>by
    simp only [List.all_cons,Bool.and_eq_true,decide_eq_true_eq] at hi
    have h0:l.toArray[i]?=some l.toArray[i]:=Array.getElem?_eq_getElem hi.1
    have hp:jD l ((i,false) :: q)=l.toArray[i] :: jD l q:=by
      exact mD
    rw [hp] at h
    simp only [kHd,Bool.and_eq_true,beq_iff_eq] at hB
    refine wpAnyH_all hB.1 bC0 ?_
    intro j I
    obtain rfl:j=i:=bA6
    have go:∀ a' w',S w'∧kCs P l.toArray S Q (k + 1) (jD l q) (q.map (·.2)) a' w'→S w'∧wpAnyH P .any l.toArray Q S fuel (listed.setIfInBounds j true) a' w':=fun a' w' G =>
      ⟨G.1,kDy hs hQ q (k + 1) fuel _ _ _ hi.2 wX hB.2 G.1 G.2⟩
    exact lX
theorem yQ {id:Nat} {a:Act} {w:World} {l:List Oper} (S:World→Prop) (q:List (Nat × Bool)) (hm:P.follows .mixedOrders=true) (hB:softPOk .any l.toArray q=true)
    (hQ:∀ c a d v w,Q (.panic c) (Act.put a d v) w→Q (.panic c) a w) (hS:S { w with drawn:=w.drawn + 1 })
    (h:∀ w',S w'→soft P l.toArray S Q 0 (jD l q) (q.map (·.2)) a w'):(Code.region id l.toArray true).wp P Q a w:=by
 simp only [softPOk,Bool.and_eq_true,decide_eq_true_eq] at hB
 have h:=h _ hS
 unfold soft at h
 exact wp_region_held (S:=S) hm (kDy hB.1 hQ q 0 _ _ a _ hB.2.2.1 hB.2.1 hB.2.2.2 hS h)
theorem kZ {k:Nat} {a:Act} {w:World} (h:Q .normal a w):soft P ops S Q k [] [] a w:=by unfold soft;exact h
theorem jq {k:Nat} {o:Oper} {l:List Oper} {a:Act} {w:World} (h:wpList P ops Q (o :: l) a w):soft P ops S Q k (o :: l) [] a w:=by unfold soft;exact h
variable {k:Nat} {l:List Oper} {p:List Bool} {a:Act} {w:World} {o:Oper}
theorem jE {v:Value} (hg:Region.wanted o (yielded ops a.tmps)=true)
    (hv:∀ w,S w→(execOp a.eval o).run P w=.ok (.value v) w) (h:soft P ops S Q (k + 1) l p (a.put o.dst v) w):soft P ops S Q k (o :: l) (true :: p) a w:=by
 unfold soft at h ⊢
 exact ⟨v,.inl ⟨hg,hv⟩,h⟩
theorem kFl {v:Value} {b:Bool} (hg:Region.wanted o (yielded ops a.tmps)=true)
    (hv:∀ w,S w→(execOp a.eval o).run P w=.ok (.value v) w) (hb:v=.bool b) (h:∀ c:Bool,b=c→soft P ops S Q (k + 1) l p (a.put o.dst (.bool c)) w):soft P ops S Q k (o :: l) (true :: p) a w :=
  jE hg hv (hb ▸ h b rfl)
theorem kK {b:Bool} (hg:Region.wanted o (yielded ops a.tmps)=false)
    (hS:S w) (h:soft P ops S Q (k + 1) l p (a.put o.dst undef) w):soft P ops S Q k (o :: l) (b :: p) a w:=by
 unfold soft at h ⊢
 cases b
 · show if _ then _ else _
   rw [if_neg (by rw [hg];exact Bool.false_ne_true)]
   exact ⟨hS,h⟩
 exact ⟨undef,.inr ⟨hg,rfl⟩,h⟩
theorem ko (hg:Region.wanted o (yielded ops a.tmps)=true)
    (h:∀ K:Act→World→Prop,(∀ a' w',S w'→soft P ops S Q (k + 1) l p a' w'→K a' w')→o.wp P a w K Q):soft P ops S Q k (o :: l) (false :: p) a w:=by
 unfold soft
 show if _ then _ else _
 rw [if_pos hg]
 exact .inl (h _ (fun a' w' h1 h2=>by unfold soft at h2;exact ⟨h1,h2⟩))
end
theorem kS {p q:Prop} (k:q) (h:Hid q→p:=by intro kq;(first|(refine kK rfl E ?_)|(refine jE (v:=?_) rfl (fun W hW=>?_) ?_;rotate_left;(· (try have A:=FX.out W hW);clear hW;go_simp;try with_reducible rfl)));(try simp only [Act.put,zA,zB,zC]);exact kq.out):p:=h (yD k)
theorem yT {b:Bool} {p:Prop} {q:Bool→Prop} (k:∀ c:Bool,b=c→q c) (h:Hid (∀ c:Bool,b=c→q c)→p:=by intro kq;(refine kFl (v:=?_) (b:=_) rfl (fun W hW=>?_) ?_ kq.out;rotate_left;(· (try have A:=FX.out W hW);clear hW;go_simp;try with_reducible rfl);(· with_reducible rfl))):p:=h (yD k)
theorem wkB {C p:Prop} {S q:World→Prop} (c:C) (k:∀ W,S W→q W) (h:C→Hid (∀ W,S W→q W)→p:=by intro G kq;first|(refine kK rfl E ?_;(try simp only [Act.put,zA,zB,zC]);exact kq.out _ E)|(refine ko rfl (fun K J=>?_);go_simp;refine G.mono ?_;rintro e wS1 ⟨rfl,af⟩;refine J _ _ (tQ E af) ?_;clear J K;(try simp only [Act.put,zA,zB,zC]);exact kq.out _ (tQ E af))):p:=h c (yD k)
theorem wkC {C p q:Prop} (c:C) (k:q) (h:C→Hid q→p:=by intro G kq;first|(refine kK rfl E ?_;(try simp only [Act.put,zA,zB,zC]);exact kq.out)|(refine ko rfl (fun K J=>?_);go_simp;refine G.mono ?_;rintro e wS1 ⟨rfl,D⟩;obtain rfl:=D.symm;refine J _ _ E ?_;clear J K;(try simp only [Act.put,zA,zB,zC]);exact kq.out)):p:=h c (yD k)
theorem kX {p q:Prop} (k:q) (h:Hid q→p:=by intro kq;(try simp only [Act.put,zA,zB,zC]);exact kq.out):p:=h (yD k)
theorem jM {α:Type} {x:List α} {k:Nat} {d:α} (h:k < x.length):x.getD k d=x[k]:=by simp [List.getD,h]
def yX (f:Nat→Bool):Nat→Bool
  | 0=>true
  | n + 1=>yX f n && f n
theorem kAq {f:Nat→Bool} {n:Nat} (h:yX f n=true) (q:f n=true):yX f (n + 1)=true:=by simp [yX,h,q]
theorem kCj {f:Nat→Bool} {n j:Nat} (h:j < n) (q:f j=false):yX f n=false:=by
 induction n with
 | zero=>omega
 | succ n ih =>
   by_cases e:j=n
   · subst e;simp [yX,q]
   · simp [yX,ih bB9]
end Go.Proofs.YtonmjkmaadgceaaGreat

/-
  The program's types as plain data, and how their cells are taken apart. Printed by gentypes.py.
  From the reading of an argument to its representation; from a contract of a law to its statement. Printed by genbridge.py.
  The laws' bound on the code.
  The library's functions on slices, at the program's types. Printed by genlib.py.
-/
import Derived.Test.YthpgoddjglnoiaaGreatDoorOwn2
import Derived.Test.YthpgoddjglnoiaaGreatDoorRows
import Derived.ProofKit
import Derived.OpenShut
import Derived.Deep.Slices
import Derived.IntWalk
import Derived.Test.YthpgoddjglnoiaaGreatDoorProg
import Derived.WalkLawsBesides
import Derived.BigQuiet
import Derived.Deep.QuietTactic
import Derived.StillTailTactics
set_option linter.unusedVariables false
set_option linter.unusedSimpArgs false
set_option linter.unnecessarySimpa false
set_option maxHeartbeats 4000000
namespace Go.Proofs.YthpgoddjglnoiaaGreatDoor
open Go.RowKit
abbrev kR:=(List ByteArray)
instance decName:DecidableEq kR:=inferInstanceAs (DecidableEq ((List ByteArray)))
def kV:Rep kR:=(.slice 9 .str)
theorem kN {w:World} {cs:List Value} {x:kR} (h:kV.raw w cs x):∃ v0,cs=[v0]∧(Rep.slice 9 Rep.str).raw w [v0] x:=by
 obtain ⟨_,rfl,r_0⟩:=Rep.slice_raw h
 exact ⟨_,rfl,r_0⟩
abbrev kD:=kR × Int × Int
instance decRoute:DecidableEq kD:=inferInstanceAs (DecidableEq (kR × Int × Int))
def kE:Rep kD:=.pair kV (.pair .int .int)
theorem kG {w:World} {cs:List Value} {x:kD} (h:kE.raw w cs x):∃ v0,cs=[v0,.int .i64 x.2.1,.int .i64 x.2.2]∧kV.raw w [v0] x.1∧(Rep.slice 9 Rep.str).raw w [v0] x.1∧(-9223372036854775808≤x.2.1∧x.2.1≤9223372036854775807)∧(-9223372036854775808≤x.2.2∧x.2.2≤9223372036854775807):=by
 obtain ⟨_,_,rfl,a_0,b_0⟩:=Rep.pair_raw h
 have q_0:=kN a_0
 obtain ⟨_,rfl,s_0_0⟩:=q_0
 obtain ⟨_,_,rfl,a_1,b_1⟩:=Rep.pair_raw b_0
 obtain ⟨rfl,r_1⟩:=Rep.kBf a_1
 obtain ⟨rfl,r_2⟩:=Rep.kBf b_1
 exact ⟨_,rfl,a_0,s_0_0,r_1,r_2⟩
def zb (x:kD) (v:Int):kD:=(x.1,x.2.1,v)
theorem kFp {x:kD} (v:Int) (hv:-9223372036854775808≤v∧v≤9223372036854775807) {w:World} {cs:List Value} {S:Nat→Prop} (h:kE.is true w cs x S):kE.is true w (cs.set 2 (.int .i64 v)) (zb x v) S:=by
 obtain ⟨c0,d0,A0,B0,rfl,p0,q0,hA0,hB0,hd0⟩:=h
 obtain ⟨c1,d1,A1,B1,rfl,p1,q1,hA1,hB1,hd1⟩:=q0
 obtain ⟨rfl,_⟩:=q1
 have l0:=Rep.len _ p0
 have l1:=Rep.len _ p1
 change _=1 at l0;change _=1 at l1
 have e:((c0++(c1++[.int .i64 x.2.2])):List Value).set 2 (.int .i64 v)=(c0++(c1++[.int .i64 v])):=by
  obtain ⟨y0_0,rfl⟩:∃ y0_0,c0=[y0_0]:=by match c0,l0 with | [y0_0],_=>exact ⟨_,rfl⟩
  obtain ⟨y1_0,rfl⟩:∃ y1_0,c1=[y1_0]:=by match c1,l1 with | [y1_0],_=>exact ⟨_,rfl⟩
  rfl
 rw [e]
 exact ⟨_,_,A0,B0,rfl,p0,⟨_,_,A1,B1,rfl,p1,⟨rfl,hv⟩,hA1,hB1,hd1⟩,hA0,hB0,hd0⟩
end Go.Proofs.YthpgoddjglnoiaaGreatDoor
namespace Go.Proofs.YthpgoddjglnoiaaGreatDoor
open Go.ChangeShapes Go.WideShapes Go.ChangeAt Go.RowKit Go.Deep
section
variable {H:Type} {enc:TypeId × Value→H} {P:Program} {w:World}
theorem bridge_byte {T:TypeId} (hT:P.underlying T=some (.int .u8)) {fuel:Nat} {cs:List Value} {y:DataW H × List MemPlace} (h:DataW.trod enc P w 0 (fun _=>true) true fuel T cs=some y):∃ x,Rep.byte.raw w cs x:=by
 obtain ⟨n,rfl,_,hw⟩:=DataW.trod_int hT h
 have hn:0≤n∧n≤255:=by simpa [Lit.wf,IntKind.min,IntKind.max,IntKind.signed,IntKind.bits] using hw
 refine ⟨UInt8.ofNat n.toNat,?_⟩
 show _=_
 have:(UInt8.ofNat n.toNat).toNat=n.toNat:=by rw [UInt8.toNat_ofNat'];omega
 rw [this,Int.toNat_of_nonneg hn.1]
theorem kJi {α:Type} {r:Rep α} {e T E:TypeId} (hT:P.underlying T=some (.slice E)) (hn:P.cellsOf E=r.n) (hpos:0 < r.n)
    (ih:∀ {fuel:Nat} {cs:List Value} {y:DataW H × List MemPlace},DataW.trod enc P w 0 (fun _=>true) true fuel E cs=some y→∃ x,r.raw w cs x)
    {fuel:Nat} {cs:List Value} {y:DataW H × List MemPlace} (h:DataW.trod enc P w 0 (fun _=>true) true fuel T cs=some y):∃ xs,(Rep.slice e r).raw w cs xs:=by
 rcases open_slice hT h with ⟨rfl,_⟩|⟨a,len,cap,m,n,D,Pl,rfl,_,hl,hm,hmm,_,hx⟩
 · exact ⟨[],none,0,0,rfl,rfl,Nat.le_refl _,Nat.zero_le _,.inl ⟨rfl,by simp⟩⟩
 simp only [if_true] at hmm
 subst hmm
 rw [hn] at hx
 rcases Nat.eq_zero_or_pos len with rfl | hlen
 · exact ⟨[],some a,0,m,rfl,rfl,hl,hm,.inl ⟨rfl,by simp⟩⟩
 have hcell:∀ i,i < m→∀ j,j < r.n→∃ v,w.cell? ((a.add (i * r.n)).add j)=some v:=by
  intro i hi j hj
  obtain ⟨cs',h1,h2⟩:=hx i hi
  obtain ⟨_,hl',hc⟩:=World.cells?_some h1
  rw [hc j hj,List.getElem?_eq_getElem fV]
  exact ⟨_,rfl⟩
 obtain ⟨v0,hv0⟩:=hcell 0 fV 0 hpos
 have ha0:(a.add (0 * r.n)).add 0=a:=by simp [Addr.add]
 rw [ha0] at hv0
 have hblk:∃ cur e' fr,w.heap[a.block]?=some (.cells cur e' fr)∧a.spot=none:=by
  unfold World.cell? at hv0
  split at hv0
  · rename_i c e' fr hb
    refine ⟨c,e',fr,hb,?_⟩
    cases hs:a.spot with
    | none=>rfl
    | some s=>simp [hs] at hv0
  cases hv0
 obtain ⟨cur,e',fr,hb,hs⟩:=hblk
 obtain ⟨b,off,spot⟩:=a
 simp only at hs hb
 subst hs
 have hadd:∀ i j,(((⟨b,off,none⟩:Addr).add (i * r.n)).add j)=⟨b,off + i * r.n + j,none⟩:=by
  intro i j
  unfold Addr.add
  split <;> split <;> simp_all
 have hcur:∀ i,i < m→∀ j,j < r.n→∃ v,cur[off + i * r.n + j]?=some v:=by
  intro i hi j hj
  obtain ⟨v,hv⟩:=hcell i hi j hj
  rw [hadd,cell_of_row w b _ cur e' fr hb] at hv
  exact ⟨v,hv⟩
 have hsize:off + m * r.n≤cur.size:=by
  obtain ⟨v,hv⟩:=hcur (m - 1) fV (r.n - 1) fV
  have:=(Array.getElem?_eq_some_iff.1 hv).1
  have e1:m * r.n=(m - 1) * r.n + r.n:=by
   conv=>lhs;rw [show m=(m - 1) + 1 by omega]
   rw [Nat.add_mul,Nat.one_mul]
  omega
 have hcut:∀ i,i < m→∃ x,r.raw w ((cur.toList.drop (off + i * r.n)).take r.n) x:=by
  intro i hi
  obtain ⟨cs',h1,h2⟩:=hx i hi
  obtain ⟨_,hl',hc⟩:=World.cells?_some h1
  have:cs'=(cur.toList.drop (off + i * r.n)).take r.n:=by
   apply List.ext_getElem?
   intro j
   by_cases hj:j < r.n
   · rw [← hc j hj,hadd,cell_of_row w b _ cur e' fr hb]
     simp [hj,List.getElem?_drop]
   rw [List.getElem?_eq_none fV,List.getElem?_eq_none fQ]
  rw [← this]
  exact ih h2
 have hrow:∀ k,k≤len→∃ xs:List α,xs.length=k∧Rep.row r false w ((cur.toList.drop off).take (k * r.n)) xs (fun _=>True):=by
  intro k
  induction k with
  | zero=>intro _;exact ⟨[],rfl,by simp [Rep.row]⟩
  | succ k ihk =>
    intro hk
    obtain ⟨xs,hxl,hr⟩:=ihk fV
    obtain ⟨x,hxr⟩:=hcut k fV
    refine ⟨xs++[x],by simp [hxl],?_⟩
    have:(cur.toList.drop off).take ((k + 1) * r.n)=(cur.toList.drop off).take (k * r.n)++(cur.toList.drop (off + k * r.n)).take r.n:=by
      rw [Nat.add_mul,Nat.one_mul,List.take_add,List.drop_drop]
    rw [this]
    exact Rep.jR hr (Rep.ze hxr) (fun _ h=>h) (fun _ h=>h) fZ
 obtain ⟨xs,hxl,hr⟩:=hrow len nL
 refine ⟨xs,some ⟨b,off,none⟩,len,m,rfl,hxl.symm,hl,hm,.inr ⟨b,off,rfl,cur,e',fr,cur.toList.take off,_,(cur.toList.drop off).drop (len * r.n),hb,?_,?_,hsize,by simp,trivial,Rep.ko hr (fun _ _=>⟨trivial,by simp⟩)⟩⟩
 · rw [List.take_append_drop,List.take_append_drop]
 simp;omega
theorem kCk (hl:laidOutB P=true) {W W':World} (hb:Below W.heap.size W W'):∀ {ts:List TypeId} {vs:List Value} {ds:List (DataW H)} {ps:List MemPlace},(∀ t∈ts,P.readableRec t=true∧t < P.types.size) →
    DataW.TrodAll enc P W 0 (fun _=>true) true ts vs ds ps→(∀ x∈ps,x.block < W.heap.size)→DataW.TrodAll enc P W' 0 (fun b=>decide (b < W.heap.size)) true ts vs ds ps
  | [],[],[],ps,_,h,_=>h
  | t :: ts,v :: vs,d :: ds,ps,ht,⟨p,q,h1,h2,h3⟩,hlt=>by
    subst h3
    exact ⟨p,q,Below.trod hl (ht t fZ).1 (ht t fZ).2 h1 hb (fun x hx=>hlt x (by simp [hx])),kCk hl hb (fun u hu=>ht u (by simp [hu])) h2 (fun x hx=>hlt x (by simp [hx])),rfl⟩
end
theorem law_own:ownKnob Tryz.prog.godebug=none:=by kernel_rfl
theorem law_laidOut:laidOutB Tryz.prog=true:=by kernel_rfl
def LawPost (w:World) (e:Ending) (w':World):Prop:=e=.returned (.bool true)∧Below w.heap.size w w'
theorem law_post {H:Type} {enc:TypeId × Value→H} {fn:Func} {s:ChangeSpec} {W W':World} {args:Array Value} {ds gs:List (DataW H)} {before:List MemPlace} {tb:TypeId}
    (hW:DataW.Whole enc Tryz.prog fn.params.toList s.vars false W args.toList ds gs before) (hvars:s.vars=[]) (hres:fn.resultTypes=#[tb]) (htb:Tryz.prog.underlying tb=some .bool)
    (hsp:(s.fn H (ds++gs)).results=[.lit (.bool true)]∧(s.fn H (ds++gs)).args=ds∧(s.fn H (ds++gs)).vars=[])
    (hts:∀ t∈fn.params.toList,Tryz.prog.readableRec t=true∧t < Tryz.prog.types.size) (hb:Below W.heap.size W W') :
    s.post enc Tryz.prog fn false true false false W args (.bool true) W':=by
 have hlt:∀ p∈before,p.block < W.heap.size:=fun p hp=>by simpa using hW.lt p hp
 have hW':=hW
 obtain ⟨p,q,hA,hV,rfl,_,_⟩:=hW
 rw [hvars] at hV
 have hgq:gs=[]∧q=[]:=by
  cases gs with
  | nil=>exact ⟨rfl,hV⟩
  | cons g gs=>exact hV.elim
 obtain ⟨rfl,rfl⟩:=hgq
 refine ⟨ds,[],_,[],p,[],hW',?_,?_,?_,hb.frame _,fun h=>by cases h⟩
 · rw [hsp.1,hres]
   exact trodAll_cons_mk (shut_bool htb true) trodAll_mk0
 · rw [hsp.2.1]
   exact kCk law_laidOut hb hts hA (fun x hx=>hlt x (by simp [hx]))
 rw [hsp.2.2,hvars]
 rfl
theorem kJj {H:Type} {enc:TypeId × Value→H} {w:World} {fuel:Nat} {cs:List Value} {y:DataW H × List MemPlace} (h:DataW.trod enc Tryz.prog w 0 (fun _=>true) true fuel 22 cs=some y):∃ x,(Rep.slice 5 Rep.byte).raw w cs x :=
  kJi Tryz.underlying22 fP fU (fun h=>bridge_byte Tryz.underlying5 h) h
end Go.Proofs.YthpgoddjglnoiaaGreatDoor
namespace Go.Proofs.YthpgoddjglnoiaaGreatDoor
open Go.RowKit
theorem lawsbig_c {w:World} {v:Value} {code:List UInt8} (hcode:(Rep.slice 5 Rep.byte).raw w [v] code) :
    Calls Tryz.prog 4 #[v] w fun e w'=>e=.returned (.bool (decide ((code.length:Int) > 1048576)))∧Below w.heap.size w w':=by
 obtain ⟨ca,cc,rfl,_⟩:=Rep.sl hcode
 go_enter Tryz.func4,Tryz.ntmps4
 go_wp2
 go_ret
 exact ⟨by simp,bR⟩
def idxOf {α:Type} (p:α→Bool) (l:List α):Int:=match l.findIdx? p with | some i=>i | none=>-1
theorem idxOf_hit {α:Type} {p:α→Bool} {x:List α} {k:Nat} (hlt:k < x.length) (hp:p x[k]=true) (hno:∀ j,(h:j < k)→(h2:j < x.length)→p x[j]=false):idxOf p x=k:=by
 unfold idxOf
 have:x.findIdx? p=some k:=by
  rw [List.findIdx?_eq_some_iff_getElem]
  exact ⟨hlt,hp,fun j hj=>by simpa using hno j hj fV⟩
 rw [this]
theorem idxOf_miss {α:Type} {p:α→Bool} {x:List α} {k:Nat} (hlt:¬ k < x.length) (hno:∀ j,(h:j < k)→(h2:j < x.length)→p x[j]=false):idxOf p x=-1:=by
 unfold idxOf
 have:x.findIdx? p=none:=by
  rw [List.findIdx?_eq_none_iff]
  intro y hy
  obtain ⟨j,hj,rfl⟩:=List.getElem_of_mem hy
  simpa using hno j fV hj
 rw [this]
theorem kIy {α:Type} {p:α→Bool} {x:List α} {k:Nat} (hlt:k < x.length) (hp:p x[k]=false) (hno:∀ j,(h:j < k)→(h2:j < x.length)→p x[j]=false):∀ j,(h:j < k + 1)→(h2:j < x.length)→p x[j]=false:=by
 intro j h h2
 by_cases q:j=k
 · subst q;exact hp
 exact hno j fV h2
def kY (P:Program) (g:FuncId):Prop:=∀ vs W,(callFunc g vs).run P W=.ok (.enter g vs) W
theorem yN {P:Program} {g:FuncId} {fn:Func} (hf:P.funcs[g]?=some fn) (hn:(fn.name == "runtime.NumGoroutine")=false) (hb:fn.body.isNone=false):kY P g:=by
 intro vs W
 have hp:(program:Sem Program).run P W=.ok P W:=rfl
 have hn':¬ (fn.name = "runtime.NumGoroutine"):=by simpa using hn
 unfold callFunc
 simp only [Sem.run_bind,hp,Result.andThen_ok,hf,hn,hb,Bool.false_eq_true,if_false,Sem.run_pure]
theorem kDf {w:World} {va:Value} {x:List ByteArray} {g:FuncId} {cp:Array Value} (p:ByteArray→Bool) (hg:kY Tryz.prog g) (ha:(Rep.slice 9 Rep.str).raw w [va] x)
    (hcl:∀ wr,Below w.heap.size w wr→∀ (i:Nat) (h:i < x.length) c,Rep.str.raw wr [c] x[i]→Calls Tryz.prog g (#[c]++cp) wr (fun e w'=>e=.returned (.bool (p x[i]))∧Below wr.heap.size wr w')) :
    Calls Tryz.prog 94 #[va,.func (.func g) #[] cp] w fun e w'=>e=.returned (.int .i64 (idxOf p x))∧Below w.heap.size w w':=by
 obtain ⟨aa,capa,rfl,la⟩:=Rep.sl ha
 have HCL:=yD hcl;clear hcl
 unfold kY at hg
 go_enter Tryz.func94,Tryz.ntmps94
 go_wp2
 go_loopw [8] (fun i wr=>∃ k:Nat,k≤x.length∧i=.int .i64 k∧(∀ j,(h:j < k)→(h2:j < x.length)→p x[j]=false)∧Below w.heap.size w wr) (fun i _=>x.length - (intOf i).toNat)
 case atStart=>exact ⟨0,Nat.zero_le _,rfl,fun _ h=>by omega,bR⟩
 obtain ⟨k,hk,rfl,hno,hbel⟩:=hrel
 have HN:=yD hno;clear hno
 by_cases hlt:k < x.length
 · obtain ⟨ba,offa,rfl,c0,hr,A0⟩:=Rep.kAd (ha.below hbel) hlt rfl
   have C:=HCL.out wr hbel k hlt _ hr
   obtain ⟨he,_⟩:=Rep.jv hr
   obtain rfl:c0=_:=by simpa using he
   clear he hr
   by_cases hp:p x[k]=true
   · rw [hp] at C
     have HC:=yD C;clear C
     have HT:=yD (idxOf_hit hlt hp HN.out);clear hp
     go_wp2_with fail
     refine HC.out.mono ?_
     rintro e w1 ⟨rfl,hb1⟩
     go_wp2
     go_ret
     exact ⟨jB HT.out.symm,(tQ hbel hb1)⟩
   have hp:p x[k]=false:=by simpa using hp
   rw [hp] at C
   have HC:=yD C;clear C
   have HT:=yD (kIy hlt hp HN.out);clear hp
   go_wp2_with fail
   refine HC.out.mono ?_
   rintro e w1 ⟨rfl,hb1⟩
   go_wp2
   go_roundw
   case rel=>exact ⟨k + 1,by omega,by go_num,HT.out,(tQ hbel hb1)⟩
   simp [intOf];omega
 have HT:=yD (idxOf_miss hlt HN.out)
 go_wp2
 go_ret
 exact ⟨jB HT.out.symm,hbel⟩
theorem kBp {w:World} {va:Value} {x:List ByteArray} {g:FuncId} {cp:Array Value} (p:ByteArray→Bool) (hg:kY Tryz.prog g) (ha:(Rep.slice 9 Rep.str).raw w [va] x)
    (hcl:∀ wr,Below w.heap.size w wr→∀ (i:Nat) (h:i < x.length) c,Rep.str.raw wr [c] x[i]→Calls Tryz.prog g (#[c]++cp) wr (fun e w'=>e=.returned (.bool (p x[i]))∧Below wr.heap.size wr w')) :
    Calls Tryz.prog 79 #[va,.func (.func g) #[] cp] w fun e w'=>e=.returned (.bool (decide (0≤idxOf p x)))∧Below w.heap.size w w':=by
 have HCL:=yD hcl;clear hcl
 go_enter Tryz.func79,Tryz.ntmps79
 go_wp2_with fail
 refine (kDf p hg ha HCL.out).mono ?_
 rintro e w1 ⟨rfl,hb1⟩
 go_wp2
 go_ret
 exact ⟨rfl,hb1⟩
theorem zx {w:World} {va:Value} {x:List kD} {g:FuncId} {cp:Array Value} (p:kD→Bool) (hg:kY Tryz.prog g) (ha:(Rep.slice 29 kE).raw w [va] x)
    (hcl:∀ wr,Below w.heap.size w wr→∀ (i:Nat) (h:i < x.length) cs,kE.raw wr cs x[i]→Calls Tryz.prog g (#[.agg cs.toArray]++cp) wr (fun e w'=>e=.returned (.bool (p x[i]))∧Below wr.heap.size wr w')) :
    Calls Tryz.prog 68 #[va,.func (.func g) #[] cp] w fun e w'=>e=.returned (.int .i64 (idxOf p x))∧Below w.heap.size w w':=by
 obtain ⟨aa,capa,rfl,la⟩:=Rep.sl ha
 have HCL:=yD hcl;clear hcl
 unfold kY at hg
 go_enter Tryz.func68,Tryz.ntmps68
 go_wp2
 go_loopw [8] (fun i wr=>∃ k:Nat,k≤x.length∧i=.int .i64 k∧(∀ j,(h:j < k)→(h2:j < x.length)→p x[j]=false)∧Below w.heap.size w wr) (fun i _=>x.length - (intOf i).toNat)
 case atStart=>exact ⟨0,Nat.zero_le _,rfl,fun _ h=>by omega,bR⟩
 obtain ⟨k,hk,rfl,hno,hbel⟩:=hrel
 have HN:=yD hno;clear hno
 by_cases hlt:k < x.length
 · obtain ⟨ba,offa,rfl,c0,c1,c2,hr,A0,A1,A2⟩:=Rep.yg (ha.below hbel) hlt rfl
   have C:=HCL.out wr hbel k hlt _ hr
   by_cases hp:p x[k]=true
   · rw [hp] at C
     have HC:=yD C;clear C
     have HT:=yD (idxOf_hit hlt hp HN.out);clear hp
     go_wp2_with fail
     refine HC.out.mono ?_
     rintro e w1 ⟨rfl,hb1⟩
     go_wp2
     go_ret
     exact ⟨jB HT.out.symm,(tQ hbel hb1)⟩
   have hp:p x[k]=false:=by simpa using hp
   rw [hp] at C
   have HC:=yD C;clear C
   have HT:=yD (kIy hlt hp HN.out);clear hp
   go_wp2_with fail
   refine HC.out.mono ?_
   rintro e w1 ⟨rfl,hb1⟩
   go_wp2
   go_roundw
   case rel=>exact ⟨k + 1,by omega,by go_num,HT.out,(tQ hbel hb1)⟩
   simp [intOf];omega
 have HT:=yD (idxOf_miss hlt HN.out)
 go_wp2
 go_ret
 exact ⟨jB HT.out.symm,hbel⟩
end Go.Proofs.YthpgoddjglnoiaaGreatDoor

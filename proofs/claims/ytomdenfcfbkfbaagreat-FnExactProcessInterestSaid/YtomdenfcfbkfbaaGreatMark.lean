/-
  From the reading of an argument to its representation; from a contract of a law to its statement. Printed by genbridge.py.
  The text of a mark.
  The laws' markings: each writes new numbers into all that its argument leads to, and into nothing else. Printed by genmark.py.
-/
import Derived.Test.YtomdenfcfbkfbaaGreatRows
import Derived.Test.YtomdenfcfbkfbaaGreatTypes
import Derived.ProofKit
import Derived.OpenShut
import Derived.Deep.Slices
import Derived.Test.YtomdenfcfbkfbaaGreatProg
import Derived.WalkLawsBesides
import Derived.IntWalk
import Derived.Laws.BytesArg
import Derived.BigQuiet
import Derived.Deep.QuietTactic
import Derived.StillTailTactics
set_option linter.unusedVariables false
set_option linter.unusedSimpArgs false
set_option linter.unnecessarySimpa false
set_option maxRecDepth 100000
set_option maxHeartbeats 16000000
namespace Go.Proofs.YtomdenfcfbkfbaaGreat
open Go.ChangeShapes Go.WideShapes Go.ChangeAt Go.RowKit Go.Deep
section
variable {H:Type} {enc:TypeId × Value→H} {P:Program} {w:World}
theorem yU {T:TypeId} (hT:P.underlying T=some (.int .i64)) {fuel:Nat} {cs:List Value} {y:DataW H × List MemPlace} (h:DataW.trod enc P w 0 (fun _=>true) true fuel T cs=some y):∃ x,Rep.int.raw w cs x:=by
 obtain ⟨n,rfl,_,hw⟩:=DataW.trod_int hT h
 exact ⟨n,rfl,by simpa [Lit.wf,IntKind.min,IntKind.max,IntKind.signed,IntKind.bits] using hw⟩
theorem bridge_byte {T:TypeId} (hT:P.underlying T=some (.int .u8)) {fuel:Nat} {cs:List Value} {y:DataW H × List MemPlace} (h:DataW.trod enc P w 0 (fun _=>true) true fuel T cs=some y):∃ x,Rep.byte.raw w cs x:=by
 obtain ⟨n,rfl,_,hw⟩:=DataW.trod_int hT h
 have hn:0≤n∧n≤255:=by simpa [Lit.wf,IntKind.min,IntKind.max,IntKind.signed,IntKind.bits] using hw
 refine ⟨UInt8.ofNat n.toNat,?_⟩
 show _=_
 have:(UInt8.ofNat n.toNat).toNat=n.toNat:=by rw [UInt8.toNat_ofNat'];omega
 rw [this,Int.toNat_of_nonneg hn.1]
theorem kTz {T:TypeId} (hT:P.underlying T=some .string) {fuel:Nat} {cs:List Value} {y:DataW H × List MemPlace} (h:DataW.trod enc P w 0 (fun _=>true) true fuel T cs=some y):∃ x,Rep.str.raw w cs x:=by
 obtain ⟨s,rfl,_,hs⟩:=DataW.trod_string hT h
 exact ⟨s,rfl,hs⟩
theorem zn {α:Type} {r:Rep α} {e T E:TypeId} (hT:P.underlying T=some (.slice E)) (hn:P.cellsOf E=r.n) (hpos:0 < r.n)
    (ih:∀ {fuel:Nat} {cs:List Value} {y:DataW H × List MemPlace},DataW.trod enc P w 0 (fun _=>true) true fuel E cs=some y→∃ x,r.raw w cs x)
    {fuel:Nat} {cs:List Value} {y:DataW H × List MemPlace} (h:DataW.trod enc P w 0 (fun _=>true) true fuel T cs=some y):∃ xs,(Rep.slice e r).raw w cs xs:=by
 rcases open_slice hT h with ⟨rfl,_⟩|⟨a,len,cap,m,n,D,Pl,rfl,_,hl,hm,hmm,_,hx⟩
 · exact ⟨[],none,0,0,rfl,rfl,Nat.le_refl _,Nat.zero_le _,.inl ⟨rfl,by simp⟩⟩
 simp only [if_true] at hmm
 subst hmm
 rw [hn] at hx
 rcases Nat.eq_zero_or_pos len with rfl | hlen
 · exact ⟨[],some a,0,m,rfl,rfl,hl,hm,.inl ⟨rfl,by simp⟩⟩
 have hcell:∀ i,i < m→∀ j,j < r.n→∃ v,w.cell? ((a.add (i * r.n)).add j)=some v:=by
  intro i hi j hj
  obtain ⟨cs',h1,h2⟩:=hx i hi
  obtain ⟨_,hl',hc⟩:=World.cells?_some h1
  rw [hc j hj,List.getElem?_eq_getElem rJ]
  exact ⟨_,rfl⟩
 obtain ⟨v0,hv0⟩:=hcell 0 rJ 0 hpos
 have ha0:(a.add (0 * r.n)).add 0=a:=by simp [Addr.add]
 rw [ha0] at hv0
 have hblk:∃ cur e' fr,w.heap[a.block]?=some (.cells cur e' fr)∧a.spot=none:=by
  unfold World.cell? at hv0
  split at hv0
  · rename_i c e' fr hb
    refine ⟨c,e',fr,hb,?_⟩
    cases hs:a.spot with
    | none=>rfl
    | some s=>simp [hs] at hv0
  cases hv0
 obtain ⟨cur,e',fr,hb,hs⟩:=hblk
 obtain ⟨b,off,spot⟩:=a
 simp only at hs hb
 subst hs
 have hadd:∀ i j,(((⟨b,off,none⟩:Addr).add (i * r.n)).add j)=⟨b,off + i * r.n + j,none⟩:=by
  intro i j
  unfold Addr.add
  split <;> split <;> simp_all
 have hcur:∀ i,i < m→∀ j,j < r.n→∃ v,cur[off + i * r.n + j]?=some v:=by
  intro i hi j hj
  obtain ⟨v,hv⟩:=hcell i hi j hj
  rw [hadd,cell_of_row w b _ cur e' fr hb] at hv
  exact ⟨v,hv⟩
 have hsize:off + m * r.n≤cur.size:=by
  obtain ⟨v,hv⟩:=hcur (m - 1) rJ (r.n - 1) rJ
  have:=(Array.getElem?_eq_some_iff.1 hv).1
  have e1:m * r.n=(m - 1) * r.n + r.n:=by
   conv=>lhs;rw [show m=(m - 1) + 1 by omega]
   rw [Nat.add_mul,Nat.one_mul]
  omega
 have hcut:∀ i,i < m→∃ x,r.raw w ((cur.toList.drop (off + i * r.n)).take r.n) x:=by
  intro i hi
  obtain ⟨cs',h1,h2⟩:=hx i hi
  obtain ⟨_,hl',hc⟩:=World.cells?_some h1
  have:cs'=(cur.toList.drop (off + i * r.n)).take r.n:=by
   apply List.ext_getElem?
   intro j
   by_cases hj:j < r.n
   · rw [← hc j hj,hadd,cell_of_row w b _ cur e' fr hb]
     simp [hj,List.getElem?_drop]
   rw [List.getElem?_eq_none rJ,List.getElem?_eq_none rC]
  rw [← this]
  exact ih h2
 have hrow:∀ k,k≤len→∃ xs:List α,xs.length=k∧Rep.row r false w ((cur.toList.drop off).take (k * r.n)) xs (fun _=>True):=by
  intro k
  induction k with
  | zero=>intro _;exact ⟨[],rfl,by simp [Rep.row]⟩
  | succ k ihk =>
    intro hk
    obtain ⟨xs,hxl,hr⟩:=ihk rJ
    obtain ⟨x,hxr⟩:=hcut k rJ
    refine ⟨xs++[x],by simp [hxl],?_⟩
    have:(cur.toList.drop off).take ((k + 1) * r.n)=(cur.toList.drop off).take (k * r.n)++(cur.toList.drop (off + k * r.n)).take r.n:=by
      rw [Nat.add_mul,Nat.one_mul,List.take_add,List.drop_drop]
    rw [this]
    exact Rep.zu hr (Rep.kDd hxr) (fun _ h=>h) (fun _ h=>h) rM
 obtain ⟨xs,hxl,hr⟩:=hrow len nL
 refine ⟨xs,some ⟨b,off,none⟩,len,m,rfl,hxl.symm,hl,hm,.inr ⟨b,off,rfl,cur,e',fr,cur.toList.take off,_,(cur.toList.drop off).drop (len * r.n),hb,?_,?_,hsize,by simp,trivial,Rep.yM hr (fun _ _=>⟨trivial,by simp⟩)⟩⟩
 · rw [List.take_append_drop,List.take_append_drop]
 simp;omega
theorem kJs (hl:laidOutB P=true) {W W':World} (hb:Below W.heap.size W W'):∀ {ts:List TypeId} {vs:List Value} {ds:List (DataW H)} {ps:List MemPlace},(∀ t∈ts,P.readableRec t=true∧t < P.types.size) →
    DataW.TrodAll enc P W 0 (fun _=>true) true ts vs ds ps→(∀ x∈ps,x.block < W.heap.size)→DataW.TrodAll enc P W' 0 (fun b=>decide (b < W.heap.size)) true ts vs ds ps
  | [],[],[],ps,_,h,_=>h
  | t :: ts,v :: vs,d :: ds,ps,ht,⟨p,q,h1,h2,h3⟩,hlt=>by
    subst h3
    exact ⟨p,q,Below.trod hl (ht t rM).1 (ht t rM).2 h1 hb (fun x hx=>hlt x (by simp [hx])),kJs hl hb (fun u hu=>ht u (by simp [hu])) h2 (fun x hx=>hlt x (by simp [hx])),rfl⟩
end
theorem law_own:ownKnob Tryz.prog.godebug=none:=by kernel_rfl
theorem law_laidOut:laidOutB Tryz.prog=true:=by kernel_rfl
def LawPost (w:World) (e:Ending) (w':World):Prop:=e=.returned (.bool true)∧Below w.heap.size w w'
theorem law_post {H:Type} {enc:TypeId × Value→H} {fn:Func} {s:ChangeSpec} {W W':World} {args:Array Value} {ds gs:List (DataW H)} {before:List MemPlace} {tb:TypeId}
    (hW:DataW.Whole enc Tryz.prog fn.params.toList s.vars false W args.toList ds gs before) (hvars:s.vars=[]) (hres:fn.resultTypes=#[tb]) (htb:Tryz.prog.underlying tb=some .bool)
    (hsp:(s.fn H (ds++gs)).results=[.lit (.bool true)]∧(s.fn H (ds++gs)).args=ds∧(s.fn H (ds++gs)).vars=[])
    (hts:∀ t∈fn.params.toList,Tryz.prog.readableRec t=true∧t < Tryz.prog.types.size) (hb:Below W.heap.size W W') :
    s.post enc Tryz.prog fn false true false false W args (.bool true) W':=by
 have hlt:∀ p∈before,p.block < W.heap.size:=fun p hp=>by simpa using hW.lt p hp
 have hW':=hW
 obtain ⟨p,q,hA,hV,rfl,_,_⟩:=hW
 rw [hvars] at hV
 have hgq:gs=[]∧q=[]:=by
  cases gs with
  | nil=>exact ⟨rfl,hV⟩
  | cons g gs=>exact hV.elim
 obtain ⟨rfl,rfl⟩:=hgq
 refine ⟨ds,[],_,[],p,[],hW',?_,?_,?_,hb.frame _,fun h=>by cases h⟩
 · rw [hsp.1,hres]
   exact trodAll_cons_mk (shut_bool htb true) trodAll_mk0
 · rw [hsp.2.1]
   exact kJs law_laidOut hb hts hA (fun x hx=>hlt x (by simp [hx]))
 rw [hsp.2.2,hvars]
 rfl
theorem kSq {H:Type} {enc:TypeId × Value→H} {w:World} {fuel:Nat} {cs:List Value} {y:DataW H × List MemPlace} (h:DataW.trod enc Tryz.prog w 0 (fun _=>true) true fuel 48 cs=some y):∃ x,(Rep.slice 9 Rep.str).raw w cs x :=
  zn Tryz.underlying48 rA rG (fun h=>kTz Tryz.underlying9 h) h
theorem kWo {H:Type} {enc:TypeId × Value→H} {w:World} {fuel:Nat} {cs:List Value} {y:DataW H × List MemPlace} (h:DataW.trod enc Tryz.prog w 0 (fun _=>true) true fuel 111 cs=some y):∃ x,(Rep.slice 5 Rep.byte).raw w cs x :=
  zn Tryz.underlying111 rA rG (fun h=>bridge_byte Tryz.underlying5 h) h
theorem kBn {H:Type} {enc:TypeId × Value→H} {w:World} {fuel:Nat} {cs:List Value} {y:DataW H × List MemPlace} (h:DataW.trod enc Tryz.prog w 0 (fun _=>true) true fuel 50 cs=some y):∃ x,kZ.raw w cs x:=by
 obtain ⟨xs,m,rfl,_,hl,hxl,hf⟩:=DataW.trod_struct Tryz.underlying50 h
 have hc:Tryz.prog.cellsOf 50=1:=rA
 rw [hc] at hl
 match xs,hxl with
 | [y0],_ =>
 match cs,hl with
 | [c0],_ =>
 have g0:DataW.trod enc Tryz.prog w 0 (fun _=>true) true m 48 (([c0].drop 0).take (Tryz.prog.cellsOf 48))=some y0:=hf 0 _ rfl
 have k0:Tryz.prog.cellsOf 48=1:=rA
 rw [k0] at g0
 obtain ⟨x0,r0⟩:∃ x,(Rep.slice 9 Rep.str).raw w [c0] x:=kSq g0
 exact ⟨x0,r0⟩
theorem kLc {H:Type} {enc:TypeId × Value→H} {w:World} {fuel:Nat} {cs:List Value} {y:DataW H × List MemPlace} (h:DataW.trod enc Tryz.prog w 0 (fun _=>true) true fuel 148 cs=some y):∃ x,kG.raw w cs x:=by
 obtain ⟨xs,m,rfl,_,hl,hxl,hf⟩:=DataW.trod_struct Tryz.underlying148 h
 have hc:Tryz.prog.cellsOf 148=3:=rA
 rw [hc] at hl
 match xs,hxl with
 | [y0,y1,y2],_ =>
 match cs,hl with
 | [c0,c1,c2],_ =>
 have g0:DataW.trod enc Tryz.prog w 0 (fun _=>true) true m 50 (([c0,c1,c2].drop 0).take (Tryz.prog.cellsOf 50))=some y0:=hf 0 _ rfl
 have k0:Tryz.prog.cellsOf 50=1:=rA
 rw [k0] at g0
 obtain ⟨x0,r0⟩:∃ x,kZ.raw w [c0] x:=kBn g0
 have g1:DataW.trod enc Tryz.prog w 0 (fun _=>true) true m 3 (([c0,c1,c2].drop 1).take (Tryz.prog.cellsOf 3))=some y1:=hf 1 _ rfl
 have k1:Tryz.prog.cellsOf 3=1:=rA
 rw [k1] at g1
 obtain ⟨x1,r1⟩:∃ x,Rep.int.raw w [c1] x:=yU Tryz.underlying3 g1
 have g2:DataW.trod enc Tryz.prog w 0 (fun _=>true) true m 3 (([c0,c1,c2].drop 2).take (Tryz.prog.cellsOf 3))=some y2:=hf 2 _ rfl
 have k2:Tryz.prog.cellsOf 3=1:=rA
 rw [k2] at g2
 obtain ⟨x2,r2⟩:∃ x,Rep.int.raw w [c2] x:=yU Tryz.underlying3 g2
 exact ⟨(x0,x1,x2),Rep.yN (z:=(x0,x1,x2)) r0 (Rep.yN (z:=(x1,x2)) r1 (r2))⟩
theorem kJk {H:Type} {enc:TypeId × Value→H} {w:World} {fuel:Nat} {cs:List Value} {y:DataW H × List MemPlace} (h:DataW.trod enc Tryz.prog w 0 (fun _=>true) true fuel 29 cs=some y):∃ x,(Rep.slice 166 kG).raw w cs x :=
  zn Tryz.underlying29 rA rG (fun h=>kLc h) h
theorem kWm {H:Type} {enc:TypeId × Value→H} {w:World} {fuel:Nat} {cs:List Value} {y:DataW H × List MemPlace} (h:DataW.trod enc Tryz.prog w 0 (fun _=>true) true fuel 145 cs=some y):∃ x,kM.raw w cs x:=by
 obtain ⟨xs,m,rfl,_,hl,hxl,hf⟩:=DataW.trod_struct Tryz.underlying145 h
 have hc:Tryz.prog.cellsOf 145=3:=rA
 rw [hc] at hl
 match xs,hxl with
 | [y0,y1,y2],_ =>
 match cs,hl with
 | [c0,c1,c2],_ =>
 have g0:DataW.trod enc Tryz.prog w 0 (fun _=>true) true m 50 (([c0,c1,c2].drop 0).take (Tryz.prog.cellsOf 50))=some y0:=hf 0 _ rfl
 have k0:Tryz.prog.cellsOf 50=1:=rA
 rw [k0] at g0
 obtain ⟨x0,r0⟩:∃ x,kZ.raw w [c0] x:=kBn g0
 have g1:DataW.trod enc Tryz.prog w 0 (fun _=>true) true m 3 (([c0,c1,c2].drop 1).take (Tryz.prog.cellsOf 3))=some y1:=hf 1 _ rfl
 have k1:Tryz.prog.cellsOf 3=1:=rA
 rw [k1] at g1
 obtain ⟨x1,r1⟩:∃ x,Rep.int.raw w [c1] x:=yU Tryz.underlying3 g1
 have g2:DataW.trod enc Tryz.prog w 0 (fun _=>true) true m 3 (([c0,c1,c2].drop 2).take (Tryz.prog.cellsOf 3))=some y2:=hf 2 _ rfl
 have k2:Tryz.prog.cellsOf 3=1:=rA
 rw [k2] at g2
 obtain ⟨x2,r2⟩:∃ x,Rep.int.raw w [c2] x:=yU Tryz.underlying3 g2
 exact ⟨(x0,x1,x2),Rep.yN (z:=(x0,x1,x2)) r0 (Rep.yN (z:=(x1,x2)) r1 (r2))⟩
theorem kUa {H:Type} {enc:TypeId × Value→H} {w:World} {fuel:Nat} {cs:List Value} {y:DataW H × List MemPlace} (h:DataW.trod enc Tryz.prog w 0 (fun _=>true) true fuel 28 cs=some y):∃ x,(Rep.slice 159 kM).raw w cs x :=
  zn Tryz.underlying28 rA rG (fun h=>kWm h) h
theorem kOe {H:Type} {enc:TypeId × Value→H} {w:World} {fuel:Nat} {cs:List Value} {y:DataW H × List MemPlace} (h:DataW.trod enc Tryz.prog w 0 (fun _=>true) true fuel 239 cs=some y):∃ x,kF.raw w cs x:=by
 obtain ⟨xs,m,rfl,_,hl,hxl,hf⟩:=DataW.trod_struct Tryz.underlying239 h
 have hc:Tryz.prog.cellsOf 239=3:=rA
 rw [hc] at hl
 match xs,hxl with
 | [y0,y1,y2],_ =>
 match cs,hl with
 | [c0,c1,c2],_ =>
 have g0:DataW.trod enc Tryz.prog w 0 (fun _=>true) true m 3 (([c0,c1,c2].drop 0).take (Tryz.prog.cellsOf 3))=some y0:=hf 0 _ rfl
 have k0:Tryz.prog.cellsOf 3=1:=rA
 rw [k0] at g0
 obtain ⟨x0,r0⟩:∃ x,Rep.int.raw w [c0] x:=yU Tryz.underlying3 g0
 have g1:DataW.trod enc Tryz.prog w 0 (fun _=>true) true m 3 (([c0,c1,c2].drop 1).take (Tryz.prog.cellsOf 3))=some y1:=hf 1 _ rfl
 have k1:Tryz.prog.cellsOf 3=1:=rA
 rw [k1] at g1
 obtain ⟨x1,r1⟩:∃ x,Rep.int.raw w [c1] x:=yU Tryz.underlying3 g1
 have g2:DataW.trod enc Tryz.prog w 0 (fun _=>true) true m 3 (([c0,c1,c2].drop 2).take (Tryz.prog.cellsOf 3))=some y2:=hf 2 _ rfl
 have k2:Tryz.prog.cellsOf 3=1:=rA
 rw [k2] at g2
 obtain ⟨x2,r2⟩:∃ x,Rep.int.raw w [c2] x:=yU Tryz.underlying3 g2
 exact ⟨(x0,x1,x2),Rep.yN (z:=(x0,x1,x2)) r0 (Rep.yN (z:=(x1,x2)) r1 (r2))⟩
theorem kMq {H:Type} {enc:TypeId × Value→H} {w:World} {fuel:Nat} {cs:List Value} {y:DataW H × List MemPlace} (h:DataW.trod enc Tryz.prog w 0 (fun _=>true) true fuel 137 cs=some y):∃ x,(Rep.slice 81 kF).raw w cs x :=
  zn Tryz.underlying137 rA rG (fun h=>kOe h) h
theorem kGr {H:Type} {enc:TypeId × Value→H} {w:World} {fuel:Nat} {cs:List Value} {y:DataW H × List MemPlace} (h:DataW.trod enc Tryz.prog w 0 (fun _=>true) true fuel 139 cs=some y):∃ x,kD.raw w cs x:=by
 obtain ⟨xs,m,rfl,_,hl,hxl,hf⟩:=DataW.trod_struct Tryz.underlying139 h
 have hc:Tryz.prog.cellsOf 139=3:=rA
 rw [hc] at hl
 match xs,hxl with
 | [y0,y1,y2],_ =>
 match cs,hl with
 | [c0,c1,c2],_ =>
 have g0:DataW.trod enc Tryz.prog w 0 (fun _=>true) true m 50 (([c0,c1,c2].drop 0).take (Tryz.prog.cellsOf 50))=some y0:=hf 0 _ rfl
 have k0:Tryz.prog.cellsOf 50=1:=rA
 rw [k0] at g0
 obtain ⟨x0,r0⟩:∃ x,kZ.raw w [c0] x:=kBn g0
 have g1:DataW.trod enc Tryz.prog w 0 (fun _=>true) true m 137 (([c0,c1,c2].drop 1).take (Tryz.prog.cellsOf 137))=some y1:=hf 1 _ rfl
 have k1:Tryz.prog.cellsOf 137=1:=rA
 rw [k1] at g1
 obtain ⟨x1,r1⟩:∃ x,(Rep.slice 81 kF).raw w [c1] x:=kMq g1
 have g2:DataW.trod enc Tryz.prog w 0 (fun _=>true) true m 3 (([c0,c1,c2].drop 2).take (Tryz.prog.cellsOf 3))=some y2:=hf 2 _ rfl
 have k2:Tryz.prog.cellsOf 3=1:=rA
 rw [k2] at g2
 obtain ⟨x2,r2⟩:∃ x,Rep.int.raw w [c2] x:=yU Tryz.underlying3 g2
 exact ⟨(x0,x1,x2),Rep.yN (z:=(x0,x1,x2)) r0 (Rep.yN (z:=(x1,x2)) r1 (r2))⟩
theorem kFy {H:Type} {enc:TypeId × Value→H} {w:World} {fuel:Nat} {cs:List Value} {y:DataW H × List MemPlace} (h:DataW.trod enc Tryz.prog w 0 (fun _=>true) true fuel 26 cs=some y):∃ x,(Rep.slice 77 kD).raw w cs x :=
  zn Tryz.underlying26 rA rG (fun h=>kGr h) h
theorem kOd {H:Type} {enc:TypeId × Value→H} {w:World} {fuel:Nat} {cs:List Value} {y:DataW H × List MemPlace} (h:DataW.trod enc Tryz.prog w 0 (fun _=>true) true fuel 142 cs=some y):∃ x,kI.raw w cs x:=by
 obtain ⟨xs,m,rfl,_,hl,hxl,hf⟩:=DataW.trod_struct Tryz.underlying142 h
 have hc:Tryz.prog.cellsOf 142=2:=rA
 rw [hc] at hl
 match xs,hxl with
 | [y0,y1],_ =>
 match cs,hl with
 | [c0,c1],_ =>
 have g0:DataW.trod enc Tryz.prog w 0 (fun _=>true) true m 50 (([c0,c1].drop 0).take (Tryz.prog.cellsOf 50))=some y0:=hf 0 _ rfl
 have k0:Tryz.prog.cellsOf 50=1:=rA
 rw [k0] at g0
 obtain ⟨x0,r0⟩:∃ x,kZ.raw w [c0] x:=kBn g0
 have g1:DataW.trod enc Tryz.prog w 0 (fun _=>true) true m 3 (([c0,c1].drop 1).take (Tryz.prog.cellsOf 3))=some y1:=hf 1 _ rfl
 have k1:Tryz.prog.cellsOf 3=1:=rA
 rw [k1] at g1
 obtain ⟨x1,r1⟩:∃ x,Rep.int.raw w [c1] x:=yU Tryz.underlying3 g1
 exact ⟨(x0,x1),Rep.yN (z:=(x0,x1)) r0 (r1)⟩
theorem kMp {H:Type} {enc:TypeId × Value→H} {w:World} {fuel:Nat} {cs:List Value} {y:DataW H × List MemPlace} (h:DataW.trod enc Tryz.prog w 0 (fun _=>true) true fuel 27 cs=some y):∃ x,(Rep.slice 157 kI).raw w cs x :=
  zn Tryz.underlying27 rA rG (fun h=>kOd h) h
theorem kPz {H:Type} {enc:TypeId × Value→H} {w:World} {fuel:Nat} {cs:List Value} {y:DataW H × List MemPlace} (h:DataW.trod enc Tryz.prog w 0 (fun _=>true) true fuel 52 cs=some y):∃ x,kw.raw w cs x:=by
 obtain ⟨xs,m,rfl,_,hl,hxl,hf⟩:=DataW.trod_struct Tryz.underlying52 h
 have hc:Tryz.prog.cellsOf 52=4:=rA
 rw [hc] at hl
 match xs,hxl with
 | [y0,y1,y2,y3],_ =>
 match cs,hl with
 | [c0,c1,c2,c3],_ =>
 have g0:DataW.trod enc Tryz.prog w 0 (fun _=>true) true m 50 (([c0,c1,c2,c3].drop 0).take (Tryz.prog.cellsOf 50))=some y0:=hf 0 _ rfl
 have k0:Tryz.prog.cellsOf 50=1:=rA
 rw [k0] at g0
 obtain ⟨x0,r0⟩:∃ x,kZ.raw w [c0] x:=kBn g0
 have g1:DataW.trod enc Tryz.prog w 0 (fun _=>true) true m 3 (([c0,c1,c2,c3].drop 1).take (Tryz.prog.cellsOf 3))=some y1:=hf 1 _ rfl
 have k1:Tryz.prog.cellsOf 3=1:=rA
 rw [k1] at g1
 obtain ⟨x1,r1⟩:∃ x,Rep.int.raw w [c1] x:=yU Tryz.underlying3 g1
 have g2:DataW.trod enc Tryz.prog w 0 (fun _=>true) true m 3 (([c0,c1,c2,c3].drop 2).take (Tryz.prog.cellsOf 3))=some y2:=hf 2 _ rfl
 have k2:Tryz.prog.cellsOf 3=1:=rA
 rw [k2] at g2
 obtain ⟨x2,r2⟩:∃ x,Rep.int.raw w [c2] x:=yU Tryz.underlying3 g2
 have g3:DataW.trod enc Tryz.prog w 0 (fun _=>true) true m 3 (([c0,c1,c2,c3].drop 3).take (Tryz.prog.cellsOf 3))=some y3:=hf 3 _ rfl
 have k3:Tryz.prog.cellsOf 3=1:=rA
 rw [k3] at g3
 obtain ⟨x3,r3⟩:∃ x,Rep.int.raw w [c3] x:=yU Tryz.underlying3 g3
 exact ⟨(x0,x1,x2,x3),Rep.yN (z:=(x0,x1,x2,x3)) r0 (Rep.yN (z:=(x1,x2,x3)) r1 (Rep.yN (z:=(x2,x3)) r2 (r3)))⟩
theorem kOw {H:Type} {enc:TypeId × Value→H} {w:World} {fuel:Nat} {cs:List Value} {y:DataW H × List MemPlace} (h:DataW.trod enc Tryz.prog w 0 (fun _=>true) true fuel 134 cs=some y):∃ x,kg.raw w cs x:=by
 obtain ⟨xs,m,rfl,_,hl,hxl,hf⟩:=DataW.trod_struct Tryz.underlying134 h
 have hc:Tryz.prog.cellsOf 134=5:=rA
 rw [hc] at hl
 match xs,hxl with
 | [y0,y1,y2,y3,y4],_ =>
 match cs,hl with
 | [c0,c1,c2,c3,c4],_ =>
 have g0:DataW.trod enc Tryz.prog w 0 (fun _=>true) true m 50 (([c0,c1,c2,c3,c4].drop 0).take (Tryz.prog.cellsOf 50))=some y0:=hf 0 _ rfl
 have k0:Tryz.prog.cellsOf 50=1:=rA
 rw [k0] at g0
 obtain ⟨x0,r0⟩:∃ x,kZ.raw w [c0] x:=kBn g0
 have g1:DataW.trod enc Tryz.prog w 0 (fun _=>true) true m 111 (([c0,c1,c2,c3,c4].drop 1).take (Tryz.prog.cellsOf 111))=some y1:=hf 1 _ rfl
 have k1:Tryz.prog.cellsOf 111=1:=rA
 rw [k1] at g1
 obtain ⟨x1,r1⟩:∃ x,(Rep.slice 5 Rep.byte).raw w [c1] x:=kWo g1
 have g2:DataW.trod enc Tryz.prog w 0 (fun _=>true) true m 50 (([c0,c1,c2,c3,c4].drop 2).take (Tryz.prog.cellsOf 50))=some y2:=hf 2 _ rfl
 have k2:Tryz.prog.cellsOf 50=1:=rA
 rw [k2] at g2
 obtain ⟨x2,r2⟩:∃ x,kZ.raw w [c2] x:=kBn g2
 have g3:DataW.trod enc Tryz.prog w 0 (fun _=>true) true m 3 (([c0,c1,c2,c3,c4].drop 3).take (Tryz.prog.cellsOf 3))=some y3:=hf 3 _ rfl
 have k3:Tryz.prog.cellsOf 3=1:=rA
 rw [k3] at g3
 obtain ⟨x3,r3⟩:∃ x,Rep.int.raw w [c3] x:=yU Tryz.underlying3 g3
 have g4:DataW.trod enc Tryz.prog w 0 (fun _=>true) true m 3 (([c0,c1,c2,c3,c4].drop 4).take (Tryz.prog.cellsOf 3))=some y4:=hf 4 _ rfl
 have k4:Tryz.prog.cellsOf 3=1:=rA
 rw [k4] at g4
 obtain ⟨x4,r4⟩:∃ x,Rep.int.raw w [c4] x:=yU Tryz.underlying3 g4
 exact ⟨(x0,x1,x2,x3,x4),Rep.yN (z:=(x0,x1,x2,x3,x4)) r0 (Rep.yN (z:=(x1,x2,x3,x4)) r1 (Rep.yN (z:=(x2,x3,x4)) r2 (Rep.yN (z:=(x3,x4)) r3 (r4))))⟩
theorem kWn {H:Type} {enc:TypeId × Value→H} {w:World} {fuel:Nat} {cs:List Value} {y:DataW H × List MemPlace} (h:DataW.trod enc Tryz.prog w 0 (fun _=>true) true fuel 22 cs=some y):∃ x,(Rep.slice 113 kg).raw w cs x :=
  zn Tryz.underlying22 rA rG (fun h=>kOw h) h
theorem kMr {H:Type} {enc:TypeId × Value→H} {w:World} {fuel:Nat} {cs:List Value} {y:DataW H × List MemPlace} (h:DataW.trod enc Tryz.prog w 0 (fun _=>true) true fuel 207 cs=some y):∃ x,kK.raw w cs x:=by
 obtain ⟨xs,m,rfl,_,hl,hxl,hf⟩:=DataW.trod_struct Tryz.underlying207 h
 have hc:Tryz.prog.cellsOf 207=6:=rA
 rw [hc] at hl
 match xs,hxl with
 | [y0,y1],_ =>
 match cs,hl with
 | [c0,c1,c2,c3,c4,c5],_ =>
 have g0:DataW.trod enc Tryz.prog w 0 (fun _=>true) true m 134 (([c0,c1,c2,c3,c4,c5].drop 0).take (Tryz.prog.cellsOf 134))=some y0:=hf 0 _ rfl
 have k0:Tryz.prog.cellsOf 134=5:=rA
 rw [k0] at g0
 obtain ⟨x0,r0⟩:∃ x,kg.raw w [c0,c1,c2,c3,c4] x:=kOw g0
 have g1:DataW.trod enc Tryz.prog w 0 (fun _=>true) true m 3 (([c0,c1,c2,c3,c4,c5].drop 5).take (Tryz.prog.cellsOf 3))=some y1:=hf 1 _ rfl
 have k1:Tryz.prog.cellsOf 3=1:=rA
 rw [k1] at g1
 obtain ⟨x1,r1⟩:∃ x,Rep.int.raw w [c5] x:=yU Tryz.underlying3 g1
 exact ⟨(x0,x1),Rep.yN (z:=(x0,x1)) r0 (r1)⟩
theorem kLd {H:Type} {enc:TypeId × Value→H} {w:World} {fuel:Nat} {cs:List Value} {y:DataW H × List MemPlace} (h:DataW.trod enc Tryz.prog w 0 (fun _=>true) true fuel 23 cs=some y):∃ x,(Rep.slice 169 kK).raw w cs x :=
  zn Tryz.underlying23 rA rG (fun h=>kMr h) h
theorem kJl {H:Type} {enc:TypeId × Value→H} {w:World} {fuel:Nat} {cs:List Value} {y:DataW H × List MemPlace} (h:DataW.trod enc Tryz.prog w 0 (fun _=>true) true fuel 25 cs=some y):∃ x,kH.raw w cs x:=by
 obtain ⟨xs,m,rfl,_,hl,hxl,hf⟩:=DataW.trod_struct Tryz.underlying25 h
 have hc:Tryz.prog.cellsOf 25=2:=rA
 rw [hc] at hl
 match xs,hxl with
 | [y0,y1],_ =>
 match cs,hl with
 | [c0,c1],_ =>
 have g0:DataW.trod enc Tryz.prog w 0 (fun _=>true) true m 3 (([c0,c1].drop 0).take (Tryz.prog.cellsOf 3))=some y0:=hf 0 _ rfl
 have k0:Tryz.prog.cellsOf 3=1:=rA
 rw [k0] at g0
 obtain ⟨x0,r0⟩:∃ x,Rep.int.raw w [c0] x:=yU Tryz.underlying3 g0
 have g1:DataW.trod enc Tryz.prog w 0 (fun _=>true) true m 23 (([c0,c1].drop 1).take (Tryz.prog.cellsOf 23))=some y1:=hf 1 _ rfl
 have k1:Tryz.prog.cellsOf 23=1:=rA
 rw [k1] at g1
 obtain ⟨x1,r1⟩:∃ x,(Rep.slice 169 kK).raw w [c1] x:=kLd g1
 exact ⟨(x0,x1),Rep.yN (z:=(x0,x1)) r0 (r1)⟩
theorem bridge_Node {H:Type} {enc:TypeId × Value→H} {w:World} {fuel:Nat} {cs:List Value} {y:DataW H × List MemPlace} (h:DataW.trod enc Tryz.prog w 0 (fun _=>true) true fuel 31 cs=some y):∃ x,jM.raw w cs x:=by
 obtain ⟨xs,m,rfl,_,hl,hxl,hf⟩:=DataW.trod_struct Tryz.underlying31 h
 have hc:Tryz.prog.cellsOf 31=8:=rA
 rw [hc] at hl
 match xs,hxl with
 | [y0,y1,y2,y3,y4,y5,y6],_ =>
 match cs,hl with
 | [c0,c1,c2,c3,c4,c5,c6,c7],_ =>
 have g0:DataW.trod enc Tryz.prog w 0 (fun _=>true) true m 22 (([c0,c1,c2,c3,c4,c5,c6,c7].drop 0).take (Tryz.prog.cellsOf 22))=some y0:=hf 0 _ rfl
 have k0:Tryz.prog.cellsOf 22=1:=rA
 rw [k0] at g0
 obtain ⟨x0,r0⟩:∃ x,(Rep.slice 113 kg).raw w [c0] x:=kWn g0
 have g1:DataW.trod enc Tryz.prog w 0 (fun _=>true) true m 25 (([c0,c1,c2,c3,c4,c5,c6,c7].drop 1).take (Tryz.prog.cellsOf 25))=some y1:=hf 1 _ rfl
 have k1:Tryz.prog.cellsOf 25=2:=rA
 rw [k1] at g1
 obtain ⟨x1,r1⟩:∃ x,kH.raw w [c1,c2] x:=kJl g1
 have g2:DataW.trod enc Tryz.prog w 0 (fun _=>true) true m 26 (([c0,c1,c2,c3,c4,c5,c6,c7].drop 3).take (Tryz.prog.cellsOf 26))=some y2:=hf 2 _ rfl
 have k2:Tryz.prog.cellsOf 26=1:=rA
 rw [k2] at g2
 obtain ⟨x2,r2⟩:∃ x,(Rep.slice 77 kD).raw w [c3] x:=kFy g2
 have g3:DataW.trod enc Tryz.prog w 0 (fun _=>true) true m 27 (([c0,c1,c2,c3,c4,c5,c6,c7].drop 4).take (Tryz.prog.cellsOf 27))=some y3:=hf 3 _ rfl
 have k3:Tryz.prog.cellsOf 27=1:=rA
 rw [k3] at g3
 obtain ⟨x3,r3⟩:∃ x,(Rep.slice 157 kI).raw w [c4] x:=kMp g3
 have g4:DataW.trod enc Tryz.prog w 0 (fun _=>true) true m 28 (([c0,c1,c2,c3,c4,c5,c6,c7].drop 5).take (Tryz.prog.cellsOf 28))=some y4:=hf 4 _ rfl
 have k4:Tryz.prog.cellsOf 28=1:=rA
 rw [k4] at g4
 obtain ⟨x4,r4⟩:∃ x,(Rep.slice 159 kM).raw w [c5] x:=kUa g4
 have g5:DataW.trod enc Tryz.prog w 0 (fun _=>true) true m 29 (([c0,c1,c2,c3,c4,c5,c6,c7].drop 6).take (Tryz.prog.cellsOf 29))=some y5:=hf 5 _ rfl
 have k5:Tryz.prog.cellsOf 29=1:=rA
 rw [k5] at g5
 obtain ⟨x5,r5⟩:∃ x,(Rep.slice 166 kG).raw w [c6] x:=kJk g5
 have g6:DataW.trod enc Tryz.prog w 0 (fun _=>true) true m 3 (([c0,c1,c2,c3,c4,c5,c6,c7].drop 7).take (Tryz.prog.cellsOf 3))=some y6:=hf 6 _ rfl
 have k6:Tryz.prog.cellsOf 3=1:=rA
 rw [k6] at g6
 obtain ⟨x6,r6⟩:∃ x,Rep.int.raw w [c7] x:=yU Tryz.underlying3 g6
 exact ⟨(x0,x1,x2,x3,x4,x5,x6),Rep.yN (z:=(x0,x1,x2,x3,x4,x5,x6)) r0 (Rep.yN (z:=(x1,x2,x3,x4,x5,x6)) r1 (Rep.yN (z:=(x2,x3,x4,x5,x6)) r2 (Rep.yN (z:=(x3,x4,x5,x6)) r3 (Rep.yN (z:=(x4,x5,x6)) r4 (Rep.yN (z:=(x5,x6)) r5 (r6))))))⟩
end Go.Proofs.YtomdenfcfbkfbaaGreat
namespace Go.Proofs.YtomdenfcfbkfbaaGreat
open Go.RowKit
theorem kPx (f:Nat) (s:ByteArray):zM f 0 s=s:=by cases f <;> simp [zM]
theorem kPy {f n:Nat} {s:ByteArray} (h:0 < n):zM (f + 1) n s=zM f (n / 10) (ByteArray.mk #[UInt8.ofNat (48 + n % 10)]++s):=by
 rw [zM,if_neg rJ]
theorem kRv {w:World} {k:Int} (h0:0≤k) (h1:k≤4611686018427387905):Calls Tryz.prog 216 #[.int .i64 k] w fun e w'=>e=.returned (.string (mt k))∧Below w.heap.size w w':=by
 obtain ⟨n0,rfl⟩:=Int.eq_ofNat_of_zero_le h0
 go_enter Tryz.func216,Tryz.ntmps216
 by_cases hz:n0=0
 · subst hz
   go_wp2
   go_ret
   exact ⟨by rfl,bR⟩
 have hd:¬ ((n0:Int)≤0):=rJ
 go_wp2
 go_loopw [0,3] (fun i v wr=>∃ (f n:Nat) (s:ByteArray),i=.int .i64 n∧v=.string s∧Hid (n < 10 ^ f)∧n≤n0∧Hid (f + s.size≤20)∧Hid (zM f n s=zM 20 n0 ByteArray.empty)∧Below w.heap.size w wr) (fun i _ _=>(intOf i).toNat)
 case atStart=>exact ⟨20,n0,_,rfl,rfl,yD (Nat.lt_of_le_of_lt (show n0≤4611686018427387905 by omega) rG),Nat.le_refl _,yD rG,yD rfl,bR⟩
 obtain ⟨f,n,s,rfl,rfl,HF,hn,HS,HD,hbel⟩:=hrel
 have hss:s.size≤20:=by have:=HS.out;omega
 by_cases hp:0 < n
 · obtain ⟨g,rfl⟩:∃ g,f=g + 1:=⟨f - 1,by
     cases f with
     | zero=>have:=HF.out;simp at this;omega
     | succ g=>omega⟩
   obtain ⟨c,hc⟩:∃ c,c=UInt8.ofNat (48 + n % 10):=⟨_,rfl⟩
   have HD2:Hid (zM g (n / 10) (ByteArray.mk #[c]++s)=zM 20 n0 ByteArray.empty):=yD (by rw [hc];exact (kPy (f:=g) (s:=s) hp).symm.trans HD.out)
   have HF2:Hid (n / 10 < 10 ^ g):=yD (by have:=HF.out;rw [Nat.pow_succ] at this;omega)
   have HS2:Hid (g + (ByteArray.mk #[c]++s).size≤20):=yD (by
     have:=HS.out
     have e:(ByteArray.mk #[c]).size=1:=rfl
     rw [ByteArray.size_append,e];omega)
   have hcv:∀ W:World,(convert 111 9 (.slice (some ⟨W.heap.size,0,none⟩) 1 1)).run Tryz.prog (W.alloc (.cells #[.int .u8 (48 + (n:Int) % 10)] 5))=.ok (.string ⟨#[c]⟩) (W.alloc (.cells #[.int .u8 (48 + (n:Int) % 10)] 5)):=by
    intro W
    have:=run_convert_bytes_arg (P:=Tryz.prog) (W.alloc (.cells #[.int .u8 (48 + (n:Int) % 10)] 5)) 111 5 Tryz.underlying111 Tryz.underlying5 W.heap.size 0 1 1 [48 + (n:Int) % 10] rfl (fun i hi=>by
      obtain rfl:i=0:=rJ
      simp [go_sem]) 9 Tryz.underlying9
    rw [this]
    have e:strOfNums [48 + (n:Int) % 10]=⟨#[c]⟩:=by
     unfold strOfNums
     have e2:(48 + (n:Int) % 10).toNat=48 + n % 10:=rJ
     rw [hc]
     simp only [List.map_cons,List.map_nil,e2]
    rw [e]
   have e1:(ByteArray.mk #[c]).size=1:=rfl
   clear hc
   go_wp2
   go_roundw
   case rel=>exact ⟨g,n / 10,_,by go_num,rfl,HF2,by omega,HS2,HD2,hbel.alloc hbel.size _⟩
   simp [intOf];omega
 obtain rfl:n=0:=rJ
 have HT:=yD (show mt (n0:Int) = "m".toUTF8++s by
   unfold mt
   rw [if_neg rJ]
   have:=HD.out
   rw [kPx] at this
   rw [Int.toNat_natCast,← this])
 go_wp2
 go_ret
 exact ⟨by rw [HT.out];rfl,hbel⟩
theorem set_str {E v:ByteArray} (hv:v.size≤maxLen) {w:World} {cs:List Value} {S:Nat→Prop} (h:Rep.str.is true w cs E S):Rep.str.is true w (cs.set 0 (.string v)) v S:=by
 obtain ⟨rfl,_⟩:=h;exact ⟨rfl,hv⟩
theorem set_byte {E v:UInt8} {w:World} {cs:List Value} {S:Nat→Prop} (h:Rep.byte.is true w cs E S):Rep.byte.is true w (cs.set 0 (.int .u8 v.toNat)) v S:=by
 obtain rfl:=(show _=_ from h);rfl
theorem mt_max (k:Int):(mt k).size≤maxLen:=by have:=kWa k;unfold maxLen;omega
theorem mt_big (k:Int):(mt k).size≤Big:=by have:=kWa k;unfold Big;omega
theorem u8_mark (k:Int):((UInt8.ofNat (k % 256).toNat).toNat:Int)=k % 256:=by
 rw [UInt8.toNat_ofNat'];omega
theorem b3eq (q:Int):(q % 3==0)=decide (q % 3=0):=by rw [Bool.eq_iff_iff];simp
theorem set_byteQ {E:UInt8} {q:Int} {w:World} {cs:List Value} {S:Nat→Prop} (h:Rep.byte.is true w cs E S):Rep.byte.is true w (cs.set 0 (.int .u8 (q % 256))) (UInt8.ofNat (q % 256).toNat) S:=by
 have:=set_byte (v:=UInt8.ofNat (q % 256).toNat) h
 rwa [u8_mark q] at this
theorem yY {w:World} {va:Value} {x:List ByteArray} {k:Int} {S:Nat→Prop} (ha:(Rep.slice 9 Rep.str).own w [va] x S) (hk0:0≤k) (hk1:k + ((Rep.slice 9 Rep.str).cnt:Nat)≤Top) :
    Calls Tryz.prog 151 #[va,.int .i64 k] w (zy (Rep.slice 9 Rep.str) true x k [va] S w):=by
 obtain ⟨aa,capa,rfl,la⟩:=Rep.sl ha.raw
 have lb:x.length≤16777216:=ha.2.1
 have hbd:=yD ha.2
 have HK:=yD hk1;clear hk1
 have hk2:k≤4611686018427387904:=fV
 go_enter Tryz.func151,Tryz.ntmps151
 go_wp2
 go_loopw [1,5] (fun l i wr=>∃ (j:Nat),j≤x.length∧i=.int .i64 j∧l=.int .i64 (Rep.mkL Rep.str (x.take j) k).2∧(Rep.slice 9 Rep.str).own wr [.slice aa x.length capa] ((Rep.mkL Rep.str (x.take j) k).1++x.drop j) S∧Touch S w wr) (fun _ i _=>x.length - (intOf i).toNat)
 case atStart=>exact ⟨0,Nat.zero_le _,rfl,rfl,by simpa [Rep.mkL] using ha,Touch.refl _ _⟩
 obtain ⟨j,hj,rfl,rfl,hown,ht⟩:=hrel
 by_cases hlt:j < x.length
 · obtain ⟨hln,b,off,rfl,hSb,hbw⟩:=Rep.zk hown qB
   clear hln
   rw [Rep.kAf hlt] at hown
   obtain ⟨q0,q1⟩:=Rep.kAg (e:=9) (r:=Rep.str) hbd.out hlt HK.out hk0
   have HE:∀ y,y=(Rep.str.mark true x[j] (Rep.mkL Rep.str (x.take j) k).2).1→Hid (((Rep.mkL Rep.str (x.take j) k).1++x.drop j).set j y=(Rep.mkL Rep.str (x.take (j + 1)) k).1++x.drop (j + 1)):=fun y hy=>yD (Rep.kBv hlt hy)
   have HF:=yD (Rep.kAy (r:=Rep.str) (k:=k) hlt)
   have hLl:j < ((Rep.mkL Rep.str (x.take j) k).1++x.drop j).length:=nZ
   have HL:=yD hLl;clear hLl
   generalize (Rep.mkL Rep.str (x.take j) k).2=q at *
   generalize (Rep.mkL Rep.str (x.take j) k).1++x.drop j=M at *
   generalize hx:x[j]=y at *
   have HX:=yD hx;clear hx
   obtain ⟨y0,rfl⟩:∃ y0,y0=y:=⟨_,rfl⟩
   have HEH:=yD HE;clear HE
   have HQ:=yD q1;clear q1
   have q2:q≤4611686018427387904:=fU
   obtain ⟨c,B,hc,hB,hSb',hcell,hfz,back⟩:=Rep.jR hown HL.out
   obtain ⟨d0_0,rfl⟩:∃ d0_0,c=[d0_0]:=by have h:=Rep.str.len hc.1;match c,h with | [d0_0],_=>exact ⟨_,rfl⟩
   have C0_0:wr.cell? ⟨b,off + j,none⟩=some d0_0:=(by have h:wr.cell? ⟨b,off + j * 1 + 0,none⟩=_:=hcell 0 _ rfl;simpa using h)
   have Z0_0:=hfz (off + j)
   clear hB hSb' hcell hfz back
   obtain ⟨hce,_⟩:=Rep.kBe hc.raw
   obtain rfl:d0_0=_:=by simpa using hce
   clear hce
   clear hc
   go_wp2_with fail
   refine (kRv (k:=q) rJ rJ).mono ?_
   clear C0_0 Z0_0
   rintro e w1 ⟨rfl,hb1⟩
   have Ox1:=hown.below hb1
   have Tx1:=ht.trans (Touch.of_below hb1)
   clear hb1
   obtain ⟨c,B,hc,hB,hSb',hcell,hfz,back⟩:=Rep.jR Ox1 HL.out
   obtain ⟨d1_0,rfl⟩:∃ d1_0,c=[d1_0]:=by have h:=Rep.str.len hc.1;match c,h with | [d1_0],_=>exact ⟨_,rfl⟩
   have C1_0:w1.cell? ⟨b,off + j,none⟩=some d1_0:=(by have h:w1.cell? ⟨b,off + j * 1 + 0,none⟩=_:=hcell 0 _ rfl;simpa using h)
   have Z1_0:=hfz (off + j)
   clear hB hSb' hcell hfz back
   obtain ⟨hce,_⟩:=Rep.kBe hc.raw
   obtain rfl:d1_0=_:=by simpa using hce
   clear hce
   clear hc
   obtain ⟨O1,T1⟩:=Rep.jV (v:=.string (mt (q))) (p:=off + j) Ox1 HL.out (show 0 < Rep.str.n by decide) (set_str (mt_max _)) (fun _=>mt_big _) (show off + j=off + j * 1 + 0 by omega)
   have T1:=Tx1.trans (T1.wide mW)
   have EQ:=HEH.out _ rfl
   have OF:=yD (EQ.out ▸ O1);have TF:=yD T1
   have QF:Hid ((q + 1)=(Rep.mkL Rep.str (x.take (j + 1)) k).2):=yD qG
   go_wp2
   go_roundw
   case rel=>exact ⟨j + 1,by omega,by go_num,by rw [← QF.out],OF.out,TF.out⟩
   simp [intOf];omega
 obtain ⟨e1,e2⟩:=Rep.kAx (r:=Rep.str) (k:=k) hlt
 rw [e1] at hown
 have HO:=yD hown;have HT:=yD e2;clear hown e1 e2
 go_wp2
 go_ret
 exact ⟨jI HT.out,HO.out,ht⟩
theorem kHv {w:World} {va:Value} {x:List UInt8} {k:Int} {S:Nat→Prop} (ha:(Rep.slice 5 Rep.byte).own w [va] x S) (hk0:0≤k) (hk1:k + ((Rep.slice 5 Rep.byte).cnt:Nat)≤Top) :
    Calls Tryz.prog 152 #[va,.int .i64 k] w (zy (Rep.slice 5 Rep.byte) true x k [va] S w):=by
 obtain ⟨aa,capa,rfl,la⟩:=Rep.sl ha.raw
 have lb:x.length≤16777216:=ha.2.1
 have hbd:=yD ha.2
 have HK:=yD hk1;clear hk1
 have hk2:k≤4611686018427387904:=fV
 go_enter Tryz.func152,Tryz.ntmps152
 go_wp2
 go_loopw [1,5] (fun l i wr=>∃ (j:Nat),j≤x.length∧i=.int .i64 j∧l=.int .i64 (Rep.mkL Rep.byte (x.take j) k).2∧(Rep.slice 5 Rep.byte).own wr [.slice aa x.length capa] ((Rep.mkL Rep.byte (x.take j) k).1++x.drop j) S∧Touch S w wr) (fun _ i _=>x.length - (intOf i).toNat)
 case atStart=>exact ⟨0,Nat.zero_le _,rfl,rfl,by simpa [Rep.mkL] using ha,Touch.refl _ _⟩
 obtain ⟨j,hj,rfl,rfl,hown,ht⟩:=hrel
 by_cases hlt:j < x.length
 · obtain ⟨hln,b,off,rfl,hSb,hbw⟩:=Rep.zk hown qB
   clear hln
   rw [Rep.kAf hlt] at hown
   obtain ⟨q0,q1⟩:=Rep.kAg (e:=5) (r:=Rep.byte) hbd.out hlt HK.out hk0
   have HE:∀ y,y=(Rep.byte.mark true x[j] (Rep.mkL Rep.byte (x.take j) k).2).1→Hid (((Rep.mkL Rep.byte (x.take j) k).1++x.drop j).set j y=(Rep.mkL Rep.byte (x.take (j + 1)) k).1++x.drop (j + 1)):=fun y hy=>yD (Rep.kBv hlt hy)
   have HF:=yD (Rep.kAy (r:=Rep.byte) (k:=k) hlt)
   have hLl:j < ((Rep.mkL Rep.byte (x.take j) k).1++x.drop j).length:=nZ
   have HL:=yD hLl;clear hLl
   generalize (Rep.mkL Rep.byte (x.take j) k).2=q at *
   generalize (Rep.mkL Rep.byte (x.take j) k).1++x.drop j=M at *
   generalize hx:x[j]=y at *
   have HX:=yD hx;clear hx
   obtain ⟨y0,rfl⟩:∃ y0,y0=y:=⟨_,rfl⟩
   have HEH:=yD HE;clear HE
   have HQ:=yD q1;clear q1
   have q2:q≤4611686018427387904:=fU
   obtain ⟨c,B,hc,hB,hSb',hcell,hfz,back⟩:=Rep.jR hown HL.out
   obtain ⟨d0_0,rfl⟩:∃ d0_0,c=[d0_0]:=by have h:=Rep.byte.len hc.1;match c,h with | [d0_0],_=>exact ⟨_,rfl⟩
   have C0_0:wr.cell? ⟨b,off + j,none⟩=some d0_0:=(by have h:wr.cell? ⟨b,off + j * 1 + 0,none⟩=_:=hcell 0 _ rfl;simpa using h)
   have Z0_0:=hfz (off + j)
   clear hB hSb' hcell hfz back
   obtain hce:=Rep.kIm hc.raw
   obtain rfl:d0_0=_:=by simpa using hce
   clear hce
   clear hc
   obtain ⟨O1,T1⟩:=Rep.jV (v:=.int .u8 ((q) % 256)) (p:=off + j) hown HL.out (show 0 < Rep.byte.n by decide) (set_byteQ) (fun h=>h) (show off + j=off + j * 1 + 0 by omega)
   have T1:=ht.trans (T1.wide mW)
   have EQ:=HEH.out _ rfl
   have OF:=yD (EQ.out ▸ O1);have TF:=yD T1
   have QF:Hid ((q + 1)=(Rep.mkL Rep.byte (x.take (j + 1)) k).2):=yD qG
   go_wp2
   go_roundw
   case rel=>exact ⟨j + 1,by omega,by go_num,by rw [← QF.out],OF.out,TF.out⟩
   simp [intOf];omega
 obtain ⟨e1,e2⟩:=Rep.kAx (r:=Rep.byte) (k:=k) hlt
 rw [e1] at hown
 have HO:=yD hown;have HT:=yD e2;clear hown e1 e2
 go_wp2
 go_ret
 exact ⟨jI HT.out,HO.out,ht⟩
theorem markName_c {w:World} {ca:List Value} {x:ky} {k:Int} {S:Nat→Prop} (ha:kZ.own w ca x S) (hk0:0≤k) (hk1:k + (kZ.cnt:Nat)≤Top) :
    Calls Tryz.prog 94 #[.agg ca.toArray,.int .i64 k] w (zy kZ false x k ca S w):=by
 have hl:=ha.live
 obtain ⟨av0,rfl,a_0⟩:=kR ha.raw
 obtain ⟨x0,rfl⟩:∃ x0,x0=x:=⟨_,rfl⟩
 clear a_0
 have HQ:=yD hk1;clear hk1
 have k2:k≤4611686018427387904:=fU
 go_enter Tryz.func94,Tryz.ntmps94
 go_wp2_with fail
 have O0:=yD (fun o=>Rep.own.alloc hl o)
 obtain ⟨A1,hA1,hAB1,bk1⟩:=RName_sub_0 (O0.out _)
 refine (yY (k:=k) hA1 rJ (by have:=HQ.out;have e:kZ.cnt=(Rep.slice 9 Rep.str).cnt:=rfl;omega)).mono ?_
 rintro e w1 ⟨rfl,P1,X1⟩
 have O1x:=bk1 P1 X1
 have g1:=(Rep.slice 9 Rep.str).mark_ge (e:=true) (x:=x0) (k:=k)
 have l1:((Rep.slice 9 Rep.str).mark true x0 (k)).2≤k + ((Rep.slice 9 Rep.str).cnt:Nat):=(Rep.slice 9 Rep.str).mark_le (e:=true) (k:=k) hA1.2
 have u1:((Rep.slice 9 Rep.str).mark true x0 (k)).2≤4611686018427387904:=by have:=HQ.out;have e:kZ.cnt=(Rep.slice 9 Rep.str).cnt:=rfl;unfold Top at *;omega
 have M1:=yD l1;clear l1
 have T1x:Touch S w w1:=(Touch.of_below (Rep.kAe w _)).trans (X1.wide (fun i hi=>(hAB1 i hi).1))
 have hz1:w.heap.size + 1≤w1.heap.size:=mK
 have hc1:∀ o,w1.cell? ⟨w.heap.size,o,none⟩=_:=fun o=>World.cell?_of_block (a:=⟨w.heap.size,o,none⟩) (X1.block w.heap.size rM gX)
 have hf1:∀ o,w1.frozen? ⟨w.heap.size,o,none⟩=_:=fun o=>World.frozen?_of_block (a:=⟨w.heap.size,o,none⟩) (X1.block w.heap.size rM gX)
 simp [go_sem] at hc1
 clear hA1 hAB1 bk1 P1 X1
 have OF:=yD (Rep.own.wide (T:=S) O1x (fun j hj=>hj.1));have TF:=yD T1x
 clear ha hl
 go_wp2
 go_ret
 exact ⟨rfl,OF.out,TF.out⟩
theorem kKp {w:World} {va:Value} {x:List kv} {k:Int} {S:Nat→Prop} (ha:(Rep.slice 166 kG).own w [va] x S) (hk0:0≤k) (hk1:k + ((Rep.slice 166 kG).cnt:Nat)≤Top) :
    Calls Tryz.prog 60 #[va,.int .i64 k] w (zy (Rep.slice 166 kG) true x k [va] S w):=by
 obtain ⟨aa,capa,rfl,la⟩:=Rep.sl ha.raw
 have lb:x.length≤16777216:=ha.2.1
 have hbd:=yD ha.2
 have HK:=yD hk1;clear hk1
 have hk2:k≤4611686018427387904:=fV
 go_enter Tryz.func60,Tryz.ntmps60
 go_wp2
 go_loopw [1,5] (fun l i wr=>∃ (j:Nat),j≤x.length∧i=.int .i64 j∧l=.int .i64 (Rep.mkL kG (x.take j) k).2∧(Rep.slice 166 kG).own wr [.slice aa x.length capa] ((Rep.mkL kG (x.take j) k).1++x.drop j) S∧Touch S w wr) (fun _ i _=>x.length - (intOf i).toNat)
 case atStart=>exact ⟨0,Nat.zero_le _,rfl,rfl,by simpa [Rep.mkL] using ha,Touch.refl _ _⟩
 obtain ⟨j,hj,rfl,rfl,hown,ht⟩:=hrel
 by_cases hlt:j < x.length
 · obtain ⟨hln,b,off,rfl,hSb,hbw⟩:=Rep.zk hown qB
   clear hln
   rw [Rep.kAf hlt] at hown
   obtain ⟨q0,q1⟩:=Rep.kAg (e:=166) (r:=kG) hbd.out hlt HK.out hk0
   have HE:∀ y,y=(kG.mark true x[j] (Rep.mkL kG (x.take j) k).2).1→Hid (((Rep.mkL kG (x.take j) k).1++x.drop j).set j y=(Rep.mkL kG (x.take (j + 1)) k).1++x.drop (j + 1)):=fun y hy=>yD (Rep.kBv hlt hy)
   have HF:=yD (Rep.kAy (r:=kG) (k:=k) hlt)
   have hLl:j < ((Rep.mkL kG (x.take j) k).1++x.drop j).length:=nZ
   have HL:=yD hLl;clear hLl
   generalize (Rep.mkL kG (x.take j) k).2=q at *
   generalize (Rep.mkL kG (x.take j) k).1++x.drop j=M at *
   generalize hx:x[j]=y at *
   have HX:=yD hx;clear hx
   obtain ⟨y0,y1,y2⟩:=y
   have HEH:=yD HE;clear HE
   have HQ:=yD q1;clear q1
   have q2:q≤4611686018427387904:=fU
   obtain ⟨c,B,hc,hB,hSb',hcell,hfz,back⟩:=Rep.jR hown HL.out
   obtain ⟨d0_0,d0_1,d0_2,rfl⟩:∃ d0_0 d0_1 d0_2,c=[d0_0,d0_1,d0_2]:=by have h:=kG.len hc.1;match c,h with | [d0_0,d0_1,d0_2],_=>exact ⟨_,_,_,rfl⟩
   try simp only [kBp,kBo] at hc
   have C0_0:wr.cell? ⟨b,off + j * 3,none⟩=some d0_0:=hcell 0 _ rfl
   have Z0_0:=hfz (off + j * 3)
   have C0_1:wr.cell? ⟨b,off + j * 3 + 1,none⟩=some d0_1:=hcell 1 _ rfl
   have Z0_1:=hfz (off + j * 3 + 1)
   have C0_2:wr.cell? ⟨b,off + j * 3 + 2,none⟩=some d0_2:=hcell 2 _ rfl
   have Z0_2:=hfz (off + j * 3 + 2)
   clear hB hSb' hcell hfz back
   obtain ⟨s0v0,hce,s0_0,s0_1,s0_2,s0_3⟩:=jf hc.raw
   simp only [List.cons.injEq,and_true] at hce
   obtain ⟨rfl,rfl,rfl⟩:=hce
   obtain ⟨s0a0,s0p0,rfl,_⟩:=Rep.sl s0_1
   clear s0_0 s0_1 s0_2 s0_3
   clear hc
   go_wp2_with fail
   obtain ⟨c1,B1,hc1,hB1,_,hcell1,_,back1⟩:=Rep.jR hown HL.out
   obtain ⟨e1_0,e1_1,e1_2,rfl⟩:∃ e1_0 e1_1 e1_2,c1=[e1_0,e1_1,e1_2]:=by have h:=kG.len hc1.1;match c1,h with | [e1_0,e1_1,e1_2],_=>exact ⟨_,_,_,rfl⟩
   have hd1:=hcell1 0 _ rfl
   obtain rfl:e1_0=_:=by simpa [go_sem,C0_0,kTb] using hd1.symm
   obtain ⟨A1,hA1,hAB1,bk1⟩:=kIn hc1
   try simp only [kBp,kBo] at hA1
   refine (yY (k:=q) hA1 rJ (by have:=HQ.out;have e:kG.cnt=(Rep.slice 9 Rep.str).cnt + (1 + (1)):=rfl;omega)).mono ?_
   rintro e w1 ⟨rfl,P1,X1⟩
   have Ox1:=back1 (bk1 P1 X1) (X1.wide hAB1)
   have Tx1:=ht.trans (X1.wide (fun i hi=>(hB1 i (hAB1 i hi)).1))
   have g1:=(Rep.slice 9 Rep.str).mark_ge (e:=true) (x:=y0) (k:=q)
   have l1:((Rep.slice 9 Rep.str).mark true y0 (q)).2≤q + ((Rep.slice 9 Rep.str).cnt:Nat):=(Rep.slice 9 Rep.str).mark_le (e:=true) (k:=q) hA1.2
   have u1:((Rep.slice 9 Rep.str).mark true y0 (q)).2≤4611686018427387904:=by have:=HQ.out;have e:kG.cnt=(Rep.slice 9 Rep.str).cnt + (1 + (1)):=rfl;unfold Top at *;omega
   have M1:=yD l1;clear l1
   clear C0_0 C0_1 C0_2 Z0_0 Z0_1 Z0_2 hA1 bk1 back1 hc1 hB1 hAB1 P1 X1 hcell1 hd1
   obtain ⟨c,B,hc,hB,hSb',hcell,hfz,back⟩:=Rep.jR Ox1 HL.out
   obtain ⟨d1_0,d1_1,d1_2,rfl⟩:∃ d1_0 d1_1 d1_2,c=[d1_0,d1_1,d1_2]:=by have h:=kG.len hc.1;match c,h with | [d1_0,d1_1,d1_2],_=>exact ⟨_,_,_,rfl⟩
   try simp only [kBp,kBo] at hc
   have C1_0:w1.cell? ⟨b,off + j * 3,none⟩=some d1_0:=hcell 0 _ rfl
   have Z1_0:=hfz (off + j * 3)
   have C1_1:w1.cell? ⟨b,off + j * 3 + 1,none⟩=some d1_1:=hcell 1 _ rfl
   have Z1_1:=hfz (off + j * 3 + 1)
   have C1_2:w1.cell? ⟨b,off + j * 3 + 2,none⟩=some d1_2:=hcell 2 _ rfl
   have Z1_2:=hfz (off + j * 3 + 2)
   clear hB hSb' hcell hfz back
   obtain ⟨s1v0,hce,s1_0,s1_1,s1_2,s1_3⟩:=jf hc.raw
   simp only [List.cons.injEq,and_true] at hce
   obtain ⟨rfl,rfl,rfl⟩:=hce
   obtain ⟨s1a0,s1p0,rfl,_⟩:=Rep.sl s1_1
   clear s1_0 s1_1 s1_2 s1_3
   clear hc
   obtain ⟨O1,T1⟩:=Rep.jV (v:=.int .i64 (((Rep.slice 9 Rep.str).mark true y0 (q)).2)) (p:=off + j * 3 + 1) Ox1 HL.out (show 1 < kG.n by decide) (kMw _ ⟨by omega,by omega⟩) (fun h=>h) (show off + j * 3 + 1=off + j * 3 + 1 by omega)
   have T1:=Tx1.trans (T1.wide mW)
   obtain ⟨O2,T2⟩:=Rep.jV (v:=.int .i64 (((Rep.slice 9 Rep.str).mark true y0 (q)).2 + 1)) (p:=off + j * 3 + 2) O1 HL.out (show 2 < kG.n by decide) (kMv _ ⟨by omega,by omega⟩) (fun h=>h) (show off + j * 3 + 2=off + j * 3 + 2 by omega)
   have T2:=T1.trans (T2.wide mW)
   have EQ:=HEH.out _ rfl
   have OF:=yD (EQ.out ▸ O2);have TF:=yD T2
   have QF:Hid ((((Rep.slice 9 Rep.str).mark true y0 (q)).2 + 1 + 1)=(Rep.mkL kG (x.take (j + 1)) k).2):=yD qG
   go_wp2
   go_roundw
   case rel=>exact ⟨j + 1,by omega,by go_num,by rw [← QF.out],OF.out,TF.out⟩
   simp [intOf];omega
 obtain ⟨e1,e2⟩:=Rep.kAx (r:=kG) (k:=k) hlt
 rw [e1] at hown
 have HO:=yD hown;have HT:=yD e2;clear hown e1 e2
 go_wp2
 go_ret
 exact ⟨jI HT.out,HO.out,ht⟩
theorem kWf {w:World} {va:Value} {x:List jD} {k:Int} {S:Nat→Prop} (ha:(Rep.slice 159 kM).own w [va] x S) (hk0:0≤k) (hk1:k + ((Rep.slice 159 kM).cnt:Nat)≤Top) :
    Calls Tryz.prog 59 #[va,.int .i64 k] w (zy (Rep.slice 159 kM) true x k [va] S w):=by
 obtain ⟨aa,capa,rfl,la⟩:=Rep.sl ha.raw
 have lb:x.length≤16777216:=ha.2.1
 have hbd:=yD ha.2
 have HK:=yD hk1;clear hk1
 have hk2:k≤4611686018427387904:=fV
 go_enter Tryz.func59,Tryz.ntmps59
 go_wp2
 go_loopw [1,5] (fun l i wr=>∃ (j:Nat),j≤x.length∧i=.int .i64 j∧l=.int .i64 (Rep.mkL kM (x.take j) k).2∧(Rep.slice 159 kM).own wr [.slice aa x.length capa] ((Rep.mkL kM (x.take j) k).1++x.drop j) S∧Touch S w wr) (fun _ i _=>x.length - (intOf i).toNat)
 case atStart=>exact ⟨0,Nat.zero_le _,rfl,rfl,by simpa [Rep.mkL] using ha,Touch.refl _ _⟩
 obtain ⟨j,hj,rfl,rfl,hown,ht⟩:=hrel
 by_cases hlt:j < x.length
 · obtain ⟨hln,b,off,rfl,hSb,hbw⟩:=Rep.zk hown qB
   clear hln
   rw [Rep.kAf hlt] at hown
   obtain ⟨q0,q1⟩:=Rep.kAg (e:=159) (r:=kM) hbd.out hlt HK.out hk0
   have HE:∀ y,y=(kM.mark true x[j] (Rep.mkL kM (x.take j) k).2).1→Hid (((Rep.mkL kM (x.take j) k).1++x.drop j).set j y=(Rep.mkL kM (x.take (j + 1)) k).1++x.drop (j + 1)):=fun y hy=>yD (Rep.kBv hlt hy)
   have HF:=yD (Rep.kAy (r:=kM) (k:=k) hlt)
   have hLl:j < ((Rep.mkL kM (x.take j) k).1++x.drop j).length:=nZ
   have HL:=yD hLl;clear hLl
   generalize (Rep.mkL kM (x.take j) k).2=q at *
   generalize (Rep.mkL kM (x.take j) k).1++x.drop j=M at *
   generalize hx:x[j]=y at *
   have HX:=yD hx;clear hx
   obtain ⟨y0,y1,y2⟩:=y
   have HEH:=yD HE;clear HE
   have HQ:=yD q1;clear q1
   have q2:q≤4611686018427387904:=fU
   obtain ⟨c,B,hc,hB,hSb',hcell,hfz,back⟩:=Rep.jR hown HL.out
   obtain ⟨d0_0,d0_1,d0_2,rfl⟩:∃ d0_0 d0_1 d0_2,c=[d0_0,d0_1,d0_2]:=by have h:=kM.len hc.1;match c,h with | [d0_0,d0_1,d0_2],_=>exact ⟨_,_,_,rfl⟩
   try simp only [kGf,kGe] at hc
   have C0_0:wr.cell? ⟨b,off + j * 3,none⟩=some d0_0:=hcell 0 _ rfl
   have Z0_0:=hfz (off + j * 3)
   have C0_1:wr.cell? ⟨b,off + j * 3 + 1,none⟩=some d0_1:=hcell 1 _ rfl
   have Z0_1:=hfz (off + j * 3 + 1)
   have C0_2:wr.cell? ⟨b,off + j * 3 + 2,none⟩=some d0_2:=hcell 2 _ rfl
   have Z0_2:=hfz (off + j * 3 + 2)
   clear hB hSb' hcell hfz back
   obtain ⟨s0v0,hce,s0_0,s0_1,s0_2,s0_3⟩:=jK hc.raw
   simp only [List.cons.injEq,and_true] at hce
   obtain ⟨rfl,rfl,rfl⟩:=hce
   obtain ⟨s0a0,s0p0,rfl,_⟩:=Rep.sl s0_1
   clear s0_0 s0_1 s0_2 s0_3
   clear hc
   go_wp2_with fail
   obtain ⟨c1,B1,hc1,hB1,_,hcell1,_,back1⟩:=Rep.jR hown HL.out
   obtain ⟨e1_0,e1_1,e1_2,rfl⟩:∃ e1_0 e1_1 e1_2,c1=[e1_0,e1_1,e1_2]:=by have h:=kM.len hc1.1;match c1,h with | [e1_0,e1_1,e1_2],_=>exact ⟨_,_,_,rfl⟩
   have hd1:=hcell1 0 _ rfl
   obtain rfl:e1_0=_:=by simpa [go_sem,C0_0,RRoute_n] using hd1.symm
   obtain ⟨A1,hA1,hAB1,bk1⟩:=kSu hc1
   try simp only [kGf,kGe] at hA1
   refine (yY (k:=q) hA1 rJ (by have:=HQ.out;have e:kM.cnt=(Rep.slice 9 Rep.str).cnt + (1 + (1)):=rfl;omega)).mono ?_
   rintro e w1 ⟨rfl,P1,X1⟩
   have Ox1:=back1 (bk1 P1 X1) (X1.wide hAB1)
   have Tx1:=ht.trans (X1.wide (fun i hi=>(hB1 i (hAB1 i hi)).1))
   have g1:=(Rep.slice 9 Rep.str).mark_ge (e:=true) (x:=y0) (k:=q)
   have l1:((Rep.slice 9 Rep.str).mark true y0 (q)).2≤q + ((Rep.slice 9 Rep.str).cnt:Nat):=(Rep.slice 9 Rep.str).mark_le (e:=true) (k:=q) hA1.2
   have u1:((Rep.slice 9 Rep.str).mark true y0 (q)).2≤4611686018427387904:=by have:=HQ.out;have e:kM.cnt=(Rep.slice 9 Rep.str).cnt + (1 + (1)):=rfl;unfold Top at *;omega
   have M1:=yD l1;clear l1
   clear C0_0 C0_1 C0_2 Z0_0 Z0_1 Z0_2 hA1 bk1 back1 hc1 hB1 hAB1 P1 X1 hcell1 hd1
   obtain ⟨c,B,hc,hB,hSb',hcell,hfz,back⟩:=Rep.jR Ox1 HL.out
   obtain ⟨d1_0,d1_1,d1_2,rfl⟩:∃ d1_0 d1_1 d1_2,c=[d1_0,d1_1,d1_2]:=by have h:=kM.len hc.1;match c,h with | [d1_0,d1_1,d1_2],_=>exact ⟨_,_,_,rfl⟩
   try simp only [kGf,kGe] at hc
   have C1_0:w1.cell? ⟨b,off + j * 3,none⟩=some d1_0:=hcell 0 _ rfl
   have Z1_0:=hfz (off + j * 3)
   have C1_1:w1.cell? ⟨b,off + j * 3 + 1,none⟩=some d1_1:=hcell 1 _ rfl
   have Z1_1:=hfz (off + j * 3 + 1)
   have C1_2:w1.cell? ⟨b,off + j * 3 + 2,none⟩=some d1_2:=hcell 2 _ rfl
   have Z1_2:=hfz (off + j * 3 + 2)
   clear hB hSb' hcell hfz back
   obtain ⟨s1v0,hce,s1_0,s1_1,s1_2,s1_3⟩:=jK hc.raw
   simp only [List.cons.injEq,and_true] at hce
   obtain ⟨rfl,rfl,rfl⟩:=hce
   obtain ⟨s1a0,s1p0,rfl,_⟩:=Rep.sl s1_1
   clear s1_0 s1_1 s1_2 s1_3
   clear hc
   obtain ⟨O1,T1⟩:=Rep.jV (v:=.int .i64 (((Rep.slice 9 Rep.str).mark true y0 (q)).2)) (p:=off + j * 3 + 1) Ox1 HL.out (show 1 < kM.n by decide) (RRoute_set1 _ ⟨by omega,by omega⟩) (fun h=>h) (show off + j * 3 + 1=off + j * 3 + 1 by omega)
   have T1:=Tx1.trans (T1.wide mW)
   obtain ⟨O2,T2⟩:=Rep.jV (v:=.int .i64 (((Rep.slice 9 Rep.str).mark true y0 (q)).2 + 1)) (p:=off + j * 3 + 2) O1 HL.out (show 2 < kM.n by decide) (RRoute_set2 _ ⟨by omega,by omega⟩) (fun h=>h) (show off + j * 3 + 2=off + j * 3 + 2 by omega)
   have T2:=T1.trans (T2.wide mW)
   have EQ:=HEH.out _ rfl
   have OF:=yD (EQ.out ▸ O2);have TF:=yD T2
   have QF:Hid ((((Rep.slice 9 Rep.str).mark true y0 (q)).2 + 1 + 1)=(Rep.mkL kM (x.take (j + 1)) k).2):=yD qG
   go_wp2
   go_roundw
   case rel=>exact ⟨j + 1,by omega,by go_num,by rw [← QF.out],OF.out,TF.out⟩
   simp [intOf];omega
 obtain ⟨e1,e2⟩:=Rep.kAx (r:=kM) (k:=k) hlt
 rw [e1] at hown
 have HO:=yD hown;have HT:=yD e2;clear hown e1 e2
 go_wp2
 go_ret
 exact ⟨jI HT.out,HO.out,ht⟩
theorem kNm {w:World} {va:Value} {x:List kS} {k:Int} {S:Nat→Prop} (ha:(Rep.slice 81 kF).own w [va] x S) (hk0:0≤k) (hk1:k + ((Rep.slice 81 kF).cnt:Nat)≤Top) :
    Calls Tryz.prog 154 #[va,.int .i64 k] w (zy (Rep.slice 81 kF) true x k [va] S w):=by
 obtain ⟨aa,capa,rfl,la⟩:=Rep.sl ha.raw
 have lb:x.length≤16777216:=ha.2.1
 have hbd:=yD ha.2
 have HK:=yD hk1;clear hk1
 have hk2:k≤4611686018427387904:=fV
 go_enter Tryz.func154,Tryz.ntmps154
 go_wp2
 go_loopw [1,5] (fun l i wr=>∃ (j:Nat),j≤x.length∧i=.int .i64 j∧l=.int .i64 (Rep.mkL kF (x.take j) k).2∧(Rep.slice 81 kF).own wr [.slice aa x.length capa] ((Rep.mkL kF (x.take j) k).1++x.drop j) S∧Touch S w wr) (fun _ i _=>x.length - (intOf i).toNat)
 case atStart=>exact ⟨0,Nat.zero_le _,rfl,rfl,by simpa [Rep.mkL] using ha,Touch.refl _ _⟩
 obtain ⟨j,hj,rfl,rfl,hown,ht⟩:=hrel
 by_cases hlt:j < x.length
 · obtain ⟨hln,b,off,rfl,hSb,hbw⟩:=Rep.zk hown qB
   clear hln
   rw [Rep.kAf hlt] at hown
   obtain ⟨q0,q1⟩:=Rep.kAg (e:=81) (r:=kF) hbd.out hlt HK.out hk0
   have HE:∀ y,y=(kF.mark true x[j] (Rep.mkL kF (x.take j) k).2).1→Hid (((Rep.mkL kF (x.take j) k).1++x.drop j).set j y=(Rep.mkL kF (x.take (j + 1)) k).1++x.drop (j + 1)):=fun y hy=>yD (Rep.kBv hlt hy)
   have HF:=yD (Rep.kAy (r:=kF) (k:=k) hlt)
   have hLl:j < ((Rep.mkL kF (x.take j) k).1++x.drop j).length:=nZ
   have HL:=yD hLl;clear hLl
   generalize (Rep.mkL kF (x.take j) k).2=q at *
   generalize (Rep.mkL kF (x.take j) k).1++x.drop j=M at *
   generalize hx:x[j]=y at *
   have HX:=yD hx;clear hx
   obtain ⟨y0,y1,y2⟩:=y
   have HEH:=yD HE;clear HE
   have HQ:=yD q1;clear q1
   have q2:q≤4611686018427387904:=fU
   obtain ⟨c,B,hc,hB,hSb',hcell,hfz,back⟩:=Rep.jR hown HL.out
   obtain ⟨d0_0,d0_1,d0_2,rfl⟩:∃ d0_0 d0_1 d0_2,c=[d0_0,d0_1,d0_2]:=by have h:=kF.len hc.1;match c,h with | [d0_0,d0_1,d0_2],_=>exact ⟨_,_,_,rfl⟩
   try simp only [kHr,kHq,kHp] at hc
   have C0_0:wr.cell? ⟨b,off + j * 3,none⟩=some d0_0:=hcell 0 _ rfl
   have Z0_0:=hfz (off + j * 3)
   have C0_1:wr.cell? ⟨b,off + j * 3 + 1,none⟩=some d0_1:=hcell 1 _ rfl
   have Z0_1:=hfz (off + j * 3 + 1)
   have C0_2:wr.cell? ⟨b,off + j * 3 + 2,none⟩=some d0_2:=hcell 2 _ rfl
   have Z0_2:=hfz (off + j * 3 + 2)
   clear hB hSb' hcell hfz back
   obtain ⟨hce,s0_0,s0_1,s0_2⟩:=yA hc.raw
   simp only [List.cons.injEq,and_true] at hce
   obtain ⟨rfl,rfl,rfl⟩:=hce
   clear s0_0 s0_1 s0_2
   clear hc
   obtain ⟨O1,T1⟩:=Rep.jV (v:=.int .i64 (q)) (p:=off + j * 3) hown HL.out (show 0 < kF.n by decide) (kQd _ ⟨by omega,by omega⟩) (fun h=>h) (show off + j * 3=off + j * 3 + 0 by omega)
   have T1:=ht.trans (T1.wide mW)
   obtain ⟨O2,T2⟩:=Rep.jV (v:=.int .i64 (q + 1)) (p:=off + j * 3 + 1) O1 HL.out (show 1 < kF.n by decide) (kQc _ ⟨by omega,by omega⟩) (fun h=>h) (show off + j * 3 + 1=off + j * 3 + 1 by omega)
   have T2:=T1.trans (T2.wide mW)
   obtain ⟨O3,T3⟩:=Rep.jV (v:=.int .i64 (q + 1 + 1)) (p:=off + j * 3 + 2) O2 HL.out (show 2 < kF.n by decide) (kQb _ ⟨by omega,by omega⟩) (fun h=>h) (show off + j * 3 + 2=off + j * 3 + 2 by omega)
   have T3:=T2.trans (T3.wide mW)
   have EQ:=HEH.out _ rfl
   have OF:=yD (EQ.out ▸ O3);have TF:=yD T3
   have QF:Hid ((q + 1 + 1 + 1)=(Rep.mkL kF (x.take (j + 1)) k).2):=yD qG
   go_wp2
   go_roundw
   case rel=>exact ⟨j + 1,by omega,by go_num,by rw [← QF.out],OF.out,TF.out⟩
   simp [intOf];omega
 obtain ⟨e1,e2⟩:=Rep.kAx (r:=kF) (k:=k) hlt
 rw [e1] at hown
 have HO:=yD hown;have HT:=yD e2;clear hown e1 e2
 go_wp2
 go_ret
 exact ⟨jI HT.out,HO.out,ht⟩
theorem kGh {w:World} {va:Value} {x:List kJ} {k:Int} {S:Nat→Prop} (ha:(Rep.slice 77 kD).own w [va] x S) (hk0:0≤k) (hk1:k + ((Rep.slice 77 kD).cnt:Nat)≤Top) :
    Calls Tryz.prog 57 #[va,.int .i64 k] w (zy (Rep.slice 77 kD) true x k [va] S w):=by
 obtain ⟨aa,capa,rfl,la⟩:=Rep.sl ha.raw
 have lb:x.length≤16777216:=ha.2.1
 have hbd:=yD ha.2
 have HK:=yD hk1;clear hk1
 have hk2:k≤4611686018427387904:=fV
 go_enter Tryz.func57,Tryz.ntmps57
 go_wp2
 go_loopw [1,5] (fun l i wr=>∃ (j:Nat),j≤x.length∧i=.int .i64 j∧l=.int .i64 (Rep.mkL kD (x.take j) k).2∧(Rep.slice 77 kD).own wr [.slice aa x.length capa] ((Rep.mkL kD (x.take j) k).1++x.drop j) S∧Touch S w wr) (fun _ i _=>x.length - (intOf i).toNat)
 case atStart=>exact ⟨0,Nat.zero_le _,rfl,rfl,by simpa [Rep.mkL] using ha,Touch.refl _ _⟩
 obtain ⟨j,hj,rfl,rfl,hown,ht⟩:=hrel
 by_cases hlt:j < x.length
 · obtain ⟨hln,b,off,rfl,hSb,hbw⟩:=Rep.zk hown qB
   clear hln
   rw [Rep.kAf hlt] at hown
   obtain ⟨q0,q1⟩:=Rep.kAg (e:=77) (r:=kD) hbd.out hlt HK.out hk0
   have HE:∀ y,y=(kD.mark true x[j] (Rep.mkL kD (x.take j) k).2).1→Hid (((Rep.mkL kD (x.take j) k).1++x.drop j).set j y=(Rep.mkL kD (x.take (j + 1)) k).1++x.drop (j + 1)):=fun y hy=>yD (Rep.kBv hlt hy)
   have HF:=yD (Rep.kAy (r:=kD) (k:=k) hlt)
   have hLl:j < ((Rep.mkL kD (x.take j) k).1++x.drop j).length:=nZ
   have HL:=yD hLl;clear hLl
   generalize (Rep.mkL kD (x.take j) k).2=q at *
   generalize (Rep.mkL kD (x.take j) k).1++x.drop j=M at *
   generalize hx:x[j]=y at *
   have HX:=yD hx;clear hx
   obtain ⟨y0,y1,y2⟩:=y
   have HEH:=yD HE;clear HE
   have HQ:=yD q1;clear q1
   have q2:q≤4611686018427387904:=fU
   obtain ⟨c,B,hc,hB,hSb',hcell,hfz,back⟩:=Rep.jR hown HL.out
   obtain ⟨d0_0,d0_1,d0_2,rfl⟩:∃ d0_0 d0_1 d0_2,c=[d0_0,d0_1,d0_2]:=by have h:=kD.len hc.1;match c,h with | [d0_0,d0_1,d0_2],_=>exact ⟨_,_,_,rfl⟩
   try simp only [ji] at hc
   have C0_0:wr.cell? ⟨b,off + j * 3,none⟩=some d0_0:=hcell 0 _ rfl
   have Z0_0:=hfz (off + j * 3)
   have C0_1:wr.cell? ⟨b,off + j * 3 + 1,none⟩=some d0_1:=hcell 1 _ rfl
   have Z0_1:=hfz (off + j * 3 + 1)
   have C0_2:wr.cell? ⟨b,off + j * 3 + 2,none⟩=some d0_2:=hcell 2 _ rfl
   have Z0_2:=hfz (off + j * 3 + 2)
   clear hB hSb' hcell hfz back
   obtain ⟨s0v0,s0v1,hce,s0_0,s0_1,s0_2,s0_3⟩:=kz hc.raw
   simp only [List.cons.injEq,and_true] at hce
   obtain ⟨rfl,rfl,rfl⟩:=hce
   obtain ⟨s0a0,s0p0,rfl,_⟩:=Rep.sl s0_1
   obtain ⟨s0a1,s0p1,rfl,_⟩:=Rep.sl s0_2
   clear s0_0 s0_1 s0_2 s0_3
   clear hc
   go_wp2_with fail
   obtain ⟨c1,B1,hc1,hB1,_,hcell1,_,back1⟩:=Rep.jR hown HL.out
   obtain ⟨e1_0,e1_1,e1_2,rfl⟩:∃ e1_0 e1_1 e1_2,c1=[e1_0,e1_1,e1_2]:=by have h:=kD.len hc1.1;match c1,h with | [e1_0,e1_1,e1_2],_=>exact ⟨_,_,_,rfl⟩
   have hd1:=hcell1 0 _ rfl
   obtain rfl:e1_0=_:=by simpa [go_sem,C0_0,kEt] using hd1.symm
   obtain ⟨A1,hA1,hAB1,bk1⟩:=kFk hc1
   try simp only [ji] at hA1
   refine (yY (k:=q) hA1 rJ (by have:=HQ.out;have e:kD.cnt=(Rep.slice 9 Rep.str).cnt + ((Rep.slice 81 kF).cnt + (1)):=rfl;omega)).mono ?_
   rintro e w1 ⟨rfl,P1,X1⟩
   have Ox1:=back1 (bk1 P1 X1) (X1.wide hAB1)
   have Tx1:=ht.trans (X1.wide (fun i hi=>(hB1 i (hAB1 i hi)).1))
   have g1:=(Rep.slice 9 Rep.str).mark_ge (e:=true) (x:=y0) (k:=q)
   have l1:((Rep.slice 9 Rep.str).mark true y0 (q)).2≤q + ((Rep.slice 9 Rep.str).cnt:Nat):=(Rep.slice 9 Rep.str).mark_le (e:=true) (k:=q) hA1.2
   have u1:((Rep.slice 9 Rep.str).mark true y0 (q)).2≤4611686018427387904:=by have:=HQ.out;have e:kD.cnt=(Rep.slice 9 Rep.str).cnt + ((Rep.slice 81 kF).cnt + (1)):=rfl;unfold Top at *;omega
   have M1:=yD l1;clear l1
   clear C0_0 C0_1 C0_2 Z0_0 Z0_1 Z0_2 hA1 bk1 back1 hc1 hB1 hAB1 P1 X1 hcell1 hd1
   obtain ⟨c,B,hc,hB,hSb',hcell,hfz,back⟩:=Rep.jR Ox1 HL.out
   obtain ⟨d1_0,d1_1,d1_2,rfl⟩:∃ d1_0 d1_1 d1_2,c=[d1_0,d1_1,d1_2]:=by have h:=kD.len hc.1;match c,h with | [d1_0,d1_1,d1_2],_=>exact ⟨_,_,_,rfl⟩
   try simp only [ji] at hc
   have C1_0:w1.cell? ⟨b,off + j * 3,none⟩=some d1_0:=hcell 0 _ rfl
   have Z1_0:=hfz (off + j * 3)
   have C1_1:w1.cell? ⟨b,off + j * 3 + 1,none⟩=some d1_1:=hcell 1 _ rfl
   have Z1_1:=hfz (off + j * 3 + 1)
   have C1_2:w1.cell? ⟨b,off + j * 3 + 2,none⟩=some d1_2:=hcell 2 _ rfl
   have Z1_2:=hfz (off + j * 3 + 2)
   clear hB hSb' hcell hfz back
   obtain ⟨s1v0,s1v1,hce,s1_0,s1_1,s1_2,s1_3⟩:=kz hc.raw
   simp only [List.cons.injEq,and_true] at hce
   obtain ⟨rfl,rfl,rfl⟩:=hce
   obtain ⟨s1a0,s1p0,rfl,_⟩:=Rep.sl s1_1
   obtain ⟨s1a1,s1p1,rfl,_⟩:=Rep.sl s1_2
   clear s1_0 s1_1 s1_2 s1_3
   clear hc
   go_wp2_with fail
   obtain ⟨c2,B2,hc2,hB2,_,hcell2,_,back2⟩:=Rep.jR Ox1 HL.out
   obtain ⟨e2_0,e2_1,e2_2,rfl⟩:∃ e2_0 e2_1 e2_2,c2=[e2_0,e2_1,e2_2]:=by have h:=kD.len hc2.1;match c2,h with | [e2_0,e2_1,e2_2],_=>exact ⟨_,_,_,rfl⟩
   have hd2:=hcell2 1 _ rfl
   obtain rfl:e2_1=_:=by simpa [go_sem,C1_1,kEt] using hd2.symm
   obtain ⟨A2,hA2,hAB2,bk2⟩:=kGu hc2
   try simp only [ji] at hA2
   refine (kNm (k:=((Rep.slice 9 Rep.str).mark true y0 (q)).2) hA2 rJ (by have:=HQ.out;have:=M1.out;have e:kD.cnt=(Rep.slice 9 Rep.str).cnt + ((Rep.slice 81 kF).cnt + (1)):=rfl;omega)).mono ?_
   rintro e w2 ⟨rfl,P2,X2⟩
   have Ox2:=back2 (bk2 P2 X2) (X2.wide hAB2)
   have Tx2:=Tx1.trans (X2.wide (fun i hi=>(hB2 i (hAB2 i hi)).1))
   have g2:=(Rep.slice 81 kF).mark_ge (e:=true) (x:=y1) (k:=((Rep.slice 9 Rep.str).mark true y0 (q)).2)
   have l2:((Rep.slice 81 kF).mark true y1 (((Rep.slice 9 Rep.str).mark true y0 (q)).2)).2≤((Rep.slice 9 Rep.str).mark true y0 (q)).2 + ((Rep.slice 81 kF).cnt:Nat):=(Rep.slice 81 kF).mark_le (e:=true) (k:=((Rep.slice 9 Rep.str).mark true y0 (q)).2) hA2.2
   have u2:((Rep.slice 81 kF).mark true y1 (((Rep.slice 9 Rep.str).mark true y0 (q)).2)).2≤4611686018427387904:=by have:=HQ.out;have:=M1.out;have e:kD.cnt=(Rep.slice 9 Rep.str).cnt + ((Rep.slice 81 kF).cnt + (1)):=rfl;unfold Top at *;omega
   have M2:=yD l2;clear l2
   clear C1_0 C1_1 C1_2 Z1_0 Z1_1 Z1_2 hA2 bk2 back2 hc2 hB2 hAB2 P2 X2 hcell2 hd2
   obtain ⟨c,B,hc,hB,hSb',hcell,hfz,back⟩:=Rep.jR Ox2 HL.out
   obtain ⟨d2_0,d2_1,d2_2,rfl⟩:∃ d2_0 d2_1 d2_2,c=[d2_0,d2_1,d2_2]:=by have h:=kD.len hc.1;match c,h with | [d2_0,d2_1,d2_2],_=>exact ⟨_,_,_,rfl⟩
   try simp only [ji] at hc
   have C2_0:w2.cell? ⟨b,off + j * 3,none⟩=some d2_0:=hcell 0 _ rfl
   have Z2_0:=hfz (off + j * 3)
   have C2_1:w2.cell? ⟨b,off + j * 3 + 1,none⟩=some d2_1:=hcell 1 _ rfl
   have Z2_1:=hfz (off + j * 3 + 1)
   have C2_2:w2.cell? ⟨b,off + j * 3 + 2,none⟩=some d2_2:=hcell 2 _ rfl
   have Z2_2:=hfz (off + j * 3 + 2)
   clear hB hSb' hcell hfz back
   obtain ⟨s2v0,s2v1,hce,s2_0,s2_1,s2_2,s2_3⟩:=kz hc.raw
   simp only [List.cons.injEq,and_true] at hce
   obtain ⟨rfl,rfl,rfl⟩:=hce
   obtain ⟨s2a0,s2p0,rfl,_⟩:=Rep.sl s2_1
   obtain ⟨s2a1,s2p1,rfl,_⟩:=Rep.sl s2_2
   clear s2_0 s2_1 s2_2 s2_3
   clear hc
   obtain ⟨O1,T1⟩:=Rep.jV (v:=.int .i64 (((Rep.slice 81 kF).mark true y1 (((Rep.slice 9 Rep.str).mark true y0 (q)).2)).2)) (p:=off + j * 3 + 2) Ox2 HL.out (show 2 < kD.n by decide) (kBc _ ⟨by omega,by omega⟩) (fun h=>h) (show off + j * 3 + 2=off + j * 3 + 2 by omega)
   have T1:=Tx2.trans (T1.wide mW)
   have EQ:=HEH.out _ rfl
   have OF:=yD (EQ.out ▸ O1);have TF:=yD T1
   have QF:Hid ((((Rep.slice 81 kF).mark true y1 (((Rep.slice 9 Rep.str).mark true y0 (q)).2)).2 + 1)=(Rep.mkL kD (x.take (j + 1)) k).2):=yD qG
   go_wp2
   go_roundw
   case rel=>exact ⟨j + 1,by omega,by go_num,by rw [← QF.out],OF.out,TF.out⟩
   simp [intOf];omega
 obtain ⟨e1,e2⟩:=Rep.kAx (r:=kD) (k:=k) hlt
 rw [e1] at hown
 have HO:=yD hown;have HT:=yD e2;clear hown e1 e2
 go_wp2
 go_ret
 exact ⟨jI HT.out,HO.out,ht⟩
theorem kNl {w:World} {va:Value} {x:List jL} {k:Int} {S:Nat→Prop} (ha:(Rep.slice 157 kI).own w [va] x S) (hk0:0≤k) (hk1:k + ((Rep.slice 157 kI).cnt:Nat)≤Top) :
    Calls Tryz.prog 58 #[va,.int .i64 k] w (zy (Rep.slice 157 kI) true x k [va] S w):=by
 obtain ⟨aa,capa,rfl,la⟩:=Rep.sl ha.raw
 have lb:x.length≤16777216:=ha.2.1
 have hbd:=yD ha.2
 have HK:=yD hk1;clear hk1
 have hk2:k≤4611686018427387904:=fV
 go_enter Tryz.func58,Tryz.ntmps58
 go_wp2
 go_loopw [1,5] (fun l i wr=>∃ (j:Nat),j≤x.length∧i=.int .i64 j∧l=.int .i64 (Rep.mkL kI (x.take j) k).2∧(Rep.slice 157 kI).own wr [.slice aa x.length capa] ((Rep.mkL kI (x.take j) k).1++x.drop j) S∧Touch S w wr) (fun _ i _=>x.length - (intOf i).toNat)
 case atStart=>exact ⟨0,Nat.zero_le _,rfl,rfl,by simpa [Rep.mkL] using ha,Touch.refl _ _⟩
 obtain ⟨j,hj,rfl,rfl,hown,ht⟩:=hrel
 by_cases hlt:j < x.length
 · obtain ⟨hln,b,off,rfl,hSb,hbw⟩:=Rep.zk hown qB
   clear hln
   rw [Rep.kAf hlt] at hown
   obtain ⟨q0,q1⟩:=Rep.kAg (e:=157) (r:=kI) hbd.out hlt HK.out hk0
   have HE:∀ y,y=(kI.mark true x[j] (Rep.mkL kI (x.take j) k).2).1→Hid (((Rep.mkL kI (x.take j) k).1++x.drop j).set j y=(Rep.mkL kI (x.take (j + 1)) k).1++x.drop (j + 1)):=fun y hy=>yD (Rep.kBv hlt hy)
   have HF:=yD (Rep.kAy (r:=kI) (k:=k) hlt)
   have hLl:j < ((Rep.mkL kI (x.take j) k).1++x.drop j).length:=nZ
   have HL:=yD hLl;clear hLl
   generalize (Rep.mkL kI (x.take j) k).2=q at *
   generalize (Rep.mkL kI (x.take j) k).1++x.drop j=M at *
   generalize hx:x[j]=y at *
   have HX:=yD hx;clear hx
   obtain ⟨y0,y1⟩:=y
   have HEH:=yD HE;clear HE
   have HQ:=yD q1;clear q1
   have q2:q≤4611686018427387904:=fU
   obtain ⟨c,B,hc,hB,hSb',hcell,hfz,back⟩:=Rep.jR hown HL.out
   obtain ⟨d0_0,d0_1,rfl⟩:∃ d0_0 d0_1,c=[d0_0,d0_1]:=by have h:=kI.len hc.1;match c,h with | [d0_0,d0_1],_=>exact ⟨_,_,rfl⟩
   try simp only [kCp] at hc
   have C0_0:wr.cell? ⟨b,off + j * 2,none⟩=some d0_0:=hcell 0 _ rfl
   have Z0_0:=hfz (off + j * 2)
   have C0_1:wr.cell? ⟨b,off + j * 2 + 1,none⟩=some d0_1:=hcell 1 _ rfl
   have Z0_1:=hfz (off + j * 2 + 1)
   clear hB hSb' hcell hfz back
   obtain ⟨s0v0,hce,s0_0,s0_1,s0_2⟩:=yJ hc.raw
   simp only [List.cons.injEq,and_true] at hce
   obtain ⟨rfl,rfl⟩:=hce
   obtain ⟨s0a0,s0p0,rfl,_⟩:=Rep.sl s0_1
   clear s0_0 s0_1 s0_2
   clear hc
   go_wp2_with fail
   obtain ⟨c1,B1,hc1,hB1,_,hcell1,_,back1⟩:=Rep.jR hown HL.out
   obtain ⟨e1_0,e1_1,rfl⟩:∃ e1_0 e1_1,c1=[e1_0,e1_1]:=by have h:=kI.len hc1.1;match c1,h with | [e1_0,e1_1],_=>exact ⟨_,_,rfl⟩
   have hd1:=hcell1 0 _ rfl
   obtain rfl:e1_0=_:=by simpa [go_sem,C0_0,kWs] using hd1.symm
   obtain ⟨A1,hA1,hAB1,bk1⟩:=kLh hc1
   try simp only [kCp] at hA1
   refine (yY (k:=q) hA1 rJ (by have:=HQ.out;have e:kI.cnt=(Rep.slice 9 Rep.str).cnt + (1):=rfl;omega)).mono ?_
   rintro e w1 ⟨rfl,P1,X1⟩
   have Ox1:=back1 (bk1 P1 X1) (X1.wide hAB1)
   have Tx1:=ht.trans (X1.wide (fun i hi=>(hB1 i (hAB1 i hi)).1))
   have g1:=(Rep.slice 9 Rep.str).mark_ge (e:=true) (x:=y0) (k:=q)
   have l1:((Rep.slice 9 Rep.str).mark true y0 (q)).2≤q + ((Rep.slice 9 Rep.str).cnt:Nat):=(Rep.slice 9 Rep.str).mark_le (e:=true) (k:=q) hA1.2
   have u1:((Rep.slice 9 Rep.str).mark true y0 (q)).2≤4611686018427387904:=by have:=HQ.out;have e:kI.cnt=(Rep.slice 9 Rep.str).cnt + (1):=rfl;unfold Top at *;omega
   have M1:=yD l1;clear l1
   clear C0_0 C0_1 Z0_0 Z0_1 hA1 bk1 back1 hc1 hB1 hAB1 P1 X1 hcell1 hd1
   obtain ⟨c,B,hc,hB,hSb',hcell,hfz,back⟩:=Rep.jR Ox1 HL.out
   obtain ⟨d1_0,d1_1,rfl⟩:∃ d1_0 d1_1,c=[d1_0,d1_1]:=by have h:=kI.len hc.1;match c,h with | [d1_0,d1_1],_=>exact ⟨_,_,rfl⟩
   try simp only [kCp] at hc
   have C1_0:w1.cell? ⟨b,off + j * 2,none⟩=some d1_0:=hcell 0 _ rfl
   have Z1_0:=hfz (off + j * 2)
   have C1_1:w1.cell? ⟨b,off + j * 2 + 1,none⟩=some d1_1:=hcell 1 _ rfl
   have Z1_1:=hfz (off + j * 2 + 1)
   clear hB hSb' hcell hfz back
   obtain ⟨s1v0,hce,s1_0,s1_1,s1_2⟩:=yJ hc.raw
   simp only [List.cons.injEq,and_true] at hce
   obtain ⟨rfl,rfl⟩:=hce
   obtain ⟨s1a0,s1p0,rfl,_⟩:=Rep.sl s1_1
   clear s1_0 s1_1 s1_2
   clear hc
   obtain ⟨O1,T1⟩:=Rep.jV (v:=.int .i64 (((Rep.slice 9 Rep.str).mark true y0 (q)).2)) (p:=off + j * 2 + 1) Ox1 HL.out (show 1 < kI.n by decide) (kQa _ ⟨by omega,by omega⟩) (fun h=>h) (show off + j * 2 + 1=off + j * 2 + 1 by omega)
   have T1:=Tx1.trans (T1.wide mW)
   have EQ:=HEH.out _ rfl
   have OF:=yD (EQ.out ▸ O1);have TF:=yD T1
   have QF:Hid ((((Rep.slice 9 Rep.str).mark true y0 (q)).2 + 1)=(Rep.mkL kI (x.take (j + 1)) k).2):=yD qG
   go_wp2
   go_roundw
   case rel=>exact ⟨j + 1,by omega,by go_num,by rw [← QF.out],OF.out,TF.out⟩
   simp [intOf];omega
 obtain ⟨e1,e2⟩:=Rep.kAx (r:=kI) (k:=k) hlt
 rw [e1] at hown
 have HO:=yD hown;have HT:=yD e2;clear hown e1 e2
 go_wp2
 go_ret
 exact ⟨jI HT.out,HO.out,ht⟩
end Go.Proofs.YtomdenfcfbkfbaaGreat

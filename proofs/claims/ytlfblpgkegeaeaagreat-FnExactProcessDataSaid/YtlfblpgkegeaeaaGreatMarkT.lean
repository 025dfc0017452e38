/-
  From the reading of an argument to its representation; from a contract of a law to its statement. Printed by genbridge.py.
  The text of a mark.
-/
import Derived.Test.YtlfblpgkegeaeaaGreatRows
import Derived.Test.YtlfblpgkegeaeaaGreatTypes
import Derived.ProofKit
import Derived.OpenShut
import Derived.Deep.Slices
import Derived.Test.YtlfblpgkegeaeaaGreatProg
import Derived.WalkLawsBesides
import Derived.IntWalk
import Derived.Laws.BytesArg
set_option linter.unusedVariables false
set_option linter.unusedSimpArgs false
set_option linter.unnecessarySimpa false
set_option maxRecDepth 100000
set_option maxHeartbeats 4000000
namespace Go.Proofs.YtlfblpgkegeaeaaGreat
open Go.ChangeShapes Go.WideShapes Go.ChangeAt Go.RowKit Go.Deep
section
variable {H:Type} {enc:TypeId × Value→H} {P:Program} {w:World}
theorem yz {T:TypeId} (hT:P.underlying T=some (.int .i64)) {fuel:Nat} {cs:List Value} {y:DataW H × List MemPlace} (h:DataW.trod enc P w 0 (fun _=>true) true fuel T cs=some y):∃ x,Rep.int.raw w cs x:=by
 obtain ⟨n,rfl,_,hw⟩:=DataW.trod_int hT h
 exact ⟨n,rfl,by simpa [Lit.wf,IntKind.min,IntKind.max,IntKind.signed,IntKind.bits] using hw⟩
theorem bridge_byte {T:TypeId} (hT:P.underlying T=some (.int .u8)) {fuel:Nat} {cs:List Value} {y:DataW H × List MemPlace} (h:DataW.trod enc P w 0 (fun _=>true) true fuel T cs=some y):∃ x,Rep.byte.raw w cs x:=by
 obtain ⟨n,rfl,_,hw⟩:=DataW.trod_int hT h
 have hn:0≤n∧n≤255:=by simpa [Lit.wf,IntKind.min,IntKind.max,IntKind.signed,IntKind.bits] using hw
 refine ⟨UInt8.ofNat n.toNat,?_⟩
 show _=_
 have:(UInt8.ofNat n.toNat).toNat=n.toNat:=by rw [UInt8.toNat_ofNat'];omega
 rw [this,Int.toNat_of_nonneg hn.1]
theorem kTu {T:TypeId} (hT:P.underlying T=some .string) {fuel:Nat} {cs:List Value} {y:DataW H × List MemPlace} (h:DataW.trod enc P w 0 (fun _=>true) true fuel T cs=some y):∃ x,Rep.str.raw w cs x:=by
 obtain ⟨s,rfl,_,hs⟩:=DataW.trod_string hT h
 exact ⟨s,rfl,hs⟩
theorem yu {α:Type} {r:Rep α} {e T E:TypeId} (hT:P.underlying T=some (.slice E)) (hn:P.cellsOf E=r.n) (hpos:0 < r.n)
    (ih:∀ {fuel:Nat} {cs:List Value} {y:DataW H × List MemPlace},DataW.trod enc P w 0 (fun _=>true) true fuel E cs=some y→∃ x,r.raw w cs x)
    {fuel:Nat} {cs:List Value} {y:DataW H × List MemPlace} (h:DataW.trod enc P w 0 (fun _=>true) true fuel T cs=some y):∃ xs,(Rep.slice e r).raw w cs xs:=by
 rcases open_slice hT h with ⟨rfl,_⟩|⟨a,len,cap,m,n,D,Pl,rfl,_,hl,hm,hmm,_,hx⟩
 · exact ⟨[],none,0,0,rfl,rfl,Nat.le_refl _,Nat.zero_le _,.inl ⟨rfl,by simp⟩⟩
 simp only [if_true] at hmm
 subst hmm
 rw [hn] at hx
 rcases Nat.eq_zero_or_pos len with rfl | hlen
 · exact ⟨[],some a,0,m,rfl,rfl,hl,hm,.inl ⟨rfl,by simp⟩⟩
 have hcell:∀ i,i < m→∀ j,j < r.n→∃ v,w.cell? ((a.add (i * r.n)).add j)=some v:=by
  intro i hi j hj
  obtain ⟨cs',h1,h2⟩:=hx i hi
  obtain ⟨_,hl',hc⟩:=World.cells?_some h1
  rw [hc j hj,List.getElem?_eq_getElem rP]
  exact ⟨_,rfl⟩
 obtain ⟨v0,hv0⟩:=hcell 0 rP 0 hpos
 have ha0:(a.add (0 * r.n)).add 0=a:=by simp [Addr.add]
 rw [ha0] at hv0
 have hblk:∃ cur e' fr,w.heap[a.block]?=some (.cells cur e' fr)∧a.spot=none:=by
  unfold World.cell? at hv0
  split at hv0
  · rename_i c e' fr hb
    refine ⟨c,e',fr,hb,?_⟩
    cases hs:a.spot with
    | none=>rfl
    | some s=>simp [hs] at hv0
  cases hv0
 obtain ⟨cur,e',fr,hb,hs⟩:=hblk
 obtain ⟨b,off,spot⟩:=a
 simp only at hs hb
 subst hs
 have hadd:∀ i j,(((⟨b,off,none⟩:Addr).add (i * r.n)).add j)=⟨b,off + i * r.n + j,none⟩:=by
  intro i j
  unfold Addr.add
  split <;> split <;> simp_all
 have hcur:∀ i,i < m→∀ j,j < r.n→∃ v,cur[off + i * r.n + j]?=some v:=by
  intro i hi j hj
  obtain ⟨v,hv⟩:=hcell i hi j hj
  rw [hadd,cell_of_row w b _ cur e' fr hb] at hv
  exact ⟨v,hv⟩
 have hsize:off + m * r.n≤cur.size:=by
  obtain ⟨v,hv⟩:=hcur (m - 1) rP (r.n - 1) rP
  have:=(Array.getElem?_eq_some_iff.1 hv).1
  have e1:m * r.n=(m - 1) * r.n + r.n:=by
   conv=>lhs;rw [show m=(m - 1) + 1 by omega]
   rw [Nat.add_mul,Nat.one_mul]
  omega
 have hcut:∀ i,i < m→∃ x,r.raw w ((cur.toList.drop (off + i * r.n)).take r.n) x:=by
  intro i hi
  obtain ⟨cs',h1,h2⟩:=hx i hi
  obtain ⟨_,hl',hc⟩:=World.cells?_some h1
  have:cs'=(cur.toList.drop (off + i * r.n)).take r.n:=by
   apply List.ext_getElem?
   intro j
   by_cases hj:j < r.n
   · rw [← hc j hj,hadd,cell_of_row w b _ cur e' fr hb]
     simp [hj,List.getElem?_drop]
   rw [List.getElem?_eq_none rP,List.getElem?_eq_none rG]
  rw [← this]
  exact ih h2
 have hrow:∀ k,k≤len→∃ xs:List α,xs.length=k∧Rep.row r false w ((cur.toList.drop off).take (k * r.n)) xs (fun _=>True):=by
  intro k
  induction k with
  | zero=>intro _;exact ⟨[],rfl,by simp [Rep.row]⟩
  | succ k ihk =>
    intro hk
    obtain ⟨xs,hxl,hr⟩:=ihk rP
    obtain ⟨x,hxr⟩:=hcut k rP
    refine ⟨xs++[x],by simp [hxl],?_⟩
    have:(cur.toList.drop off).take ((k + 1) * r.n)=(cur.toList.drop off).take (k * r.n)++(cur.toList.drop (off + k * r.n)).take r.n:=by
      rw [Nat.add_mul,Nat.one_mul,List.take_add,List.drop_drop]
    rw [this]
    exact Rep.kBz hr (Rep.kRj hxr) (fun _ h=>h) (fun _ h=>h) rQ
 obtain ⟨xs,hxl,hr⟩:=hrow len nL
 refine ⟨xs,some ⟨b,off,none⟩,len,m,rfl,hxl.symm,hl,hm,.inr ⟨b,off,rfl,cur,e',fr,cur.toList.take off,_,(cur.toList.drop off).drop (len * r.n),hb,?_,?_,hsize,by simp,trivial,Rep.yS hr (fun _ _=>⟨trivial,by simp⟩)⟩⟩
 · rw [List.take_append_drop,List.take_append_drop]
 simp;omega
theorem kKa (hl:laidOutB P=true) {W W':World} (hb:Below W.heap.size W W'):∀ {ts:List TypeId} {vs:List Value} {ds:List (DataW H)} {ps:List MemPlace},(∀ t∈ts,P.readableRec t=true∧t < P.types.size) →
    DataW.TrodAll enc P W 0 (fun _=>true) true ts vs ds ps→(∀ x∈ps,x.block < W.heap.size)→DataW.TrodAll enc P W' 0 (fun b=>decide (b < W.heap.size)) true ts vs ds ps
  | [],[],[],ps,_,h,_=>h
  | t :: ts,v :: vs,d :: ds,ps,ht,⟨p,q,h1,h2,h3⟩,hlt=>by
    subst h3
    exact ⟨p,q,Below.trod hl (ht t rQ).1 (ht t rQ).2 h1 hb (fun x hx=>hlt x (by simp [hx])),kKa hl hb (fun u hu=>ht u (by simp [hu])) h2 (fun x hx=>hlt x (by simp [hx])),rfl⟩
end
theorem law_own:ownKnob Tryz.prog.godebug=none:=by kernel_rfl
theorem law_laidOut:laidOutB Tryz.prog=true:=by kernel_rfl
def LawPost (w:World) (e:Ending) (w':World):Prop:=e=.returned (.bool true)∧Below w.heap.size w w'
theorem law_post {H:Type} {enc:TypeId × Value→H} {fn:Func} {s:ChangeSpec} {W W':World} {args:Array Value} {ds gs:List (DataW H)} {before:List MemPlace} {tb:TypeId}
    (hW:DataW.Whole enc Tryz.prog fn.params.toList s.vars false W args.toList ds gs before) (hvars:s.vars=[]) (hres:fn.resultTypes=#[tb]) (htb:Tryz.prog.underlying tb=some .bool)
    (hsp:(s.fn H (ds++gs)).results=[.lit (.bool true)]∧(s.fn H (ds++gs)).args=ds∧(s.fn H (ds++gs)).vars=[])
    (hts:∀ t∈fn.params.toList,Tryz.prog.readableRec t=true∧t < Tryz.prog.types.size) (hb:Below W.heap.size W W') :
    s.post enc Tryz.prog fn false true false false W args (.bool true) W':=by
 have hlt:∀ p∈before,p.block < W.heap.size:=fun p hp=>by simpa using hW.lt p hp
 have hW':=hW
 obtain ⟨p,q,hA,hV,rfl,_,_⟩:=hW
 rw [hvars] at hV
 have hgq:gs=[]∧q=[]:=by
  cases gs with
  | nil=>exact ⟨rfl,hV⟩
  | cons g gs=>exact hV.elim
 obtain ⟨rfl,rfl⟩:=hgq
 refine ⟨ds,[],_,[],p,[],hW',?_,?_,?_,hb.frame _,fun h=>by cases h⟩
 · rw [hsp.1,hres]
   exact trodAll_cons_mk (shut_bool htb true) trodAll_mk0
 · rw [hsp.2.1]
   exact kKa law_laidOut hb hts hA (fun x hx=>hlt x (by simp [hx]))
 rw [hsp.2.2,hvars]
 rfl
theorem kIt {H:Type} {enc:TypeId × Value→H} {w:World} {fuel:Nat} {cs:List Value} {y:DataW H × List MemPlace} (h:DataW.trod enc Tryz.prog w 0 (fun _=>true) true fuel 37 cs=some y):∃ x,(Rep.slice 9 Rep.str).raw w cs x :=
  yu Tryz.underlying37 rF rM (fun h=>kTu Tryz.underlying9 h) h
theorem kWb {H:Type} {enc:TypeId × Value→H} {w:World} {fuel:Nat} {cs:List Value} {y:DataW H × List MemPlace} (h:DataW.trod enc Tryz.prog w 0 (fun _=>true) true fuel 40 cs=some y):∃ x,(Rep.slice 5 Rep.byte).raw w cs x :=
  yu Tryz.underlying40 rF rM (fun h=>bridge_byte Tryz.underlying5 h) h
theorem kBe {H:Type} {enc:TypeId × Value→H} {w:World} {fuel:Nat} {cs:List Value} {y:DataW H × List MemPlace} (h:DataW.trod enc Tryz.prog w 0 (fun _=>true) true fuel 39 cs=some y):∃ x,kL.raw w cs x:=by
 obtain ⟨xs,m,rfl,_,hl,hxl,hf⟩:=DataW.trod_struct Tryz.underlying39 h
 have hc:Tryz.prog.cellsOf 39=1:=rF
 rw [hc] at hl
 match xs,hxl with
 | [y0],_ =>
 match cs,hl with
 | [c0],_ =>
 have g0:DataW.trod enc Tryz.prog w 0 (fun _=>true) true m 37 (([c0].drop 0).take (Tryz.prog.cellsOf 37))=some y0:=hf 0 _ rfl
 have k0:Tryz.prog.cellsOf 37=1:=rF
 rw [k0] at g0
 obtain ⟨x0,r0⟩:∃ x,(Rep.slice 9 Rep.str).raw w [c0] x:=kIt g0
 exact ⟨x0,r0⟩
theorem kWa {H:Type} {enc:TypeId × Value→H} {w:World} {fuel:Nat} {cs:List Value} {y:DataW H × List MemPlace} (h:DataW.trod enc Tryz.prog w 0 (fun _=>true) true fuel 34 cs=some y):∃ x,(Rep.slice 64 kL).raw w cs x :=
  yu Tryz.underlying34 rF rM (fun h=>kBe h) h
theorem kKy {H:Type} {enc:TypeId × Value→H} {w:World} {fuel:Nat} {cs:List Value} {y:DataW H × List MemPlace} (h:DataW.trod enc Tryz.prog w 0 (fun _=>true) true fuel 160 cs=some y):∃ x,kF.raw w cs x:=by
 obtain ⟨xs,m,rfl,_,hl,hxl,hf⟩:=DataW.trod_struct Tryz.underlying160 h
 have hc:Tryz.prog.cellsOf 160=3:=rF
 rw [hc] at hl
 match xs,hxl with
 | [y0,y1,y2],_ =>
 match cs,hl with
 | [c0,c1,c2],_ =>
 have g0:DataW.trod enc Tryz.prog w 0 (fun _=>true) true m 39 (([c0,c1,c2].drop 0).take (Tryz.prog.cellsOf 39))=some y0:=hf 0 _ rfl
 have k0:Tryz.prog.cellsOf 39=1:=rF
 rw [k0] at g0
 obtain ⟨x0,r0⟩:∃ x,kL.raw w [c0] x:=kBe g0
 have g1:DataW.trod enc Tryz.prog w 0 (fun _=>true) true m 3 (([c0,c1,c2].drop 1).take (Tryz.prog.cellsOf 3))=some y1:=hf 1 _ rfl
 have k1:Tryz.prog.cellsOf 3=1:=rF
 rw [k1] at g1
 obtain ⟨x1,r1⟩:∃ x,Rep.int.raw w [c1] x:=yz Tryz.underlying3 g1
 have g2:DataW.trod enc Tryz.prog w 0 (fun _=>true) true m 3 (([c0,c1,c2].drop 2).take (Tryz.prog.cellsOf 3))=some y2:=hf 2 _ rfl
 have k2:Tryz.prog.cellsOf 3=1:=rF
 rw [k2] at g2
 obtain ⟨x2,r2⟩:∃ x,Rep.int.raw w [c2] x:=yz Tryz.underlying3 g2
 exact ⟨(x0,x1,x2),Rep.yJ (z:=(x0,x1,x2)) r0 (Rep.yJ (z:=(x1,x2)) r1 (r2))⟩
theorem kJp {H:Type} {enc:TypeId × Value→H} {w:World} {fuel:Nat} {cs:List Value} {y:DataW H × List MemPlace} (h:DataW.trod enc Tryz.prog w 0 (fun _=>true) true fuel 29 cs=some y):∃ x,(Rep.slice 184 kF).raw w cs x :=
  yu Tryz.underlying29 rF rM (fun h=>kKy h) h
theorem kVz {H:Type} {enc:TypeId × Value→H} {w:World} {fuel:Nat} {cs:List Value} {y:DataW H × List MemPlace} (h:DataW.trod enc Tryz.prog w 0 (fun _=>true) true fuel 157 cs=some y):∃ x,kX.raw w cs x:=by
 obtain ⟨xs,m,rfl,_,hl,hxl,hf⟩:=DataW.trod_struct Tryz.underlying157 h
 have hc:Tryz.prog.cellsOf 157=3:=rF
 rw [hc] at hl
 match xs,hxl with
 | [y0,y1,y2],_ =>
 match cs,hl with
 | [c0,c1,c2],_ =>
 have g0:DataW.trod enc Tryz.prog w 0 (fun _=>true) true m 39 (([c0,c1,c2].drop 0).take (Tryz.prog.cellsOf 39))=some y0:=hf 0 _ rfl
 have k0:Tryz.prog.cellsOf 39=1:=rF
 rw [k0] at g0
 obtain ⟨x0,r0⟩:∃ x,kL.raw w [c0] x:=kBe g0
 have g1:DataW.trod enc Tryz.prog w 0 (fun _=>true) true m 3 (([c0,c1,c2].drop 1).take (Tryz.prog.cellsOf 3))=some y1:=hf 1 _ rfl
 have k1:Tryz.prog.cellsOf 3=1:=rF
 rw [k1] at g1
 obtain ⟨x1,r1⟩:∃ x,Rep.int.raw w [c1] x:=yz Tryz.underlying3 g1
 have g2:DataW.trod enc Tryz.prog w 0 (fun _=>true) true m 3 (([c0,c1,c2].drop 2).take (Tryz.prog.cellsOf 3))=some y2:=hf 2 _ rfl
 have k2:Tryz.prog.cellsOf 3=1:=rF
 rw [k2] at g2
 obtain ⟨x2,r2⟩:∃ x,Rep.int.raw w [c2] x:=yz Tryz.underlying3 g2
 exact ⟨(x0,x1,x2),Rep.yJ (z:=(x0,x1,x2)) r0 (Rep.yJ (z:=(x1,x2)) r1 (r2))⟩
theorem kTv {H:Type} {enc:TypeId × Value→H} {w:World} {fuel:Nat} {cs:List Value} {y:DataW H × List MemPlace} (h:DataW.trod enc Tryz.prog w 0 (fun _=>true) true fuel 28 cs=some y):∃ x,(Rep.slice 181 kX).raw w cs x :=
  yu Tryz.underlying28 rF rM (fun h=>kVz h) h
theorem kOi {H:Type} {enc:TypeId × Value→H} {w:World} {fuel:Nat} {cs:List Value} {y:DataW H × List MemPlace} (h:DataW.trod enc Tryz.prog w 0 (fun _=>true) true fuel 257 cs=some y):∃ x,kQ.raw w cs x:=by
 obtain ⟨xs,m,rfl,_,hl,hxl,hf⟩:=DataW.trod_struct Tryz.underlying257 h
 have hc:Tryz.prog.cellsOf 257=3:=rF
 rw [hc] at hl
 match xs,hxl with
 | [y0,y1,y2],_ =>
 match cs,hl with
 | [c0,c1,c2],_ =>
 have g0:DataW.trod enc Tryz.prog w 0 (fun _=>true) true m 3 (([c0,c1,c2].drop 0).take (Tryz.prog.cellsOf 3))=some y0:=hf 0 _ rfl
 have k0:Tryz.prog.cellsOf 3=1:=rF
 rw [k0] at g0
 obtain ⟨x0,r0⟩:∃ x,Rep.int.raw w [c0] x:=yz Tryz.underlying3 g0
 have g1:DataW.trod enc Tryz.prog w 0 (fun _=>true) true m 3 (([c0,c1,c2].drop 1).take (Tryz.prog.cellsOf 3))=some y1:=hf 1 _ rfl
 have k1:Tryz.prog.cellsOf 3=1:=rF
 rw [k1] at g1
 obtain ⟨x1,r1⟩:∃ x,Rep.int.raw w [c1] x:=yz Tryz.underlying3 g1
 have g2:DataW.trod enc Tryz.prog w 0 (fun _=>true) true m 3 (([c0,c1,c2].drop 2).take (Tryz.prog.cellsOf 3))=some y2:=hf 2 _ rfl
 have k2:Tryz.prog.cellsOf 3=1:=rF
 rw [k2] at g2
 obtain ⟨x2,r2⟩:∃ x,Rep.int.raw w [c2] x:=yz Tryz.underlying3 g2
 exact ⟨(x0,x1,x2),Rep.yJ (z:=(x0,x1,x2)) r0 (Rep.yJ (z:=(x1,x2)) r1 (r2))⟩
theorem kMq {H:Type} {enc:TypeId × Value→H} {w:World} {fuel:Nat} {cs:List Value} {y:DataW H × List MemPlace} (h:DataW.trod enc Tryz.prog w 0 (fun _=>true) true fuel 149 cs=some y):∃ x,(Rep.slice 123 kQ).raw w cs x :=
  yu Tryz.underlying149 rF rM (fun h=>kOi h) h
theorem kHf {H:Type} {enc:TypeId × Value→H} {w:World} {fuel:Nat} {cs:List Value} {y:DataW H × List MemPlace} (h:DataW.trod enc Tryz.prog w 0 (fun _=>true) true fuel 151 cs=some y):∃ x,kE.raw w cs x:=by
 obtain ⟨xs,m,rfl,_,hl,hxl,hf⟩:=DataW.trod_struct Tryz.underlying151 h
 have hc:Tryz.prog.cellsOf 151=3:=rF
 rw [hc] at hl
 match xs,hxl with
 | [y0,y1,y2],_ =>
 match cs,hl with
 | [c0,c1,c2],_ =>
 have g0:DataW.trod enc Tryz.prog w 0 (fun _=>true) true m 39 (([c0,c1,c2].drop 0).take (Tryz.prog.cellsOf 39))=some y0:=hf 0 _ rfl
 have k0:Tryz.prog.cellsOf 39=1:=rF
 rw [k0] at g0
 obtain ⟨x0,r0⟩:∃ x,kL.raw w [c0] x:=kBe g0
 have g1:DataW.trod enc Tryz.prog w 0 (fun _=>true) true m 149 (([c0,c1,c2].drop 1).take (Tryz.prog.cellsOf 149))=some y1:=hf 1 _ rfl
 have k1:Tryz.prog.cellsOf 149=1:=rF
 rw [k1] at g1
 obtain ⟨x1,r1⟩:∃ x,(Rep.slice 123 kQ).raw w [c1] x:=kMq g1
 have g2:DataW.trod enc Tryz.prog w 0 (fun _=>true) true m 3 (([c0,c1,c2].drop 2).take (Tryz.prog.cellsOf 3))=some y2:=hf 2 _ rfl
 have k2:Tryz.prog.cellsOf 3=1:=rF
 rw [k2] at g2
 obtain ⟨x2,r2⟩:∃ x,Rep.int.raw w [c2] x:=yz Tryz.underlying3 g2
 exact ⟨(x0,x1,x2),Rep.yJ (z:=(x0,x1,x2)) r0 (Rep.yJ (z:=(x1,x2)) r1 (r2))⟩
theorem kGq {H:Type} {enc:TypeId × Value→H} {w:World} {fuel:Nat} {cs:List Value} {y:DataW H × List MemPlace} (h:DataW.trod enc Tryz.prog w 0 (fun _=>true) true fuel 26 cs=some y):∃ x,(Rep.slice 175 kE).raw w cs x :=
  yu Tryz.underlying26 rF rM (fun h=>kHf h) h
theorem kOh {H:Type} {enc:TypeId × Value→H} {w:World} {fuel:Nat} {cs:List Value} {y:DataW H × List MemPlace} (h:DataW.trod enc Tryz.prog w 0 (fun _=>true) true fuel 154 cs=some y):∃ x,kJ.raw w cs x:=by
 obtain ⟨xs,m,rfl,_,hl,hxl,hf⟩:=DataW.trod_struct Tryz.underlying154 h
 have hc:Tryz.prog.cellsOf 154=2:=rF
 rw [hc] at hl
 match xs,hxl with
 | [y0,y1],_ =>
 match cs,hl with
 | [c0,c1],_ =>
 have g0:DataW.trod enc Tryz.prog w 0 (fun _=>true) true m 39 (([c0,c1].drop 0).take (Tryz.prog.cellsOf 39))=some y0:=hf 0 _ rfl
 have k0:Tryz.prog.cellsOf 39=1:=rF
 rw [k0] at g0
 obtain ⟨x0,r0⟩:∃ x,kL.raw w [c0] x:=kBe g0
 have g1:DataW.trod enc Tryz.prog w 0 (fun _=>true) true m 3 (([c0,c1].drop 1).take (Tryz.prog.cellsOf 3))=some y1:=hf 1 _ rfl
 have k1:Tryz.prog.cellsOf 3=1:=rF
 rw [k1] at g1
 obtain ⟨x1,r1⟩:∃ x,Rep.int.raw w [c1] x:=yz Tryz.underlying3 g1
 exact ⟨(x0,x1),Rep.yJ (z:=(x0,x1)) r0 (r1)⟩
theorem kMp {H:Type} {enc:TypeId × Value→H} {w:World} {fuel:Nat} {cs:List Value} {y:DataW H × List MemPlace} (h:DataW.trod enc Tryz.prog w 0 (fun _=>true) true fuel 27 cs=some y):∃ x,(Rep.slice 178 kJ).raw w cs x :=
  yu Tryz.underlying27 rF rM (fun h=>kOh h) h
theorem kIv {H:Type} {enc:TypeId × Value→H} {w:World} {fuel:Nat} {cs:List Value} {y:DataW H × List MemPlace} (h:DataW.trod enc Tryz.prog w 0 (fun _=>true) true fuel 42 cs=some y):∃ x,kP.raw w cs x:=by
 obtain ⟨xs,m,rfl,_,hl,hxl,hf⟩:=DataW.trod_struct Tryz.underlying42 h
 have hc:Tryz.prog.cellsOf 42=5:=rF
 rw [hc] at hl
 match xs,hxl with
 | [y0,y1,y2,y3,y4],_ =>
 match cs,hl with
 | [c0,c1,c2,c3,c4],_ =>
 have g0:DataW.trod enc Tryz.prog w 0 (fun _=>true) true m 39 (([c0,c1,c2,c3,c4].drop 0).take (Tryz.prog.cellsOf 39))=some y0:=hf 0 _ rfl
 have k0:Tryz.prog.cellsOf 39=1:=rF
 rw [k0] at g0
 obtain ⟨x0,r0⟩:∃ x,kL.raw w [c0] x:=kBe g0
 have g1:DataW.trod enc Tryz.prog w 0 (fun _=>true) true m 40 (([c0,c1,c2,c3,c4].drop 1).take (Tryz.prog.cellsOf 40))=some y1:=hf 1 _ rfl
 have k1:Tryz.prog.cellsOf 40=1:=rF
 rw [k1] at g1
 obtain ⟨x1,r1⟩:∃ x,(Rep.slice 5 Rep.byte).raw w [c1] x:=kWb g1
 have g2:DataW.trod enc Tryz.prog w 0 (fun _=>true) true m 39 (([c0,c1,c2,c3,c4].drop 2).take (Tryz.prog.cellsOf 39))=some y2:=hf 2 _ rfl
 have k2:Tryz.prog.cellsOf 39=1:=rF
 rw [k2] at g2
 obtain ⟨x2,r2⟩:∃ x,kL.raw w [c2] x:=kBe g2
 have g3:DataW.trod enc Tryz.prog w 0 (fun _=>true) true m 3 (([c0,c1,c2,c3,c4].drop 3).take (Tryz.prog.cellsOf 3))=some y3:=hf 3 _ rfl
 have k3:Tryz.prog.cellsOf 3=1:=rF
 rw [k3] at g3
 obtain ⟨x3,r3⟩:∃ x,Rep.int.raw w [c3] x:=yz Tryz.underlying3 g3
 have g4:DataW.trod enc Tryz.prog w 0 (fun _=>true) true m 3 (([c0,c1,c2,c3,c4].drop 4).take (Tryz.prog.cellsOf 3))=some y4:=hf 4 _ rfl
 have k4:Tryz.prog.cellsOf 3=1:=rF
 rw [k4] at g4
 obtain ⟨x4,r4⟩:∃ x,Rep.int.raw w [c4] x:=yz Tryz.underlying3 g4
 exact ⟨(x0,x1,x2,x3,x4),Rep.yJ (z:=(x0,x1,x2,x3,x4)) r0 (Rep.yJ (z:=(x1,x2,x3,x4)) r1 (Rep.yJ (z:=(x2,x3,x4)) r2 (Rep.yJ (z:=(x3,x4)) r3 (r4))))⟩
theorem kMr {H:Type} {enc:TypeId × Value→H} {w:World} {fuel:Nat} {cs:List Value} {y:DataW H × List MemPlace} (h:DataW.trod enc Tryz.prog w 0 (fun _=>true) true fuel 22 cs=some y):∃ x,(Rep.slice 66 kP).raw w cs x :=
  yu Tryz.underlying22 rF rM (fun h=>kIv h) h
theorem kMs {H:Type} {enc:TypeId × Value→H} {w:World} {fuel:Nat} {cs:List Value} {y:DataW H × List MemPlace} (h:DataW.trod enc Tryz.prog w 0 (fun _=>true) true fuel 226 cs=some y):∃ x,kH.raw w cs x:=by
 obtain ⟨xs,m,rfl,_,hl,hxl,hf⟩:=DataW.trod_struct Tryz.underlying226 h
 have hc:Tryz.prog.cellsOf 226=6:=rF
 rw [hc] at hl
 match xs,hxl with
 | [y0,y1],_ =>
 match cs,hl with
 | [c0,c1,c2,c3,c4,c5],_ =>
 have g0:DataW.trod enc Tryz.prog w 0 (fun _=>true) true m 42 (([c0,c1,c2,c3,c4,c5].drop 0).take (Tryz.prog.cellsOf 42))=some y0:=hf 0 _ rfl
 have k0:Tryz.prog.cellsOf 42=5:=rF
 rw [k0] at g0
 obtain ⟨x0,r0⟩:∃ x,kP.raw w [c0,c1,c2,c3,c4] x:=kIv g0
 have g1:DataW.trod enc Tryz.prog w 0 (fun _=>true) true m 3 (([c0,c1,c2,c3,c4,c5].drop 5).take (Tryz.prog.cellsOf 3))=some y1:=hf 1 _ rfl
 have k1:Tryz.prog.cellsOf 3=1:=rF
 rw [k1] at g1
 obtain ⟨x1,r1⟩:∃ x,Rep.int.raw w [c5] x:=yz Tryz.underlying3 g1
 exact ⟨(x0,x1),Rep.yJ (z:=(x0,x1)) r0 (r1)⟩
theorem kKz {H:Type} {enc:TypeId × Value→H} {w:World} {fuel:Nat} {cs:List Value} {y:DataW H × List MemPlace} (h:DataW.trod enc Tryz.prog w 0 (fun _=>true) true fuel 23 cs=some y):∃ x,(Rep.slice 212 kH).raw w cs x :=
  yu Tryz.underlying23 rF rM (fun h=>kMs h) h
theorem kJq {H:Type} {enc:TypeId × Value→H} {w:World} {fuel:Nat} {cs:List Value} {y:DataW H × List MemPlace} (h:DataW.trod enc Tryz.prog w 0 (fun _=>true) true fuel 25 cs=some y):∃ x,kI.raw w cs x:=by
 obtain ⟨xs,m,rfl,_,hl,hxl,hf⟩:=DataW.trod_struct Tryz.underlying25 h
 have hc:Tryz.prog.cellsOf 25=2:=rF
 rw [hc] at hl
 match xs,hxl with
 | [y0,y1],_ =>
 match cs,hl with
 | [c0,c1],_ =>
 have g0:DataW.trod enc Tryz.prog w 0 (fun _=>true) true m 3 (([c0,c1].drop 0).take (Tryz.prog.cellsOf 3))=some y0:=hf 0 _ rfl
 have k0:Tryz.prog.cellsOf 3=1:=rF
 rw [k0] at g0
 obtain ⟨x0,r0⟩:∃ x,Rep.int.raw w [c0] x:=yz Tryz.underlying3 g0
 have g1:DataW.trod enc Tryz.prog w 0 (fun _=>true) true m 23 (([c0,c1].drop 1).take (Tryz.prog.cellsOf 23))=some y1:=hf 1 _ rfl
 have k1:Tryz.prog.cellsOf 23=1:=rF
 rw [k1] at g1
 obtain ⟨x1,r1⟩:∃ x,(Rep.slice 212 kH).raw w [c1] x:=kKz g1
 exact ⟨(x0,x1),Rep.yJ (z:=(x0,x1)) r0 (r1)⟩
theorem bridge_Node {H:Type} {enc:TypeId × Value→H} {w:World} {fuel:Nat} {cs:List Value} {y:DataW H × List MemPlace} (h:DataW.trod enc Tryz.prog w 0 (fun _=>true) true fuel 31 cs=some y):∃ x,jC.raw w cs x:=by
 obtain ⟨xs,m,rfl,_,hl,hxl,hf⟩:=DataW.trod_struct Tryz.underlying31 h
 have hc:Tryz.prog.cellsOf 31=8:=rF
 rw [hc] at hl
 match xs,hxl with
 | [y0,y1,y2,y3,y4,y5,y6],_ =>
 match cs,hl with
 | [c0,c1,c2,c3,c4,c5,c6,c7],_ =>
 have g0:DataW.trod enc Tryz.prog w 0 (fun _=>true) true m 22 (([c0,c1,c2,c3,c4,c5,c6,c7].drop 0).take (Tryz.prog.cellsOf 22))=some y0:=hf 0 _ rfl
 have k0:Tryz.prog.cellsOf 22=1:=rF
 rw [k0] at g0
 obtain ⟨x0,r0⟩:∃ x,(Rep.slice 66 kP).raw w [c0] x:=kMr g0
 have g1:DataW.trod enc Tryz.prog w 0 (fun _=>true) true m 25 (([c0,c1,c2,c3,c4,c5,c6,c7].drop 1).take (Tryz.prog.cellsOf 25))=some y1:=hf 1 _ rfl
 have k1:Tryz.prog.cellsOf 25=2:=rF
 rw [k1] at g1
 obtain ⟨x1,r1⟩:∃ x,kI.raw w [c1,c2] x:=kJq g1
 have g2:DataW.trod enc Tryz.prog w 0 (fun _=>true) true m 26 (([c0,c1,c2,c3,c4,c5,c6,c7].drop 3).take (Tryz.prog.cellsOf 26))=some y2:=hf 2 _ rfl
 have k2:Tryz.prog.cellsOf 26=1:=rF
 rw [k2] at g2
 obtain ⟨x2,r2⟩:∃ x,(Rep.slice 175 kE).raw w [c3] x:=kGq g2
 have g3:DataW.trod enc Tryz.prog w 0 (fun _=>true) true m 27 (([c0,c1,c2,c3,c4,c5,c6,c7].drop 4).take (Tryz.prog.cellsOf 27))=some y3:=hf 3 _ rfl
 have k3:Tryz.prog.cellsOf 27=1:=rF
 rw [k3] at g3
 obtain ⟨x3,r3⟩:∃ x,(Rep.slice 178 kJ).raw w [c4] x:=kMp g3
 have g4:DataW.trod enc Tryz.prog w 0 (fun _=>true) true m 28 (([c0,c1,c2,c3,c4,c5,c6,c7].drop 5).take (Tryz.prog.cellsOf 28))=some y4:=hf 4 _ rfl
 have k4:Tryz.prog.cellsOf 28=1:=rF
 rw [k4] at g4
 obtain ⟨x4,r4⟩:∃ x,(Rep.slice 181 kX).raw w [c5] x:=kTv g4
 have g5:DataW.trod enc Tryz.prog w 0 (fun _=>true) true m 29 (([c0,c1,c2,c3,c4,c5,c6,c7].drop 6).take (Tryz.prog.cellsOf 29))=some y5:=hf 5 _ rfl
 have k5:Tryz.prog.cellsOf 29=1:=rF
 rw [k5] at g5
 obtain ⟨x5,r5⟩:∃ x,(Rep.slice 184 kF).raw w [c6] x:=kJp g5
 have g6:DataW.trod enc Tryz.prog w 0 (fun _=>true) true m 3 (([c0,c1,c2,c3,c4,c5,c6,c7].drop 7).take (Tryz.prog.cellsOf 3))=some y6:=hf 6 _ rfl
 have k6:Tryz.prog.cellsOf 3=1:=rF
 rw [k6] at g6
 obtain ⟨x6,r6⟩:∃ x,Rep.int.raw w [c7] x:=yz Tryz.underlying3 g6
 exact ⟨(x0,x1,x2,x3,x4,x5,x6),Rep.yJ (z:=(x0,x1,x2,x3,x4,x5,x6)) r0 (Rep.yJ (z:=(x1,x2,x3,x4,x5,x6)) r1 (Rep.yJ (z:=(x2,x3,x4,x5,x6)) r2 (Rep.yJ (z:=(x3,x4,x5,x6)) r3 (Rep.yJ (z:=(x4,x5,x6)) r4 (Rep.yJ (z:=(x5,x6)) r5 (r6))))))⟩
theorem bridge_Key {H:Type} {enc:TypeId × Value→H} {w:World} {fuel:Nat} {cs:List Value} {y:DataW H × List MemPlace} (h:DataW.trod enc Tryz.prog w 0 (fun _=>true) true fuel 163 cs=some y):∃ x,jg.raw w cs x:=by
 obtain ⟨xs,m,rfl,_,hl,hxl,hf⟩:=DataW.trod_struct Tryz.underlying163 h
 have hc:Tryz.prog.cellsOf 163=2:=rF
 rw [hc] at hl
 match xs,hxl with
 | [y0,y1],_ =>
 match cs,hl with
 | [c0,c1],_ =>
 have g0:DataW.trod enc Tryz.prog w 0 (fun _=>true) true m 39 (([c0,c1].drop 0).take (Tryz.prog.cellsOf 39))=some y0:=hf 0 _ rfl
 have k0:Tryz.prog.cellsOf 39=1:=rF
 rw [k0] at g0
 obtain ⟨x0,r0⟩:∃ x,kL.raw w [c0] x:=kBe g0
 have g1:DataW.trod enc Tryz.prog w 0 (fun _=>true) true m 3 (([c0,c1].drop 1).take (Tryz.prog.cellsOf 3))=some y1:=hf 1 _ rfl
 have k1:Tryz.prog.cellsOf 3=1:=rF
 rw [k1] at g1
 obtain ⟨x1,r1⟩:∃ x,Rep.int.raw w [c1] x:=yz Tryz.underlying3 g1
 exact ⟨(x0,x1),Rep.yJ (z:=(x0,x1)) r0 (r1)⟩
theorem bridge_KeyS {H:Type} {enc:TypeId × Value→H} {w:World} {fuel:Nat} {cs:List Value} {y:DataW H × List MemPlace} (h:DataW.trod enc Tryz.prog w 0 (fun _=>true) true fuel 32 cs=some y):∃ x,(Rep.slice 187 jg).raw w cs x :=
  yu Tryz.underlying32 rF rM (fun h=>bridge_Key h) h
theorem kIu {H:Type} {enc:TypeId × Value→H} {w:World} {fuel:Nat} {cs:List Value} {y:DataW H × List MemPlace} (h:DataW.trod enc Tryz.prog w 0 (fun _=>true) true fuel 165 cs=some y):∃ x,yU.raw w cs x:=by
 obtain ⟨xs,m,rfl,_,hl,hxl,hf⟩:=DataW.trod_struct Tryz.underlying165 h
 have hc:Tryz.prog.cellsOf 165=1:=rF
 rw [hc] at hl
 match xs,hxl with
 | [y0],_ =>
 match cs,hl with
 | [c0],_ =>
 have g0:DataW.trod enc Tryz.prog w 0 (fun _=>true) true m 37 (([c0].drop 0).take (Tryz.prog.cellsOf 37))=some y0:=hf 0 _ rfl
 have k0:Tryz.prog.cellsOf 37=1:=rF
 rw [k0] at g0
 obtain ⟨x0,r0⟩:∃ x,(Rep.slice 9 Rep.str).raw w [c0] x:=kIt g0
 exact ⟨x0,r0⟩
theorem bridge_Rule {H:Type} {enc:TypeId × Value→H} {w:World} {fuel:Nat} {cs:List Value} {y:DataW H × List MemPlace} (h:DataW.trod enc Tryz.prog w 0 (fun _=>true) true fuel 167 cs=some y):∃ x,jM.raw w cs x:=by
 obtain ⟨xs,m,rfl,_,hl,hxl,hf⟩:=DataW.trod_struct Tryz.underlying167 h
 have hc:Tryz.prog.cellsOf 167=2:=rF
 rw [hc] at hl
 match xs,hxl with
 | [y0,y1],_ =>
 match cs,hl with
 | [c0,c1],_ =>
 have g0:DataW.trod enc Tryz.prog w 0 (fun _=>true) true m 165 (([c0,c1].drop 0).take (Tryz.prog.cellsOf 165))=some y0:=hf 0 _ rfl
 have k0:Tryz.prog.cellsOf 165=1:=rF
 rw [k0] at g0
 obtain ⟨x0,r0⟩:∃ x,yU.raw w [c0] x:=kIu g0
 have g1:DataW.trod enc Tryz.prog w 0 (fun _=>true) true m 165 (([c0,c1].drop 1).take (Tryz.prog.cellsOf 165))=some y1:=hf 1 _ rfl
 have k1:Tryz.prog.cellsOf 165=1:=rF
 rw [k1] at g1
 obtain ⟨x1,r1⟩:∃ x,yU.raw w [c1] x:=kIu g1
 exact ⟨(x0,x1),Rep.yJ (z:=(x0,x1)) r0 (r1)⟩
theorem kVy {H:Type} {enc:TypeId × Value→H} {w:World} {fuel:Nat} {cs:List Value} {y:DataW H × List MemPlace} (h:DataW.trod enc Tryz.prog w 0 (fun _=>true) true fuel 33 cs=some y):∃ x,(Rep.slice 191 jM).raw w cs x :=
  yu Tryz.underlying33 rF rM (fun h=>bridge_Rule h) h
theorem kKx {H:Type} {enc:TypeId × Value→H} {w:World} {fuel:Nat} {cs:List Value} {y:DataW H × List MemPlace} (h:DataW.trod enc Tryz.prog w 0 (fun _=>true) true fuel 36 cs=some y):∃ x,kT.raw w cs x:=by
 obtain ⟨xs,m,rfl,_,hl,hxl,hf⟩:=DataW.trod_struct Tryz.underlying36 h
 have hc:Tryz.prog.cellsOf 36=4:=rF
 rw [hc] at hl
 match xs,hxl with
 | [y0,y1,y2,y3],_ =>
 match cs,hl with
 | [c0,c1,c2,c3],_ =>
 have g0:DataW.trod enc Tryz.prog w 0 (fun _=>true) true m 32 (([c0,c1,c2,c3].drop 0).take (Tryz.prog.cellsOf 32))=some y0:=hf 0 _ rfl
 have k0:Tryz.prog.cellsOf 32=1:=rF
 rw [k0] at g0
 obtain ⟨x0,r0⟩:∃ x,(Rep.slice 187 jg).raw w [c0] x:=bridge_KeyS g0
 have g1:DataW.trod enc Tryz.prog w 0 (fun _=>true) true m 33 (([c0,c1,c2,c3].drop 1).take (Tryz.prog.cellsOf 33))=some y1:=hf 1 _ rfl
 have k1:Tryz.prog.cellsOf 33=1:=rF
 rw [k1] at g1
 obtain ⟨x1,r1⟩:∃ x,(Rep.slice 191 jM).raw w [c1] x:=kVy g1
 have g2:DataW.trod enc Tryz.prog w 0 (fun _=>true) true m 34 (([c0,c1,c2,c3].drop 2).take (Tryz.prog.cellsOf 34))=some y2:=hf 2 _ rfl
 have k2:Tryz.prog.cellsOf 34=1:=rF
 rw [k2] at g2
 obtain ⟨x2,r2⟩:∃ x,(Rep.slice 64 kL).raw w [c2] x:=kWa g2
 have g3:DataW.trod enc Tryz.prog w 0 (fun _=>true) true m 22 (([c0,c1,c2,c3].drop 3).take (Tryz.prog.cellsOf 22))=some y3:=hf 3 _ rfl
 have k3:Tryz.prog.cellsOf 22=1:=rF
 rw [k3] at g3
 obtain ⟨x3,r3⟩:∃ x,(Rep.slice 66 kP).raw w [c3] x:=kMr g3
 exact ⟨(x0,x1,x2,x3),Rep.yJ (z:=(x0,x1,x2,x3)) r0 (Rep.yJ (z:=(x1,x2,x3)) r1 (Rep.yJ (z:=(x2,x3)) r2 (r3)))⟩
end Go.Proofs.YtlfblpgkegeaeaaGreat
namespace Go.Proofs.YtlfblpgkegeaeaaGreat
open Go.RowKit
theorem kQd (f:Nat) (s:ByteArray):zX f 0 s=s:=by cases f <;> simp [zX]
theorem kQe {f n:Nat} {s:ByteArray} (h:0 < n):zX (f + 1) n s=zX f (n / 10) (ByteArray.mk #[UInt8.ofNat (48 + n % 10)]++s):=by
 rw [zX,if_neg rP]
theorem kRt {w:World} {k:Int} (h0:0≤k) (h1:k≤4611686018427387905):Calls Tryz.prog 197 #[.int .i64 k] w fun e w'=>e=.returned (.string (mt k))∧Below w.heap.size w w':=by
 obtain ⟨n0,rfl⟩:=Int.eq_ofNat_of_zero_le h0
 go_enter Tryz.func197,Tryz.ntmps197
 by_cases hz:n0=0
 · subst hz
   go_wp2
   go_ret
   exact ⟨by rfl,bR⟩
 have hd:¬ ((n0:Int)≤0):=rP
 go_wp2
 go_loopw [0,3] (fun i v wr=>∃ (f n:Nat) (s:ByteArray),i=.int .i64 n∧v=.string s∧Hid (n < 10 ^ f)∧n≤n0∧Hid (f + s.size≤20)∧Hid (zX f n s=zX 20 n0 ByteArray.empty)∧Below w.heap.size w wr) (fun i _ _=>(intOf i).toNat)
 case atStart=>exact ⟨20,n0,_,rfl,rfl,yD (Nat.lt_of_le_of_lt (show n0≤4611686018427387905 by omega) rM),Nat.le_refl _,yD rM,yD rfl,bR⟩
 obtain ⟨f,n,s,rfl,rfl,HF,hn,HS,HD,hbel⟩:=hrel
 have hss:s.size≤20:=by have:=HS.out;omega
 by_cases hp:0 < n
 · obtain ⟨g,rfl⟩:∃ g,f=g + 1:=⟨f - 1,by
     cases f with
     | zero=>have:=HF.out;simp at this;omega
     | succ g=>omega⟩
   obtain ⟨c,hc⟩:∃ c,c=UInt8.ofNat (48 + n % 10):=⟨_,rfl⟩
   have HD2:Hid (zX g (n / 10) (ByteArray.mk #[c]++s)=zX 20 n0 ByteArray.empty):=yD (by rw [hc];exact (kQe (f:=g) (s:=s) hp).symm.trans HD.out)
   have HF2:Hid (n / 10 < 10 ^ g):=yD (by have:=HF.out;rw [Nat.pow_succ] at this;omega)
   have HS2:Hid (g + (ByteArray.mk #[c]++s).size≤20):=yD (by
     have:=HS.out
     have e:(ByteArray.mk #[c]).size=1:=rfl
     rw [ByteArray.size_append,e];omega)
   have hcv:∀ W:World,(convert 40 9 (.slice (some ⟨W.heap.size,0,none⟩) 1 1)).run Tryz.prog (W.alloc (.cells #[.int .u8 (48 + (n:Int) % 10)] 5))=.ok (.string ⟨#[c]⟩) (W.alloc (.cells #[.int .u8 (48 + (n:Int) % 10)] 5)):=by
    intro W
    have:=run_convert_bytes_arg (P:=Tryz.prog) (W.alloc (.cells #[.int .u8 (48 + (n:Int) % 10)] 5)) 40 5 Tryz.underlying40 Tryz.underlying5 W.heap.size 0 1 1 [48 + (n:Int) % 10] rfl (fun i hi=>by
      obtain rfl:i=0:=rP
      simp [go_sem]) 9 Tryz.underlying9
    rw [this]
    have e:strOfNums [48 + (n:Int) % 10]=⟨#[c]⟩:=by
     unfold strOfNums
     have e2:(48 + (n:Int) % 10).toNat=48 + n % 10:=rP
     rw [hc]
     simp only [List.map_cons,List.map_nil,e2]
    rw [e]
   have e1:(ByteArray.mk #[c]).size=1:=rfl
   clear hc
   go_wp2
   go_roundw
   case rel=>exact ⟨g,n / 10,_,by go_num,rfl,HF2,by omega,HS2,HD2,hbel.alloc hbel.size _⟩
   simp [intOf];omega
 obtain rfl:n=0:=rP
 have HT:=yD (show mt (n0:Int) = "m".toUTF8++s by
   unfold mt
   rw [if_neg rP]
   have:=HD.out
   rw [kQd] at this
   rw [Int.toNat_natCast,← this])
 go_wp2
 go_ret
 exact ⟨by rw [HT.out];rfl,hbel⟩
end Go.Proofs.YtlfblpgkegeaeaaGreat

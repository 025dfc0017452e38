/-
  From the reading of an argument to its representation; from a contract of a law to its statement. Printed by genbridge.py.
-/
import Derived.Test.YtlfblpgkegeaeaaGreatRows
import Derived.Test.YtlfblpgkegeaeaaGreatTypes
import Derived.ProofKit
import Derived.OpenShut
import Derived.Deep.Slices
namespace Go.Proofs.YtlfblpgkegeaeaaGreat
open Go.ChangeShapes Go.WideShapes Go.ChangeAt Go.RowKit Go.Deep
set_option linter.unusedVariables false

section
variable {H : Type} {enc : TypeId × Value → H} {P : Program} {w : World}

theorem bridge_int {T : TypeId} (hT : P.underlying T = some (.int .i64)) {fuel : Nat} {cs : List Value} {y : DataW H × List MemPlace} (h : DataW.trod enc P w 0 (fun _ => true) true fuel T cs = some y) : ∃ x, Rep.int.raw w cs x := by
  obtain ⟨n, rfl, _, hw⟩ := DataW.trod_int hT h
  exact ⟨n, rfl, by simpa [Lit.wf, IntKind.min, IntKind.max, IntKind.signed, IntKind.bits] using hw⟩
theorem bridge_byte {T : TypeId} (hT : P.underlying T = some (.int .u8)) {fuel : Nat} {cs : List Value} {y : DataW H × List MemPlace} (h : DataW.trod enc P w 0 (fun _ => true) true fuel T cs = some y) : ∃ x, Rep.byte.raw w cs x := by
  obtain ⟨n, rfl, _, hw⟩ := DataW.trod_int hT h
  have hn : 0 ≤ n ∧ n ≤ 255 := by simpa [Lit.wf, IntKind.min, IntKind.max, IntKind.signed, IntKind.bits] using hw
  refine ⟨UInt8.ofNat n.toNat, ?_⟩
  show _ = _
  have : (UInt8.ofNat n.toNat).toNat = n.toNat := by rw [UInt8.toNat_ofNat']; omega
  rw [this, Int.toNat_of_nonneg hn.1]
theorem bridge_bool {T : TypeId} (hT : P.underlying T = some .bool) {fuel : Nat} {cs : List Value} {y : DataW H × List MemPlace} (h : DataW.trod enc P w 0 (fun _ => true) true fuel T cs = some y) : ∃ x, Rep.bool.raw w cs x := by
  obtain ⟨b, rfl, _⟩ := DataW.trod_bool hT h
  exact ⟨b, rfl⟩
theorem bridge_string {T : TypeId} (hT : P.underlying T = some .string) {fuel : Nat} {cs : List Value} {y : DataW H × List MemPlace} (h : DataW.trod enc P w 0 (fun _ => true) true fuel T cs = some y) : ∃ x, Rep.str.raw w cs x := by
  obtain ⟨s, rfl, _, hs⟩ := DataW.trod_string hT h
  exact ⟨s, rfl, hs⟩

theorem bridge_slice {α : Type} {r : Rep α} {e T E : TypeId} (hT : P.underlying T = some (.slice E)) (hn : P.cellsOf E = r.n) (hpos : 0 < r.n)
    (ih : ∀ {fuel : Nat} {cs : List Value} {y : DataW H × List MemPlace}, DataW.trod enc P w 0 (fun _ => true) true fuel E cs = some y → ∃ x, r.raw w cs x)
    {fuel : Nat} {cs : List Value} {y : DataW H × List MemPlace} (h : DataW.trod enc P w 0 (fun _ => true) true fuel T cs = some y) : ∃ xs, (Rep.slice e r).raw w cs xs := by
  rcases open_slice hT h with ⟨rfl, _⟩ | ⟨a, len, cap, m, n, D, Pl, rfl, _, hl, hm, hmm, _, hx⟩
  · exact ⟨[], none, 0, 0, rfl, rfl, Nat.le_refl _, Nat.zero_le _, .inl ⟨rfl, by simp⟩⟩
  · simp only [if_true] at hmm
    subst hmm
    rw [hn] at hx
    rcases Nat.eq_zero_or_pos len with rfl | hlen
    · exact ⟨[], some a, 0, m, rfl, rfl, hl, hm, .inl ⟨rfl, by simp⟩⟩
    · have hcell : ∀ i, i < m → ∀ j, j < r.n → ∃ v, w.cell? ((a.add (i * r.n)).add j) = some v := by
        intro i hi j hj
        obtain ⟨cs', h1, h2⟩ := hx i hi
        obtain ⟨_, hl', hc⟩ := World.cells?_some h1
        rw [hc j hj, List.getElem?_eq_getElem (by omega)]
        exact ⟨_, rfl⟩
      obtain ⟨v0, hv0⟩ := hcell 0 (by omega) 0 hpos
      have ha0 : (a.add (0 * r.n)).add 0 = a := by simp [Addr.add]
      rw [ha0] at hv0
      have hblk : ∃ cur e' fr, w.heap[a.block]? = some (.cells cur e' fr) ∧ a.spot = none := by
        unfold World.cell? at hv0
        split at hv0
        · rename_i c e' fr hb
          refine ⟨c, e', fr, hb, ?_⟩
          cases hs : a.spot with
          | none => rfl
          | some s => simp [hs] at hv0
        · cases hv0
      obtain ⟨cur, e', fr, hb, hs⟩ := hblk
      obtain ⟨b, off, spot⟩ := a
      simp only at hs hb
      subst hs
      have hadd : ∀ i j, (((⟨b, off, none⟩ : Addr).add (i * r.n)).add j) = ⟨b, off + i * r.n + j, none⟩ := by
        intro i j
        unfold Addr.add
        split <;> split <;> simp_all
      have hcur : ∀ i, i < m → ∀ j, j < r.n → ∃ v, cur[off + i * r.n + j]? = some v := by
        intro i hi j hj
        obtain ⟨v, hv⟩ := hcell i hi j hj
        rw [hadd, cell_of_row w b _ cur e' fr hb] at hv
        exact ⟨v, hv⟩
      have hsize : off + m * r.n ≤ cur.size := by
        obtain ⟨v, hv⟩ := hcur (m - 1) (by omega) (r.n - 1) (by omega)
        have := (Array.getElem?_eq_some_iff.1 hv).1
        have e1 : m * r.n = (m - 1) * r.n + r.n := by
          conv => lhs; rw [show m = (m - 1) + 1 by omega]
          rw [Nat.add_mul, Nat.one_mul]
        omega
      have hcut : ∀ i, i < m → ∃ x, r.raw w ((cur.toList.drop (off + i * r.n)).take r.n) x := by
        intro i hi
        obtain ⟨cs', h1, h2⟩ := hx i hi
        obtain ⟨_, hl', hc⟩ := World.cells?_some h1
        have : cs' = (cur.toList.drop (off + i * r.n)).take r.n := by
          apply List.ext_getElem?
          intro j
          by_cases hj : j < r.n
          · rw [← hc j hj, hadd, cell_of_row w b _ cur e' fr hb]
            simp [hj, List.getElem?_drop]
          · rw [List.getElem?_eq_none (by omega), List.getElem?_eq_none (by simp; omega)]
        rw [← this]
        exact ih h2
      have hrow : ∀ k, k ≤ len → ∃ xs : List α, xs.length = k ∧ Rep.row r false w ((cur.toList.drop off).take (k * r.n)) xs (fun _ => True) := by
        intro k
        induction k with
        | zero => intro _; exact ⟨[], rfl, by simp [Rep.row]⟩
        | succ k ihk =>
          intro hk
          obtain ⟨xs, hxl, hr⟩ := ihk (by omega)
          obtain ⟨x, hxr⟩ := hcut k (by omega)
          refine ⟨xs ++ [x], by simp [hxl], ?_⟩
          have : (cur.toList.drop off).take ((k + 1) * r.n) = (cur.toList.drop off).take (k * r.n) ++ (cur.toList.drop (off + k * r.n)).take r.n := by
            rw [Nat.add_mul, Nat.one_mul, List.take_add, List.drop_drop]
          rw [this]
          exact Rep.row_append hr (Rep.row_single hxr) (fun _ h => h) (fun _ h => h) (by simp)
      obtain ⟨xs, hxl, hr⟩ := hrow len (Nat.le_refl _)
      refine ⟨xs, some ⟨b, off, none⟩, len, m, rfl, hxl.symm, hl, hm, .inr ⟨b, off, rfl, cur, e', fr, cur.toList.take off, _, (cur.toList.drop off).drop (len * r.n), hb, ?_, ?_, hsize, by simp, trivial, Rep.row_wide hr (fun _ _ => ⟨trivial, by simp⟩)⟩⟩
      · rw [List.take_append_drop, List.take_append_drop]
      · simp; omega

/-- The arguments read behind the call as they did. -/
theorem trodAll_below (hl : laidOutB P = true) {W W' : World} (hb : Below W.heap.size W W') : ∀ {ts : List TypeId} {vs : List Value} {ds : List (DataW H)} {ps : List MemPlace}, (∀ t ∈ ts, P.readableRec t = true ∧ t < P.types.size) →
    DataW.TrodAll enc P W 0 (fun _ => true) true ts vs ds ps → (∀ x ∈ ps, x.block < W.heap.size) → DataW.TrodAll enc P W' 0 (fun b => decide (b < W.heap.size)) true ts vs ds ps
  | [], [], [], ps, _, h, _ => h
  | t :: ts, v :: vs, d :: ds, ps, ht, ⟨p, q, h1, h2, h3⟩, hlt => by
    subst h3
    exact ⟨p, q, Below.trod hl (ht t (by simp)).1 (ht t (by simp)).2 h1 hb (fun x hx => hlt x (by simp [hx])), trodAll_below hl hb (fun u hu => ht u (by simp [hu])) h2 (fun x hx => hlt x (by simp [hx])), rfl⟩
end

theorem law_own : ownKnob Tryz.prog.godebug = none := by kernel_rfl
theorem law_laidOut : laidOutB Tryz.prog = true := by kernel_rfl

/-- What a law's contract says. -/
def LawPost (w : World) (e : Ending) (w' : World) : Prop := e = .returned (.bool true) ∧ Below w.heap.size w w'

theorem law_post {H : Type} {enc : TypeId × Value → H} {fn : Func} {s : ChangeSpec} {W W' : World} {args : Array Value} {ds gs : List (DataW H)} {before : List MemPlace} {tb : TypeId}
    (hW : DataW.Whole enc Tryz.prog fn.params.toList s.vars false W args.toList ds gs before) (hvars : s.vars = []) (hres : fn.resultTypes = #[tb]) (htb : Tryz.prog.underlying tb = some .bool)
    (hsp : (s.fn H (ds ++ gs)).results = [.lit (.bool true)] ∧ (s.fn H (ds ++ gs)).args = ds ∧ (s.fn H (ds ++ gs)).vars = [])
    (hts : ∀ t ∈ fn.params.toList, Tryz.prog.readableRec t = true ∧ t < Tryz.prog.types.size) (hb : Below W.heap.size W W') :
    s.post enc Tryz.prog fn false true false false W args (.bool true) W' := by
  have hlt : ∀ p ∈ before, p.block < W.heap.size := fun p hp => by simpa using hW.lt p hp
  have hW' := hW
  obtain ⟨p, q, hA, hV, rfl, _, _⟩ := hW
  rw [hvars] at hV
  have hgq : gs = [] ∧ q = [] := by
    cases gs with
    | nil => exact ⟨rfl, hV⟩
    | cons g gs => exact hV.elim
  obtain ⟨rfl, rfl⟩ := hgq
  refine ⟨ds, [], _, [], p, [], hW', ?_, ?_, ?_, hb.frame _, fun h => by cases h⟩
  · rw [hsp.1, hres]
    exact trodAll_cons_mk (shut_bool htb true) trodAll_mk0
  · rw [hsp.2.1]
    exact trodAll_below law_laidOut hb hts hA (fun x hx => hlt x (by simp [hx]))
  · rw [hsp.2.2, hvars]
    rfl

theorem bridge_IntS {H : Type} {enc : TypeId × Value → H} {w : World} {fuel : Nat} {cs : List Value} {y : DataW H × List MemPlace} (h : DataW.trod enc Tryz.prog w 0 (fun _ => true) true fuel 265 cs = some y) : ∃ x, (Rep.slice 3 Rep.int).raw w cs x :=
  bridge_slice Tryz.underlying265 (by kernel_rfl) (by decide) (fun h => bridge_int Tryz.underlying3 h) h
theorem bridge_StringS {H : Type} {enc : TypeId × Value → H} {w : World} {fuel : Nat} {cs : List Value} {y : DataW H × List MemPlace} (h : DataW.trod enc Tryz.prog w 0 (fun _ => true) true fuel 37 cs = some y) : ∃ x, (Rep.slice 9 Rep.str).raw w cs x :=
  bridge_slice Tryz.underlying37 (by kernel_rfl) (by decide) (fun h => bridge_string Tryz.underlying9 h) h
theorem bridge_ByteS {H : Type} {enc : TypeId × Value → H} {w : World} {fuel : Nat} {cs : List Value} {y : DataW H × List MemPlace} (h : DataW.trod enc Tryz.prog w 0 (fun _ => true) true fuel 40 cs = some y) : ∃ x, (Rep.slice 5 Rep.byte).raw w cs x :=
  bridge_slice Tryz.underlying40 (by kernel_rfl) (by decide) (fun h => bridge_byte Tryz.underlying5 h) h
set_option maxRecDepth 100000 in
theorem bridge_Name {H : Type} {enc : TypeId × Value → H} {w : World} {fuel : Nat} {cs : List Value} {y : DataW H × List MemPlace} (h : DataW.trod enc Tryz.prog w 0 (fun _ => true) true fuel 39 cs = some y) : ∃ x, RName.raw w cs x := by
  obtain ⟨xs, m, rfl, _, hl, hxl, hf⟩ := DataW.trod_struct Tryz.underlying39 h
  have hc : Tryz.prog.cellsOf 39 = 1 := by kernel_rfl
  rw [hc] at hl
  match xs, hxl with
  | [y0], _ =>
  match cs, hl with
  | [c0], _ =>
  have g0 : DataW.trod enc Tryz.prog w 0 (fun _ => true) true m 37 (([c0].drop 0).take (Tryz.prog.cellsOf 37)) = some y0 := hf 0 _ rfl
  have k0 : Tryz.prog.cellsOf 37 = 1 := by kernel_rfl
  rw [k0] at g0
  obtain ⟨x0, r0⟩ : ∃ x, (Rep.slice 9 Rep.str).raw w [c0] x := bridge_StringS g0
  exact ⟨x0, r0⟩
theorem bridge_NameS {H : Type} {enc : TypeId × Value → H} {w : World} {fuel : Nat} {cs : List Value} {y : DataW H × List MemPlace} (h : DataW.trod enc Tryz.prog w 0 (fun _ => true) true fuel 34 cs = some y) : ∃ x, (Rep.slice 64 RName).raw w cs x :=
  bridge_slice Tryz.underlying34 (by kernel_rfl) (by decide) (fun h => bridge_Name h) h
set_option maxRecDepth 100000 in
theorem bridge_Measurement {H : Type} {enc : TypeId × Value → H} {w : World} {fuel : Nat} {cs : List Value} {y : DataW H × List MemPlace} (h : DataW.trod enc Tryz.prog w 0 (fun _ => true) true fuel 160 cs = some y) : ∃ x, RMeasurement.raw w cs x := by
  obtain ⟨xs, m, rfl, _, hl, hxl, hf⟩ := DataW.trod_struct Tryz.underlying160 h
  have hc : Tryz.prog.cellsOf 160 = 3 := by kernel_rfl
  rw [hc] at hl
  match xs, hxl with
  | [y0, y1, y2], _ =>
  match cs, hl with
  | [c0, c1, c2], _ =>
  have g0 : DataW.trod enc Tryz.prog w 0 (fun _ => true) true m 39 (([c0, c1, c2].drop 0).take (Tryz.prog.cellsOf 39)) = some y0 := hf 0 _ rfl
  have k0 : Tryz.prog.cellsOf 39 = 1 := by kernel_rfl
  rw [k0] at g0
  obtain ⟨x0, r0⟩ : ∃ x, RName.raw w [c0] x := bridge_Name g0
  have g1 : DataW.trod enc Tryz.prog w 0 (fun _ => true) true m 3 (([c0, c1, c2].drop 1).take (Tryz.prog.cellsOf 3)) = some y1 := hf 1 _ rfl
  have k1 : Tryz.prog.cellsOf 3 = 1 := by kernel_rfl
  rw [k1] at g1
  obtain ⟨x1, r1⟩ : ∃ x, Rep.int.raw w [c1] x := bridge_int Tryz.underlying3 g1
  have g2 : DataW.trod enc Tryz.prog w 0 (fun _ => true) true m 3 (([c0, c1, c2].drop 2).take (Tryz.prog.cellsOf 3)) = some y2 := hf 2 _ rfl
  have k2 : Tryz.prog.cellsOf 3 = 1 := by kernel_rfl
  rw [k2] at g2
  obtain ⟨x2, r2⟩ : ∃ x, Rep.int.raw w [c2] x := bridge_int Tryz.underlying3 g2
  exact ⟨(x0, x1, x2), Rep.raw_pair (z := (x0, x1, x2)) r0 (Rep.raw_pair (z := (x1, x2)) r1 (r2))⟩
theorem bridge_MeasurementS {H : Type} {enc : TypeId × Value → H} {w : World} {fuel : Nat} {cs : List Value} {y : DataW H × List MemPlace} (h : DataW.trod enc Tryz.prog w 0 (fun _ => true) true fuel 29 cs = some y) : ∃ x, (Rep.slice 184 RMeasurement).raw w cs x :=
  bridge_slice Tryz.underlying29 (by kernel_rfl) (by decide) (fun h => bridge_Measurement h) h
set_option maxRecDepth 100000 in
theorem bridge_Route {H : Type} {enc : TypeId × Value → H} {w : World} {fuel : Nat} {cs : List Value} {y : DataW H × List MemPlace} (h : DataW.trod enc Tryz.prog w 0 (fun _ => true) true fuel 157 cs = some y) : ∃ x, RRoute.raw w cs x := by
  obtain ⟨xs, m, rfl, _, hl, hxl, hf⟩ := DataW.trod_struct Tryz.underlying157 h
  have hc : Tryz.prog.cellsOf 157 = 3 := by kernel_rfl
  rw [hc] at hl
  match xs, hxl with
  | [y0, y1, y2], _ =>
  match cs, hl with
  | [c0, c1, c2], _ =>
  have g0 : DataW.trod enc Tryz.prog w 0 (fun _ => true) true m 39 (([c0, c1, c2].drop 0).take (Tryz.prog.cellsOf 39)) = some y0 := hf 0 _ rfl
  have k0 : Tryz.prog.cellsOf 39 = 1 := by kernel_rfl
  rw [k0] at g0
  obtain ⟨x0, r0⟩ : ∃ x, RName.raw w [c0] x := bridge_Name g0
  have g1 : DataW.trod enc Tryz.prog w 0 (fun _ => true) true m 3 (([c0, c1, c2].drop 1).take (Tryz.prog.cellsOf 3)) = some y1 := hf 1 _ rfl
  have k1 : Tryz.prog.cellsOf 3 = 1 := by kernel_rfl
  rw [k1] at g1
  obtain ⟨x1, r1⟩ : ∃ x, Rep.int.raw w [c1] x := bridge_int Tryz.underlying3 g1
  have g2 : DataW.trod enc Tryz.prog w 0 (fun _ => true) true m 3 (([c0, c1, c2].drop 2).take (Tryz.prog.cellsOf 3)) = some y2 := hf 2 _ rfl
  have k2 : Tryz.prog.cellsOf 3 = 1 := by kernel_rfl
  rw [k2] at g2
  obtain ⟨x2, r2⟩ : ∃ x, Rep.int.raw w [c2] x := bridge_int Tryz.underlying3 g2
  exact ⟨(x0, x1, x2), Rep.raw_pair (z := (x0, x1, x2)) r0 (Rep.raw_pair (z := (x1, x2)) r1 (r2))⟩
theorem bridge_RouteS {H : Type} {enc : TypeId × Value → H} {w : World} {fuel : Nat} {cs : List Value} {y : DataW H × List MemPlace} (h : DataW.trod enc Tryz.prog w 0 (fun _ => true) true fuel 28 cs = some y) : ∃ x, (Rep.slice 181 RRoute).raw w cs x :=
  bridge_slice Tryz.underlying28 (by kernel_rfl) (by decide) (fun h => bridge_Route h) h
set_option maxRecDepth 100000 in
theorem bridge_Requester {H : Type} {enc : TypeId × Value → H} {w : World} {fuel : Nat} {cs : List Value} {y : DataW H × List MemPlace} (h : DataW.trod enc Tryz.prog w 0 (fun _ => true) true fuel 257 cs = some y) : ∃ x, RRequester.raw w cs x := by
  obtain ⟨xs, m, rfl, _, hl, hxl, hf⟩ := DataW.trod_struct Tryz.underlying257 h
  have hc : Tryz.prog.cellsOf 257 = 3 := by kernel_rfl
  rw [hc] at hl
  match xs, hxl with
  | [y0, y1, y2], _ =>
  match cs, hl with
  | [c0, c1, c2], _ =>
  have g0 : DataW.trod enc Tryz.prog w 0 (fun _ => true) true m 3 (([c0, c1, c2].drop 0).take (Tryz.prog.cellsOf 3)) = some y0 := hf 0 _ rfl
  have k0 : Tryz.prog.cellsOf 3 = 1 := by kernel_rfl
  rw [k0] at g0
  obtain ⟨x0, r0⟩ : ∃ x, Rep.int.raw w [c0] x := bridge_int Tryz.underlying3 g0
  have g1 : DataW.trod enc Tryz.prog w 0 (fun _ => true) true m 3 (([c0, c1, c2].drop 1).take (Tryz.prog.cellsOf 3)) = some y1 := hf 1 _ rfl
  have k1 : Tryz.prog.cellsOf 3 = 1 := by kernel_rfl
  rw [k1] at g1
  obtain ⟨x1, r1⟩ : ∃ x, Rep.int.raw w [c1] x := bridge_int Tryz.underlying3 g1
  have g2 : DataW.trod enc Tryz.prog w 0 (fun _ => true) true m 3 (([c0, c1, c2].drop 2).take (Tryz.prog.cellsOf 3)) = some y2 := hf 2 _ rfl
  have k2 : Tryz.prog.cellsOf 3 = 1 := by kernel_rfl
  rw [k2] at g2
  obtain ⟨x2, r2⟩ : ∃ x, Rep.int.raw w [c2] x := bridge_int Tryz.underlying3 g2
  exact ⟨(x0, x1, x2), Rep.raw_pair (z := (x0, x1, x2)) r0 (Rep.raw_pair (z := (x1, x2)) r1 (r2))⟩
theorem bridge_RequesterS {H : Type} {enc : TypeId × Value → H} {w : World} {fuel : Nat} {cs : List Value} {y : DataW H × List MemPlace} (h : DataW.trod enc Tryz.prog w 0 (fun _ => true) true fuel 149 cs = some y) : ∃ x, (Rep.slice 123 RRequester).raw w cs x :=
  bridge_slice Tryz.underlying149 (by kernel_rfl) (by decide) (fun h => bridge_Requester h) h
set_option maxRecDepth 100000 in
theorem bridge_PendingInterest {H : Type} {enc : TypeId × Value → H} {w : World} {fuel : Nat} {cs : List Value} {y : DataW H × List MemPlace} (h : DataW.trod enc Tryz.prog w 0 (fun _ => true) true fuel 151 cs = some y) : ∃ x, RPendingInterest.raw w cs x := by
  obtain ⟨xs, m, rfl, _, hl, hxl, hf⟩ := DataW.trod_struct Tryz.underlying151 h
  have hc : Tryz.prog.cellsOf 151 = 3 := by kernel_rfl
  rw [hc] at hl
  match xs, hxl with
  | [y0, y1, y2], _ =>
  match cs, hl with
  | [c0, c1, c2], _ =>
  have g0 : DataW.trod enc Tryz.prog w 0 (fun _ => true) true m 39 (([c0, c1, c2].drop 0).take (Tryz.prog.cellsOf 39)) = some y0 := hf 0 _ rfl
  have k0 : Tryz.prog.cellsOf 39 = 1 := by kernel_rfl
  rw [k0] at g0
  obtain ⟨x0, r0⟩ : ∃ x, RName.raw w [c0] x := bridge_Name g0
  have g1 : DataW.trod enc Tryz.prog w 0 (fun _ => true) true m 149 (([c0, c1, c2].drop 1).take (Tryz.prog.cellsOf 149)) = some y1 := hf 1 _ rfl
  have k1 : Tryz.prog.cellsOf 149 = 1 := by kernel_rfl
  rw [k1] at g1
  obtain ⟨x1, r1⟩ : ∃ x, (Rep.slice 123 RRequester).raw w [c1] x := bridge_RequesterS g1
  have g2 : DataW.trod enc Tryz.prog w 0 (fun _ => true) true m 3 (([c0, c1, c2].drop 2).take (Tryz.prog.cellsOf 3)) = some y2 := hf 2 _ rfl
  have k2 : Tryz.prog.cellsOf 3 = 1 := by kernel_rfl
  rw [k2] at g2
  obtain ⟨x2, r2⟩ : ∃ x, Rep.int.raw w [c2] x := bridge_int Tryz.underlying3 g2
  exact ⟨(x0, x1, x2), Rep.raw_pair (z := (x0, x1, x2)) r0 (Rep.raw_pair (z := (x1, x2)) r1 (r2))⟩
theorem bridge_PendingInterestS {H : Type} {enc : TypeId × Value → H} {w : World} {fuel : Nat} {cs : List Value} {y : DataW H × List MemPlace} (h : DataW.trod enc Tryz.prog w 0 (fun _ => true) true fuel 26 cs = some y) : ∃ x, (Rep.slice 175 RPendingInterest).raw w cs x :=
  bridge_slice Tryz.underlying26 (by kernel_rfl) (by decide) (fun h => bridge_PendingInterest h) h
set_option maxRecDepth 100000 in
theorem bridge_SeenNonce {H : Type} {enc : TypeId × Value → H} {w : World} {fuel : Nat} {cs : List Value} {y : DataW H × List MemPlace} (h : DataW.trod enc Tryz.prog w 0 (fun _ => true) true fuel 154 cs = some y) : ∃ x, RSeenNonce.raw w cs x := by
  obtain ⟨xs, m, rfl, _, hl, hxl, hf⟩ := DataW.trod_struct Tryz.underlying154 h
  have hc : Tryz.prog.cellsOf 154 = 2 := by kernel_rfl
  rw [hc] at hl
  match xs, hxl with
  | [y0, y1], _ =>
  match cs, hl with
  | [c0, c1], _ =>
  have g0 : DataW.trod enc Tryz.prog w 0 (fun _ => true) true m 39 (([c0, c1].drop 0).take (Tryz.prog.cellsOf 39)) = some y0 := hf 0 _ rfl
  have k0 : Tryz.prog.cellsOf 39 = 1 := by kernel_rfl
  rw [k0] at g0
  obtain ⟨x0, r0⟩ : ∃ x, RName.raw w [c0] x := bridge_Name g0
  have g1 : DataW.trod enc Tryz.prog w 0 (fun _ => true) true m 3 (([c0, c1].drop 1).take (Tryz.prog.cellsOf 3)) = some y1 := hf 1 _ rfl
  have k1 : Tryz.prog.cellsOf 3 = 1 := by kernel_rfl
  rw [k1] at g1
  obtain ⟨x1, r1⟩ : ∃ x, Rep.int.raw w [c1] x := bridge_int Tryz.underlying3 g1
  exact ⟨(x0, x1), Rep.raw_pair (z := (x0, x1)) r0 (r1)⟩
theorem bridge_SeenNonceS {H : Type} {enc : TypeId × Value → H} {w : World} {fuel : Nat} {cs : List Value} {y : DataW H × List MemPlace} (h : DataW.trod enc Tryz.prog w 0 (fun _ => true) true fuel 27 cs = some y) : ∃ x, (Rep.slice 178 RSeenNonce).raw w cs x :=
  bridge_slice Tryz.underlying27 (by kernel_rfl) (by decide) (fun h => bridge_SeenNonce h) h
set_option maxRecDepth 100000 in
theorem bridge_Data {H : Type} {enc : TypeId × Value → H} {w : World} {fuel : Nat} {cs : List Value} {y : DataW H × List MemPlace} (h : DataW.trod enc Tryz.prog w 0 (fun _ => true) true fuel 42 cs = some y) : ∃ x, RData.raw w cs x := by
  obtain ⟨xs, m, rfl, _, hl, hxl, hf⟩ := DataW.trod_struct Tryz.underlying42 h
  have hc : Tryz.prog.cellsOf 42 = 5 := by kernel_rfl
  rw [hc] at hl
  match xs, hxl with
  | [y0, y1, y2, y3, y4], _ =>
  match cs, hl with
  | [c0, c1, c2, c3, c4], _ =>
  have g0 : DataW.trod enc Tryz.prog w 0 (fun _ => true) true m 39 (([c0, c1, c2, c3, c4].drop 0).take (Tryz.prog.cellsOf 39)) = some y0 := hf 0 _ rfl
  have k0 : Tryz.prog.cellsOf 39 = 1 := by kernel_rfl
  rw [k0] at g0
  obtain ⟨x0, r0⟩ : ∃ x, RName.raw w [c0] x := bridge_Name g0
  have g1 : DataW.trod enc Tryz.prog w 0 (fun _ => true) true m 40 (([c0, c1, c2, c3, c4].drop 1).take (Tryz.prog.cellsOf 40)) = some y1 := hf 1 _ rfl
  have k1 : Tryz.prog.cellsOf 40 = 1 := by kernel_rfl
  rw [k1] at g1
  obtain ⟨x1, r1⟩ : ∃ x, (Rep.slice 5 Rep.byte).raw w [c1] x := bridge_ByteS g1
  have g2 : DataW.trod enc Tryz.prog w 0 (fun _ => true) true m 39 (([c0, c1, c2, c3, c4].drop 2).take (Tryz.prog.cellsOf 39)) = some y2 := hf 2 _ rfl
  have k2 : Tryz.prog.cellsOf 39 = 1 := by kernel_rfl
  rw [k2] at g2
  obtain ⟨x2, r2⟩ : ∃ x, RName.raw w [c2] x := bridge_Name g2
  have g3 : DataW.trod enc Tryz.prog w 0 (fun _ => true) true m 3 (([c0, c1, c2, c3, c4].drop 3).take (Tryz.prog.cellsOf 3)) = some y3 := hf 3 _ rfl
  have k3 : Tryz.prog.cellsOf 3 = 1 := by kernel_rfl
  rw [k3] at g3
  obtain ⟨x3, r3⟩ : ∃ x, Rep.int.raw w [c3] x := bridge_int Tryz.underlying3 g3
  have g4 : DataW.trod enc Tryz.prog w 0 (fun _ => true) true m 3 (([c0, c1, c2, c3, c4].drop 4).take (Tryz.prog.cellsOf 3)) = some y4 := hf 4 _ rfl
  have k4 : Tryz.prog.cellsOf 3 = 1 := by kernel_rfl
  rw [k4] at g4
  obtain ⟨x4, r4⟩ : ∃ x, Rep.int.raw w [c4] x := bridge_int Tryz.underlying3 g4
  exact ⟨(x0, x1, x2, x3, x4), Rep.raw_pair (z := (x0, x1, x2, x3, x4)) r0 (Rep.raw_pair (z := (x1, x2, x3, x4)) r1 (Rep.raw_pair (z := (x2, x3, x4)) r2 (Rep.raw_pair (z := (x3, x4)) r3 (r4))))⟩
theorem bridge_DataS {H : Type} {enc : TypeId × Value → H} {w : World} {fuel : Nat} {cs : List Value} {y : DataW H × List MemPlace} (h : DataW.trod enc Tryz.prog w 0 (fun _ => true) true fuel 22 cs = some y) : ∃ x, (Rep.slice 66 RData).raw w cs x :=
  bridge_slice Tryz.underlying22 (by kernel_rfl) (by decide) (fun h => bridge_Data h) h
set_option maxRecDepth 100000 in
theorem bridge_CacheEntry {H : Type} {enc : TypeId × Value → H} {w : World} {fuel : Nat} {cs : List Value} {y : DataW H × List MemPlace} (h : DataW.trod enc Tryz.prog w 0 (fun _ => true) true fuel 226 cs = some y) : ∃ x, RCacheEntry.raw w cs x := by
  obtain ⟨xs, m, rfl, _, hl, hxl, hf⟩ := DataW.trod_struct Tryz.underlying226 h
  have hc : Tryz.prog.cellsOf 226 = 6 := by kernel_rfl
  rw [hc] at hl
  match xs, hxl with
  | [y0, y1], _ =>
  match cs, hl with
  | [c0, c1, c2, c3, c4, c5], _ =>
  have g0 : DataW.trod enc Tryz.prog w 0 (fun _ => true) true m 42 (([c0, c1, c2, c3, c4, c5].drop 0).take (Tryz.prog.cellsOf 42)) = some y0 := hf 0 _ rfl
  have k0 : Tryz.prog.cellsOf 42 = 5 := by kernel_rfl
  rw [k0] at g0
  obtain ⟨x0, r0⟩ : ∃ x, RData.raw w [c0, c1, c2, c3, c4] x := bridge_Data g0
  have g1 : DataW.trod enc Tryz.prog w 0 (fun _ => true) true m 3 (([c0, c1, c2, c3, c4, c5].drop 5).take (Tryz.prog.cellsOf 3)) = some y1 := hf 1 _ rfl
  have k1 : Tryz.prog.cellsOf 3 = 1 := by kernel_rfl
  rw [k1] at g1
  obtain ⟨x1, r1⟩ : ∃ x, Rep.int.raw w [c5] x := bridge_int Tryz.underlying3 g1
  exact ⟨(x0, x1), Rep.raw_pair (z := (x0, x1)) r0 (r1)⟩
theorem bridge_CacheEntryS {H : Type} {enc : TypeId × Value → H} {w : World} {fuel : Nat} {cs : List Value} {y : DataW H × List MemPlace} (h : DataW.trod enc Tryz.prog w 0 (fun _ => true) true fuel 23 cs = some y) : ∃ x, (Rep.slice 212 RCacheEntry).raw w cs x :=
  bridge_slice Tryz.underlying23 (by kernel_rfl) (by decide) (fun h => bridge_CacheEntry h) h
set_option maxRecDepth 100000 in
theorem bridge_ContentStore {H : Type} {enc : TypeId × Value → H} {w : World} {fuel : Nat} {cs : List Value} {y : DataW H × List MemPlace} (h : DataW.trod enc Tryz.prog w 0 (fun _ => true) true fuel 25 cs = some y) : ∃ x, RContentStore.raw w cs x := by
  obtain ⟨xs, m, rfl, _, hl, hxl, hf⟩ := DataW.trod_struct Tryz.underlying25 h
  have hc : Tryz.prog.cellsOf 25 = 2 := by kernel_rfl
  rw [hc] at hl
  match xs, hxl with
  | [y0, y1], _ =>
  match cs, hl with
  | [c0, c1], _ =>
  have g0 : DataW.trod enc Tryz.prog w 0 (fun _ => true) true m 3 (([c0, c1].drop 0).take (Tryz.prog.cellsOf 3)) = some y0 := hf 0 _ rfl
  have k0 : Tryz.prog.cellsOf 3 = 1 := by kernel_rfl
  rw [k0] at g0
  obtain ⟨x0, r0⟩ : ∃ x, Rep.int.raw w [c0] x := bridge_int Tryz.underlying3 g0
  have g1 : DataW.trod enc Tryz.prog w 0 (fun _ => true) true m 23 (([c0, c1].drop 1).take (Tryz.prog.cellsOf 23)) = some y1 := hf 1 _ rfl
  have k1 : Tryz.prog.cellsOf 23 = 1 := by kernel_rfl
  rw [k1] at g1
  obtain ⟨x1, r1⟩ : ∃ x, (Rep.slice 212 RCacheEntry).raw w [c1] x := bridge_CacheEntryS g1
  exact ⟨(x0, x1), Rep.raw_pair (z := (x0, x1)) r0 (r1)⟩
set_option maxRecDepth 100000 in
theorem bridge_Node {H : Type} {enc : TypeId × Value → H} {w : World} {fuel : Nat} {cs : List Value} {y : DataW H × List MemPlace} (h : DataW.trod enc Tryz.prog w 0 (fun _ => true) true fuel 31 cs = some y) : ∃ x, RNode.raw w cs x := by
  obtain ⟨xs, m, rfl, _, hl, hxl, hf⟩ := DataW.trod_struct Tryz.underlying31 h
  have hc : Tryz.prog.cellsOf 31 = 8 := by kernel_rfl
  rw [hc] at hl
  match xs, hxl with
  | [y0, y1, y2, y3, y4, y5, y6], _ =>
  match cs, hl with
  | [c0, c1, c2, c3, c4, c5, c6, c7], _ =>
  have g0 : DataW.trod enc Tryz.prog w 0 (fun _ => true) true m 22 (([c0, c1, c2, c3, c4, c5, c6, c7].drop 0).take (Tryz.prog.cellsOf 22)) = some y0 := hf 0 _ rfl
  have k0 : Tryz.prog.cellsOf 22 = 1 := by kernel_rfl
  rw [k0] at g0
  obtain ⟨x0, r0⟩ : ∃ x, (Rep.slice 66 RData).raw w [c0] x := bridge_DataS g0
  have g1 : DataW.trod enc Tryz.prog w 0 (fun _ => true) true m 25 (([c0, c1, c2, c3, c4, c5, c6, c7].drop 1).take (Tryz.prog.cellsOf 25)) = some y1 := hf 1 _ rfl
  have k1 : Tryz.prog.cellsOf 25 = 2 := by kernel_rfl
  rw [k1] at g1
  obtain ⟨x1, r1⟩ : ∃ x, RContentStore.raw w [c1, c2] x := bridge_ContentStore g1
  have g2 : DataW.trod enc Tryz.prog w 0 (fun _ => true) true m 26 (([c0, c1, c2, c3, c4, c5, c6, c7].drop 3).take (Tryz.prog.cellsOf 26)) = some y2 := hf 2 _ rfl
  have k2 : Tryz.prog.cellsOf 26 = 1 := by kernel_rfl
  rw [k2] at g2
  obtain ⟨x2, r2⟩ : ∃ x, (Rep.slice 175 RPendingInterest).raw w [c3] x := bridge_PendingInterestS g2
  have g3 : DataW.trod enc Tryz.prog w 0 (fun _ => true) true m 27 (([c0, c1, c2, c3, c4, c5, c6, c7].drop 4).take (Tryz.prog.cellsOf 27)) = some y3 := hf 3 _ rfl
  have k3 : Tryz.prog.cellsOf 27 = 1 := by kernel_rfl
  rw [k3] at g3
  obtain ⟨x3, r3⟩ : ∃ x, (Rep.slice 178 RSeenNonce).raw w [c4] x := bridge_SeenNonceS g3
  have g4 : DataW.trod enc Tryz.prog w 0 (fun _ => true) true m 28 (([c0, c1, c2, c3, c4, c5, c6, c7].drop 5).take (Tryz.prog.cellsOf 28)) = some y4 := hf 4 _ rfl
  have k4 : Tryz.prog.cellsOf 28 = 1 := by kernel_rfl
  rw [k4] at g4
  obtain ⟨x4, r4⟩ : ∃ x, (Rep.slice 181 RRoute).raw w [c5] x := bridge_RouteS g4
  have g5 : DataW.trod enc Tryz.prog w 0 (fun _ => true) true m 29 (([c0, c1, c2, c3, c4, c5, c6, c7].drop 6).take (Tryz.prog.cellsOf 29)) = some y5 := hf 5 _ rfl
  have k5 : Tryz.prog.cellsOf 29 = 1 := by kernel_rfl
  rw [k5] at g5
  obtain ⟨x5, r5⟩ : ∃ x, (Rep.slice 184 RMeasurement).raw w [c6] x := bridge_MeasurementS g5
  have g6 : DataW.trod enc Tryz.prog w 0 (fun _ => true) true m 3 (([c0, c1, c2, c3, c4, c5, c6, c7].drop 7).take (Tryz.prog.cellsOf 3)) = some y6 := hf 6 _ rfl
  have k6 : Tryz.prog.cellsOf 3 = 1 := by kernel_rfl
  rw [k6] at g6
  obtain ⟨x6, r6⟩ : ∃ x, Rep.int.raw w [c7] x := bridge_int Tryz.underlying3 g6
  exact ⟨(x0, x1, x2, x3, x4, x5, x6), Rep.raw_pair (z := (x0, x1, x2, x3, x4, x5, x6)) r0 (Rep.raw_pair (z := (x1, x2, x3, x4, x5, x6)) r1 (Rep.raw_pair (z := (x2, x3, x4, x5, x6)) r2 (Rep.raw_pair (z := (x3, x4, x5, x6)) r3 (Rep.raw_pair (z := (x4, x5, x6)) r4 (Rep.raw_pair (z := (x5, x6)) r5 (r6))))))⟩
set_option maxRecDepth 100000 in
theorem bridge_Key {H : Type} {enc : TypeId × Value → H} {w : World} {fuel : Nat} {cs : List Value} {y : DataW H × List MemPlace} (h : DataW.trod enc Tryz.prog w 0 (fun _ => true) true fuel 163 cs = some y) : ∃ x, RKey.raw w cs x := by
  obtain ⟨xs, m, rfl, _, hl, hxl, hf⟩ := DataW.trod_struct Tryz.underlying163 h
  have hc : Tryz.prog.cellsOf 163 = 2 := by kernel_rfl
  rw [hc] at hl
  match xs, hxl with
  | [y0, y1], _ =>
  match cs, hl with
  | [c0, c1], _ =>
  have g0 : DataW.trod enc Tryz.prog w 0 (fun _ => true) true m 39 (([c0, c1].drop 0).take (Tryz.prog.cellsOf 39)) = some y0 := hf 0 _ rfl
  have k0 : Tryz.prog.cellsOf 39 = 1 := by kernel_rfl
  rw [k0] at g0
  obtain ⟨x0, r0⟩ : ∃ x, RName.raw w [c0] x := bridge_Name g0
  have g1 : DataW.trod enc Tryz.prog w 0 (fun _ => true) true m 3 (([c0, c1].drop 1).take (Tryz.prog.cellsOf 3)) = some y1 := hf 1 _ rfl
  have k1 : Tryz.prog.cellsOf 3 = 1 := by kernel_rfl
  rw [k1] at g1
  obtain ⟨x1, r1⟩ : ∃ x, Rep.int.raw w [c1] x := bridge_int Tryz.underlying3 g1
  exact ⟨(x0, x1), Rep.raw_pair (z := (x0, x1)) r0 (r1)⟩
theorem bridge_KeyS {H : Type} {enc : TypeId × Value → H} {w : World} {fuel : Nat} {cs : List Value} {y : DataW H × List MemPlace} (h : DataW.trod enc Tryz.prog w 0 (fun _ => true) true fuel 32 cs = some y) : ∃ x, (Rep.slice 187 RKey).raw w cs x :=
  bridge_slice Tryz.underlying32 (by kernel_rfl) (by decide) (fun h => bridge_Key h) h
set_option maxRecDepth 100000 in
theorem bridge_Pattern {H : Type} {enc : TypeId × Value → H} {w : World} {fuel : Nat} {cs : List Value} {y : DataW H × List MemPlace} (h : DataW.trod enc Tryz.prog w 0 (fun _ => true) true fuel 165 cs = some y) : ∃ x, RPattern.raw w cs x := by
  obtain ⟨xs, m, rfl, _, hl, hxl, hf⟩ := DataW.trod_struct Tryz.underlying165 h
  have hc : Tryz.prog.cellsOf 165 = 1 := by kernel_rfl
  rw [hc] at hl
  match xs, hxl with
  | [y0], _ =>
  match cs, hl with
  | [c0], _ =>
  have g0 : DataW.trod enc Tryz.prog w 0 (fun _ => true) true m 37 (([c0].drop 0).take (Tryz.prog.cellsOf 37)) = some y0 := hf 0 _ rfl
  have k0 : Tryz.prog.cellsOf 37 = 1 := by kernel_rfl
  rw [k0] at g0
  obtain ⟨x0, r0⟩ : ∃ x, (Rep.slice 9 Rep.str).raw w [c0] x := bridge_StringS g0
  exact ⟨x0, r0⟩
set_option maxRecDepth 100000 in
theorem bridge_Rule {H : Type} {enc : TypeId × Value → H} {w : World} {fuel : Nat} {cs : List Value} {y : DataW H × List MemPlace} (h : DataW.trod enc Tryz.prog w 0 (fun _ => true) true fuel 167 cs = some y) : ∃ x, RRule.raw w cs x := by
  obtain ⟨xs, m, rfl, _, hl, hxl, hf⟩ := DataW.trod_struct Tryz.underlying167 h
  have hc : Tryz.prog.cellsOf 167 = 2 := by kernel_rfl
  rw [hc] at hl
  match xs, hxl with
  | [y0, y1], _ =>
  match cs, hl with
  | [c0, c1], _ =>
  have g0 : DataW.trod enc Tryz.prog w 0 (fun _ => true) true m 165 (([c0, c1].drop 0).take (Tryz.prog.cellsOf 165)) = some y0 := hf 0 _ rfl
  have k0 : Tryz.prog.cellsOf 165 = 1 := by kernel_rfl
  rw [k0] at g0
  obtain ⟨x0, r0⟩ : ∃ x, RPattern.raw w [c0] x := bridge_Pattern g0
  have g1 : DataW.trod enc Tryz.prog w 0 (fun _ => true) true m 165 (([c0, c1].drop 1).take (Tryz.prog.cellsOf 165)) = some y1 := hf 1 _ rfl
  have k1 : Tryz.prog.cellsOf 165 = 1 := by kernel_rfl
  rw [k1] at g1
  obtain ⟨x1, r1⟩ : ∃ x, RPattern.raw w [c1] x := bridge_Pattern g1
  exact ⟨(x0, x1), Rep.raw_pair (z := (x0, x1)) r0 (r1)⟩
theorem bridge_RuleS {H : Type} {enc : TypeId × Value → H} {w : World} {fuel : Nat} {cs : List Value} {y : DataW H × List MemPlace} (h : DataW.trod enc Tryz.prog w 0 (fun _ => true) true fuel 33 cs = some y) : ∃ x, (Rep.slice 191 RRule).raw w cs x :=
  bridge_slice Tryz.underlying33 (by kernel_rfl) (by decide) (fun h => bridge_Rule h) h
set_option maxRecDepth 100000 in
theorem bridge_TrustPolicy {H : Type} {enc : TypeId × Value → H} {w : World} {fuel : Nat} {cs : List Value} {y : DataW H × List MemPlace} (h : DataW.trod enc Tryz.prog w 0 (fun _ => true) true fuel 36 cs = some y) : ∃ x, RTrustPolicy.raw w cs x := by
  obtain ⟨xs, m, rfl, _, hl, hxl, hf⟩ := DataW.trod_struct Tryz.underlying36 h
  have hc : Tryz.prog.cellsOf 36 = 4 := by kernel_rfl
  rw [hc] at hl
  match xs, hxl with
  | [y0, y1, y2, y3], _ =>
  match cs, hl with
  | [c0, c1, c2, c3], _ =>
  have g0 : DataW.trod enc Tryz.prog w 0 (fun _ => true) true m 32 (([c0, c1, c2, c3].drop 0).take (Tryz.prog.cellsOf 32)) = some y0 := hf 0 _ rfl
  have k0 : Tryz.prog.cellsOf 32 = 1 := by kernel_rfl
  rw [k0] at g0
  obtain ⟨x0, r0⟩ : ∃ x, (Rep.slice 187 RKey).raw w [c0] x := bridge_KeyS g0
  have g1 : DataW.trod enc Tryz.prog w 0 (fun _ => true) true m 33 (([c0, c1, c2, c3].drop 1).take (Tryz.prog.cellsOf 33)) = some y1 := hf 1 _ rfl
  have k1 : Tryz.prog.cellsOf 33 = 1 := by kernel_rfl
  rw [k1] at g1
  obtain ⟨x1, r1⟩ : ∃ x, (Rep.slice 191 RRule).raw w [c1] x := bridge_RuleS g1
  have g2 : DataW.trod enc Tryz.prog w 0 (fun _ => true) true m 34 (([c0, c1, c2, c3].drop 2).take (Tryz.prog.cellsOf 34)) = some y2 := hf 2 _ rfl
  have k2 : Tryz.prog.cellsOf 34 = 1 := by kernel_rfl
  rw [k2] at g2
  obtain ⟨x2, r2⟩ : ∃ x, (Rep.slice 64 RName).raw w [c2] x := bridge_NameS g2
  have g3 : DataW.trod enc Tryz.prog w 0 (fun _ => true) true m 22 (([c0, c1, c2, c3].drop 3).take (Tryz.prog.cellsOf 22)) = some y3 := hf 3 _ rfl
  have k3 : Tryz.prog.cellsOf 22 = 1 := by kernel_rfl
  rw [k3] at g3
  obtain ⟨x3, r3⟩ : ∃ x, (Rep.slice 66 RData).raw w [c3] x := bridge_DataS g3
  exact ⟨(x0, x1, x2, x3), Rep.raw_pair (z := (x0, x1, x2, x3)) r0 (Rep.raw_pair (z := (x1, x2, x3)) r1 (Rep.raw_pair (z := (x2, x3)) r2 (r3)))⟩
end Go.Proofs.YtlfblpgkegeaeaaGreat

/-
  From the reading of an argument to its representation; from a contract of a law to its statement. Printed by genbridge.py.
-/
import Derived.Test.YtpgnbablhdknnaaDoorRows
import Derived.Test.YtpgnbablhdknnaaDoorTypes
import Derived.ProofKit
import Derived.OpenShut
import Derived.Deep.Slices
namespace Go.Proofs.YtpgnbablhdknnaaDoor
open Go.ChangeShapes Go.WideShapes Go.ChangeAt Go.RowKit Go.Deep
set_option linter.unusedVariables false

section
variable {H : Type} {enc : TypeId × Value → H} {P : Program} {w : World}

theorem bridge_int {T : TypeId} (hT : P.underlying T = some (.int .i64)) {fuel : Nat} {cs : List Value} {y : DataW H × List MemPlace} (h : DataW.trod enc P w 0 (fun _ => true) true fuel T cs = some y) : ∃ x, Rep.int.raw w cs x := by
  obtain ⟨n, rfl, _, hw⟩ := DataW.trod_int hT h
  exact ⟨n, rfl, by simpa [Lit.wf, IntKind.min, IntKind.max, IntKind.signed, IntKind.bits] using hw⟩
theorem bridge_byte {T : TypeId} (hT : P.underlying T = some (.int .u8)) {fuel : Nat} {cs : List Value} {y : DataW H × List MemPlace} (h : DataW.trod enc P w 0 (fun _ => true) true fuel T cs = some y) : ∃ x, Rep.byte.raw w cs x := by
  obtain ⟨n, rfl, _, hw⟩ := DataW.trod_int hT h
  have hn : 0 ≤ n ∧ n ≤ 255 := by simpa [Lit.wf, IntKind.min, IntKind.max, IntKind.signed, IntKind.bits] using hw
  refine ⟨UInt8.ofNat n.toNat, ?_⟩
  show _ = _
  have : (UInt8.ofNat n.toNat).toNat = n.toNat := by rw [UInt8.toNat_ofNat']; omega
  rw [this, Int.toNat_of_nonneg hn.1]
theorem bridge_bool {T : TypeId} (hT : P.underlying T = some .bool) {fuel : Nat} {cs : List Value} {y : DataW H × List MemPlace} (h : DataW.trod enc P w 0 (fun _ => true) true fuel T cs = some y) : ∃ x, Rep.bool.raw w cs x := by
  obtain ⟨b, rfl, _⟩ := DataW.trod_bool hT h
  exact ⟨b, rfl⟩
theorem bridge_string {T : TypeId} (hT : P.underlying T = some .string) {fuel : Nat} {cs : List Value} {y : DataW H × List MemPlace} (h : DataW.trod enc P w 0 (fun _ => true) true fuel T cs = some y) : ∃ x, Rep.str.raw w cs x := by
  obtain ⟨s, rfl, _, hs⟩ := DataW.trod_string hT h
  exact ⟨s, rfl, hs⟩

theorem bridge_slice {α : Type} {r : Rep α} {e T E : TypeId} (hT : P.underlying T = some (.slice E)) (hn : P.cellsOf E = r.n) (hpos : 0 < r.n)
    (ih : ∀ {fuel : Nat} {cs : List Value} {y : DataW H × List MemPlace}, DataW.trod enc P w 0 (fun _ => true) true fuel E cs = some y → ∃ x, r.raw w cs x)
    {fuel : Nat} {cs : List Value} {y : DataW H × List MemPlace} (h : DataW.trod enc P w 0 (fun _ => true) true fuel T cs = some y) : ∃ xs, (Rep.slice e r).raw w cs xs := by
  rcases open_slice hT h with ⟨rfl, _⟩ | ⟨a, len, cap, m, n, D, Pl, rfl, _, hl, hm, hmm, _, hx⟩
  · exact ⟨[], none, 0, 0, rfl, rfl, Nat.le_refl _, Nat.zero_le _, .inl ⟨rfl, by simp⟩⟩
  · simp only [if_true] at hmm
    subst hmm
    rw [hn] at hx
    rcases Nat.eq_zero_or_pos len with rfl | hlen
    · exact ⟨[], some a, 0, m, rfl, rfl, hl, hm, .inl ⟨rfl, by simp⟩⟩
    · have hcell : ∀ i, i < m → ∀ j, j < r.n → ∃ v, w.cell? ((a.add (i * r.n)).add j) = some v := by
        intro i hi j hj
        obtain ⟨cs', h1, h2⟩ := hx i hi
        obtain ⟨_, hl', hc⟩ := World.cells?_some h1
        rw [hc j hj, List.getElem?_eq_getElem (by omega)]
        exact ⟨_, rfl⟩
      obtain ⟨v0, hv0⟩ := hcell 0 (by omega) 0 hpos
      have ha0 : (a.add (0 * r.n)).add 0 = a := by simp [Addr.add]
      rw [ha0] at hv0
      have hblk : ∃ cur e' fr, w.heap[a.block]? = some (.cells cur e' fr) ∧ a.spot = none := by
        unfold World.cell? at hv0
        split at hv0
        · rename_i c e' fr hb
          refine ⟨c, e', fr, hb, ?_⟩
          cases hs : a.spot with
          | none => rfl
          | some s => simp [hs] at hv0
        · cases hv0
      obtain ⟨cur, e', fr, hb, hs⟩ := hblk
      obtain ⟨b, off, spot⟩ := a
      simp only at hs hb
      subst hs
      have hadd : ∀ i j, (((⟨b, off, none⟩ : Addr).add (i * r.n)).add j) = ⟨b, off + i * r.n + j, none⟩ := by
        intro i j
        unfold Addr.add
        split <;> split <;> simp_all
      have hcur : ∀ i, i < m → ∀ j, j < r.n → ∃ v, cur[off + i * r.n + j]? = some v := by
        intro i hi j hj
        obtain ⟨v, hv⟩ := hcell i hi j hj
        rw [hadd, cell_of_row w b _ cur e' fr hb] at hv
        exact ⟨v, hv⟩
      have hsize : off + m * r.n ≤ cur.size := by
        obtain ⟨v, hv⟩ := hcur (m - 1) (by omega) (r.n - 1) (by omega)
        have := (Array.getElem?_eq_some_iff.1 hv).1
        have e1 : m * r.n = (m - 1) * r.n + r.n := by
          conv => lhs; rw [show m = (m - 1) + 1 by omega]
          rw [Nat.add_mul, Nat.one_mul]
        omega
      have hcut : ∀ i, i < m → ∃ x, r.raw w ((cur.toList.drop (off + i * r.n)).take r.n) x := by
        intro i hi
        obtain ⟨cs', h1, h2⟩ := hx i hi
        obtain ⟨_, hl', hc⟩ := World.cells?_some h1
        have : cs' = (cur.toList.drop (off + i * r.n)).take r.n := by
          apply List.ext_getElem?
          intro j
          by_cases hj : j < r.n
          · rw [← hc j hj, hadd, cell_of_row w b _ cur e' fr hb]
            simp [hj, List.getElem?_drop]
          · rw [List.getElem?_eq_none (by omega), List.getElem?_eq_none (by simp; omega)]
        rw [← this]
        exact ih h2
      have hrow : ∀ k, k ≤ len → ∃ xs : List α, xs.length = k ∧ Rep.row r false w ((cur.toList.drop off).take (k * r.n)) xs (fun _ => True) := by
        intro k
        induction k with
        | zero => intro _; exact ⟨[], rfl, by simp [Rep.row]⟩
        | succ k ihk =>
          intro hk
          obtain ⟨xs, hxl, hr⟩ := ihk (by omega)
          obtain ⟨x, hxr⟩ := hcut k (by omega)
          refine ⟨xs ++ [x], by simp [hxl], ?_⟩
          have : (cur.toList.drop off).take ((k + 1) * r.n) = (cur.toList.drop off).take (k * r.n) ++ (cur.toList.drop (off + k * r.n)).take r.n := by
            rw [Nat.add_mul, Nat.one_mul, List.take_add, List.drop_drop]
          rw [this]
          exact Rep.row_append hr (Rep.row_single hxr) (fun _ h => h) (fun _ h => h) (by simp)
      obtain ⟨xs, hxl, hr⟩ := hrow len (Nat.le_refl _)
      refine ⟨xs, some ⟨b, off, none⟩, len, m, rfl, hxl.symm, hl, hm, .inr ⟨b, off, rfl, cur, e', fr, cur.toList.take off, _, (cur.toList.drop off).drop (len * r.n), hb, ?_, ?_, hsize, by simp, trivial, Rep.row_wide hr (fun _ _ => ⟨trivial, by simp⟩)⟩⟩
      · rw [List.take_append_drop, List.take_append_drop]
      · simp; omega

/-- The arguments read behind the call as they did. -/
theorem trodAll_below (hl : laidOutB P = true) {W W' : World} (hb : Below W.heap.size W W') : ∀ {ts : List TypeId} {vs : List Value} {ds : List (DataW H)} {ps : List MemPlace}, (∀ t ∈ ts, P.readableRec t = true ∧ t < P.types.size) →
    DataW.TrodAll enc P W 0 (fun _ => true) true ts vs ds ps → (∀ x ∈ ps, x.block < W.heap.size) → DataW.TrodAll enc P W' 0 (fun b => decide (b < W.heap.size)) true ts vs ds ps
  | [], [], [], ps, _, h, _ => h
  | t :: ts, v :: vs, d :: ds, ps, ht, ⟨p, q, h1, h2, h3⟩, hlt => by
    subst h3
    exact ⟨p, q, Below.trod hl (ht t (by simp)).1 (ht t (by simp)).2 h1 hb (fun x hx => hlt x (by simp [hx])), trodAll_below hl hb (fun u hu => ht u (by simp [hu])) h2 (fun x hx => hlt x (by simp [hx])), rfl⟩
end

theorem law_own : ownKnob Tryd.prog.godebug = none := by kernel_rfl
theorem law_laidOut : laidOutB Tryd.prog = true := by kernel_rfl

/-- What a law's contract says. -/
def LawPost (w : World) (e : Ending) (w' : World) : Prop := e = .returned (.bool true) ∧ Below w.heap.size w w'

theorem law_post {H : Type} {enc : TypeId × Value → H} {fn : Func} {s : ChangeSpec} {W W' : World} {args : Array Value} {ds gs : List (DataW H)} {before : List MemPlace} {tb : TypeId}
    (hW : DataW.Whole enc Tryd.prog fn.params.toList s.vars false W args.toList ds gs before) (hvars : s.vars = []) (hres : fn.resultTypes = #[tb]) (htb : Tryd.prog.underlying tb = some .bool)
    (hsp : (s.fn H (ds ++ gs)).results = [.lit (.bool true)] ∧ (s.fn H (ds ++ gs)).args = ds ∧ (s.fn H (ds ++ gs)).vars = [])
    (hts : ∀ t ∈ fn.params.toList, Tryd.prog.readableRec t = true ∧ t < Tryd.prog.types.size) (hb : Below W.heap.size W W') :
    s.post enc Tryd.prog fn false true false false W args (.bool true) W' := by
  have hlt : ∀ p ∈ before, p.block < W.heap.size := fun p hp => by simpa using hW.lt p hp
  have hW' := hW
  obtain ⟨p, q, hA, hV, rfl, _, _⟩ := hW
  rw [hvars] at hV
  have hgq : gs = [] ∧ q = [] := by
    cases gs with
    | nil => exact ⟨rfl, hV⟩
    | cons g gs => exact hV.elim
  obtain ⟨rfl, rfl⟩ := hgq
  refine ⟨ds, [], _, [], p, [], hW', ?_, ?_, ?_, hb.frame _, fun h => by cases h⟩
  · rw [hsp.1, hres]
    exact trodAll_cons_mk (shut_bool htb true) trodAll_mk0
  · rw [hsp.2.1]
    exact trodAll_below law_laidOut hb hts hA (fun x hx => hlt x (by simp [hx]))
  · rw [hsp.2.2, hvars]
    rfl

theorem bridge_IntS {H : Type} {enc : TypeId × Value → H} {w : World} {fuel : Nat} {cs : List Value} {y : DataW H × List MemPlace} (h : DataW.trod enc Tryd.prog w 0 (fun _ => true) true fuel 32 cs = some y) : ∃ x, (Rep.slice 3 Rep.int).raw w cs x :=
  bridge_slice Tryd.underlying32 (by kernel_rfl) (by decide) (fun h => bridge_int Tryd.underlying3 h) h
theorem bridge_ByteS {H : Type} {enc : TypeId × Value → H} {w : World} {fuel : Nat} {cs : List Value} {y : DataW H × List MemPlace} (h : DataW.trod enc Tryd.prog w 0 (fun _ => true) true fuel 22 cs = some y) : ∃ x, (Rep.slice 5 Rep.byte).raw w cs x :=
  bridge_slice Tryd.underlying22 (by kernel_rfl) (by decide) (fun h => bridge_byte Tryd.underlying5 h) h
end Go.Proofs.YtpgnbablhdknnaaDoor
